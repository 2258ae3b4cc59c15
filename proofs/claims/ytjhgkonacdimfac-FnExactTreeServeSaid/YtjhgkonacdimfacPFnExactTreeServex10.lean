-- by a program of this session's, over the kit's words
import Derived.Test.YtjhgkonacdimfacPZFnExactTreeServe
import Derived.Test.YtjhgkonacdimfacPFnExactTreeServex0
namespace Go.Proofs.Ytjhgkonacdimfac.PFnExactTreeServe
open Go.RowKit Go.Proofs.YtjhgkonacdimfacW.PrintWords Go.Proofs.YtjhgkonacdimfacW.PrintLast Go.Proofs.YtjhgkonacdimfacW.PrintMore Go.Proofs.YtjhgkonacdimfacV Go.Proofs.Ytjhgkonacdimfac.ZFnExactTreeServe
open Go.Value renaming int → I, slice → Y
open Go.IntKind renaming i64 → L
open Aside0 renaming mk → D
open Option renaming bind_eq_some_iff → bs_
attribute [local go_sem] qam_ qak_ qaw_ qav_ qae_ qad_ qal_ qaj_
set_option linter.unusedVariables false
set_option linter.unusedSimpArgs false
set_option maxHeartbeats 8000000
set_option maxRecDepth 100000
def laws_toVec.f (a b c:Int):Option (Int×Int×Int):=some (a,b,c)
theorem laws_toVec.calls (i j k l m n:Int) (w:World) (h:laws_toVec.f i j k=some (l,m,n)) :
  Calls Try.prog 7 #[.agg #[I L i,I L j,I L k]] w fun e w'=>e=.returned (.agg #[I L l,I L m,I L n])∧Below w.heap.size w w':=by
 have hu23:=Try.underlying23
 have hu31:=Try.underlying31
 have HB:=D (Below.refl w.heap.size w)
 have H:(some (i,j,k))=some (l,m,n):=h
 clear h
 simp only [Option.some.injEq,Prod.mk.injEq] at H
 obtain ⟨rfl,rfl,rfl⟩:=H
 go_enter Try.func7,Try.ntmps7
 go_wp2_with (first|((with_reducible refine qh_ (N:=1) rfl ?_);refine bx_ (N:=1) (cs:=#[I L i,I L j,I L k]) (t:=23) ?_;intro d hg x hbox hb;have n_:=an_ (qd_ (pB_ HB.out) hb)<|an_ (hbox)<|an_ (bg_ hg (pB_ HB.out):w.heap.size≤d)<|D (bg_ hg (pB_ HB.out):w.heap.size≤d);clear HB;obtain ⟨HB,a,y,z⟩:=n_;clear hb hbox hg)|((with_reducible refine qh_ (N:=2) rfl ?_);refine bx_ (N:=2) (cs:=#[I L 0,I L 0,I L 0]) (t:=31) ?_;intro b hg A hbox hb;have n_:=an_ (qa_ (pk_ a.out) hb)<|an_ (qd_ (pB_ HB.out) hb)<|an_ (hbox)<|an_ (bg_ hg (pB_ HB.out):w.heap.size≤b)<|an_ (bg_ hg (pB_ HB.out):w.heap.size≤b)<|an_ (nl_ hg (pk_ a.out):d≠b)<|D (by rw [hg];exact Nat.ne_of_gt (qt_ (pk_ a.out)):b≠d);clear a HB;obtain ⟨a,HB,c,B,E,o,p⟩:=n_;clear hb hbox hg)|((with_reducible refine qh_ (N:=3) rfl ?_);refine bx_ (N:=3) (cs:=#[I L 0,I L 0,I L 0]) (t:=31) ?_;intro g hg G hbox hb;have n_:=an_ (qa_ (pk_ a.out) hb)<|an_ (qa_ (pk_ c.out) hb)<|an_ (qd_ (pB_ HB.out) hb)<|an_ (hbox)<|an_ (bg_ hg (pB_ HB.out):w.heap.size≤g)<|an_ (bg_ hg (pB_ HB.out):w.heap.size≤g)<|an_ (nl_ hg (pk_ a.out):d≠g)<|an_ (ng_ hg (pk_ a.out):g≠d)<|an_ (nl_ hg (pk_ c.out):b≠g)<|D (by rw [hg];exact Nat.ne_of_gt (qt_ (pk_ c.out)):g≠b);clear a c HB;obtain ⟨a,c,HB,q,J,K,r,s,u,v⟩:=n_;clear hb hbox hg;(try have:=o.out);(try have:=p.out);(try have:=r.out);(try have:=s.out);obtain ⟨M,O,P,T,U,W⟩:=q0_ a.out;(try have:=v.out);(try have:=u.out);obtain ⟨X,Z,aa,ab,ac,ad⟩:=q0_ q.out;obtain ⟨ae,af,ag,ah,ai,aj⟩:=q0_ c.out))
 refine bodyPost_ret (results_cell_row rfl _ _ b 31 #[I L i,I L j,I L k] (0,0) _ rfl (by exact pP_ c.out) Try.underlying31 rfl (by kernel_rfl)) rfl ?_
 exact ⟨er_,pB_ HB.out⟩
def laws_toKid.f (b c:Int) (d:Bool) (e g h:Int):Option (Int×Int×Bool×Int×Int×Int):=(laws_toVec.f e g h).bind fun a=>(some (b,c,d,a.1,a.2.1,a.2.2))
theorem laws_toKid.calls (d i:Int) (j:Bool) (k l m r s:Int) (u:Bool) (v x y:Int) (w:World) (h:laws_toKid.f d i j k l m=some (r,s,u,v,x,y)) :
  Calls Try.prog 69 #[.agg #[I L d,I L i,.bool j,I L k,I L l,I L m]] w fun e w'=>e=.returned (.agg #[I L r,I L s,.bool u,I L v,I L x,I L y])∧Below w.heap.size w w':=by
 have hu100:=Try.underlying100
 have hu75:=Try.underlying75
 have hu23:=Try.underlying23
 have hu31:=Try.underlying31
 have HB:=D (Below.refl w.heap.size w)
 have H:((laws_toVec.f k l m).bind fun z=>(some (d,i,j,z.1,z.2.1,z.2.2)))=some (r,s,u,v,x,y):=h
 clear h
 obtain ⟨⟨A,B,E⟩,G,H⟩:=bs_.mp H
 (try dsimp only at H)
 have J:=D G
 clear G
 simp only [Option.some.injEq,Prod.mk.injEq] at H
 obtain ⟨rfl,rfl,rfl,rfl,rfl,rfl⟩:=H
 go_enter Try.func69,Try.ntmps69
 go_wp2_with (first|((with_reducible refine qh_ (N:=1) rfl ?_);refine bx_ (N:=1) (cs:=#[I L d,I L i,.bool j,I L k,I L l,I L m]) (t:=100) ?_;intro n hg W hbox hb;have n_:=an_ (qd_ (pB_ HB.out) hb)<|an_ (hbox)<|an_ (bg_ hg (pB_ HB.out):w.heap.size≤n)<|D (bg_ hg (pB_ HB.out):w.heap.size≤n);clear HB;obtain ⟨HB,a,X,Z⟩:=n_;clear hb hbox hg)|((with_reducible refine qh_ (N:=2) rfl ?_);refine bx_ (N:=2) (cs:=#[I L 0,I L 0,.bool false,I L 0,I L 0,I L 0]) (t:=75) ?_;intro c hg w4 hbox hb;have n_:=an_ (qa_ (pk_ a.out) hb)<|an_ (qd_ (pB_ HB.out) hb)<|an_ (hbox)<|an_ (bg_ hg (pB_ HB.out):w.heap.size≤c)<|an_ (bg_ hg (pB_ HB.out):w.heap.size≤c)<|an_ (nl_ hg (pk_ a.out):n≠c)<|D (by rw [hg];exact Nat.ne_of_gt (qt_ (pk_ a.out)):c≠n);clear a HB;obtain ⟨a,HB,b,ab,ac,K,M⟩:=n_;clear hb hbox hg)|((with_reducible refine qh_ (N:=3) rfl ?_);refine bx_ (N:=3) (cs:=#[I L 0,I L 0,.bool false,I L 0,I L 0,I L 0]) (t:=75) ?_;intro p hg w5 hbox hb;have n_:=an_ (qa_ (pk_ a.out) hb)<|an_ (qa_ (pk_ b.out) hb)<|an_ (qd_ (pB_ HB.out) hb)<|an_ (hbox)<|an_ (bg_ hg (pB_ HB.out):w.heap.size≤p)<|an_ (bg_ hg (pB_ HB.out):w.heap.size≤p)<|an_ (nl_ hg (pk_ a.out):n≠p)<|an_ (ng_ hg (pk_ a.out):p≠n)<|an_ (nl_ hg (pk_ b.out):c≠p)<|D (by rw [hg];exact Nat.ne_of_gt (qt_ (pk_ b.out)):p≠c);clear a b HB;obtain ⟨a,b,HB,q,ae,af,O,P,T,U⟩:=n_;clear hb hbox hg;(try have:=K.out);(try have:=M.out);(try have:=O.out);(try have:=P.out);obtain ⟨ag,ah,ai,aj,ak,al,am,an,ao,ap,aq,ar⟩:=qm_ a.out;(try have:=U.out);(try have:=T.out);obtain ⟨au,av,aw,ax,ay,az,aA,aB,aC,aD,aE,aF⟩:=qm_ q.out)|((with_reducible refine qe_ (f:=7) rfl ?_);refine qp_ (some 15) rfl rfl Try.func7 (by kernel_rfl) rfl #[.agg #[I L k,I L l,I L m]] rfl Z24 ?_;(with_reducible refine (laws_toVec.calls k l m A B E _ J.out).mono ?_);rintro e aG ⟨rfl,hb⟩;refine ⟨_,rfl,?_⟩;have n_:=an_ (qa_ (g:=n) (o:=.cells #[I L d,I L i,.bool j,I L k,I L l,I L m] 100 (0,0)) (by exact pP_ a.out) hb)<|an_ (qa_ (g:=c) (o:=.cells #[I L 0,I L 0,.bool false,I L 0,I L 0,I L 0] 75 (0,0)) (by exact pP_ b.out) hb)<|an_ (qa_ (g:=p) (o:=.cells #[I L d,I L i,.bool j,I L 0,I L 0,I L 0] 75 (0,0)) (by exact pP_ q.out) hb)<|D (qd_ (pB_ HB.out) hb);clear a b q HB;obtain ⟨a,b,q,HB⟩:=n_;(try clear hb);obtain ⟨aH,aI,aJ,aK,aL,aM,aN,aO,aP,aQ,aR,aS⟩:=qm_ q.out;obtain ⟨aT,aU,aV,aW,aX,aY,aZ,a0,a1,a2,a3,a4⟩:=qm_ b.out))
 refine bodyPost_ret (results_cell_row rfl _ _ c 75 #[I L d,I L i,.bool j,I L A,I L B,I L E] (0,0) _ rfl (by exact pP_ b.out) Try.underlying75 rfl (by kernel_rfl)) rfl ?_
 exact ⟨er_,pB_ HB.out⟩
def laws_toKidS.l0:Nat→List (S100)→List (S75)→Int→Option ((List (S75)))
 | 0,_,_,_=>none
 | k+1,b,d,a=>if a < (b.length:Int) then (if 0≤a then ((laws_toKid.f ((qan_ b a).f0) ((qan_ b a).f1) ((qan_ b a).f2) ((qan_ b a).f3.f0) ((qan_ b a).f3.f1) ((qan_ b a).f3.f2)).bind fun c=>(if a < (d.length:Int) then (laws_toKidS.l0 k b (d.set (a:Int).toNat (⟨c.1,c.2.1,c.2.2.1,(⟨c.2.2.2.1,c.2.2.2.2.1,c.2.2.2.2.2⟩:S31)⟩:S75)) (wrap64 (a+1))) else (none))) else (none)) else (some d)
def laws_toKidS.f (k:Nat) (l0:List (S100)):Option ((List (S75))):=if 0≤(l0.length:Int) then (if ((l0.length:Int):Int).toNat≤5864062014805 then (laws_toKidS.l0 k l0 (List.replicate ((l0.length:Int):Int).toNat z75) 0) else (none)) else (none)
theorem laws_toKidS.calls (k:Nat) (O:Option Addr) (P:Nat) (l0:List (S100)) (r:List (S75)) (w:World) (T:Kd.C k100 w O l0.length l0) (U:l0.length≤P) (h:laws_toKidS.f k l0=some r) :
  Calls Try.prog 47 #[Y O l0.length P] w fun e w'=>∃ W:Value,e=.returned (W)∧Kd.R k75 75 w' w.heap.size (fun _=>True) W r∧Below w.heap.size w w':=by
 have hu100:=Try.underlying100
 have hu75:=Try.underlying75
 have ap:=D T
 have aQ:=D U
 clear T U
 have HB:=D (Below.refl w.heap.size w)
 have H:(if 0≤(l0.length:Int) then (if ((l0.length:Int):Int).toNat≤5864062014805 then (laws_toKidS.l0 k l0 (List.replicate ((l0.length:Int):Int).toNat z75) 0) else (none)) else (none))=some r:=h
 clear h
 by_cases c2:0≤(l0.length:Int)
 ·rw [if_pos c2] at H
  have aq:=eq_true c2;have ar:decide (0≤(l0.length:Int))=true:=decide_eq_true c2;clear c2
  by_cases c3:((l0.length:Int):Int).toNat≤5864062014805
  ·rw [if_pos c3] at H
   have au:=eq_true c3;have av:decide (((l0.length:Int):Int).toNat≤5864062014805)=true:=decide_eq_true c3;clear c3;obtain ⟨X,y⟩:∃ y_:List (S75),y_=(List.replicate ((l0.length:Int):Int).toNat z75):=⟨_,rfl⟩
   replace H:(laws_toKidS.l0 k l0 X 0)=some r:=by first|(rw [y];with_reducible exact H)|(have H2_:=(Option.bind_some _ _).symm.trans H;rw [y];with_reducible exact H2_)|(have H2_:=(Option.bind_some _ _).symm.trans H;with_reducible exact H2_)|with_reducible exact H|(rw [y];exact H)|exact H
   have Z:=D y;clear y;have H':=D H;clear H;go_enter Try.func47,Try.ntmps47
   go_wp2_with (first|((with_reducible refine qh_ (N:=7) rfl ?_);refine Kd.R_make k75 _ 75 rfl (N:=7) rfl 32 _ _ rfl (l0.length:Int) rfl rfl Try.underlying32 (.agg #[(I L 0),(I L 0),(.bool false),(I L 0),(I L 0),(I L 0)]) 48 info75 rfl (by decide) (by omega) z75 (ok:=fun _=>True) (okp:=fun _=>True) (qbh_ _ _ _ z75 ) (fun _ hk=>hk) trivial (od_ Z91) (Nat.le_trans (Nat.mul_le_mul_right _ (od_ Z91:(l0.length:Int).toNat≤5864062014805)) (by omega)) (Below.refl _ _) (Nat.le_refl _) ?_;intro aw w4 z hb hg_ hnew_;clear hg_ hnew_;(first|rw [← Z.out] at z|(simp only [Int.reduceToNat] at z;rw [← Z.out] at z));have n_:=an_ (Kd.R_lower z (qk_ (pB_ HB.out)))<|D (qd_ (pB_ HB.out) hb);clear HB;obtain ⟨ax,HB⟩:=n_;clear hb z))
   go_loopg [4] k (fun kq v4 w'=>∃ (b:List (S75)) (a:Int),v4=I L a∧Aside0 (laws_toKidS.l0 kq l0 b a=some r)∧Aside0 (kq≤k)∧Aside0 (Kd.R k75 75 w' w.heap.size (fun _=>True) aw b)∧Aside0 (Below w.heap.size w w'))
   case atStart=>exact ⟨(X),(0),Z92,H',⟨Nat.le_refl _⟩,⟨pR_ ax.out⟩,⟨pB_ HB.out⟩⟩
   case round =>
    clear H'
    (try clear c2);(try clear aq);(try clear ar);(try clear p2);(try clear c3);(try clear au);(try clear av);(try clear c4)
    obtain ⟨b,a,rfl,HA,aa,HO_3,HB⟩:=hrel
    cases gk with
    | zero=>exact absurd HA.out (by simp [laws_toKidS.l0])
    | succ k1 =>
     have H:=HA.out;clear HA;simp only [laws_toKidS.l0] at H
     by_cases c6:a < (l0.length:Int)
     ·rw [if_pos c6] at H
      have az:decide (a < (l0.length:Int))=true:=decide_eq_true c6;clear c6
      by_cases c7:0≤a
      ·rw [if_pos c7] at H
       have aT:decide (0≤a)=true:=decide_eq_true c7;clear c7;obtain ⟨⟨m,n,o,q,s,u⟩,ac,H⟩:=bs_.mp H;(try dsimp only at H);have A8:=D ac;clear ac
       by_cases c9:a < (b.length:Int)
       ·rw [if_pos c9] at H
        have aU:decide (a < (b.length:Int))=true:=decide_eq_true c9;clear c9;obtain ⟨B,A⟩:∃ y_:List (S75),y_=(b.set (a:Int).toNat (⟨m,n,o,(⟨q,s,u⟩:S31)⟩:S75)):=⟨_,rfl⟩
        replace H:(laws_toKidS.l0 k1 l0 B (wrap64 (a+1)))=some r:=by first|(rw [A];with_reducible exact H)|(have H2_:=(Option.bind_some _ _).symm.trans H;rw [A];with_reducible exact H2_)|(have H2_:=(Option.bind_some _ _).symm.trans H;with_reducible exact H2_)|with_reducible exact H|(rw [A];exact H)|exact H
        have aB:=D A;clear A;have H':=D H;clear H;have E:0≤(a:Int):=od_ Z91;have G:a < (l0.length:Int):=od_ Z91;obtain ⟨aV,aC,ad,ae,af,ag,ah,ai⟩:=at_T100 ap.out a E G;cases aC;replace ad:=rc_ HB.out ad;replace ae:=rc_ HB.out ae;replace af:=rc_ HB.out af;replace ag:=rc_ HB.out ag;replace ah:=rc_ HB.out ah;replace ai:=rc_ HB.out ai;replace E:=eq_true E;replace G:=eq_true G
        go_wp2_with (first|((with_reducible refine qe_ (f:=69) rfl ?_);refine qp_ (some 20) rfl rfl Try.func69 (by kernel_rfl) rfl #[.agg #[I L ((qan_ l0 a).f0),I L ((qan_ l0 a).f1),.bool ((qan_ l0 a).f2),I L ((qan_ l0 a).f3.f0),I L ((qan_ l0 a).f3.f1),I L ((qan_ l0 a).f3.f2)]] rfl Z24 ?_;(with_reducible refine (laws_toKid.calls ((qan_ l0 a).f0) ((qan_ l0 a).f1) ((qan_ l0 a).f2) ((qan_ l0 a).f3.f0) ((qan_ l0 a).f3.f1) ((qan_ l0 a).f3.f2) m n o q s u _ A8.out).mono ?_);rintro e c ⟨rfl,hb⟩;refine ⟨_,rfl,?_⟩;have n_:=an_ (Kd.R_below (pR_ HO_3.out) hb)<|D (qd_ (pB_ HB.out) hb);clear HO_3 HB;obtain ⟨HO_3,HB⟩:=n_;(try clear hb);have J:0≤(a:Int):=od_ Z91;have K:(a:Int) < ((b.length:Int):Int):=od_ Z91;obtain ⟨go10,co10,aj,ak,gl10,cl10,HG10⟩:=Kd.R_form HO_3.out (by omega);(first|cases aj|(injection aj with ea_ en_ ec_;(first|subst ea_|(injection ea_ with ea_;subst ea_));subst ec_;clear en_));have x:=D ak;have GG10:=D HG10;clear ak gl10 HG10;obtain ⟨ce10,aD,al,g,i⟩:=Kd.R_elem HO_3.out z75 (a:Int) J K;obtain rfl:=qaf_ al;have aW:c.cell? ⟨go10,(a:Int).toNat * 6,none⟩=some (I L ((qb_ b a).f0)):=g 0 _ rfl;have aX:c.cell? ⟨go10,(a:Int).toNat * 6+1,none⟩=some (I L ((qb_ b a).f1)):=g 1 _ rfl;have aY:c.cell? ⟨go10,(a:Int).toNat * 6+2,none⟩=some (.bool ((qb_ b a).f2)):=g 2 _ rfl;have aZ:c.cell? ⟨go10,(a:Int).toNat * 6+3,none⟩=some (I L ((qb_ b a).f3.f0)):=g 3 _ rfl;have a0:c.cell? ⟨go10,(a:Int).toNat * 6+4,none⟩=some (I L ((qb_ b a).f3.f1)):=g 4 _ rfl;have a1:c.cell? ⟨go10,(a:Int).toNat * 6+5,none⟩=some (I L ((qb_ b a).f3.f2)):=g 5 _ rfl;have a2:c.frozen? ⟨go10,(a:Int).toNat * 6,none⟩=false:=i 0;have a3:c.frozen? ⟨go10,(a:Int).toNat * 6+1,none⟩=false:=i 1;have a4:c.frozen? ⟨go10,(a:Int).toNat * 6+2,none⟩=false:=i 2;have a5:c.frozen? ⟨go10,(a:Int).toNat * 6+3,none⟩=false:=i 3;have a6:c.frozen? ⟨go10,(a:Int).toNat * 6+4,none⟩=false:=i 4;have a7:c.frozen? ⟨go10,(a:Int).toNat * 6+5,none⟩=false:=i 5;clear aD g i al;replace J:=eq_true J;replace K:=eq_true K;have am:=D (show Kd.R k75 75 c w.heap.size (fun _=>True) (Y (some ⟨go10,0,none⟩) b.length co10) b from (pR_ HO_3.out));obtain ⟨ce12,an,ao,d,l⟩:=Kd.R_elem am.out z75 (a:Int) (od_ Z91) (by have h_:(a:Int) < ((b.length:Int):Int):=od_ Z91;first|exact h_|(have e_:=(Kd.R_reads' HO_3.out).1;omega)|simpa using h_);obtain rfl:=qaf_ ao;have HP12:=Kd.R_seg am.out (a:Int) (od_ Z91) (by have h_:(a:Int) < ((b.length:Int):Int):=od_ Z91;first|exact h_|(have e_:=(Kd.R_reads' HO_3.out).1;omega)|simpa using h_) (seg:=[I L m,I L n,.bool o,I L q,I L s,I L u]) (j:=0) an d (show 6≤6 from by decide) (x':=(⟨m,n,o,(⟨q,s,u⟩:S31)⟩:S75)) (qbh_ _ _ _ (⟨m,n,o,(⟨q,s,u⟩:S31)⟩:S75) ) (fun _ hk=>hk);have aE:=d 0 _ rfl;(try simp only [show (k75).sz=6 from rfl,Nat.mul_one,Nat.add_zero] at aE);have aF:=l 0;(try simp only [show (k75).sz=6 from rfl,Nat.mul_one,Nat.add_zero] at aF);have aG:=d 1 _ rfl;(try simp only [show (k75).sz=6 from rfl,Nat.mul_one,Nat.add_zero] at aG);have aH:=l 1;(try simp only [show (k75).sz=6 from rfl,Nat.mul_one,Nat.add_zero] at aH);have aI:=d 2 _ rfl;(try simp only [show (k75).sz=6 from rfl,Nat.mul_one,Nat.add_zero] at aI);have aJ:=l 2;(try simp only [show (k75).sz=6 from rfl,Nat.mul_one,Nat.add_zero] at aJ);have aK:=d 3 _ rfl;(try simp only [show (k75).sz=6 from rfl,Nat.mul_one,Nat.add_zero] at aK);have aL:=l 3;(try simp only [show (k75).sz=6 from rfl,Nat.mul_one,Nat.add_zero] at aL);have aM:=d 4 _ rfl;(try simp only [show (k75).sz=6 from rfl,Nat.mul_one,Nat.add_zero] at aM);have aN:=l 4;(try simp only [show (k75).sz=6 from rfl,Nat.mul_one,Nat.add_zero] at aN);have aO:=d 5 _ rfl;(try simp only [show (k75).sz=6 from rfl,Nat.mul_one,Nat.add_zero] at aO);have aP:=l 5;(try simp only [show (k75).sz=6 from rfl,Nat.mul_one,Nat.add_zero] at aP);clear an d l ao)|((with_reducible refine qab_ (t:=75) (p:=21) rfl ?_);refine q4_ (t:=75) (p:=21) (v:=?vo_w13) (w1:=((((((c.setCell ⟨go10,(a:Int).toNat * 6,none⟩ (I L m)).setCell ⟨go10,(a:Int).toNat * 6+1,none⟩ (I L n)).setCell ⟨go10,(a:Int).toNat * 6+2,none⟩ (.bool o)).setCell ⟨go10,(a:Int).toNat * 6+3,none⟩ (I L q)).setCell ⟨go10,(a:Int).toNat * 6+4,none⟩ (I L s)).setCell ⟨go10,(a:Int).toNat * 6+5,none⟩ (I L u))) ?hg ?ho ?hn ?hr ?_;(case ho=>rfl);(case hg=>rfl);(case hn=>rfl);(case hr=>first|(go_simp;done)|(go_simp;rfl));intro M hw;have hg:c.grownBy M (some go10):=Z94;have hp_:Kd.R k75 75 M w.heap.size (fun _=>True) (Y (some ⟨go10,0,none⟩) b.length co10) B:=(by rw [hw,aB.out];exact HP12.1);clear HP12;have n_:=an_ (hp_)<|D (by rw [hw];exact qr_ (qr_ (qr_ (qr_ (qr_ (qr_ (HB.out) x.out) x.out) x.out) x.out) x.out) x.out:Below w.heap.size w M);clear HO_3 HB;obtain ⟨HO_3,HB⟩:=n_;clear hg hw hp_))
        go_roundg k1
        case measure=>have:=aa.out;omega
        case rel=>exact ⟨(B),(wrap64 (a+1)),Z92,H',⟨by have:=aa.out;omega⟩,⟨pR_ HO_3.out⟩,⟨pB_ HB.out⟩⟩
       ·rw [if_neg c9] at H
        exact absurd H (by simp)
      ·rw [if_neg c7] at H
       exact absurd H (by simp)
     ·rw [if_neg c6] at H
      have az:decide (a < (l0.length:Int))=false:=decide_eq_false c6;clear c6;obtain rfl:=Option.some.inj H
      go_wp2
      go_ret;exact ⟨_,er_,by (with_reducible repeat (first|apply Kd.R_alloc|apply Kd.R_drewN|apply Kd.R_drew));exact HO_3.out,pB_ HB.out⟩
  ·rw [if_neg c3] at H
   exact absurd H (by simp)
 ·rw [if_neg c2] at H
  exact absurd H (by simp)
def laws_toFair.f (k:Nat) (b c d e:Int) (g:List (S100)):Option (Int×Int×Int×Int×(List (S75))):=(laws_toVec.f c d e).bind fun a=>((laws_toKidS.f k g).bind fun h=>(some (b,a.1,a.2.1,a.2.2,h)))
theorem laws_toFair.calls (k:Nat) (d m n q:Int) (s:Option Addr) (u:Nat) (c:List (S100)) (A B E G:Int) (J:List (S75)) (w:World) (M:Kd.C k100 w s c.length c) (O:c.length≤u) (h:laws_toFair.f k d m n q c=some (A,B,E,G,J)) :
  Calls Try.prog 21 #[.agg #[I L d,I L m,I L n,I L q,Y s c.length u]] w fun e w'=>∃ P:Value,e=.returned (.agg #[I L A,I L B,I L E,I L G,P])∧Kd.R k75 75 w' w.heap.size (fun _=>True) P J∧Below w.heap.size w w':=by
 have hu26:=Try.underlying26
 have hu34:=Try.underlying34
 have hu23:=Try.underlying23
 have hu31:=Try.underlying31
 have Z:=D M
 have aa:=D O
 clear M O
 have HB:=D (Below.refl w.heap.size w)
 have H:((laws_toVec.f m n q).bind fun K=>((laws_toKidS.f k c).bind fun v=>(some (d,K.1,K.2.1,K.2.2,v))))=some (A,B,E,G,J):=h
 clear h
 obtain ⟨⟨x,y,z⟩,T,H⟩:=bs_.mp H
 (try dsimp only at H)
 have A2:=D T
 clear T
 obtain ⟨v,U,H⟩:=bs_.mp H
 (try dsimp only at H)
 have A3:=D U
 clear U
 simp only [Option.some.injEq,Prod.mk.injEq] at H
 obtain ⟨rfl,rfl,rfl,rfl,rfl⟩:=H
 go_enter Try.func21,Try.ntmps21
 go_wp2_with (first|((with_reducible refine qh_ (N:=1) rfl ?_);refine bx_ (N:=1) (cs:=#[I L d,I L m,I L n,I L q,Y s c.length u]) (t:=26) ?_;intro r hg w4 hbox hb;have n_:=an_ (qd_ (pB_ HB.out) hb)<|an_ (hbox)<|an_ (bg_ hg (pB_ HB.out):w.heap.size≤r)<|D (bg_ hg (pB_ HB.out):w.heap.size≤r);clear HB;obtain ⟨HB,a,al,am⟩:=n_;clear hb hbox hg)|((with_reducible refine qh_ (N:=2) rfl ?_);refine bx_ (N:=2) (cs:=#[I L 0,I L 0,I L 0,I L 0,Y none 0 0]) (t:=34) ?_;intro j hg w5 hbox hb;have n_:=an_ (qa_ (pk_ a.out) hb)<|an_ (qd_ (pB_ HB.out) hb)<|an_ (hbox)<|an_ (bg_ hg (pB_ HB.out):w.heap.size≤j)<|an_ (bg_ hg (pB_ HB.out):w.heap.size≤j)<|an_ (nl_ hg (pk_ a.out):r≠j)<|D (by rw [hg];exact Nat.ne_of_gt (qt_ (pk_ a.out)):j≠r);clear a HB;obtain ⟨a,HB,b,ao,ap,ad,ae⟩:=n_;clear hb hbox hg)|((with_reducible refine qh_ (N:=3) rfl ?_);refine bx_ (N:=3) (cs:=#[I L 0,I L 0,I L 0,I L 0,Y none 0 0]) (t:=34) ?_;intro l hg w6 hbox hb;have n_:=an_ (qa_ (pk_ a.out) hb)<|an_ (qa_ (pk_ b.out) hb)<|an_ (qd_ (pB_ HB.out) hb)<|an_ (hbox)<|an_ (bg_ hg (pB_ HB.out):w.heap.size≤l)<|an_ (bg_ hg (pB_ HB.out):w.heap.size≤l)<|an_ (nl_ hg (pk_ a.out):r≠l)<|an_ (ng_ hg (pk_ a.out):l≠r)<|an_ (nl_ hg (pk_ b.out):j≠l)<|D (by rw [hg];exact Nat.ne_of_gt (qt_ (pk_ b.out)):l≠j);clear a b HB;obtain ⟨a,b,HB,i,ar,au,af,ag,ah,ai⟩:=n_;clear hb hbox hg;(try have:=ad.out);(try have:=ae.out);(try have:=af.out);(try have:=ag.out);obtain ⟨av,aw,ax,ay,az,aA,aB,aC,aD,aE⟩:=qx_ a.out;(try have:=ai.out);(try have:=ah.out);obtain ⟨aF,aG,aH,aI,aJ,aK,aL,aM,aN,aO⟩:=qx_ i.out)|((with_reducible refine qe_ (f:=7) rfl ?_);refine qp_ (some 9) rfl rfl Try.func7 (by kernel_rfl) rfl #[.agg #[I L m,I L n,I L q]] rfl Z24 ?_;(with_reducible refine (laws_toVec.calls m n q x y z _ A2.out).mono ?_);rintro e aP ⟨rfl,hb⟩;refine ⟨_,rfl,?_⟩;have n_:=an_ (qa_ (g:=r) (o:=.cells #[I L d,I L m,I L n,I L q,Y s c.length u] 26 (0,0)) (by exact pP_ a.out) hb)<|an_ (qa_ (g:=j) (o:=.cells #[I L 0,I L 0,I L 0,I L 0,Y none 0 0] 34 (0,0)) (by exact pP_ b.out) hb)<|an_ (qa_ (g:=l) (o:=.cells #[I L d,I L 0,I L 0,I L 0,Y none 0 0] 34 (0,0)) (by exact pP_ i.out) hb)<|D (qd_ (pB_ HB.out) hb);clear a b i HB;obtain ⟨a,b,i,HB⟩:=n_;(try clear hb);obtain ⟨aQ,aR,aS,aT,aU,aV,aW,aX,aY,aZ⟩:=qx_ i.out;obtain ⟨a0,a1,a2,a3,a4,a5,a6,a7,a8,a9⟩:=qx_ a.out)|((with_reducible refine qe_ (f:=47) rfl ?_);refine qp_ (some 13) rfl rfl Try.func47 (by kernel_rfl) rfl #[Y s c.length u] rfl Z24 ?_;(with_reducible refine (laws_toKidS.calls k _ _ c v _ ?side1 ?side2 A3.out).mono ?_);(case side1=>exact Kd.C_below Z.out (pB_ HB.out));(case side2=>exact aa.out);rintro e ba ⟨bb,rfl,W,hb⟩;refine ⟨_,rfl,?_⟩;have n_:=an_ (Kd.R_lower W (qk_ (pB_ HB.out)))<|an_ (qa_ (g:=r) (o:=.cells #[I L d,I L m,I L n,I L q,Y s c.length u] 26 (0,0)) (by exact pP_ a.out) hb)<|an_ (qa_ (g:=j) (o:=.cells #[I L 0,I L 0,I L 0,I L 0,Y none 0 0] 34 (0,0)) (by exact pP_ b.out) hb)<|an_ (qa_ (g:=l) (o:=.cells #[I L d,I L x,I L y,I L z,Y none 0 0] 34 (0,0)) (by exact pP_ i.out) hb)<|D (qd_ (pB_ HB.out) hb);clear a b i HB;obtain ⟨X,a,b,i,HB⟩:=n_;(try clear hb);(try clear W);obtain ⟨Ao16,co16,aj⟩:=Kd.R_slice X.out;subst aj;obtain ⟨bc,bd,be,bf,bg,bh,bi,bj,bk,bl⟩:=qx_ i.out;obtain ⟨bm,bn,bo,bp,bq,bs,bu,bv,bw,bx⟩:=qx_ b.out))
 refine bodyPost_ret (results_cell_row rfl _ _ j 34 #[I L d,I L x,I L y,I L z,Y Ao16 v.length co16] (0,0) _ rfl (by exact pP_ b.out) Try.underlying34 rfl (by kernel_rfl)) rfl ?_
 exact ⟨_,er_,by (with_reducible repeat (first|apply Kd.R_alloc|apply Kd.R_drewN|apply Kd.R_drew));exact Kd.R_mono (fr_ (fr_ (fr_ (fr_ (fr_ (Kd.R_far (p:=⟨l,4,none⟩) (Kd.R_types (Kd.R_types X.out i.out (by decide)) b.out (by decide)) (fun _ hk=>hk.1.2) (Y Ao16 v.length co16)) 0 (I L d)) 1 (I L x)) 2 (I L y)) 3 (I L z)) 4 (Y Ao16 v.length co16)) (fun _ hk=>trivial),pB_ HB.out⟩
def laws_toBranch.f (k:Nat) (b c d e g:Int) (l0_5:List (S100)):Option (Int×Int×Int×Int×Int×(List (S75))):=(laws_toFair.f k c d e g l0_5).bind fun a=>(some (b,a.1,a.2.1,a.2.2.1,a.2.2.2.1,a.2.2.2.2))
theorem laws_toBranch.calls (k:Nat) (d j l m n:Int) (s:Option Addr) (u:Nat) (l0_5:List (S100)) (E G J K M:Int) (O:List (S75)) (w:World) (P:Kd.C k100 w s l0_5.length l0_5) (T:l0_5.length≤u) (h:laws_toBranch.f k d j l m n l0_5=some (E,G,J,K,M,O)) :
  Calls Try.prog 48 #[.agg #[I L d,I L j,I L l,I L m,I L n,Y s l0_5.length u]] w fun e w'=>∃ U:Value,e=.returned (.agg #[I L E,I L G,I L J,I L K,I L M,U])∧Kd.R k75 75 w' w.heap.size (fun _=>True) U O∧Below w.heap.size w w':=by
 have hu72:=Try.underlying72
 have hu54:=Try.underlying54
 have hu26:=Try.underlying26
 have hu34:=Try.underlying34
 have aa:=D P
 have ab:=D T
 clear P T
 have HB:=D (Below.refl w.heap.size w)
 have H:((laws_toFair.f k j l m n l0_5).bind fun v=>(some (d,v.1,v.2.1,v.2.2.1,v.2.2.2.1,v.2.2.2.2)))=some (E,G,J,K,M,O):=h
 clear h
 obtain ⟨⟨x,y,z,A,B⟩,W,H⟩:=bs_.mp H
 (try dsimp only at H)
 have A2:=D W
 clear W
 simp only [Option.some.injEq,Prod.mk.injEq] at H
 obtain ⟨rfl,rfl,rfl,rfl,rfl,rfl⟩:=H
 go_enter Try.func48,Try.ntmps48
 go_wp2_with (first|((with_reducible refine qh_ (N:=1) rfl ?_);refine bx_ (N:=1) (cs:=#[I L d,I L j,I L l,I L m,I L n,Y s l0_5.length u]) (t:=72) ?_;intro q hg w3 hbox hb;have n_:=an_ (qd_ (pB_ HB.out) hb)<|an_ (hbox)<|an_ (bg_ hg (pB_ HB.out):w.heap.size≤q)<|D (bg_ hg (pB_ HB.out):w.heap.size≤q);clear HB;obtain ⟨HB,a,al,am⟩:=n_;clear hb hbox hg)|((with_reducible refine qh_ (N:=2) rfl ?_);refine bx_ (N:=2) (cs:=#[I L 0,I L 0,I L 0,I L 0,I L 0,Y none 0 0]) (t:=54) ?_;intro i hg w4 hbox hb;have n_:=an_ (qa_ (pk_ a.out) hb)<|an_ (qd_ (pB_ HB.out) hb)<|an_ (hbox)<|an_ (bg_ hg (pB_ HB.out):w.heap.size≤i)<|an_ (bg_ hg (pB_ HB.out):w.heap.size≤i)<|an_ (nl_ hg (pk_ a.out):q≠i)<|D (by rw [hg];exact Nat.ne_of_gt (qt_ (pk_ a.out)):i≠q);clear a HB;obtain ⟨a,HB,c,ao,ap,ad,ae⟩:=n_;clear hb hbox hg)|((with_reducible refine qh_ (N:=3) rfl ?_);refine bx_ (N:=3) (cs:=#[I L 0,I L 0,I L 0,I L 0,I L 0,Y none 0 0]) (t:=54) ?_;intro b hg w5 hbox hb;have n_:=an_ (qa_ (pk_ a.out) hb)<|an_ (qa_ (pk_ c.out) hb)<|an_ (qd_ (pB_ HB.out) hb)<|an_ (hbox)<|an_ (bg_ hg (pB_ HB.out):w.heap.size≤b)<|an_ (bg_ hg (pB_ HB.out):w.heap.size≤b)<|an_ (nl_ hg (pk_ a.out):q≠b)<|an_ (ng_ hg (pk_ a.out):b≠q)<|an_ (nl_ hg (pk_ c.out):i≠b)<|D (by rw [hg];exact Nat.ne_of_gt (qt_ (pk_ c.out)):b≠i);clear a c HB;obtain ⟨a,c,HB,r,ar,au,af,ag,ah,ai⟩:=n_;clear hb hbox hg;(try have:=ad.out);(try have:=ae.out);(try have:=af.out);(try have:=ag.out);obtain ⟨av,aw,ax,ay,az,aA,aB,aC,aD,aE,aF,aG⟩:=qm_ a.out;(try have:=ai.out);(try have:=ah.out);obtain ⟨aH,aI,aJ,aK,aL,aM,aN,aO,aP,aQ,aR,aS⟩:=qm_ r.out)|((with_reducible refine qe_ (f:=21) rfl ?_);refine qp_ (some 9) rfl rfl Try.func21 (by kernel_rfl) rfl #[.agg #[I L j,I L l,I L m,I L n,Y s l0_5.length u]] rfl Z24 ?_;(with_reducible refine (laws_toFair.calls k j l m n _ _ l0_5 x y z A B _ ?side1 ?side2 A2.out).mono ?_);(case side1=>exact Kd.C_below aa.out (pB_ HB.out));(case side2=>exact ab.out);rintro e aT ⟨aU,rfl,X,hb⟩;refine ⟨_,rfl,?_⟩;have n_:=an_ (Kd.R_lower X (qk_ (pB_ HB.out)))<|an_ (qa_ (g:=q) (o:=.cells #[I L d,I L j,I L l,I L m,I L n,Y s l0_5.length u] 72 (0,0)) (by exact pP_ a.out) hb)<|an_ (qa_ (g:=i) (o:=.cells #[I L 0,I L 0,I L 0,I L 0,I L 0,Y none 0 0] 54 (0,0)) (by exact pP_ c.out) hb)<|an_ (qa_ (g:=b) (o:=.cells #[I L d,I L 0,I L 0,I L 0,I L 0,Y none 0 0] 54 (0,0)) (by exact pP_ r.out) hb)<|D (qd_ (pB_ HB.out) hb);clear a c r HB;obtain ⟨Z,a,c,r,HB⟩:=n_;(try clear hb);(try clear X);obtain ⟨aV,aW,aX,aY,aZ,a0,a1,a2,a3,a4,a5,a6⟩:=qm_ r.out;obtain ⟨Ao13,co13,aj⟩:=Kd.R_slice Z.out;subst aj;obtain ⟨a7,a8,a9,ba,bb,bc,bd,be,bf,bg,bh,bi⟩:=qm_ c.out))
 refine bodyPost_ret (results_cell_row rfl _ _ i 54 #[I L d,I L x,I L y,I L z,I L A,Y Ao13 B.length co13] (0,0) _ rfl (by exact pP_ c.out) Try.underlying54 rfl (by kernel_rfl)) rfl ?_
 exact ⟨_,er_,by (with_reducible repeat (first|apply Kd.R_alloc|apply Kd.R_drewN|apply Kd.R_drew));exact Kd.R_mono (fr_ (fr_ (fr_ (fr_ (fr_ (fr_ (Kd.R_far (p:=⟨b,5,none⟩) (Kd.R_far (p:=⟨b,4,none⟩) (Kd.R_far (p:=⟨b,3,none⟩) (Kd.R_far (p:=⟨b,2,none⟩) (Kd.R_far (p:=⟨b,1,none⟩) (Kd.R_types (Kd.R_types Z.out r.out (by decide)) c.out (by decide)) (fun _ hk=>hk.1.2) (I L x)) (fun _ hk=>hk.1.2) (I L y)) (fun _ hk=>hk.1.2) (I L z)) (fun _ hk=>hk.1.2) (I L A)) (fun _ hk=>hk.1.2) (Y Ao13 B.length co13)) 0 (I L d)) 1 (I L x)) 2 (I L y)) 3 (I L z)) 4 (I L A)) 5 (Y Ao13 B.length co13)) (fun _ hk=>trivial),pB_ HB.out⟩
def laws_toBranchS.l0:Nat→List (S72)→List (S54)→Int→Option ((List (S54)))
 | 0,_,_,_=>none
 | k+1,b,d,a=>if a < (b.length:Int) then (if 0≤a then ((laws_toBranch.f k ((q8_ b a).f0) ((q8_ b a).f1.f0) ((q8_ b a).f1.f1.f0) ((q8_ b a).f1.f1.f1) ((q8_ b a).f1.f1.f2) ((q8_ b a).f1.f2)).bind fun c=>(if a < (d.length:Int) then (laws_toBranchS.l0 k b (d.set (a:Int).toNat (⟨c.1,(⟨c.2.1,(⟨c.2.2.1,c.2.2.2.1,c.2.2.2.2.1⟩:S31),c.2.2.2.2.2⟩:S34)⟩:S54)) (wrap64 (a+1))) else (none))) else (none)) else (some d)
def laws_toBranchS.f (k:Nat) (l0:List (S72)):Option ((List (S54))):=if 0≤(l0.length:Int) then (if ((l0.length:Int):Int).toNat≤4398046511104 then (laws_toBranchS.l0 k l0 (List.replicate ((l0.length:Int):Int).toNat z54) 0) else (none)) else (none)
theorem laws_toBranchS.calls (k:Nat) (W:Option Addr) (X:Nat) (l0:List (S72)) (r:List (S54)) (w:World) (Z:Kd.C k72 w W l0.length l0) (aa:l0.length≤X) (h:laws_toBranchS.f k l0=some r) :
  Calls Try.prog 22 #[Y W l0.length X] w fun e w'=>∃ ab:Value,e=.returned (ab)∧Kd.S k54 54 w' w.heap.size (fun _=>True) ab r∧Below w.heap.size w w':=by
 have hu72:=Try.underlying72
 have hu54:=Try.underlying54
 have au:=D Z
 have aZ:=D aa
 clear Z aa
 have HB:=D (Below.refl w.heap.size w)
 have H:(if 0≤(l0.length:Int) then (if ((l0.length:Int):Int).toNat≤4398046511104 then (laws_toBranchS.l0 k l0 (List.replicate ((l0.length:Int):Int).toNat z54) 0) else (none)) else (none))=some r:=h
 clear h
 by_cases c2:0≤(l0.length:Int)
 ·rw [if_pos c2] at H
  have av:=eq_true c2;have aw:decide (0≤(l0.length:Int))=true:=decide_eq_true c2;clear c2
  by_cases c3:((l0.length:Int):Int).toNat≤4398046511104
  ·rw [if_pos c3] at H
   have ax:=eq_true c3;have ay:decide (((l0.length:Int):Int).toNat≤4398046511104)=true:=decide_eq_true c3;clear c3;obtain ⟨ac,x⟩:∃ y_:List (S54),y_=(List.replicate ((l0.length:Int):Int).toNat z54):=⟨_,rfl⟩
   replace H:(laws_toBranchS.l0 k l0 ac 0)=some r:=by first|(rw [x];with_reducible exact H)|(have H2_:=(Option.bind_some _ _).symm.trans H;rw [x];with_reducible exact H2_)|(have H2_:=(Option.bind_some _ _).symm.trans H;with_reducible exact H2_)|with_reducible exact H|(rw [x];exact H)|exact H
   have ad:=D x;clear x;have H':=D H;clear H;go_enter Try.func22,Try.ntmps22
   go_wp2_with (first|((with_reducible refine qh_ (N:=7) rfl ?_);refine Kd.S_make k54 _ 54 rfl (N:=7) rfl 35 _ _ rfl (l0.length:Int) rfl rfl Try.underlying35 (.agg #[(I L 0),(I L 0),(I L 0),(I L 0),(I L 0),(Y none 0 0)]) 64 info54 rfl (by decide) (by omega) z54 (ok:=fun _=>True) (okp:=fun _=>True) (k54_mkM _ _ _ z54 (Kd.R_nil _ _ _ _ _)) (fun _ hk=>hk) trivial (od_ Z91) (Nat.le_trans (Nat.mul_le_mul_right _ (od_ Z91:(l0.length:Int).toNat≤4398046511104)) (by omega)) (Below.refl _ _) (Nat.le_refl _) ?_;intro az w4 y hb hg_ hnew_;clear hg_ hnew_;(first|rw [← ad.out] at y|(simp only [Int.reduceToNat] at y;rw [← ad.out] at y));have n_:=an_ (Kd.S_lower y (qk_ (pB_ HB.out)))<|D (qd_ (pB_ HB.out) hb);clear HB;obtain ⟨aA,HB⟩:=n_;clear hb y))
   go_loopg [4] k (fun kq v4 w'=>∃ (b:List (S54)) (a:Int),v4=I L a∧Aside0 (laws_toBranchS.l0 kq l0 b a=some r)∧Aside0 (kq≤k)∧Aside0 (Kd.S k54 54 w' w.heap.size (fun _=>True) az b)∧Aside0 (Below w.heap.size w w'))
   case atStart=>exact ⟨(ac),(0),Z92,H',⟨Nat.le_refl _⟩,⟨pS_ aA.out⟩,⟨pB_ HB.out⟩⟩
   case round =>
    clear H'
    (try clear c2);(try clear av);(try clear aw);(try clear p2);(try clear c3);(try clear ax);(try clear ay)
    obtain ⟨b,a,rfl,HA,ae,HO_3,HB⟩:=hrel
    cases gk with
    | zero=>exact absurd HA.out (by simp [laws_toBranchS.l0])
    | succ G =>
     have H:=HA.out;clear HA;simp only [laws_toBranchS.l0] at H
     by_cases c6:a < (l0.length:Int)
     ·rw [if_pos c6] at H
      have aC:decide (a < (l0.length:Int))=true:=decide_eq_true c6;clear c6
      by_cases c7:0≤a
      ·rw [if_pos c7] at H
       have a2:decide (0≤a)=true:=decide_eq_true c7;clear c7;obtain ⟨⟨m,n,o,q,s,A⟩,af,H⟩:=bs_.mp H;(try dsimp only at H);have A8:=D af;clear af
       by_cases c9:a < (b.length:Int)
       ·rw [if_pos c9] at H
        have a3:decide (a < (b.length:Int))=true:=decide_eq_true c9;clear c9;obtain ⟨J,z⟩:∃ y_:List (S54),y_=(b.set (a:Int).toNat (⟨m,(⟨n,(⟨o,q,s⟩:S31),A⟩:S34)⟩:S54)):=⟨_,rfl⟩
        replace H:(laws_toBranchS.l0 G l0 J (wrap64 (a+1)))=some r:=by first|(rw [z];with_reducible exact H)|(have H2_:=(Option.bind_some _ _).symm.trans H;rw [z];with_reducible exact H2_)|(have H2_:=(Option.bind_some _ _).symm.trans H;with_reducible exact H2_)|with_reducible exact H|(rw [z];exact H)|exact H
        have aE:=D z;clear z;have H':=D H;clear H;have K:0≤(a:Int):=od_ Z91;have M:a < (l0.length:Int):=od_ Z91;obtain ⟨a4,aF,aG,aH,ag,ah,ai,aj,ak,al,am,an⟩:=at_T72 au.out a K M;cases aH;replace ag:=rc_ HB.out ag;replace ah:=rc_ HB.out ah;replace ai:=rc_ HB.out ai;replace aj:=rc_ HB.out aj;replace ak:=rc_ HB.out ak;replace al:=rc_ HB.out al;have aI:=D an;have aJ:=D am;clear an am;replace K:=eq_true K;replace M:=eq_true M
        go_wp2_with (first|((with_reducible refine qe_ (f:=48) rfl ?_);refine qp_ (some 20) rfl rfl Try.func48 (by kernel_rfl) rfl #[.agg #[I L ((q8_ l0 a).f0),I L ((q8_ l0 a).f1.f0),I L ((q8_ l0 a).f1.f1.f0),I L ((q8_ l0 a).f1.f1.f1),I L ((q8_ l0 a).f1.f1.f2),Y aF ((q8_ l0 a).f1.f2).length aG]] rfl Z24 ?_;(with_reducible refine (laws_toBranch.calls G ((q8_ l0 a).f0) ((q8_ l0 a).f1.f0) ((q8_ l0 a).f1.f1.f0) ((q8_ l0 a).f1.f1.f1) ((q8_ l0 a).f1.f1.f2) _ _ ((q8_ l0 a).f1.f2) m n o q s A _ ?side1 ?side2 A8.out).mono ?_);(case side1=>exact pC_ (Kd.C_below aI.out HB.out));(case side2=>exact aJ.out);rintro e c ⟨B,rfl,O,hb⟩;refine ⟨_,rfl,?_⟩;have n_:=an_ (Kd.S_elder' (pS_ HO_3.out) (Kd.R_base O) hb)<|an_ (Kd.R_lower O (qk_ (pB_ HB.out)))<|D (qd_ (pB_ HB.out) hb);clear HO_3 HB;obtain ⟨HO_3,E,HB⟩:=n_;(try clear hb);(try clear O);have P:0≤(a:Int):=od_ Z91;have T:(a:Int) < ((b.length:Int):Int):=od_ Z91;obtain ⟨go10,co10,ao,ap,gl10,cl10,HG10⟩:=Kd.S_form HO_3.out (by omega);(first|cases ao|(injection ao with ea_ en_ ec_;(first|subst ea_|(injection ea_ with ea_;subst ea_));subst ec_;clear en_));have u:=D ap;have GG10:=D HG10;clear ap gl10 HG10;obtain ⟨_,ce10,aK,aq,d,g,_,_⟩:=Kd.S_elem HO_3.out z54 (a:Int) P T;obtain ⟨ve10_5,rfl,ge10_5⟩:=qao_ aq;have a5:c.cell? ⟨go10,(a:Int).toNat * 6,none⟩=some (I L ((qc_ b a).f0)):=d 0 _ rfl;have a6:c.cell? ⟨go10,(a:Int).toNat * 6+1,none⟩=some (I L ((qc_ b a).f1.f0)):=d 1 _ rfl;have a7:c.cell? ⟨go10,(a:Int).toNat * 6+2,none⟩=some (I L ((qc_ b a).f1.f1.f0)):=d 2 _ rfl;have a8:c.cell? ⟨go10,(a:Int).toNat * 6+3,none⟩=some (I L ((qc_ b a).f1.f1.f1)):=d 3 _ rfl;have a9:c.cell? ⟨go10,(a:Int).toNat * 6+4,none⟩=some (I L ((qc_ b a).f1.f1.f2)):=d 4 _ rfl;have ba:c.cell? ⟨go10,(a:Int).toNat * 6+5,none⟩=some (ve10_5):=d 5 _ rfl;have bb:c.frozen? ⟨go10,(a:Int).toNat * 6,none⟩=false:=g 0;have bc:c.frozen? ⟨go10,(a:Int).toNat * 6+1,none⟩=false:=g 1;have bd:c.frozen? ⟨go10,(a:Int).toNat * 6+2,none⟩=false:=g 2;have be:c.frozen? ⟨go10,(a:Int).toNat * 6+3,none⟩=false:=g 3;have bf:c.frozen? ⟨go10,(a:Int).toNat * 6+4,none⟩=false:=g 4;have bg:c.frozen? ⟨go10,(a:Int).toNat * 6+5,none⟩=false:=g 5;clear aK d g aq;replace P:=eq_true P;replace T:=eq_true T;have n_:=D (Kd.S_mono (ok':=(fun k_=>some k_≠(B:Value).ownBlock)) HO_3.out (fun k_ hk=>hk.2));clear HO_3;have HO_3:=n_;clear n_;have aL:=D (show Kd.S k54 54 c w.heap.size (fun k_=>((fun _=>True)) k_∧¬ ((fun k_=>some k_=(B:Value).ownBlock)) k_) (Y (some ⟨go10,0,none⟩) b.length co10) b from (pS_ (Kd.S_mono HO_3.out (fun k_ hk=>⟨trivial,fun e_=>hk e_⟩))));obtain ⟨oki12,ce12,aM,ar,i,l,hoki12,hH12⟩:=Kd.S_elem aL.out z54 (a:Int) (od_ Z91) (by have h_:(a:Int) < ((b.length:Int):Int):=od_ Z91;first|exact h_|(have e_:=(Kd.S_reads' HO_3.out).1;omega)|simpa using h_);obtain ⟨ve12_5,rfl,ge12_5⟩:=qao_ ar;have HP12:=Kd.S_seg hH12 (od_ Z91) (by have h_:(a:Int) < ((b.length:Int):Int):=od_ Z91;first|exact h_|(have e_:=(Kd.S_reads' HO_3.out).1;omega)|simpa using h_) (seg:=[I L m,I L n,I L o,I L q,I L s,B]) (j:=0) (show 6≤6 from by decide) (x':=(⟨m,(⟨n,(⟨o,q,s⟩:S31),A⟩:S34)⟩:S54)) (k54_mkM _ _ _ (⟨m,(⟨n,(⟨o,q,s⟩:S31),A⟩:S34)⟩:S54) (Kd.R_mono (Kd.R_tight rfl (Kd.R_mono (ok':=fun k_=>((fun _=>True)) k_∧k_≠go10) (Kd.R_apart' (E.out) (Kd.S_typed HO_3.out) (by decide)) (fun k_ hk=>⟨trivial,fun e_=>(hk.2) (by rw [e_];rfl)⟩))) (fun _ h_=>Or.inr (h_)))) (fun _ hk=>hk) (fun k_ hk_=>((Kd.R_mono (ok':=fun k_=>((fun _=>True)) k_∧k_≠go10) (Kd.R_apart' (E.out) (Kd.S_typed HO_3.out) (by decide)) (fun k_ hk=>⟨trivial,fun e_=>(hk.2) (by rw [e_];rfl)⟩))).1 k_ hk_.symm);have aN:=i 0 _ rfl;(try simp only [show (k54).sz=6 from rfl,Nat.mul_one,Nat.add_zero] at aN);have aO:=l 0;(try simp only [show (k54).sz=6 from rfl,Nat.mul_one,Nat.add_zero] at aO);have aP:=i 1 _ rfl;(try simp only [show (k54).sz=6 from rfl,Nat.mul_one,Nat.add_zero] at aP);have aQ:=l 1;(try simp only [show (k54).sz=6 from rfl,Nat.mul_one,Nat.add_zero] at aQ);have aR:=i 2 _ rfl;(try simp only [show (k54).sz=6 from rfl,Nat.mul_one,Nat.add_zero] at aR);have aS:=l 2;(try simp only [show (k54).sz=6 from rfl,Nat.mul_one,Nat.add_zero] at aS);have aT:=i 3 _ rfl;(try simp only [show (k54).sz=6 from rfl,Nat.mul_one,Nat.add_zero] at aT);have aU:=l 3;(try simp only [show (k54).sz=6 from rfl,Nat.mul_one,Nat.add_zero] at aU);have aV:=i 4 _ rfl;(try simp only [show (k54).sz=6 from rfl,Nat.mul_one,Nat.add_zero] at aV);have aW:=l 4;(try simp only [show (k54).sz=6 from rfl,Nat.mul_one,Nat.add_zero] at aW);have aX:=i 5 _ rfl;(try simp only [show (k54).sz=6 from rfl,Nat.mul_one,Nat.add_zero] at aX);have aY:=l 5;(try simp only [show (k54).sz=6 from rfl,Nat.mul_one,Nat.add_zero] at aY);clear aM i l ar hoki12 hH12)|((with_reducible refine qab_ (t:=54) (p:=21) rfl ?_);refine q4_ (t:=54) (p:=21) (v:=?vo_w13) (w1:=((((((c.setCell ⟨go10,(a:Int).toNat * 6,none⟩ (I L m)).setCell ⟨go10,(a:Int).toNat * 6+1,none⟩ (I L n)).setCell ⟨go10,(a:Int).toNat * 6+2,none⟩ (I L o)).setCell ⟨go10,(a:Int).toNat * 6+3,none⟩ (I L q)).setCell ⟨go10,(a:Int).toNat * 6+4,none⟩ (I L s)).setCell ⟨go10,(a:Int).toNat * 6+5,none⟩ (B))) ?hg ?ho ?hn ?hr ?_;(case ho=>rfl);(case hg=>rfl);(case hn=>rfl);(case hr=>first|(go_simp;done)|(go_simp;rfl)|(obtain ⟨_,_,e_⟩:=Kd.R_slice E.out;subst e_;first|(go_simp;done)|(go_simp;rfl)));intro U hw;have hg:c.grownBy U (some go10):=Z94;have hp_:Kd.S k54 54 U w.heap.size (fun _=>True) (Y (some ⟨go10,0,none⟩) b.length co10) J:=(by rw [hw,aE.out];exact HP12.1);clear HP12;have n_:=an_ (hp_)<|D (by rw [hw];exact qr_ (qr_ (qr_ (qr_ (qr_ (qr_ (HB.out) u.out) u.out) u.out) u.out) u.out) u.out:Below w.heap.size w U);clear HO_3 HB E;obtain ⟨HO_3,HB⟩:=n_;clear hg hw hp_))
        go_roundg G
        case measure=>have:=ae.out;omega
        case rel=>exact ⟨(J),(wrap64 (a+1)),Z92,H',⟨by have:=ae.out;omega⟩,⟨pS_ HO_3.out⟩,⟨pB_ HB.out⟩⟩
       ·rw [if_neg c9] at H
        exact absurd H (by simp)
      ·rw [if_neg c7] at H
       exact absurd H (by simp)
     ·rw [if_neg c6] at H
      have aC:decide (a < (l0.length:Int))=false:=decide_eq_false c6;clear c6;obtain rfl:=Option.some.inj H
      go_wp2
      go_ret;exact ⟨_,er_,by (with_reducible repeat (first|apply Kd.S_alloc|apply Kd.S_drewN|apply Kd.S_drew));exact HO_3.out,pB_ HB.out⟩
  ·rw [if_neg c3] at H
   exact absurd H (by simp)
 ·rw [if_neg c2] at H
  exact absurd H (by simp)
def laws_toTree.f (k:Nat) (b c d e:Int) (g:List (S100)) (l0_5:List (S72)):Option (Int×Int×Int×Int×(List (S75))×(List (S54))):=(laws_toFair.f k b c d e g).bind fun a=>((laws_toBranchS.f k l0_5).bind fun h=>(some (a.1,a.2.1,a.2.2.1,a.2.2.2.1,a.2.2.2.2,h)))
theorem laws_toTree.calls (k:Nat) (m n q r:Int) (v:Option Addr) (x:Nat) (i:List (S100)) (y:Option Addr) (z:Nat) (l0_5:List (S72)) (O P T U:Int) (W:List (S75)) (X:List (S54)) (w:World) (aa:Kd.C k100 w v i.length i) (ab:i.length≤x) (ac:Kd.C k72 w y l0_5.length l0_5) (ad:l0_5.length≤z) (h:laws_toTree.f k m n q r i l0_5=some (O,P,T,U,W,X)) :
  Calls Try.prog 6 #[.agg #[I L m,I L n,I L q,I L r,Y v i.length x,Y y l0_5.length z]] w fun e w'=>∃ Z ae:Value,e=.returned (.agg #[I L O,I L P,I L T,I L U,Z,ae])∧Kd.R k75 75 w' w.heap.size (fun _=>True) Z W∧Kd.S k54 54 w' w.heap.size (fun k_=>some k_≠(Z:Value).ownBlock) ae X∧Below w.heap.size w w':=by
 have hu29:=Try.underlying29
 have hu37:=Try.underlying37
 have hu26:=Try.underlying26
 have hu34:=Try.underlying34
 have ai:=D aa
 have aj:=D ab
 clear aa ab
 have ak:=D ac
 have al:=D ad
 clear ac ad
 have HB:=D (Below.refl w.heap.size w)
 have H:((laws_toFair.f k m n q r i).bind fun A=>((laws_toBranchS.f k l0_5).bind fun l=>(some (A.1,A.2.1,A.2.2.1,A.2.2.2.1,A.2.2.2.2,l))))=some (O,P,T,U,W,X):=h
 clear h
 obtain ⟨⟨B,E,G,J,K⟩,af,H⟩:=bs_.mp H
 (try dsimp only at H)
 have A2:=D af
 clear af
 obtain ⟨l,ag,H⟩:=bs_.mp H
 (try dsimp only at H)
 have A3:=D ag
 clear ag
 simp only [Option.some.injEq,Prod.mk.injEq] at H
 obtain ⟨rfl,rfl,rfl,rfl,rfl,rfl⟩:=H
 go_enter Try.func6,Try.ntmps6
 go_wp2_with (first|((with_reducible refine qh_ (N:=1) rfl ?_);refine bx_ (N:=1) (cs:=#[I L m,I L n,I L q,I L r,Y v i.length x,Y y l0_5.length z]) (t:=29) ?_;intro s hg w4 hbox hb;have n_:=an_ (qd_ (pB_ HB.out) hb)<|an_ (hbox)<|an_ (bg_ hg (pB_ HB.out):w.heap.size≤s)<|D (bg_ hg (pB_ HB.out):w.heap.size≤s);clear HB;obtain ⟨HB,a,az,aA⟩:=n_;clear hb hbox hg)|((with_reducible refine qh_ (N:=2) rfl ?_);refine bx_ (N:=2) (cs:=#[I L 0,I L 0,I L 0,I L 0,Y none 0 0,Y none 0 0]) (t:=37) ?_;intro c hg w5 hbox hb;have n_:=an_ (qa_ (pk_ a.out) hb)<|an_ (qd_ (pB_ HB.out) hb)<|an_ (hbox)<|an_ (bg_ hg (pB_ HB.out):w.heap.size≤c)<|an_ (bg_ hg (pB_ HB.out):w.heap.size≤c)<|an_ (nl_ hg (pk_ a.out):s≠c)<|D (by rw [hg];exact Nat.ne_of_gt (qt_ (pk_ a.out)):c≠s);clear a HB;obtain ⟨a,HB,b,aC,aD,ao,ap⟩:=n_;clear hb hbox hg)|((with_reducible refine qh_ (N:=3) rfl ?_);refine bx_ (N:=3) (cs:=#[I L 0,I L 0,I L 0,I L 0,Y none 0 0,Y none 0 0]) (t:=37) ?_;intro j hg w6 hbox hb;have n_:=an_ (qa_ (pk_ a.out) hb)<|an_ (qa_ (pk_ b.out) hb)<|an_ (qd_ (pB_ HB.out) hb)<|an_ (hbox)<|an_ (bg_ hg (pB_ HB.out):w.heap.size≤j)<|an_ (bg_ hg (pB_ HB.out):w.heap.size≤j)<|an_ (nl_ hg (pk_ a.out):s≠j)<|an_ (ng_ hg (pk_ a.out):j≠s)<|an_ (nl_ hg (pk_ b.out):c≠j)<|D (by rw [hg];exact Nat.ne_of_gt (qt_ (pk_ b.out)):j≠c);clear a b HB;obtain ⟨a,b,HB,d,aF,aG,aq,ar,au,av⟩:=n_;clear hb hbox hg;(try have:=ao.out);(try have:=ap.out);(try have:=aq.out);(try have:=ar.out);obtain ⟨aH,aI,aJ,aK,aL,aM,aN,aO,aP,aQ,aR,aS⟩:=qm_ a.out)|((with_reducible refine qe_ (f:=21) rfl ?_);refine qp_ (some 6) rfl rfl Try.func21 (by kernel_rfl) rfl #[.agg #[I L m,I L n,I L q,I L r,Y v i.length x]] rfl Z24 ?_;(with_reducible refine (laws_toFair.calls k m n q r _ _ i B E G J K _ ?side1 ?side2 A2.out).mono ?_);(case side1=>exact pC_ (Kd.C_below ai.out HB.out));(case side2=>exact aj.out);rintro e aT ⟨aU,rfl,M,hb⟩;refine ⟨_,rfl,?_⟩;have n_:=an_ (Kd.R_lower M (qk_ (pB_ HB.out)))<|an_ (qa_ (pk_ a.out) hb)<|an_ (qa_ (pk_ b.out) hb)<|an_ (qa_ (pk_ d.out) hb)<|D (qd_ (pB_ HB.out) hb);clear a b d HB;obtain ⟨u,a,b,d,HB⟩:=n_;(try clear hb);(try clear M);(try have:=av.out);(try have:=au.out);obtain ⟨aV,aW,aX,aY,aZ,a0,a1,a2,a3,a4,a5,a6⟩:=qm_ d.out;obtain ⟨Ao13,co13,aw⟩:=Kd.R_slice u.out;subst aw;obtain ⟨a7,a8,a9,ba,bb,bc,bd,be,bf,bg,bh,bi⟩:=qm_ a.out)|((with_reducible refine qe_ (f:=22) rfl ?_);refine qp_ (some 10) rfl rfl Try.func22 (by kernel_rfl) rfl #[Y y l0_5.length z] rfl Z24 ?_;(with_reducible refine (laws_toBranchS.calls k _ _ l0_5 l _ ?side1 ?side2 A3.out).mono ?_);(case side1=>exact Kd.C_below ak.out (pB_ HB.out));(case side2=>exact al.out);rintro e bj ⟨bk,rfl,M,hb⟩;refine ⟨_,rfl,?_⟩;have n_:=an_ (Kd.R_below (rM_ (Kd.R_types u.out d.out (by decide)) (fun _ h_=>h_.1)) hb)<|an_ (Kd.S_lower (Kd.S_new' M (Kd.R_lt (rM_ (Kd.R_types u.out d.out (by decide)) (fun _ h_=>h_.1)))) (qk_ (pB_ HB.out)))<|an_ (qa_ (g:=s) (o:=.cells #[I L m,I L n,I L q,I L r,Y v i.length x,Y y l0_5.length z] 29 (0,0)) (by exact pP_ a.out) hb)<|an_ (qa_ (g:=c) (o:=.cells #[I L 0,I L 0,I L 0,I L 0,Y none 0 0,Y none 0 0] 37 (0,0)) (by exact pP_ b.out) hb)<|an_ (qa_ (g:=j) (o:=.cells #[I L B,I L E,I L G,I L J,Y Ao13 K.length co13,Y none 0 0] 37 (0,0)) (by exact pP_ d.out) hb)<|D (qd_ (pB_ HB.out) hb);clear u a b d HB;obtain ⟨u,ah,a,b,d,HB⟩:=n_;(try clear hb);(try clear M);obtain ⟨Ao16,co16,ax⟩:=Kd.S_slice ah.out;subst ax;obtain ⟨bl,bm,bn,bo,bp,bq,bs,bu,bv,bw,bx,bA⟩:=qm_ d.out;obtain ⟨bB,bC,bD,bE,bF,bG,bH,bI,bJ,bK,bL,bM⟩:=qm_ b.out))
 refine bodyPost_ret (results_cell_row rfl _ _ c 37 #[I L B,I L E,I L G,I L J,Y Ao13 K.length co13,Y Ao16 l.length co16] (0,0) _ rfl (by exact pP_ b.out) Try.underlying37 rfl (by kernel_rfl)) rfl ?_
 exact ⟨_,_,er_,by (with_reducible repeat (first|apply Kd.R_alloc|apply Kd.R_drewN|apply Kd.R_drew));exact Kd.R_mono (fr_ (fr_ (fr_ (fr_ (fr_ (fr_ (Kd.R_far (p:=⟨j,5,none⟩) (Kd.R_types (Kd.R_types u.out d.out (by decide)) b.out (by decide)) (fun _ hk=>hk.1.2) (Y Ao16 l.length co16)) 0 (I L B)) 1 (I L E)) 2 (I L G)) 3 (I L J)) 4 (Y Ao13 K.length co13)) 5 (Y Ao16 l.length co16)) (fun _ hk=>trivial),by (with_reducible repeat (first|apply Kd.S_alloc|apply Kd.S_drewN|apply Kd.S_drew));exact Kd.S_mono (Kd.S_far (p:=⟨c,5,none⟩) (Kd.S_far (p:=⟨c,4,none⟩) (Kd.S_far (p:=⟨c,3,none⟩) (Kd.S_far (p:=⟨c,2,none⟩) (Kd.S_far (p:=⟨c,1,none⟩) (Kd.S_far (p:=⟨c,0,none⟩) (Kd.S_far (p:=⟨j,5,none⟩) (Kd.S_types (Kd.S_types ah.out d.out (by decide)) b.out (by decide)) (fun _ hk=>hk.1.2) (Y Ao16 l.length co16)) (fun _ hk=>hk.2) (I L B)) (fun _ hk=>hk.2) (I L E)) (fun _ hk=>hk.2) (I L G)) (fun _ hk=>hk.2) (I L J)) (fun _ hk=>hk.2) (Y Ao13 K.length co13)) (fun _ hk=>hk.2) (Y Ao16 l.length co16)) (fun _ hk=>hk.1.1.2),pB_ HB.out⟩
def impl_VecTop.f (a b c:Int):Option (Int):=some (mx (mx a b) c)
theorem impl_VecTop.calls (b c a r:Int) (w:World) (h:impl_VecTop.f b c a=some r) :
  Calls Try.prog 51 #[.agg #[I L b,I L c,I L a]] w fun e w'=>e=.returned (I L r)∧Below w.heap.size w w':=by
 have hu31:=Try.underlying31
 have HB:=D (Below.refl w.heap.size w)
 have H:(some (mx (mx b c) a))=some r:=h
 clear h
 obtain ⟨d,hji2⟩:∃ j_:Int,(mx b c)=j_:=⟨_,rfl⟩
 replace H:(some (mx (d) a))=some r:=by first | (rw [hji2] at H;exact H) | (simp only [hji2] at H ⊢;exact H)
 have hji2_:(if b < c then c else b)=d:=hji2
 obtain ⟨g,hji3⟩:∃ j_:Int,(mx (d) a)=j_:=⟨_,rfl⟩
 replace H:(some g)=some r:=by first | (rw [hji3] at H;exact H) | (simp only [hji3] at H ⊢;exact H)
 have hji3_:(if (d) < a then a else (d))=g:=hji3
 obtain rfl:=Option.some.inj H
 go_enter Try.func51,Try.ntmps51
 go_wp2_with (first|((with_reducible refine qh_ (N:=1) rfl ?_);refine bx_ (N:=1) (cs:=#[I L b,I L c,I L a]) (t:=31) ?_;intro i hg k hbox hb;have n_:=an_ (qd_ (pB_ HB.out) hb)<|an_ (hbox)<|an_ (bg_ hg (pB_ HB.out):w.heap.size≤i)<|D (bg_ hg (pB_ HB.out):w.heap.size≤i);clear HB;obtain ⟨HB,j,l,m⟩:=n_;clear hb hbox hg;obtain ⟨n,o,p,q,s,u⟩:=q0_ j.out))
 go_ret
 exact ⟨by first|rfl|(simp [qaa_,q9_] <;> rfl)|(simp only [← hji2,← hji3];first|rfl|(simp [qaa_,q9_] <;> rfl))|(simp [*,qaa_,q9_] <;> rfl),pB_ HB.out⟩
def impl_Fair_pick.l0:Nat→Int→List (S75)→Int→Int→Int→Int→Int→Int→List (S75)→Option (Int)
 | 0,_,_,_,_,_,_,_,_,_=>none
 | k+1,b,c,e,a,g,h,i,j,d=>if a < e then (if 0≤a then (if a < (c.length:Int) then (if (qb_ c a).f2=true then (if b < 0 then (impl_Fair_pick.l0 k a c e (wrap64 (a+1)) g h i j d) else ((impl_VecTop.f ((qb_ c a).f3.f0) ((qb_ c a).f3.f1) ((qb_ c a).f3.f2)).bind fun l=>(if 0≤b then (if b < (d.length:Int) then ((impl_VecTop.f ((qb_ d b).f3.f0) ((qb_ d b).f3.f1) ((qb_ d b).f3.f2)).bind fun m=>(if l < m then (impl_Fair_pick.l0 k a c e (wrap64 (a+1)) g h i j d) else (impl_Fair_pick.l0 k b c e (wrap64 (a+1)) g h i j d))) else (none)) else (none)))) else (impl_Fair_pick.l0 k b c e (wrap64 (a+1)) g h i j d)) else (none)) else (none)) else (some b)
def impl_Fair_pick.f (k:Nat) (b c d e:Int) (a:List (S75)):Option (Int):=impl_Fair_pick.l0 k (-1) a (a.length:Int) 0 b c d e a
def impl_Fair_pick.T5:Bool×List (List Nat×List Nat):=(true,[([],[]),([0],[0]),([1],[1]),([2],[2]),([3,2],[2,3]),([4,2,2],[2,4]),([5],[5]),([6,5],[5,6]),([7,5,5],[5,7]),([5],[5]),([9,5],[5,9]),([5],[5]),([10,11,5],[5,10,11]),([12,5],[5,12]),([13,5],[5,13]),([14,8,5],[5,14]),([8,15,5],[5,8,15]),([5,16,2],[2,5,16]),([2,17],[2,17])])
def impl_Fair_pick.B5:List Nat:=[0,1,3,7,15,31,63,127,255,63,575,63,3647,7743,15935,32767,65535,131071,262143]
theorem impl_Fair_pick.tab5:rtab .any (opsOf Try.f26 5)=impl_Fair_pick.T5:=by kernel_rfl
theorem impl_Fair_pick.bits5:q3_ impl_Fair_pick.T5.2 impl_Fair_pick.B5=true:=by kernel_rfl
theorem impl_Fair_pick.calls (k:Nat) (g i j l:Int) (T:Option Addr) (q:Nat) (a:List (S75)) (r:Int) (w:World) (ar:Kd.C k75 w T a.length a) (au:a.length≤q) (h:impl_Fair_pick.f k g i j l a=some r) :
  Calls Try.prog 26 #[.agg #[I L g,I L i,I L j,I L l,Y T a.length q]] w fun e w'=>e=.returned (I L r)∧Below w.heap.size w w':=by
 have hu34:=Try.underlying34
 have hu75:=Try.underlying75
 have hu31:=Try.underlying31
 have U:=D ar
 have aL:=D au
 clear ar au
 have HB:=D (Below.refl w.heap.size w)
 have H:(impl_Fair_pick.l0 k (-1) a (a.length:Int) 0 g i j l a)=some r:=h
 clear h
 have H':=D H
 clear H
 go_enter Try.func26,Try.ntmps26
 go_wp2_with (first|((with_reducible refine qh_ (N:=1) rfl ?_);refine bx_ (N:=1) (cs:=#[I L g,I L i,I L j,I L l,Y T a.length q]) (t:=34) ?_;intro Ua hg w2 hbox hb;have n_:=an_ (qd_ (pB_ HB.out) hb)<|an_ (hbox)<|an_ (bg_ hg (pB_ HB.out):w.heap.size≤Ua)<|D (bg_ hg (pB_ HB.out):w.heap.size≤Ua);clear HB;obtain ⟨HB,Ma,Ud,Xd⟩:=n_;clear hb hbox hg;obtain ⟨Ub,Xb,Jc,Kc,Mc,Oc,Uc,Xc,Jd,Md⟩:=qx_ Ma.out))
 go_loopg [3,9] k (fun kq v3 v9 w'=>∃ (c:Int) (b:Int),v3=I L c∧v9=I L b∧Aside0 (impl_Fair_pick.l0 kq c a (a.length:Int) b g i j l a=some r)∧Aside0 (kq≤k)∧Aside0 (w'.heap[Ua]?=some (.cells #[I L g,I L i,I L j,I L l,(Y T a.length q)] 34 (0,0)))∧Aside0 (Below w.heap.size w w'))
 case atStart=>exact ⟨((-1)),(0),Z92,Z92,H',⟨Nat.le_refl _⟩,⟨pk_ Ma.out⟩,⟨pB_ HB.out⟩⟩
 case round =>
  clear H'
  (try clear c2);(try clear p2);(try clear Ub Xb Jc Kc Mc Oc Uc Xc Jd Md)
  obtain ⟨c,b,rfl,rfl,HA,s,Ma,HB⟩:=hrel
  cases gk with
  | zero=>exact absurd HA.out (by simp [impl_Fair_pick.l0])
  | succ u =>
   have H:=HA.out;clear HA;simp only [impl_Fair_pick.l0] at H
   by_cases c4:b < (a.length:Int)
   ·rw [if_pos c4] at H
    have aC:decide (b < (a.length:Int))=true:=decide_eq_true c4;clear c4
    by_cases c5:0≤b
    ·rw [if_pos c5] at H
     have aO:decide (0≤b)=true:=decide_eq_true c5;clear c5
     by_cases c6:b < (a.length:Int)
     ·rw [if_pos c6] at H
      have aP:decide (b < (a.length:Int))=true:=decide_eq_true c6;clear c6;obtain ⟨av,ai⟩:∃ b_:Bool,b_=((qb_ a b).f2):=⟨_,rfl⟩
      replace H:(if av=true then (if c < 0 then (impl_Fair_pick.l0 u b a (a.length:Int) (wrap64 (b+1)) g i j l a) else ((impl_VecTop.f ((qb_ a b).f3.f0) ((qb_ a b).f3.f1) ((qb_ a b).f3.f2)).bind fun Xa=>(if 0≤c then (if c < (a.length:Int) then ((impl_VecTop.f ((qb_ a c).f3.f0) ((qb_ a c).f3.f1) ((qb_ a c).f3.f2)).bind fun Jb=>(if Xa < Jb then (impl_Fair_pick.l0 u b a (a.length:Int) (wrap64 (b+1)) g i j l a) else (impl_Fair_pick.l0 u c a (a.length:Int) (wrap64 (b+1)) g i j l a))) else (none)) else (none)))) else (impl_Fair_pick.l0 u c a (a.length:Int) (wrap64 (b+1)) g i j l a))=some r:=by rw [← ai] at H;exact H
      have v:=D ai;clear ai
      by_cases c8:av=true
      ·subst c8
       rw [if_pos rfl] at H
       by_cases c9:c < 0
       ·rw [if_pos c9] at H
        have aD:decide (c < 0)=true:=decide_eq_true c9;clear c9;have H':=D H;clear H;have m:0≤(b:Int):=od_ Z91;have o:b < (a.length:Int):=od_ Z91;obtain ⟨d,O,x,y,p,z,A,B⟩:=qac_ U.out b m o;(try rw [← v.out] at p);(try rw [← v.out] at aw);cases O;replace x:=rc_ HB.out x;replace y:=rc_ HB.out y;replace p:=rc_ HB.out p;replace z:=rc_ HB.out z;replace A:=rc_ HB.out A;replace B:=rc_ HB.out B;replace m:=eq_true m;replace o:=eq_true o
        try go_wp2_with (first|((with_reducible refine qh_ (N:=5) rfl ?_);refine bx_ (N:=5) (cs:=#[I L 0,I L 0,.bool false,I L 0,I L 0,I L 0]) (t:=75) ?_;intro Ja hg aE hbox hb;have n_:=an_ (qa_ (pk_ Ma.out) hb)<|an_ (qd_ (pB_ HB.out) hb)<|an_ (hbox)<|an_ (bg_ hg (pB_ HB.out):w.heap.size≤Ja)<|an_ (bg_ hg (pB_ HB.out):w.heap.size≤Ja)<|an_ (nl_ hg (pk_ Ma.out):Ua≠Ja)<|D (by rw [hg];exact Nat.ne_of_gt (qt_ (pk_ Ma.out)):Ja≠Ua);clear Ma HB;obtain ⟨Ma,HB,Ka,Mb,Ob,Oa,Kb⟩:=n_;clear hb hbox hg;(try have:=Kb.out);(try have:=Oa.out);obtain ⟨Je,Ke,Me,Oe,Ue,Xe,Jf,Kf,Mf,Of,Uf,Xf⟩:=qm_ Ka.out))
        obtain ⟨W,hq_⟩:∃ W_,W_=((((((aE.setCell ⟨Ja,0,none⟩ (I L ((qb_ a b).f0))).setCell ⟨Ja,1,none⟩ (I L ((qb_ a b).f1))).setCell ⟨Ja,2,none⟩ (.bool true)).setCell ⟨Ja,3,none⟩ (I L ((qb_ a b).f3.f0))).setCell ⟨Ja,4,none⟩ (I L ((qb_ a b).f3.f1))).setCell ⟨Ja,5,none⟩ (I L ((qb_ a b).f3.f2))):=⟨_,rfl⟩;have E:Aside0 (W.heap[Ua]?=some (.cells #[I L g,I L i,I L j,I L l,Y (some d) a.length q] 34 (0,0))):=⟨by rw [hq_];exact pP_ Ma.out⟩;have G:Aside0 (W.heap[Ja]?=some (.cells #[I L ((qb_ a b).f0),I L ((qb_ a b).f1),.bool true,I L ((qb_ a b).f3.f0),I L ((qb_ a b).f3.f1),I L ((qb_ a b).f3.f2)] 75 (0,0))):=⟨by rw [hq_];exact pP_ Ka.out⟩;have J:Aside0 (Below w.heap.size w W):=⟨by rw [hq_];exact pB_ HB.out⟩;(try clear Ma);(try clear Ka);(try clear HB);(try rw [←hq_]);clear hq_;have Ma:=E;have Ka:=G;have HB:=J;clear E G J
        have n_:=an_ (qi_ Ma.out)<|an_ (qi_ Ka.out)<|D (ql_ HB.out)
        clear Ma Ka HB;obtain ⟨Ma,Ka,HB⟩:=n_;refine q1_ (n:=19) (S:=fun w'=>w'.cell? ⟨Ja,0,none⟩=some (I L ((qb_ a b).f0))∧w'.cell? ⟨Ja,1,none⟩=some (I L ((qb_ a b).f1))∧w'.cell? ⟨Ja,2,none⟩=some (.bool true)∧w'.cell? ⟨Ja,3,none⟩=some (I L ((qb_ a b).f3.f0))∧w'.cell? ⟨Ja,4,none⟩=some (I L ((qb_ a b).f3.f1))∧w'.cell? ⟨Ja,5,none⟩=some (I L ((qb_ a b).f3.f2))) (ds:=[]) (bz 19 0) (by kernel_rfl) rfl (by kernel_rfl) (be6_ Ka.out) (fun hHeld=>?_);refine qn_ impl_Fair_pick.tab5 impl_Fair_pick.bits5 (fun HT_ HW_=>?_);generalize W.drew=aQ at Ma Ka HB hHeld ⊢;refine pb_ 0 ?_;refine tb_ 1 rfl rfl hHeld Z87 ?_;refine pb_ 2 ?_;refine pb_ 3 ?_;refine pb_ 4 ?_;refine pb_ 5 ?_;refine ob_ 6 ?_;refine ob_ 7 ?_;refine ob_ 8 ?_;refine ob_ 9 ?_;refine ob_ 10 ?_;refine ob_ 11 ?_;refine ob_ 12 ?_;refine ob_ 13 ?_;refine ob_ 14 ?_;refine ob_ 15 ?_;refine ob_ 16 ?_;refine pb_ 17 ?_;refine pb_ 18 ?_;refine done_ (qv_ HT_.out (by kernel_rfl)) ?_
        try go_wp2
        go_roundg u
        case measure=>have:=s.out;omega
        case rel=>exact ⟨(b),(wrap64 (b+1)),Z92,Z92,H',⟨by have:=s.out;omega⟩,⟨pk_ Ma.out⟩,⟨pB_ HB.out⟩⟩
       ·rw [if_neg c9] at H
        have aD:decide (c < 0)=false:=decide_eq_false c9;clear c9;obtain ⟨Xa,ax,H⟩:=bs_.mp H;(try dsimp only at H);have aF:=D ax;clear ax
        by_cases X:0≤c
        ·rw [if_pos X] at H
         have aR:decide (0≤c)=true:=decide_eq_true X;clear X
         by_cases Z:c < (a.length:Int)
         ·rw [if_pos Z] at H
          have aS:decide (c < (a.length:Int))=true:=decide_eq_true Z;clear Z;obtain ⟨Jb,ay,H⟩:=bs_.mp H;(try dsimp only at H);have aG:=D ay;clear ay;have az:=D H;clear H;have m:0≤(b:Int):=od_ Z91;have o:b < (a.length:Int):=od_ Z91;obtain ⟨d,O,x,y,p,z,A,B⟩:=qac_ U.out b m o;(try rw [← v.out] at p);(try rw [← v.out] at aw);cases O;replace x:=rc_ HB.out x;replace y:=rc_ HB.out y;replace p:=rc_ HB.out p;replace z:=rc_ HB.out z;replace A:=rc_ HB.out A;replace B:=rc_ HB.out B;replace m:=eq_true m;replace o:=eq_true o
          try go_wp2_with (first|((with_reducible refine qh_ (N:=5) rfl ?_);refine bx_ (N:=5) (cs:=#[I L 0,I L 0,.bool false,I L 0,I L 0,I L 0]) (t:=75) ?_;intro Ja hg aH hbox hb;have n_:=an_ (qa_ (pk_ Ma.out) hb)<|an_ (qd_ (pB_ HB.out) hb)<|an_ (hbox)<|an_ (bg_ hg (pB_ HB.out):w.heap.size≤Ja)<|an_ (bg_ hg (pB_ HB.out):w.heap.size≤Ja)<|an_ (nl_ hg (pk_ Ma.out):Ua≠Ja)<|D (by rw [hg];exact Nat.ne_of_gt (qt_ (pk_ Ma.out)):Ja≠Ua);clear Ma HB;obtain ⟨Ma,HB,Ka,Mb,Ob,Oa,Kb⟩:=n_;clear hb hbox hg;(try have:=Kb.out);(try have:=Oa.out);obtain ⟨Jg,Kg,Mg,Og,Ug,Xg,Jh,Kh,Mh,Oh,Uh,Xh⟩:=qm_ Ka.out))
          obtain ⟨aa,hq_⟩:∃ W_,W_=((((((aH.setCell ⟨Ja,0,none⟩ (I L ((qb_ a b).f0))).setCell ⟨Ja,1,none⟩ (I L ((qb_ a b).f1))).setCell ⟨Ja,2,none⟩ (.bool true)).setCell ⟨Ja,3,none⟩ (I L ((qb_ a b).f3.f0))).setCell ⟨Ja,4,none⟩ (I L ((qb_ a b).f3.f1))).setCell ⟨Ja,5,none⟩ (I L ((qb_ a b).f3.f2))):=⟨_,rfl⟩;have E:Aside0 (aa.heap[Ua]?=some (.cells #[I L g,I L i,I L j,I L l,Y (some d) a.length q] 34 (0,0))):=⟨by rw [hq_];exact pP_ Ma.out⟩;have G:Aside0 (aa.heap[Ja]?=some (.cells #[I L ((qb_ a b).f0),I L ((qb_ a b).f1),.bool true,I L ((qb_ a b).f3.f0),I L ((qb_ a b).f3.f1),I L ((qb_ a b).f3.f2)] 75 (0,0))):=⟨by rw [hq_];exact pP_ Ka.out⟩;have J:Aside0 (Below w.heap.size w aa):=⟨by rw [hq_];exact pB_ HB.out⟩;(try clear Ma);(try clear Ka);(try clear HB);(try rw [←hq_]);clear hq_;have Ma:=E;have Ka:=G;have HB:=J;clear E G J
          have n_:=an_ (qi_ Ma.out)<|an_ (qi_ Ka.out)<|D (ql_ HB.out)
          clear Ma Ka HB;obtain ⟨Ma,Ka,HB⟩:=n_;have aj:0≤(c:Int):=od_ Z91;have ak:c < (a.length:Int):=od_ Z91;obtain ⟨aI,aJ,ab,ac,P,ad,ae,af⟩:=qac_ U.out c aj ak;have al:=af;have am:=ae;have an:=ad;have ag:=P;have ao:=ac;have ap:=ab;(try rw [← v.out] at P);(try rw [← v.out] at ag);obtain rfl:d=aI:=(by injection aJ);replace ab:=rc_ HB.out ab;replace ac:=rc_ HB.out ac;replace P:=rc_ HB.out P;replace ad:=rc_ HB.out ad;replace ae:=rc_ HB.out ae;replace af:=rc_ HB.out af;replace aj:=eq_true aj;replace ak:=eq_true ak;refine q1_ (n:=19) (S:=fun w'=>w'.cell? ⟨Ja,0,none⟩=some (I L ((qb_ a b).f0))∧w'.cell? ⟨Ja,1,none⟩=some (I L ((qb_ a b).f1))∧w'.cell? ⟨Ja,2,none⟩=some (.bool true)∧w'.cell? ⟨Ja,3,none⟩=some (I L ((qb_ a b).f3.f0))∧w'.cell? ⟨Ja,4,none⟩=some (I L ((qb_ a b).f3.f1))∧w'.cell? ⟨Ja,5,none⟩=some (I L ((qb_ a b).f3.f2))∧w'.cell? ⟨Ua,0,none⟩=some (I L g)∧w'.cell? ⟨Ua,1,none⟩=some (I L i)∧w'.cell? ⟨Ua,2,none⟩=some (I L j)∧w'.cell? ⟨Ua,3,none⟩=some (I L l)∧w'.cell? ⟨Ua,4,none⟩=some (Y (some d) a.length q)∧w'.cell? (d.add ((c).toNat * 6))=some (I L ((qb_ a c).f0))∧w'.cell? ⟨(d.add ((c).toNat * 6)).block,(d.add ((c).toNat * 6)).off+1,none⟩=some (I L ((qb_ a c).f1))∧w'.cell? ⟨(d.add ((c).toNat * 6)).block,(d.add ((c).toNat * 6)).off+2,none⟩=some (.bool ((qb_ a c).f2))∧w'.cell? ⟨(d.add ((c).toNat * 6)).block,(d.add ((c).toNat * 6)).off+3,none⟩=some (I L ((qb_ a c).f3.f0))∧w'.cell? ⟨(d.add ((c).toNat * 6)).block,(d.add ((c).toNat * 6)).off+4,none⟩=some (I L ((qb_ a c).f3.f1))∧w'.cell? ⟨(d.add ((c).toNat * 6)).block,(d.add ((c).toNat * 6)).off+5,none⟩=some (I L ((qb_ a c).f3.f2))) (ds:=[]) (bz 19 0) (by kernel_rfl) rfl (by kernel_rfl) (bk6_ Ka.out (bk5_ Ma.out (re6_ HB.out ap ao ag an am al))) (fun hHeld=>?_);refine qn_ impl_Fair_pick.tab5 impl_Fair_pick.bits5 (fun HT_ HW_=>?_);generalize aa.drew=aT at Ma Ka HB ab ac P ad ae af hHeld ⊢;refine pb_ 0 ?_;refine tb_ 1 rfl rfl hHeld Z39 ?_;refine pb_ 2 ?_;refine pb_ 3 ?_;refine pb_ 4 ?_
          refine pb_ 5 ?_;refine pb_ 6 ?_;refine pb_ 9 ?_;refine pb_ 11 ?_;refine tb_ 7 rfl rfl hHeld Z39 ?_;refine tb_ 10 rfl rfl hHeld Z39 ?_;refine pb_ 12 ?_;refine pb_ 13 ?_;refine tb_ 14 rfl rfl hHeld Z39 ?_;refine oa_ 8 22 19 32767 HT_ (fun K hK=>?_);refine goes_ Try.func51 (by kernel_rfl) rfl #[.agg #[I L ((qb_ a b).f3.f0),I L ((qb_ a b).f3.f1),I L ((qb_ a b).f3.f2)]] (by rfl) rfl rfl Z24 ?_;with_reducible refine (impl_VecTop.calls ((qb_ a b).f3.f0) ((qb_ a b).f3.f1) ((qb_ a b).f3.f2) Xa _ aF.out).mono ?_
          rintro e aU ⟨rfl,hb⟩;refine ⟨_,rfl,?_⟩
          have n_:=an_ (qa_ (pk_ Ma.out) hb)<|an_ (qa_ (pk_ Ka.out) hb)<|D (qd_ (pB_ HB.out) hb)
          clear Ma Ka HB;obtain ⟨Ma,Ka,HB⟩:=n_;refine hK.out _ _ (bk6_ Ka.out (bk5_ Ma.out (re6_ HB.out ap ao ag an am al))) (fun hHeld=>?_);clear hK K;refine nx_ (N:=some 22) ?_;refine oa_ 15 29 19 65535 HT_ (fun K hK=>?_);refine goes_ Try.func51 (by kernel_rfl) rfl #[.agg #[I L ((qb_ a c).f3.f0),I L ((qb_ a c).f3.f1),I L ((qb_ a c).f3.f2)]] (by rfl) rfl rfl Z24 ?_;with_reducible refine (impl_VecTop.calls ((qb_ a c).f3.f0) ((qb_ a c).f3.f1) ((qb_ a c).f3.f2) Jb _ aG.out).mono ?_
          rintro e aV ⟨rfl,hb⟩;refine ⟨_,rfl,?_⟩
          have n_:=an_ (qa_ (pk_ Ma.out) hb)<|an_ (qa_ (pk_ Ka.out) hb)<|D (qd_ (pB_ HB.out) hb)
          clear Ma Ka HB;obtain ⟨Ma,Ka,HB⟩:=n_;refine hK.out _ _ (bk6_ Ka.out (bk5_ Ma.out (re6_ HB.out ap ao ag an am al))) (fun hHeld=>?_);clear hK K;refine nx_ (N:=some 29) ?_;refine pb_ 16 ?_;refine pb_ 17 ?_;refine pb_ 18 ?_;refine done_ (qv_ HT_.out (by kernel_rfl)) ?_
          go_upto_if 32 with (fail)
          have H:=az.out;clear az
          by_cases M:Xa < Jb
          ·rw [if_pos M] at H
           have aq:decide (Xa < Jb)=true:=decide_eq_true M;clear M;refine rw_ aq ?_;have H':=D H;clear H
           go_wp2
           go_roundg u
           case measure=>have:=s.out;omega
           case rel=>exact ⟨(b),(wrap64 (b+1)),Z92,Z92,H',⟨by have:=s.out;omega⟩,⟨pk_ Ma.out⟩,⟨pB_ HB.out⟩⟩
          ·rw [if_neg M] at H
           have aq:decide (Xa < Jb)=false:=decide_eq_false M;clear M;refine rw_ aq ?_;have H':=D H;clear H
           go_wp2
           go_roundg u
           case measure=>have:=s.out;omega
           case rel=>exact ⟨(c),(wrap64 (b+1)),Z92,Z92,H',⟨by have:=s.out;omega⟩,⟨pk_ Ma.out⟩,⟨pB_ HB.out⟩⟩
         ·rw [if_neg Z] at H
          exact absurd H (by simp)
        ·rw [if_neg X] at H
         exact absurd H (by simp)
      ·replace c8:=Bool.eq_false_iff.mpr c8
       subst c8;rw [if_neg (show ¬ (false=true) by decide)] at H;have H':=D H;clear H;have m:0≤(b:Int):=od_ Z91;have o:b < (a.length:Int):=od_ Z91;obtain ⟨d,O,x,y,p,z,A,B⟩:=qac_ U.out b m o;(try rw [← v.out] at p);(try rw [← v.out] at aw);cases O;replace x:=rc_ HB.out x;replace y:=rc_ HB.out y;replace p:=rc_ HB.out p;replace z:=rc_ HB.out z;replace A:=rc_ HB.out A;replace B:=rc_ HB.out B;replace m:=eq_true m;replace o:=eq_true o
       try go_wp2_with (first|((with_reducible refine qh_ (N:=5) rfl ?_);refine bx_ (N:=5) (cs:=#[I L 0,I L 0,.bool false,I L 0,I L 0,I L 0]) (t:=75) ?_;intro Ja hg aK hbox hb;have n_:=an_ (qa_ (pk_ Ma.out) hb)<|an_ (qd_ (pB_ HB.out) hb)<|an_ (hbox)<|an_ (bg_ hg (pB_ HB.out):w.heap.size≤Ja)<|an_ (bg_ hg (pB_ HB.out):w.heap.size≤Ja)<|an_ (nl_ hg (pk_ Ma.out):Ua≠Ja)<|D (by rw [hg];exact Nat.ne_of_gt (qt_ (pk_ Ma.out)):Ja≠Ua);clear Ma HB;obtain ⟨Ma,HB,Ka,Mb,Ob,Oa,Kb⟩:=n_;clear hb hbox hg;(try have:=Kb.out);(try have:=Oa.out);obtain ⟨Ji,Ki,Mi,Oi,Ui,Xi,Jj,Kj,Mj,Oj,Uj,Xj⟩:=qm_ Ka.out))
       obtain ⟨ah,hq_⟩:∃ W_,W_=((((((aK.setCell ⟨Ja,0,none⟩ (I L ((qb_ a b).f0))).setCell ⟨Ja,1,none⟩ (I L ((qb_ a b).f1))).setCell ⟨Ja,2,none⟩ (.bool false)).setCell ⟨Ja,3,none⟩ (I L ((qb_ a b).f3.f0))).setCell ⟨Ja,4,none⟩ (I L ((qb_ a b).f3.f1))).setCell ⟨Ja,5,none⟩ (I L ((qb_ a b).f3.f2))):=⟨_,rfl⟩;have E:Aside0 (ah.heap[Ua]?=some (.cells #[I L g,I L i,I L j,I L l,Y (some d) a.length q] 34 (0,0))):=⟨by rw [hq_];exact pP_ Ma.out⟩;have G:Aside0 (ah.heap[Ja]?=some (.cells #[I L ((qb_ a b).f0),I L ((qb_ a b).f1),.bool false,I L ((qb_ a b).f3.f0),I L ((qb_ a b).f3.f1),I L ((qb_ a b).f3.f2)] 75 (0,0))):=⟨by rw [hq_];exact pP_ Ka.out⟩;have J:Aside0 (Below w.heap.size w ah):=⟨by rw [hq_];exact pB_ HB.out⟩;(try clear Ma);(try clear Ka);(try clear HB);(try rw [←hq_]);clear hq_;have Ma:=E;have Ka:=G;have HB:=J;clear E G J
       have n_:=an_ (qi_ Ma.out)<|an_ (qi_ Ka.out)<|D (ql_ HB.out)
       clear Ma Ka HB;obtain ⟨Ma,Ka,HB⟩:=n_;refine q1_ (n:=19) (S:=fun w'=>w'.cell? ⟨Ja,0,none⟩=some (I L ((qb_ a b).f0))∧w'.cell? ⟨Ja,1,none⟩=some (I L ((qb_ a b).f1))∧w'.cell? ⟨Ja,2,none⟩=some (.bool false)∧w'.cell? ⟨Ja,3,none⟩=some (I L ((qb_ a b).f3.f0))∧w'.cell? ⟨Ja,4,none⟩=some (I L ((qb_ a b).f3.f1))∧w'.cell? ⟨Ja,5,none⟩=some (I L ((qb_ a b).f3.f2))) (ds:=[]) (bz 19 0) (by kernel_rfl) rfl (by kernel_rfl) (be6_ Ka.out) (fun hHeld=>?_);refine qn_ impl_Fair_pick.tab5 impl_Fair_pick.bits5 (fun HT_ HW_=>?_);generalize ah.drew=aW at Ma Ka HB hHeld ⊢;refine pb_ 0 ?_;refine tb_ 1 rfl rfl hHeld Z87 ?_;refine pb_ 2 ?_;refine ob_ 3 ?_;refine ob_ 4 ?_;refine ob_ 5 ?_;refine ob_ 6 ?_;refine ob_ 7 ?_;refine ob_ 8 ?_;refine ob_ 9 ?_;refine ob_ 10 ?_;refine ob_ 11 ?_;refine ob_ 12 ?_;refine ob_ 13 ?_;refine ob_ 14 ?_;refine ob_ 15 ?_;refine ob_ 16 ?_;refine ob_ 17 ?_;refine pb_ 18 ?_;refine done_ (qv_ HT_.out (by kernel_rfl)) ?_
       try go_wp2
       go_roundg u
       case measure=>have:=s.out;omega
       case rel=>exact ⟨(c),(wrap64 (b+1)),Z92,Z92,H',⟨by have:=s.out;omega⟩,⟨pk_ Ma.out⟩,⟨pB_ HB.out⟩⟩
     ·rw [if_neg c6] at H
      exact absurd H (by simp)
    ·rw [if_neg c5] at H
     exact absurd H (by simp)
   ·rw [if_neg c4] at H
    have aC:decide (b < (a.length:Int))=false:=decide_eq_false c4;clear c4;obtain rfl:=Option.some.inj H
    go_wp2
    go_ret;exact ⟨er_,pB_ HB.out⟩
def impl_Fair_isBusy.f (k:Nat) (a b c d:Int) (e:List (S75)):Option (Bool):=(impl_Fair_pick.f k a b c d e).bind fun Od=>(some (decide (Od ≥ 0)))
theorem impl_Fair_isBusy.calls (k:Nat) (b c d g:Int) (i:Option Addr) (j:Nat) (a:List (S75)) (r:Bool) (w:World) (n:Kd.C k75 w i a.length a) (o:a.length≤j) (h:impl_Fair_isBusy.f k b c d g a=some r) :
  Calls Try.prog 25 #[.agg #[I L b,I L c,I L d,I L g,Y i a.length j]] w fun e w'=>e=.returned (.bool r)∧Below w.heap.size w w':=by
 have hu34:=Try.underlying34
 have s:=D n
 have u:=D o
 clear n o
 have HB:=D (Below.refl w.heap.size w)
 have H:((impl_Fair_pick.f k b c d g a).bind fun m=>(some (decide (m ≥ 0))))=some r:=h
 clear h
 obtain ⟨m,p,H⟩:=bs_.mp H
 (try dsimp only at H)
 have v:=D p
 clear p
 obtain rfl:=Option.some.inj H
 go_enter Try.func25,Try.ntmps25
 go_wp2_with (first|((with_reducible refine qh_ (N:=1) rfl ?_);refine bx_ (N:=1) (cs:=#[I L b,I L c,I L d,I L g,Y i a.length j]) (t:=34) ?_;intro q hg x hbox hb;have n_:=an_ (qd_ (pB_ HB.out) hb)<|an_ (hbox)<|an_ (bg_ hg (pB_ HB.out):w.heap.size≤q)<|D (bg_ hg (pB_ HB.out):w.heap.size≤q);clear HB;obtain ⟨HB,l,y,z⟩:=n_;clear hb hbox hg;obtain ⟨A,B,E,G,J,K,M,O,P,T⟩:=qx_ l.out)|((with_reducible refine qe_ (f:=26) rfl ?_);refine qp_ (some 4) rfl rfl Try.func26 (by kernel_rfl) rfl #[.agg #[I L b,I L c,I L d,I L g,Y i a.length j]] rfl Z24 ?_;(with_reducible refine (impl_Fair_pick.calls k b c d g _ _ a m _ ?side1 ?side2 v.out).mono ?_);(case side1=>exact pC_ (Kd.C_below s.out HB.out));(case side2=>exact u.out);rintro e U ⟨rfl,hb⟩;refine ⟨_,rfl,?_⟩;have n_:=an_ (qa_ (pk_ l.out) hb)<|D (qd_ (pB_ HB.out) hb);clear l HB;obtain ⟨l,HB⟩:=n_;(try clear hb)))
 go_ret
 exact ⟨er_,pB_ HB.out⟩
def impl_within.f (a b c:Int):Option (Bool):=if a ≥ b then (some (decide (a≤c))) else (some false)
theorem impl_within.calls (a b c:Int) (r:Bool) (w:World) (h:impl_within.f a b c=some r) :
  Calls Try.prog 72 #[I L a,I L b,I L c] w fun e w'=>e=.returned (.bool r)∧Drawn0 w w':=by
 have H:(if a ≥ b then (some (decide (a≤c))) else (some false))=some r:=h
 clear h
 by_cases c4:a ≥ b
 ·rw [if_pos c4] at H
  have d:decide (b≤a)=true:=decide_eq_true c4;clear c4;obtain rfl:=Option.some.inj H;go_enter Try.func72,Try.ntmps72
  go_wp2
  go_ret;exact ⟨by first | rfl | (simp;done) | (simp [*];done),by repeat (first | exact Drawn0.refl _ | apply Drawn0.step)⟩
 ·rw [if_neg c4] at H
  have d:decide (b≤a)=false:=decide_eq_false c4;clear c4;obtain rfl:=Option.some.inj H;go_enter Try.func72,Try.ntmps72
  go_wp2
  go_ret;exact ⟨by first | rfl | (simp;done) | (simp [*];done),by repeat (first | exact Drawn0.refl _ | apply Drawn0.step)⟩
def impl_Vec_isFrom.f (c d e a b:Int):Option (Bool):=(impl_within.f c a b).bind fun g=>(if g=true then ((impl_within.f d a b).bind fun h=>(if h=true then ((impl_within.f e a b).bind fun i=>(some i)) else (some false))) else (some false))
theorem impl_Vec_isFrom.calls (c d i a b:Int) (r:Bool) (w:World) (h:impl_Vec_isFrom.f c d i a b=some r) :
  Calls Try.prog 50 #[.agg #[I L c,I L d,I L i],I L a,I L b] w fun e w'=>e=.returned (.bool r)∧Below w.heap.size w w':=by
 have hu31:=Try.underlying31
 have HB:=D (Below.refl w.heap.size w)
 have H:((impl_within.f c a b).bind fun k=>(if k=true then ((impl_within.f d a b).bind fun l=>(if l=true then ((impl_within.f i a b).bind fun m=>(some m)) else (some false))) else (some false)))=some r:=h
 clear h
 obtain ⟨k,o,H⟩:=bs_.mp H
 (try dsimp only at H)
 have n:=D o
 clear o
 by_cases c5:k=true
 ·subst c5
  rw [if_pos rfl] at H;obtain ⟨l,p,H⟩:=bs_.mp H;(try dsimp only at H);have q:=D p;clear p
  by_cases c7:l=true
  ·subst c7
   rw [if_pos rfl] at H;obtain ⟨m,s,H⟩:=bs_.mp H;(try dsimp only at H);have x:=D s;clear s;obtain rfl:=Option.some.inj H;go_enter Try.func50,Try.ntmps50
   go_wp2_with (first|((with_reducible refine qh_ (N:=3) rfl ?_);refine bx_ (N:=3) (cs:=#[I L c,I L d,I L i]) (t:=31) ?_;intro g hg y hbox hb;have n_:=an_ (qd_ (pB_ HB.out) hb)<|an_ (hbox)<|an_ (bg_ hg (pB_ HB.out):w.heap.size≤g)<|D (bg_ hg (pB_ HB.out):w.heap.size≤g);clear HB;obtain ⟨HB,j,u,v⟩:=n_;clear hb hbox hg;obtain ⟨z,A,B,E,G,J⟩:=q0_ j.out)|((with_reducible refine qe_ (f:=72) rfl ?_);refine qp_ (some 11) rfl rfl Try.func72 (by kernel_rfl) rfl #[I L c,I L a,I L b] rfl Z24 ?_;(with_reducible refine (impl_within.calls c a b true _ n.out).mono ?_);rintro e w' ⟨rfl,⟨nd,rfl⟩⟩;refine ⟨_,rfl,?_⟩)|(go_at_call 72;(with_reducible refine (impl_within.calls d a b true _ q.out).mono ?_);rintro e w' ⟨rfl,⟨nd,rfl⟩⟩)|(go_at_call 72;(with_reducible refine (impl_within.calls i a b m _ x.out).mono ?_);rintro e w' ⟨rfl,⟨nd,rfl⟩⟩))
   go_ret;exact ⟨er_,pB_ HB.out⟩
  ·replace c7:=Bool.eq_false_iff.mpr c7
   subst c7;rw [if_neg (show ¬ (false=true) by decide)] at H;obtain rfl:=Option.some.inj H;go_enter Try.func50,Try.ntmps50
   go_wp2_with (first|((with_reducible refine qh_ (N:=3) rfl ?_);refine bx_ (N:=3) (cs:=#[I L c,I L d,I L i]) (t:=31) ?_;intro g hg K hbox hb;have n_:=an_ (qd_ (pB_ HB.out) hb)<|an_ (hbox)<|an_ (bg_ hg (pB_ HB.out):w.heap.size≤g)<|D (bg_ hg (pB_ HB.out):w.heap.size≤g);clear HB;obtain ⟨HB,j,u,v⟩:=n_;clear hb hbox hg;obtain ⟨M,O,P,T,U,W⟩:=q0_ j.out)|((with_reducible refine qe_ (f:=72) rfl ?_);refine qp_ (some 11) rfl rfl Try.func72 (by kernel_rfl) rfl #[I L c,I L a,I L b] rfl Z24 ?_;(with_reducible refine (impl_within.calls c a b true _ n.out).mono ?_);rintro e w' ⟨rfl,⟨nd,rfl⟩⟩;refine ⟨_,rfl,?_⟩)|(go_at_call 72;(with_reducible refine (impl_within.calls d a b false _ q.out).mono ?_);rintro e w' ⟨rfl,⟨nd,rfl⟩⟩))
   go_ret;exact ⟨er_,pB_ HB.out⟩
 ·replace c5:=Bool.eq_false_iff.mpr c5
  subst c5;rw [if_neg (show ¬ (false=true) by decide)] at H;obtain rfl:=Option.some.inj H;go_enter Try.func50,Try.ntmps50
  go_wp2_with (first|((with_reducible refine qh_ (N:=3) rfl ?_);refine bx_ (N:=3) (cs:=#[I L c,I L d,I L i]) (t:=31) ?_;intro g hg X hbox hb;have n_:=an_ (qd_ (pB_ HB.out) hb)<|an_ (hbox)<|an_ (bg_ hg (pB_ HB.out):w.heap.size≤g)<|D (bg_ hg (pB_ HB.out):w.heap.size≤g);clear HB;obtain ⟨HB,j,u,v⟩:=n_;clear hb hbox hg;obtain ⟨Z,aa,ab,ac,ad,ae⟩:=q0_ j.out)|((with_reducible refine qe_ (f:=72) rfl ?_);refine qp_ (some 11) rfl rfl Try.func72 (by kernel_rfl) rfl #[I L c,I L a,I L b] rfl Z24 ?_;(with_reducible refine (impl_within.calls c a b false _ n.out).mono ?_);rintro e w' ⟨rfl,⟨nd,rfl⟩⟩;refine ⟨_,rfl,?_⟩))
  go_ret;exact ⟨er_,pB_ HB.out⟩
def impl_TagOk.f (a b c:Int):Option (Bool):=(impl_Vec_isFrom.f a b c 0 1000000000000).bind fun d=>(some d)
theorem impl_TagOk.calls (a b c:Int) (r:Bool) (w:World) (h:impl_TagOk.f a b c=some r) :
  Calls Try.prog 78 #[.agg #[I L a,I L b,I L c]] w fun e w'=>e=.returned (.bool r)∧Below w.heap.size w w':=by
 have hu31:=Try.underlying31
 have HB:=D (Below.refl w.heap.size w)
 have H:((impl_Vec_isFrom.f a b c 0 1000000000000).bind fun g=>(some g))=some r:=h
 clear h
 obtain ⟨g,i,H⟩:=bs_.mp H
 (try dsimp only at H)
 have k:=D i
 clear i
 obtain rfl:=Option.some.inj H
 go_enter Try.func78,Try.ntmps78
 go_wp2_with (first|((with_reducible refine qh_ (N:=1) rfl ?_);refine bx_ (N:=1) (cs:=#[I L a,I L b,I L c]) (t:=31) ?_;intro j hg l hbox hb;have n_:=an_ (qd_ (pB_ HB.out) hb)<|an_ (hbox)<|an_ (bg_ hg (pB_ HB.out):w.heap.size≤j)<|D (bg_ hg (pB_ HB.out):w.heap.size≤j);clear HB;obtain ⟨HB,d,m,n⟩:=n_;clear hb hbox hg;obtain ⟨o,p,q,s,u,v⟩:=q0_ d.out)|((with_reducible refine qe_ (f:=50) rfl ?_);refine qp_ (some 4) rfl rfl Try.func50 (by kernel_rfl) rfl #[.agg #[I L a,I L b,I L c],I L 0,I L 1000000000000] rfl Z24 ?_;(with_reducible refine (impl_Vec_isFrom.calls a b c 0 1000000000000 g _ k.out).mono ?_);rintro e x ⟨rfl,hb⟩;refine ⟨_,rfl,?_⟩;have n_:=an_ (qa_ (pk_ d.out) hb)<|D (qd_ (pB_ HB.out) hb);clear d HB;obtain ⟨d,HB⟩:=n_;(try clear hb)))
 go_ret
 exact ⟨er_,pB_ HB.out⟩
end Go.Proofs.Ytjhgkonacdimfac.PFnExactTreeServe
