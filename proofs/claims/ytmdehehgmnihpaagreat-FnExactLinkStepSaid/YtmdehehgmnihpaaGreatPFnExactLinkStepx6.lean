import Derived.Test.YtmdehehgmnihpaaGreatPFnExactLinkStepx5
namespace Go.Proofs.YtmdehehgmnihpaaGreat.PFnExactLinkStep
open Go.RowKit Go.Proofs.YtmdehehgmnihpaaGreatW.PrintWords Go.Proofs.YtmdehehgmnihpaaGreatW.PrintLast Go.Proofs.YtmdehehgmnihpaaGreatW.PrintMore
attribute [local go_sem] dM dL eu ek dn dm dJ dK
set_option maxHeartbeats 8000000
set_option maxRecDepth 100000
set_option linter.unusedVariables false
set_option linter.unusedSimpArgs false
def bg.l5:Nat→(List (S68))→(Int)→(Int)→(List S68)→(Int)→Option ((Int)×(Int)×(List S68)×(Int))
 | 0,_,_,_,_,_=>none
 | k+1,l0_1,x5_s14,x5_0,x5_1,x5_2=>(if x5_s14<(l0_1.length:Int) then (if 0≤x5_s14 then (if x5_s14<(l0_1.length:Int) then ((fF.f ((ay l0_1 x5_s14).f0) ((ay l0_1 x5_s14).f1)).bind fun ⟨t1,t2⟩=>(if (x5_1.length+1)*32≤140737488355328 then (bg.l5 k l0_1 (wrap64 (x5_s14+1)) x5_0 (x5_1++[(⟨t1,t2⟩:S68)]) x5_2) else none)) else none) else none) else (some (x5_s14,x5_0,x5_1,x5_2)))
def bg.f(k:Nat)(a0_0:Int)(l0_1:List (S68))(a0_2:Int):Option ((Int)×(List (S68))×(Int)):=((bg.l5 k l0_1 0 a0_0 [] a0_2).bind fun ⟨z5_s14,z5_0,z5_1,z5_2⟩=>(some (z5_0,z5_1,z5_2)))
theorem bg.calls(k:Nat)(a0_0:Int)(A0_1:Option Addr)(c0_1:Nat)(l0_1:List (S68))(a0_2:Int)(r1:Int)(r2:List (S68))(r3:Int)(w:World)(hr0_1:Kd.C k68 w A0_1 l0_1.length l0_1)(hc0_1:l0_1.length≤c0_1)(h:bg.f k a0_0 l0_1 a0_2=some (r1,r2,r3)) :
  Calls Tryz.prog 73 #[.agg #[.int .i64 a0_0,.slice A0_1 l0_1.length c0_1,.int .i64 a0_2]] w fun e w'=>∃ f_:Nat→Nat,∃ v0_:Value,e=.returned (.agg #[.int .i64 r1,v0_,.int .i64 r3])∧Kd.S k68 68 w' w.heap.size (fun k_=>f_ k_=0) v0_ r2∧Below w.heap.size w w':=by
 have HR0_1:=A_.mk hr0_1
 have HC0_1:=A_.mk hc0_1
 have HW0_1:=A_.mk hr0_1
 clear hr0_1 hc0_1
 have HB:=A_.mk (Below.refl w.heap.size w)
 unfold bg.f at h
 have H:=h
 clear h
 replace H:=ob_ H
 obtain⟨⟨z5_s14,z5_0,z5_1,z5_2⟩,AL_,H⟩:=H
 have HRL5:=A_.mk H
 have AL5:=A_.mk AL_
 clear H AL_
 have hu36:=Tryz.underlying36
 have hu68:=Tryz.underlying68
 go_enter Tryz.func73,Tryz.ntmps73
 have HS:=A_.mk (Nat.le_refl w.heap.size)
 go_wp2_with (first|((with_reducible refine gd_ (N:=1) rfl ?_);refine by_ 1 (cs:=#[.int .i64 a0_0,.slice A0_1 l0_1.length c0_1,.int .i64 a0_2]) (t:=36) ?_;intro gb1_ hg w1_ hbox hb;replace HS:=aHg HS hg hbox;replace HB:=aHB HB hb;have BK1:=A_.mk hbox;clear hbox hb hg)|((with_reducible refine gd_ (N:=2) rfl ?_);refine by_ 2 (cs:=#[.int .i64 0,.slice none 0 0,.int .i64 0]) (t:=36) ?_;intro gb2_ hg w2_ hbox hb;replace HS:=aHg HS hg hbox;replace BK1:=aBb BK1 hb;replace HB:=aHB HB hb;have BK2:=A_.mk hbox;clear hbox hb hg;have Q1:=av BK1.out)|((with_reducible refine gd_ (N:=3) rfl ?_);refine by_ 3 (cs:=#[.int .i64 0,.slice none 0 0,.int .i64 0]) (t:=36) ?_;intro gb3_ hg w3_ hbox hb;replace HS:=aHg HS hg hbox;revert BK1 HB BK2;refine aD hb ?_;intro BK1 HB BK2;have BK3:=A_.mk hbox;clear hbox hb hg Q1;have Q3:=av BK3.out)|((with_reducible refine ae (t:=36) (p:=3) rfl ?_);obtain⟨qf0,qf1,qf2⟩:=eT BK3;refine so_ (w1:=(iN w3_ gb3_ (.int .i64 a0_0) (.slice none 0 0) (.int .i64 a0_2))) ?_;intro w4_ hw;clear qf0 qf1 qf2;obtain⟨hbx,hkp,hbb⟩:=iT hw BK3 HB (ho_ HS);clear hw;replace BK1:=aBk BK1 hkp HS;replace BK2:=aBk BK2 hkp HS;replace BK3:=A_.mk hbx;replace HB:=A_.mk hbb;replace HS:=aHs HS hkp.1;clear hkp hbb hbx Q3;have Q1:=av BK1.out;have Q2:=av BK2.out;have Q3:=av BK3.out))
 obtain⟨fp13_,hfp_⟩:=m0_ 1
 have hfb1_:fp13_ gb1_=1:=hfp_ _
 have hfb2_:fp13_ gb2_=1:=hfp_ _
 have hfb3_:fp13_ gb3_=1:=hfp_ _
 go_loopg [14] k (fun kq v14 w'=>∃ (fx5_:Nat→Nat) (Ax5_1:Option Addr) (cx5_1:Nat) (x5_s14:Int) (x5_0:Int) (x5_1:List S68) (x5_2:Int),v14=.int .i64 x5_s14∧A_ (bg.l5 kq l0_1 x5_s14 x5_0 x5_1 x5_2=some (z5_s14,z5_0,z5_1,z5_2))∧A_ (kq≤k)∧A_ (w'.heap[gb3_]?=some (.cells #[.int .i64 x5_0,.slice Ax5_1 x5_1.length cx5_1,.int .i64 x5_2] 36 (0,0)))∧A_ (Kd.S k68 68 w' w.heap.size (fun k_=>(w.heap.size≤k_∧k_<w'.heap.size)∧fx5_ k_=0) (.slice Ax5_1 x5_1.length cx5_1) x5_1)∧A_ (w'.heap[gb1_]?=some (.cells #[.int .i64 a0_0,.slice A0_1 l0_1.length c0_1,.int .i64 a0_2] 36 (0,0)))∧A_ (w'.heap[gb2_]?=some (.cells #[.int .i64 0,.slice none 0 0,.int .i64 0] 36 (0,0)))∧A_ (1≤fx5_ gb3_)∧A_ (1≤fx5_ gb1_)∧A_ (1≤fx5_ gb2_)∧A_ (Below w.heap.size w w')∧A_ (w4_.heap.size≤w'.heap.size))
 case atStart=>exact ⟨fp13_,none,0,0,a0_0,[],a0_2,rs_,AL5,⟨Nat.le_refl _⟩,BK3,⟨Kd.kX _ _ _ _ _⟩,BK1,BK2,⟨Nat.le_of_eq hfb3_.symm⟩,⟨Nat.le_of_eq hfb1_.symm⟩,⟨Nat.le_of_eq hfb2_.symm⟩,HB,⟨Nat.le_refl _⟩⟩
 case round =>
  clear AL5 HB BK1 BK2 BK3 Q1 Q2 Q3 hfp_ hfb1_ hfb2_ hfb3_
  obtain⟨fx5_,Ax5_1,cx5_1,x5_s14,x5_0,x5_1,x5_2,rfl,HA,HKL5,BK3,HOx5_1,BK1,BK2,HG3_,HG1_,HG2_,HB,HSL_⟩:=hrel
  rename World=>wq5_
  replace HS:=aHs HS HSL_.out
  clear HSL_
  replace HS:=aHs HS HG3_.out
  clear HG3_
  replace HS:=aHs HS HG1_.out
  clear HG1_
  replace HS:=aHs HS HG2_.out
  clear HG2_
  cases gk with
  | zero=>exact absurd HA.out (by simp [bg.l5])
  | succ kq5_ =>
   have H:=HA.out
   clear HA
   simp only [bg.l5] at H
   have Q1:=av BK1.out
   have Q2:=av BK2.out
   have Q3:=av BK3.out
   by_cases hc1_:x5_s14<(l0_1.length:Int)
   case pos =>
    rw [if_pos hc1_] at H
    have hc1_b0:=decide_eq_true hc1_
    have hc1_b1:decide (x5_s14<l0_1.length)=true:=decide_eq_true (by omega)
    replace H:=ky H
    obtain⟨hp6_,hq6_,H⟩:=H
    have EB6:=A_.mk (And.intro hp6_ hq6_)
    obtain⟨ad6_,A6_1,c6_1,eA_,hx0_,hx1_,hl1_,hi1_⟩:=iq HW0_1.out x5_s14 hp6_ hq6_
    subst eA_
    have HX6:=A_.mk (And.intro hx0_ hx1_)
    have HE6_1:=A_.mk hi1_
    have HD6_1:=A_.mk hl1_
    clear hx0_ hx1_ hl1_ hi1_
    replace hp6_:=eq_true hp6_
    replace hq6_:=eq_true hq6_
    replace H:=oa_ H
    obtain⟨⟨t1,t2⟩,A9,H⟩:=H
    try dsimp only at H
    replace H:=lM H
    obtain⟨LM10,H⟩:=H
    obtain⟨y3,Ny3⟩:=le_ ((x5_1++[(⟨t1,t2⟩:S68)]))
    rw [←Ny3.out] at H
    have HA:=A_.mk H
    clear H Q1 Q2 Q3
    have QE6:=oJ HB.out HX6.out
    go_wp2_with (first|((with_reducible refine gd_ (N:=5) rfl ?_);refine by_ 5 (cs:=#[.int .i64 0,.slice none 0 0]) (t:=68) ?_;intro gb7_ hg w7_ hbox hb;replace HS:=aHg HS hg hbox;replace HOx5_1:=aSb HOx5_1 hb;replace BK1:=aBb BK1 hb;replace BK2:=aBb BK2 hb;replace BK3:=aBb BK3 hb;replace HB:=aHB HB hb;have BK7:=A_.mk hbox;clear hbox hb hg QE6;have Q7:=ak BK7.out;have QE6:=oJ HB.out HX6.out)|((with_reducible refine ae (t:=68) (p:=5) rfl ?_);obtain⟨qf0,qf1⟩:=dO BK7;refine so_ (w1:=(jv w7_ gb7_ (.int .i64 ((ay l0_1 x5_s14).f0)) (.slice A6_1 ((ay l0_1 x5_s14).f1).length c6_1))) ?_;intro w8_ hw;clear qf0 qf1;obtain⟨hbx,hkp,hbb⟩:=jA hw BK7 HB (ho_ HS);clear hw;revert HOx5_1 BK1 BK2 BK3;refine bC hkp HS ?_;intro HOx5_1 BK1 BK2 BK3;replace BK7:=A_.mk hbx;replace HB:=A_.mk hbb;replace HS:=aHs HS hkp.1;clear hkp hbb hbx Q7 QE6;have QE6:=oJ HB.out HX6.out))
    refine dN (n:=8) (S:=fun w'=>(w'.cell? ⟨gb3_,0,none⟩=some (.int .i64 x5_0)∧w'.cell? ⟨gb3_,1,none⟩=some (.slice Ax5_1 x5_1.length cx5_1)∧w'.cell? ⟨gb3_,2,none⟩=some (.int .i64 x5_2))∧(w'.cell? ⟨gb7_,0,none⟩=some (.int .i64 ((ay l0_1 x5_s14).f0))∧w'.cell? ⟨gb7_,1,none⟩=some (.slice A6_1 ((ay l0_1 x5_s14).f1).length c6_1))) (ds:=[7]) #[F,F,F,F,F,F,F,F] (by kernel_rfl) rfl rfl ⟨av BK3.out,ak BK7.out⟩ (fun hHeld=>?_)
    clear QE6
    have hb:=aV (Below.refl w8_.heap.size w8_)
    revert HOx5_1 BK1 BK2 BK3 BK7 HB HS
    refine aD hb ?_
    intro HOx5_1 BK1 BK2 BK3 BK7 HB HS
    clear hb
    generalize w8_.drew=w14d_ at HOx5_1 BK1 BK2 BK3 BK7 HB HS hHeld ⊢
    refine pd_ (i:=0) (N:=some 18) #[T,F,F,F,F,F,F,F] rfl ?_
    refine tl_ (i:=1) (N:=some 19) #[T,T,F,F,F,F,F,F] rfl hHeld ?_
    refine tl_ (i:=2) (N:=some 20) #[T,T,T,F,F,F,F,F] rfl hHeld ?_
    refine on_ (i:=3) (N:=some 21) #[T,T,T,T,F,F,F,F] rfl (fun K hK=>?_)
    refine gz_ Tryz.func104 #[.agg #[.int .i64 ((ay l0_1 x5_s14).f0),.slice A6_1 ((ay l0_1 x5_s14).f1).length c6_1]] ?_
    with_reducible refine (fF.calls ((ay l0_1 x5_s14).f0) _ _ ((ay l0_1 x5_s14).f1) t1 t2 _ (cb_ HE6_1 HB) HD6_1.out A9.out).mono ?_
    rintro e w9_ ⟨v1_,rfl,ho0_,hb⟩
    refine⟨_,rfl,?_⟩
    replace HS:=aHs HS hb.size
    obtain⟨Ao9_1,co9_1,rfl,HO9_1⟩:=sRm ho0_ HB.out.size
    revert HOx5_1 BK1 BK2 BK3 BK7 HB
    refine aD hb ?_
    intro HOx5_1 BK1 BK2 BK3 BK7 HB
    clear hb ho0_
    refine hK.out _ _ ⟨av BK3.out,ak BK7.out⟩ (fun hHeld=>?_)
    clear hK K
    refine nm_ ?_
    refine on_ (i:=4) (N:=some 22) #[T,T,T,T,T,F,F,F] rfl (fun K hK=>?_)
    refine kN (w1:=?_) (v:=?_) (by rfl) rfl ?_ ?_
    rotate_left 2
    ·go_simp
     constructor
     ·rfl
     ·rfl
    refine hK.out _ _ ⟨av (bl_ BK3.out _),ak (bl_ BK7.out _)⟩ (fun hHeld=>?_)
    clear hK K
    refine nm_ ?_
    refine on_ (i:=5) (N:=some 23) #[T,T,T,T,T,T,F,F] rfl (fun K hK=>?_)
    refine Kd.gu k68 (w0:=w) w.heap.size (by rfl) (.tmp 19) (.tmp 22) 34 68 ((.agg #[(.int .i64 0),(.slice none 0 0)])) 32 rfl Tryz.underlying34 info68 rfl (by decide) (by omega) (.slice Ax5_1 x5_1.length cx5_1) x5_1 (⟨t1,t2⟩:S68) [.int .i64 t1,.slice Ao9_1 t2.length co9_1] (fun k_=>(((w.heap.size≤k_∧k_<wq5_.heap.size)∧fx5_ k_=0))∨(((w14d_.heap.size≤k_∧k_<w9_.heap.size)))∨w9_.heap.size≤k_) (fun k_=>((w14d_.heap.size≤k_∧k_<w9_.heap.size))) rfl rfl ?aP ?aQ ?aF ?aO HB.out HB.out.size ?aL ?_
    case aP=>exact kJ _ _ _ (⟨t1,t2⟩:S68) HO9_1.out
    case aQ=>exact fun k_ hk_=>⟨.inr (.inl hk_),fun e_=>by have:=(Kd.S_R HOx5_1.out).1 k_ e_.symm;clear e_;have:=HS.out;omega⟩
    case aF=>exact fun k_ hk_=>.inr (.inr hk_)
    case aO=>exact Kd.dw HOx5_1.out (fun k_ hk_=>⟨.inl hk_,fun e_=>by have:=HS.out;omega⟩)
    case aL=>have:=LM10.out;omega
    intro v_ w10_ ho hbb hg hat
    clear hat
    rw [←Ny3.out] at ho
    have hkp:Kept w9_ w10_ (fun k_=>((w.heap.size≤k_∧k_<wq5_.heap.size)∧fx5_ k_=0)):=Kept.aZ hg (Kept.refl _ _) (fun k_ e_=>.inl ((Kd.S_R HOx5_1.out).1 k_ e_))
    revert BK1 BK2 BK3 BK7
    refine bC hkp HS ?_
    intro BK1 BK2 BK3 BK7
    replace HS:=aHs HS hkp.1
    obtain⟨Ao10,co10,ev_⟩:=Kd.dx ho
    subst ev_
    have HO10:=A_.mk (Kd.dw (ok':=(fun k_=>((w.heap.size≤k_∧k_<wq5_.heap.size)∧fx5_ k_=0)∨((w14d_.heap.size≤k_∧k_<w9_.heap.size))∨((w9_.heap.size≤k_∧k_<w10_.heap.size)))) (Kd.ik ho) (fun k_ hk_=>by have:=hk_.1;have:=hk_.2.2.1;have:=hk_.2.1;clear hk_;have:=HS.out;omega))
    replace HB:=A_.mk hbb
    clear hkp hbb hg ho HOx5_1 HO9_1
    refine hK.out _ _ ⟨av BK3.out,ak BK7.out⟩ (fun hHeld=>?_)
    clear hK K
    refine nm_ ?_
    refine pd_ (i:=6) (N:=some 24) #[T,T,T,T,T,T,T,F] rfl ?_
    refine gG (i:=7) (N:=none) #[T,T,T,T,T,T,T,T] rfl rfl (by kernel_rfl) (by decide) (fun K hK=>?_)
    have Q1:=av BK1.out
    have Q2:=av BK2.out
    have Q3:=av BK3.out
    have Q7:=ak BK7.out
    have qf0:=bf_ BK3.out 1
    obtain⟨w11_,hw⟩:=lw_ ((w10_.setCell ⟨gb3_,1,none⟩ (.slice Ao10 y3.length co10)))
    refine fT (w1:=w11_) (by rfl) rfl ?_ ?_
    ·rw [hw];go_simp;try rfl
    refine hK.out _ _ ?_
    clear hK K qf0 Q1 Q2 Q3 Q7
    obtain⟨hbx,hkp,hbb⟩:=nN hw BK3 HB (ho_ HS)
    clear hw
    revert BK1 BK2 BK7 HO10
    refine bC hkp HS ?_
    intro BK1 BK2 BK7 HO10
    replace BK3:=A_.mk hbx
    replace HB:=A_.mk hbb
    replace HS:=aHs HS hkp.1
    clear hkp hbb hbx
    refine fA (by kernel_rfl) ?_
    have Q1:=av BK1.out
    have Q2:=av BK2.out
    have Q3:=av BK3.out
    go_wp2
    obtain⟨fp15_,hfp_⟩:=mS_ HO10 0 (m0_ 1)
    have hfb1_:fp15_ gb1_=1:=fb_ HS hfp_
    have hfb2_:fp15_ gb2_=1:=fb_ HS hfp_
    have hfb3_:fp15_ gb3_=1:=fb_ HS hfp_
    have hfb7_:fp15_ gb7_=1:=fb_ HS hfp_
    go_roundg kq5_
    case measure=>have:=HKL5.out;omega
    case rel=>exact ⟨fp15_,Ao10,co10,(wrap64 (x5_s14+1)),x5_0,y3,x5_2,rs_,HA,⟨by have:=HKL5.out;omega⟩,BK3,⟨cS_ HO10 HS hfp_⟩,BK1,BK2,⟨Nat.le_of_eq hfb3_.symm⟩,⟨Nat.le_of_eq hfb1_.symm⟩,⟨Nat.le_of_eq hfb2_.symm⟩,HB,⟨(ho_ HS)⟩⟩
   rw [if_neg hc1_] at H
   have hc1_b0:=decide_eq_false hc1_
   have hc1_b1:decide (x5_s14<l0_1.length)=false:=decide_eq_false (by omega)
   replace H:=mo H
   obtain⟨rfl,rfl,rfl,rfl⟩:=H
   have H:=HRL5.out
   clear HRL5
   (try dsimp only at H)
   replace H:=jE H
   obtain⟨rfl,rfl,rfl⟩:=H
   go_wp2_with (first|((with_reducible refine ae (t:=36) (p:=2) rfl ?_);obtain⟨qf0,qf1,qf2⟩:=eT BK2;refine so_ (w1:=(iN wq5_ gb2_ (.int .i64 x5_0) (.slice Ax5_1 x5_1.length cx5_1) (.int .i64 x5_2))) ?_;intro w12_ hw;clear qf0 qf1 qf2;obtain⟨hbx,hkp,hbb⟩:=iT hw BK2 HB (ho_ HS);clear hw;replace HOx5_1:=aSk HOx5_1 hkp HS;replace BK2:=A_.mk hbx;replace HB:=A_.mk hbb;replace HS:=aHs HS hkp.1;clear hkp hbb hbx Q1 Q2 Q3))
   refine bodyPost_ret (results_cell_row rfl _ _ gb2_ 36 _ (0,0) _ rfl BK2.out Tryz.underlying36 rfl (by kernel_rfl)) rfl ?_
   obtain⟨f_,hf_⟩:=mS_ HOx5_1 0 (m0_ 0)
   exact⟨f_,_,rfl,cS_ HOx5_1 HS hf_,HB.out⟩
def bH.l0:Nat→List (List Int)→List (List Int)→Int→Int→Option ((List (List Int)))
 | 0,_,_,_,_=>none
 | k+1,x3,x7,x8,x9=>if x9<x8 then (if 0≤x9 then (if x9<(x7.length:Int) then ((ai.f (dD x7 x9)).bind fun t323=>(if x3.length<5864062014805 then (bH.l0 k (x3++[t323]) x7 x8 (wrap64 (x9+1))) else (none))) else (none)) else (none)) else (some x3)
def bH.f(k:Nat)(l0:List (List Int)):Option ((List (List Int))):=bH.l0 k (([]:List (List Int))) l0 (l0.length:Int) 0
theorem bH.calls(k:Nat)(A0:Option Addr)(c0:Nat)(l0:List (List Int))(r:List (List Int))(w:World)(hr0:Kd.C (Kd.slice 3 (Kd.int .i64)) w A0 l0.length l0)(hc0:l0.length≤c0)(h:bH.f k l0=some r) :
  Calls Tryz.prog 75 #[.slice A0 l0.length c0] w fun e w'=>∃ v0_:Value,e=.returned (v0_)∧Kd.S (Kd.slice 3 (Kd.int .i64)) 28 w' w.heap.size (fun _=>True) v0_ r∧Below w.heap.size w w':=by
 have HR0:=A_.mk hr0
 have HC0:=A_.mk hc0
 clear hr0 hc0
 have HB:=A_.mk (Below.refl w.heap.size w)
 have H:(bH.l0 k (([]:List (List Int))) l0 (l0.length:Int) 0)=some r:=h
 clear h
 obtain⟨y319,hy319⟩:∃ y_:List (List Int),y_=(([]:List (List Int))):=⟨_,rfl⟩
 replace H:(bH.l0 k y319 l0 (l0.length:Int) 0)=some r:=by first|(rw [hy319];with_reducible exact H)|(have H2_:=(Option.bind_some _ _).symm.trans H;rw [hy319];with_reducible exact H2_)|(have H2_:=(Option.bind_some _ _).symm.trans H;with_reducible exact H2_)|with_reducible exact H|(rw [hy319];exact H)|exact H
 have Ny319:=A_.mk hy319
 clear hy319
 have H':=A_.mk H
 clear H
 go_enter Tryz.func75,Tryz.ntmps75
 go_wp2_with (first|((with_reducible refine gd_ (N:=6) rfl ?_);refine Kd.yl (Kd.slice 3 (Kd.int .i64)) _ 28 ?hg (N:=6) ?hd (xs:=([]:List (List Int))) (inner:=[]) (ok:=fun _=>True) (okp:=fun _=>True) ?hr ?hp (fun _ hk=>hk) trivial (Below.refl _ _) (Nat.le_refl _) (by simp) ?_;(case hd=>rfl);(case hg=>rfl);(case hr=>first|(go_simp;done)|(go_simp;rfl));(case hp=>exact (Reps.none _ _));intro v320 w2 ho3 hb hg_ hnew_;clear hg_ hnew_;(first|rw [←Ny319.out] at ho3|(simp only [Int.reduceToNat] at ho3;rw [←Ny319.out] at ho3));have n0_:=A_.mk (Kd.j5 ho3 (bz_ (beY HB.out)));have n1_:=A_.mk (bt_ (beY HB.out) hb);clear HB;have HO321:=n0_;have HB:=n1_;clear n0_ n1_ hb ho3))
 go_loopg [3,9] k (fun kq v3 v9 w'=>∃ (x3_1:List (List Int)) (x9_1:Int),v9=.int .i64 x9_1∧A_ (bH.l0 kq x3_1 l0 (l0.length:Int) x9_1=some r)∧A_ (kq≤k)∧A_ (Kd.S (Kd.slice 3 (Kd.int .i64)) 28 w' w.heap.size (fun _=>True) v3 x3_1)∧A_ (Below w.heap.size w w'))
 case atStart=>exact ⟨(y319),(0),rs_,H',⟨Nat.le_refl _⟩,⟨by (with_reducible repeat (first|apply Kd.dI|apply Kd.dH|apply Kd.d_));exact HO321.out⟩,⟨beY HB.out⟩⟩
 case round =>
  clear H'
  obtain⟨x3_1,x9_1,rfl,HA,HK1,HO_3,HB⟩:=hrel
  cases gk with
  | zero=>exact absurd HA.out (by simp [bH.l0])
  | succ k1 =>
   have H:=HA.out
   clear HA
   simp only [bH.l0] at H
   by_cases c4:x9_1<(l0.length:Int)
   rotate_left
   ·rw [if_neg c4] at H
    have c4b0:=decide_eq_false c4
    clear c4
    obtain rfl:=Option.some.inj H
    go_wp2
    go_ret
    exact⟨_,re_,by (with_reducible repeat (first|apply Kd.dI|apply Kd.dH|apply Kd.d_));exact HO_3.out,beY HB.out⟩
   rw [if_pos c4] at H
   have c4b0:=decide_eq_true c4
   clear c4
   by_cases c5:0≤x9_1
   rotate_left
   ·rw [if_neg c5] at H
    exact absurd H (by simp)
   rw [if_pos c5] at H
   have c5b0:=decide_eq_true c5
   clear c5
   by_cases c6:x9_1<(l0.length:Int)
   rotate_left
   ·rw [if_neg c6] at H
    exact absurd H (by simp)
   rw [if_pos c6] at H
   have c6b0:=decide_eq_true c6
   clear c6
   replace H:=oa_ H
   obtain⟨t323,A7,H⟩:=H
   by_cases c8:x3_1.length<5864062014805
   rotate_left
   ·rw [if_neg c8] at H
    exact absurd H (by simp)
   rw [if_pos c8] at H
   have LMc8:=A_.mk c8
   clear c8
   obtain⟨y326,hy326⟩:∃ y_:List (List Int),y_=(x3_1++[t323]):=⟨_,rfl⟩
   replace H:(bH.l0 k1 y326 l0 (l0.length:Int) (wrap64 (x9_1+1)))=some r:=by first|(rw [hy326];with_reducible exact H)|(have H2_:=(Option.bind_some _ _).symm.trans H;rw [hy326];with_reducible exact H2_)|(have H2_:=(Option.bind_some _ _).symm.trans H;with_reducible exact H2_)|with_reducible exact H|(rw [hy326];exact H)|exact H
   have Ny326:=A_.mk hy326
   clear hy326
   have H':=A_.mk H
   clear H
   have p322:0≤(x9_1:Int):=od_
   have q322:x9_1<(l0.length:Int):=od_
   obtain⟨ad322,A322_0,c322_0,e322,hx322_0,hl322_0,hi322_0⟩:=ko HR0.out x9_1 p322 q322
   cases e322
   replace hx322_0:=(HB.out.cell (wl_ w _ hx322_0)).trans hx322_0
   have HR322_0:=A_.mk hi322_0
   have HC322_0:=A_.mk hl322_0
   clear hi322_0 hl322_0
   replace p322:=eq_true p322
   replace q322:=eq_true q322
   go_wp2_with (first|((with_reducible refine gc_ (f:=76) rfl ?_);refine gl_ (some 15) Tryz.func76 #[.slice A322_0 (dD l0 x9_1).length c322_0] ?_;(with_reducible refine (ai.calls _ _ (dD l0 x9_1) t323 _ ?side1 ?side2 A7.out).mono ?_);(case side1=>exact cY ((cb_ HR322_0 HB)));(case side2=>exact HC322_0.out);rintro e w9 ⟨v324,rfl,ho0,hb⟩;refine⟨_,rfl,?_⟩;have n0_:=A_.mk (Kd.lH (by (with_reducible repeat (first|apply Kd.dI|apply Kd.dH|apply Kd.d_));exact HO_3.out) (Kd.jG ho0) hb);have n1_:=A_.mk (Kd.bR ho0 (bz_ (beY HB.out)));have n2_:=A_.mk (bt_ (beY HB.out) hb);clear HO_3 HB;have HO_3:=n0_;have HO325:=n1_;have HB:=n2_;clear n0_ n1_ n2_;(try clear hb);(try clear hb2);(try clear hk);(try clear hi);(try clear ho0);obtain⟨Ao11,co11,eo11⟩:=Kd.aX HO325.out;subst eo11)|((with_reducible refine cz (b:=.append) (xs:=#[.tmp 13,.tmp 16]) rfl ?_);at_builtin;refine Kd.u6 (Kd.slice 3 (Kd.int .i64)) (w0:=w) w.heap.size rfl (.tmp 13) (.tmp 16) 25 28 (.slice none 0 0) 24 rfl Tryz.underlying25 info28 rfl (by decide) (by omega) u3 x3_1 t323 [.slice Ao11 t323.length co11] (fun _=>True) (fun k_=>some k_=(.slice Ao11 t323.length co11:Value).ownBlock) rfl rfl ?aP (fun k_ hk_=>((Kd.aC (ok':=fun k_=>((fun _=>True)) k_∧some k_≠(u3:Value).ownBlock) (Kd.ji (HO325.out) (Kd.jO HO_3.out) (by decide)) (fun k_ hk=>⟨trivial,hk.2⟩))).1 k_ hk_.symm) ?aF ?aO ?aB ?aS ?aL ?_;(case aP=>exact Kd.mO (Kd.aC (Kd.jQ rfl (Kd.aC (ok':=fun k_=>((fun _=>True)) k_∧some k_≠(u3:Value).ownBlock) (Kd.ji (HO325.out) (Kd.jO HO_3.out) (by decide)) (fun k_ hk=>⟨trivial,hk.2⟩))) (fun _ h_=>h_)));(case aB=>exact (beY HB.out));(case aF=>exact (fun _ _=>trivial));(case aO=>exact (by (with_reducible repeat (first|apply Kd.dI|apply Kd.dH|apply Kd.d_));exact Kd.dw HO_3.out (fun k_ hk=>⟨trivial,fun e_=>hk.2 e_⟩)));(case aS=>exact (bz_ (beY HB.out)));(case aL=>have:=LMc8.out;omega);intro v327 w10 ho hb hg hat;rw [←Ny326.out] at ho;have n0_:=A_.mk (hb);have n1_:=A_.mk (ho);clear HB HO_3 HO325;have HB:=n0_;have HO328:=n1_;clear n0_ n1_ ho hb hg hat))
   go_roundg k1
   case measure=>have:=HK1.out;omega
   case rel=>exact ⟨(y326),(wrap64 (x9_1+1)),rs_,H',⟨by have:=HK1.out;omega⟩,⟨by (with_reducible repeat (first|apply Kd.dI|apply Kd.dH|apply Kd.d_));exact HO328.out⟩,⟨beY HB.out⟩⟩
def dF.f(k:Nat)(a0_0:Int)(l0_1:List (List Int)):Option ((Int)×(List (List Int))):=((bH.f k l0_1).bind fun t1=>(some (a0_0,t1)))
theorem dF.calls(k:Nat)(a0_0:Int)(A0_1:Option Addr)(c0_1:Nat)(l0_1:List (List Int))(r1:Int)(r2:List (List Int))(w:World)(hr0_1:Kd.C (Kd.slice 3 (Kd.int .i64)) w A0_1 l0_1.length l0_1)(hc0_1:l0_1.length≤c0_1)(h:dF.f k a0_0 l0_1=some (r1,r2)) :
  Calls Tryz.prog 74 #[.agg #[.int .i64 a0_0,.slice A0_1 l0_1.length c0_1]] w fun e w'=>∃ f_:Nat→Nat,∃ v0_:Value,e=.returned (.agg #[.int .i64 r1,v0_])∧Kd.S (Kd.slice 3 (Kd.int .i64)) 28 w' w.heap.size (fun k_=>f_ k_=0) v0_ r2∧Below w.heap.size w w':=by
 have HR0_1:=A_.mk hr0_1
 have HC0_1:=A_.mk hc0_1
 clear hr0_1 hc0_1
 have HB:=A_.mk (Below.refl w.heap.size w)
 unfold dF.f at h
 have H:=h
 clear h
 replace H:=oa_ H
 obtain⟨t1,A3,H⟩:=H
 replace H:=lh H
 obtain⟨rfl,rfl⟩:=H
 have hu37:=Tryz.underlying37
 go_enter Tryz.func74,Tryz.ntmps74
 have HS:=A_.mk (Nat.le_refl w.heap.size)
 go_wp2_with (first|((with_reducible refine gd_ (N:=1) rfl ?_);refine by_ 1 (cs:=#[.int .i64 a0_0,.slice A0_1 l0_1.length c0_1]) (t:=37) ?_;intro gb1_ hg w1_ hbox hb;replace HS:=aHg HS hg hbox;replace HB:=aHB HB hb;have BK1:=A_.mk hbox;clear hbox hb hg)|((with_reducible refine gd_ (N:=2) rfl ?_);refine by_ 2 (cs:=#[.int .i64 0,.slice none 0 0]) (t:=37) ?_;intro gb2_ hg w2_ hbox hb;replace HS:=aHg HS hg hbox;replace BK1:=aBb BK1 hb;replace HB:=aHB HB hb;have BK2:=A_.mk hbox;clear hbox hb hg))
 refine dN (n:=7) (S:=fun w'=>(w'.cell? ⟨gb1_,0,none⟩=some (.int .i64 a0_0)∧w'.cell? ⟨gb1_,1,none⟩=some (.slice A0_1 l0_1.length c0_1))) (ds:=[6]) #[F,F,F,F,F,F,F] (by kernel_rfl) rfl rfl (ak BK1.out) (fun hHeld=>?_)
 have hb:=aV (Below.refl w2_.heap.size w2_)
 revert HS BK1 HB BK2
 refine aD hb ?_
 intro HS BK1 HB BK2
 clear hb
 generalize w2_.drew=w5d_ at BK1 BK2 HB HS hHeld ⊢
 refine pd_ (i:=0) (N:=some 3) #[T,F,F,F,F,F,F] rfl ?_
 refine tl_ (i:=1) (N:=some 4) #[T,T,F,F,F,F,F] rfl hHeld ?_
 refine pd_ (i:=2) (N:=some 5) #[T,T,T,F,F,F,F] rfl ?_
 refine tl_ (i:=3) (N:=some 6) #[T,T,T,T,F,F,F] rfl hHeld ?_
 refine on_ (i:=4) (N:=some 7) #[T,T,T,T,T,F,F] rfl (fun K hK=>?_)
 refine gz_ Tryz.func75 #[.slice A0_1 l0_1.length c0_1] ?_
 with_reducible refine (bH.calls k _ _ l0_1 t1 _ (cb_ HR0_1 HB) HC0_1.out A3.out).mono ?_
 rintro e w3_ ⟨v0_,rfl,ho0_,hb⟩
 refine⟨_,rfl,?_⟩
 replace HS:=aHs HS hb.size
 obtain⟨Ao3_0,co3_0,rfl,HO3_0⟩:=sSm ho0_ HB.out.size
 revert BK1 BK2 HB
 refine aD hb ?_
 intro BK1 BK2 HB
 clear hb ho0_
 refine hK.out _ _ (ak BK1.out) (fun hHeld=>?_)
 clear hK K
 refine nm_ ?_
 refine pd_ (i:=5) (N:=some 8) #[T,T,T,T,T,T,F] rfl ?_
 refine gG (i:=6) (N:=none) #[T,T,T,T,T,T,T] rfl rfl (by kernel_rfl) (by decide) (fun K hK=>?_)
 have Q1:=ak BK1.out
 have Q2:=ak BK2.out
 obtain⟨qf0,qf1⟩:=dO BK2
 obtain⟨w4_,hw⟩:=lw_ ((jv w3_ gb2_ (.int .i64 a0_0) (.slice Ao3_0 t1.length co3_0)))
 refine fT (w1:=w4_) (by rfl) rfl ?_ ?_
 ·rw [hw];go_simp;try rfl
 refine hK.out _ _ ?_
 clear hK K qf0 qf1 Q1 Q2
 obtain⟨hbx,hkp,hbb⟩:=jA hw BK2 HB (ho_ HS)
 clear hw
 replace HO3_0:=aSk HO3_0 hkp HS
 replace BK1:=aBk BK1 hkp HS
 replace BK2:=A_.mk hbx
 replace HB:=A_.mk hbb
 replace HS:=aHs HS hkp.1
 clear hkp hbb hbx
 refine fA (by kernel_rfl) ?_
 go_wp2
 refine bodyPost_ret (results_cell_row rfl _ _ gb2_ 37 _ (0,0) _ rfl BK2.out Tryz.underlying37 rfl (by kernel_rfl)) rfl ?_
 obtain⟨f_,hf_⟩:=mS_ HO3_0 0 (m0_ 0)
 exact⟨f_,_,rfl,cS_ HO3_0 HS hf_,HB.out⟩
def gW.f(k:Nat)(a0_0:Int)(l0_1:List (S68))(a0_2:Int)(a0_3:Int)(l0_4:List (List Int))(l0_5:List (List Int))(l0_6:List Int):Option ((Int)×(List (S68))×(Int)×(Int)×(List (List Int))×(List (List Int))×(List Int)):=((bg.f k a0_0 l0_1 a0_2).bind fun ⟨t1,t2,t3⟩=>((dF.f k a0_3 l0_4).bind fun ⟨t4,t5⟩=>((bH.f k l0_5).bind fun t6=>((ai.f l0_6).bind fun t7=>(some (t1,t2,t3,t4,t5,t6,t7))))))
theorem gW.calls(k:Nat)(a0_0:Int)(A0_1:Option Addr)(c0_1:Nat)(l0_1:List (S68))(a0_2:Int)(a0_3:Int)(A0_4:Option Addr)(c0_4:Nat)(l0_4:List (List Int))(A0_5:Option Addr)(c0_5:Nat)(l0_5:List (List Int))(A0_6:Option Addr)(c0_6:Nat)(l0_6:List Int)(r1:Int)(r2:List (S68))(r3:Int)(r4:Int)(r5:List (List Int))(r6:List (List Int))(r7:List Int)(w:World)(hr0_1:Kd.C k68 w A0_1 l0_1.length l0_1)(hc0_1:l0_1.length≤c0_1)(hr0_4:Kd.C (Kd.slice 3 (Kd.int .i64)) w A0_4 l0_4.length l0_4)(hc0_4:l0_4.length≤c0_4)(hr0_5:Kd.C (Kd.slice 3 (Kd.int .i64)) w A0_5 l0_5.length l0_5)(hc0_5:l0_5.length≤c0_5)(hr0_6:Kd.C (Kd.int .i64) w A0_6 l0_6.length l0_6)(hc0_6:l0_6.length≤c0_6)(h:gW.f k a0_0 l0_1 a0_2 a0_3 l0_4 l0_5 l0_6=some (r1,r2,r3,r4,r5,r6,r7)) :
  Calls Tryz.prog 40 #[.agg #[.int .i64 a0_0,.slice A0_1 l0_1.length c0_1,.int .i64 a0_2,.int .i64 a0_3,.slice A0_4 l0_4.length c0_4,.slice A0_5 l0_5.length c0_5,.slice A0_6 l0_6.length c0_6]] w fun e w'=>∃ f_:Nat→Nat,∃ v0_ v1_ v2_ v3_:Value,e=.returned (.agg #[.int .i64 r1,v0_,.int .i64 r3,.int .i64 r4,v1_,v2_,v3_])∧Kd.S k68 68 w' w.heap.size (fun k_=>f_ k_=0) v0_ r2∧Kd.S (Kd.slice 3 (Kd.int .i64)) 28 w' w.heap.size (fun k_=>f_ k_=1) v1_ r5∧Kd.S (Kd.slice 3 (Kd.int .i64)) 28 w' w.heap.size (fun k_=>f_ k_=2) v2_ r6∧Kd.R (Kd.int .i64) 3 w' w.heap.size (fun k_=>f_ k_=3) v3_ r7∧Below w.heap.size w w':=by
 have HR0_1:=A_.mk hr0_1
 have HC0_1:=A_.mk hc0_1
 clear hr0_1 hc0_1
 have HR0_4:=A_.mk hr0_4
 have HC0_4:=A_.mk hc0_4
 clear hr0_4 hc0_4
 have HR0_5:=A_.mk hr0_5
 have HC0_5:=A_.mk hc0_5
 clear hr0_5 hc0_5
 have HR0_6:=A_.mk hr0_6
 have HC0_6:=A_.mk hc0_6
 clear hr0_6 hc0_6
 have HB:=A_.mk (Below.refl w.heap.size w)
 unfold gW.f at h
 have H:=h
 clear h
 replace H:=oa_ H
 obtain⟨⟨t1,t2,t3⟩,A3,H⟩:=H
 try dsimp only at H
 replace H:=oa_ H
 obtain⟨⟨t4,t5⟩,A4,H⟩:=H
 try dsimp only at H
 replace H:=oa_ H
 obtain⟨t6,A5,H⟩:=H
 replace H:=oa_ H
 obtain⟨t7,A6,H⟩:=H
 replace H:=qo H
 obtain⟨rfl,rfl,rfl,rfl,rfl,rfl,rfl⟩:=H
 have hu39:=Tryz.underlying39
 go_enter Tryz.func40,Tryz.ntmps40
 have HS:=A_.mk (Nat.le_refl w.heap.size)
 go_wp2_with (first|((with_reducible refine gd_ (N:=1) rfl ?_);refine by_ 1 (cs:=#[.int .i64 a0_0,.slice A0_1 l0_1.length c0_1,.int .i64 a0_2,.int .i64 a0_3,.slice A0_4 l0_4.length c0_4,.slice A0_5 l0_5.length c0_5,.slice A0_6 l0_6.length c0_6]) (t:=39) ?_;intro gb1_ hg w1_ hbox hb;replace HS:=aHg HS hg hbox;replace HB:=aHB HB hb;have BK1:=A_.mk hbox;clear hbox hb hg)|((with_reducible refine gd_ (N:=2) rfl ?_);refine by_ 2 (cs:=#[.int .i64 0,.slice none 0 0,.int .i64 0,.int .i64 0,.slice none 0 0,.slice none 0 0,.slice none 0 0]) (t:=39) ?_;intro gb2_ hg w2_ hbox hb;replace HS:=aHg HS hg hbox;replace BK1:=aBb BK1 hb;replace HB:=aHB HB hb;have BK2:=A_.mk hbox;clear hbox hb hg))
 refine dN (n:=14) (S:=fun w'=>(w'.cell? ⟨gb1_,0,none⟩=some (.int .i64 a0_0)∧w'.cell? ⟨gb1_,1,none⟩=some (.slice A0_1 l0_1.length c0_1)∧w'.cell? ⟨gb1_,2,none⟩=some (.int .i64 a0_2)∧w'.cell? ⟨gb1_,3,none⟩=some (.int .i64 a0_3)∧w'.cell? ⟨gb1_,4,none⟩=some (.slice A0_4 l0_4.length c0_4)∧w'.cell? ⟨gb1_,5,none⟩=some (.slice A0_5 l0_5.length c0_5)∧w'.cell? ⟨gb1_,6,none⟩=some (.slice A0_6 l0_6.length c0_6))) (ds:=[13]) #[F,F,F,F,F,F,F,F,F,F,F,F,F,F] (by kernel_rfl) rfl rfl (aa BK1.out) (fun hHeld=>?_)
 have hb:=aV (Below.refl w2_.heap.size w2_)
 revert HS BK1 HB BK2
 refine aD hb ?_
 intro HS BK1 HB BK2
 clear hb
 generalize w2_.drew=w8d_ at BK1 BK2 HB HS hHeld ⊢
 refine pd_ (i:=0) (N:=some 3) #[T,F,F,F,F,F,F,F,F,F,F,F,F,F] rfl ?_
 refine tl_ (i:=1) (N:=some 4) #[T,T,F,F,F,F,F,F,F,F,F,F,F,F] rfl hHeld ?_
 refine pd_ (i:=3) (N:=some 6) #[T,T,F,T,F,F,F,F,F,F,F,F,F,F] rfl ?_
 refine tl_ (i:=4) (N:=some 7) #[T,T,F,T,T,F,F,F,F,F,F,F,F,F] rfl hHeld ?_
 refine pd_ (i:=6) (N:=some 9) #[T,T,F,T,T,F,T,F,F,F,F,F,F,F] rfl ?_
 refine tl_ (i:=7) (N:=some 10) #[T,T,F,T,T,F,T,T,F,F,F,F,F,F] rfl hHeld ?_
 refine pd_ (i:=9) (N:=some 12) #[T,T,F,T,T,F,T,T,F,T,F,F,F,F] rfl ?_
 refine tl_ (i:=10) (N:=some 13) #[T,T,F,T,T,F,T,T,F,T,T,F,F,F] rfl hHeld ?_
 refine on_ (i:=2) (N:=some 5) #[T,T,T,T,T,F,T,T,F,T,T,F,F,F] rfl (fun K hK=>?_)
 refine gz_ Tryz.func73 #[.agg #[.int .i64 a0_0,.slice A0_1 l0_1.length c0_1,.int .i64 a0_2]] ?_
 with_reducible refine (bg.calls k a0_0 _ _ l0_1 a0_2 t1 t2 t3 _ (cb_ HR0_1 HB) HC0_1.out A3.out).mono ?_
 rintro e w3_ ⟨f3_,v0_,rfl,ho0_,hb⟩
 refine⟨_,rfl,?_⟩
 replace HS:=aHs HS hb.size
 obtain⟨Ao3_0,co3_0,rfl,HO3_0⟩:=sSn ho0_ HB.out.size
 revert BK1 BK2 HB
 refine aD hb ?_
 intro BK1 BK2 HB
 clear hb ho0_
 refine hK.out _ _ (aa BK1.out) (fun hHeld=>?_)
 clear hK K
 refine nm_ ?_
 refine on_ (i:=5) (N:=some 8) #[T,T,T,T,T,T,T,T,F,T,T,F,F,F] rfl (fun K hK=>?_)
 refine gz_ Tryz.func74 #[.agg #[.int .i64 a0_3,.slice A0_4 l0_4.length c0_4]] ?_
 with_reducible refine (dF.calls k a0_3 _ _ l0_4 t4 t5 _ (cb_ HR0_4 HB) HC0_4.out A4.out).mono ?_
 rintro e w4_ ⟨f4_,v0_,rfl,ho0_,hb⟩
 refine⟨_,rfl,?_⟩
 replace HS:=aHs HS hb.size
 obtain⟨Ao4_0,co4_0,rfl,HO4_0⟩:=sSn ho0_ HB.out.size
 revert HO3_0 BK1 BK2 HB
 refine aD hb ?_
 intro HO3_0 BK1 BK2 HB
 clear hb ho0_
 refine hK.out _ _ (aa BK1.out) (fun hHeld=>?_)
 clear hK K
 refine nm_ ?_
 refine on_ (i:=8) (N:=some 11) #[T,T,T,T,T,T,T,T,T,T,T,F,F,F] rfl (fun K hK=>?_)
 refine gz_ Tryz.func75 #[.slice A0_5 l0_5.length c0_5] ?_
 with_reducible refine (bH.calls k _ _ l0_5 t6 _ (cb_ HR0_5 HB) HC0_5.out A5.out).mono ?_
 rintro e w5_ ⟨v0_,rfl,ho0_,hb⟩
 refine⟨_,rfl,?_⟩
 replace HS:=aHs HS hb.size
 obtain⟨Ao5_0,co5_0,rfl,HO5_0⟩:=sSm ho0_ HB.out.size
 revert HO4_0 HO3_0 BK1 BK2 HB
 refine aD hb ?_
 intro HO4_0 HO3_0 BK1 BK2 HB
 clear hb ho0_
 refine hK.out _ _ (aa BK1.out) (fun hHeld=>?_)
 clear hK K
 refine nm_ ?_
 refine on_ (i:=11) (N:=some 14) #[T,T,T,T,T,T,T,T,T,T,T,T,F,F] rfl (fun K hK=>?_)
 refine gz_ Tryz.func76 #[.slice A0_6 l0_6.length c0_6] ?_
 with_reducible refine (ai.calls _ _ l0_6 t7 _ (cb_ HR0_6 HB) HC0_6.out A6.out).mono ?_
 rintro e w6_ ⟨v0_,rfl,ho0_,hb⟩
 refine⟨_,rfl,?_⟩
 replace HS:=aHs HS hb.size
 obtain⟨Ao6_0,co6_0,rfl,HO6_0⟩:=sRm ho0_ HB.out.size
 revert HO5_0 HO4_0 HO3_0 BK1 BK2 HB
 refine aD hb ?_
 intro HO5_0 HO4_0 HO3_0 BK1 BK2 HB
 clear hb ho0_
 refine hK.out _ _ (aa BK1.out) (fun hHeld=>?_)
 clear hK K
 refine nm_ ?_
 refine pd_ (i:=12) (N:=some 15) #[T,T,T,T,T,T,T,T,T,T,T,T,T,F] rfl ?_
 refine gG (i:=13) (N:=none) #[T,T,T,T,T,T,T,T,T,T,T,T,T,T] rfl rfl (by kernel_rfl) (by decide) (fun K hK=>?_)
 have Q1:=aa BK1.out
 have Q2:=aa BK2.out
 obtain⟨qf0,qf1,qf2,qf3,qf4,qf5,qf6⟩:=gM BK2
 obtain⟨w7_,hw⟩:=lw_ ((iR w6_ gb2_ (.int .i64 t1) (.slice Ao3_0 t2.length co3_0) (.int .i64 t3) (.int .i64 t4) (.slice Ao4_0 t5.length co4_0) (.slice Ao5_0 t6.length co5_0) (.slice Ao6_0 t7.length co6_0)))
 refine fT (w1:=w7_) (by rfl) rfl ?_ ?_
 ·rw [hw];go_simp;try rfl
 refine hK.out _ _ ?_
 clear hK K qf0 qf1 qf2 qf3 qf4 qf5 qf6 Q1 Q2
 obtain⟨hbx,hkp,hbb⟩:=iV hw BK2 HB (ho_ HS)
 clear hw
 revert HO6_0 HO5_0 HO4_0 HO3_0 BK1
 refine bC hkp HS ?_
 intro HO6_0 HO5_0 HO4_0 HO3_0 BK1
 replace BK2:=A_.mk hbx
 replace HB:=A_.mk hbb
 replace HS:=aHs HS hkp.1
 clear hkp hbb hbx
 refine fA (by kernel_rfl) ?_
 go_wp2
 refine bodyPost_ret (results_cell_row rfl _ _ gb2_ 39 _ (0,0) _ rfl BK2.out Tryz.underlying39 rfl (by kernel_rfl)) rfl ?_
 obtain⟨f_,hf_⟩:=mS_ HO3_0 0 (mS_ HO4_0 1 (mS_ HO5_0 2 (mR_ HO6_0 3 (m0_ 0))))
 exact⟨f_,_,_,_,_,rfl,cS_ HO3_0 HS hf_,cS_ HO4_0 HS hf_,cS_ HO5_0 HS hf_,cR_ HO6_0 HS hf_,HB.out⟩
def bE.f(a0:Int)(a1:Int)(a2:Int):Option (Bool):=if a0 ≥ a1 then (some (decide (a0≤a2))) else (some false)
theorem bE.calls(a0:Int)(a1:Int)(a2:Int)(r:Bool)(w:World)(h:bE.f a0 a1 a2=some r) :
  Calls Tryz.prog 83 #[.int .i64 a0,.int .i64 a1,.int .i64 a2] w fun e w'=>e=.returned (.bool r)∧Drawn0 w w':=by
 have H:(if a0 ≥ a1 then (some (decide (a0≤a2))) else (some false))=some r:=h
 clear h
 by_cases c4:a0 ≥ a1
 ·rw [if_pos c4] at H
  have c4b0:=decide_eq_true c4
  clear c4
  obtain rfl:=Option.some.inj H
  go_enter Tryz.func83,Tryz.ntmps83
  go_wp2
  go_ret
  exact dz_
 ·rw [if_neg c4] at H
  have c4b0:=decide_eq_false c4
  clear c4
  obtain rfl:=Option.some.inj H
  go_enter Tryz.func83,Tryz.ntmps83
  go_wp2
  go_ret
  exact dz_
def bB.f(a0:Int):Option (Bool):=(bE.f a0 0 15).bind fun t329=>(some t329)
theorem bB.calls(a0:Int)(r:Bool)(w:World)(h:bB.f a0=some r) :
  Calls Tryz.prog 82 #[.int .i64 a0] w fun e w'=>e=.returned (.bool r)∧Drawn0 w w':=by
 have H:((bE.f a0 0 15).bind fun t329=>(some t329))=some r:=h
 clear h
 replace H:=oa_ H
 obtain⟨t329,A2,H⟩:=H
 obtain rfl:=Option.some.inj H
 go_enter Tryz.func82,Tryz.ntmps82
 go_wp2_with (first|((with_reducible refine gc_ (f:=83) rfl ?_);refine gl_ (some 4) Tryz.func83 #[.int .i64 a0,.int .i64 0,.int .i64 15] ?_;(with_reducible refine (bE.calls a0 0 15 t329 _ A2.out).mono ?_);rintro e w' ⟨rfl,⟨nd,rfl⟩⟩;refine⟨_,rfl,?_⟩))
 go_ret
 exact dz_
def dE.f(a0:Int)(a1:Int):Option (Int):=(bB.f a0).bind fun t330=>(if t330=true then ((bB.f a1).bind fun t331=>(if t331=true then (some (Int.tmod (wrap64 ((wrap64 (a1-a0))+16)) 16)) else (some (-1)))) else (some (-1)))
theorem dE.calls(a0:Int)(a1:Int)(r:Int)(w:World)(h:dE.f a0 a1=some r) :
  Calls Tryz.prog 105 #[.int .i64 a0,.int .i64 a1] w fun e w'=>e=.returned (.int .i64 r)∧Drawn0 w w':=by
 have H:((bB.f a0).bind fun t330=>(if t330=true then ((bB.f a1).bind fun t331=>(if t331=true then (some (Int.tmod (wrap64 ((wrap64 (a1-a0))+16)) 16)) else (some (-1)))) else (some (-1))))=some r:=h
 clear h
 replace H:=oa_ H
 obtain⟨t330,A3,H⟩:=H
 by_cases c4:t330=true
 rotate_left
 ·replace c4:=Bool.eq_false_iff.mpr c4
  subst c4
  have H1:(some (-1))=some r:=by rw [if_neg (show ¬ (false=true) by decide)] at H;exact H
  clear H
  have H:=H1
  clear H1
  obtain rfl:=Option.some.inj H
  go_enter Tryz.func105,Tryz.ntmps105
  go_wp2_with (first|((with_reducible refine gc_ (f:=82) rfl ?_);refine gl_ (some 6) Tryz.func82 #[.int .i64 a0] ?_;(with_reducible refine (bB.calls a0 false _ A3.out).mono ?_);rintro e w' ⟨rfl,⟨nd,rfl⟩⟩;refine⟨_,rfl,?_⟩))
  go_ret
  exact dz_
 subst c4
 have H1:((bB.f a1).bind fun t331=>(if t331=true then (some (Int.tmod (wrap64 ((wrap64 (a1-a0))+16)) 16)) else (some (-1))))=some r:=by rw [if_pos rfl] at H;exact H
 clear H
 have H:=H1
 clear H1
 replace H:=oa_ H
 obtain⟨t331,A5,H⟩:=H
 by_cases c6:t331=true
 rotate_left
 ·replace c6:=Bool.eq_false_iff.mpr c6
  subst c6
  have H1:(some (-1))=some r:=by rw [if_neg (show ¬ (false=true) by decide)] at H;exact H
  clear H
  have H:=H1
  clear H1
  obtain rfl:=Option.some.inj H
  go_enter Tryz.func105,Tryz.ntmps105
  go_wp2_with (first|((with_reducible refine gc_ (f:=82) rfl ?_);refine gl_ (some 6) Tryz.func82 #[.int .i64 a0] ?_;(with_reducible refine (bB.calls a0 true _ A3.out).mono ?_);rintro e w' ⟨rfl,⟨nd,rfl⟩⟩;refine⟨_,rfl,?_⟩)|(go_at_call 82;(with_reducible refine (bB.calls a1 false _ A5.out).mono ?_);rintro e w' ⟨rfl,⟨nd,rfl⟩⟩))
  go_ret
  exact dz_
 subst c6
 have H1:(some (Int.tmod (wrap64 ((wrap64 (a1-a0))+16)) 16))=some r:=by rw [if_pos rfl] at H;exact H
 clear H
 have H:=H1
 clear H1
 obtain rfl:=Option.some.inj H
 go_enter Tryz.func105,Tryz.ntmps105
 go_wp2_with (first|((with_reducible refine gc_ (f:=82) rfl ?_);refine gl_ (some 6) Tryz.func82 #[.int .i64 a0] ?_;(with_reducible refine (bB.calls a0 true _ A3.out).mono ?_);rintro e w' ⟨rfl,⟨nd,rfl⟩⟩;refine⟨_,rfl,?_⟩)|(go_at_call 82;(with_reducible refine (bB.calls a1 true _ A5.out).mono ?_);rintro e w' ⟨rfl,⟨nd,rfl⟩⟩))
 go_ret
 exact dz_
def iW.f(a0:Int):Option (Bool):=(bE.f a0 0 255).bind fun t332=>(some t332)
theorem iW.calls(a0:Int)(r:Bool)(w:World)(h:iW.f a0=some r) :
  Calls Tryz.prog 122 #[.int .i64 a0] w fun e w'=>e=.returned (.bool r)∧Drawn0 w w':=by
 have H:((bE.f a0 0 255).bind fun t332=>(some t332))=some r:=h
 clear h
 replace H:=oa_ H
 obtain⟨t332,A2,H⟩:=H
 obtain rfl:=Option.some.inj H
 go_enter Tryz.func122,Tryz.ntmps122
 go_wp2_with (first|((with_reducible refine gc_ (f:=83) rfl ?_);refine gl_ (some 4) Tryz.func83 #[.int .i64 a0,.int .i64 0,.int .i64 255] ?_;(with_reducible refine (bE.calls a0 0 255 t332 _ A2.out).mono ?_);rintro e w' ⟨rfl,⟨nd,rfl⟩⟩;refine⟨_,rfl,?_⟩))
 go_ret
 exact dz_
def fK.f(a0:Int):Option (Bool):=(iW.f a0).bind fun t333=>(some (!t333))
theorem fK.calls(a0:Int)(r:Bool)(w:World)(h:fK.f a0=some r) :
  Calls Tryz.prog 121 #[.int .i64 a0] w fun e w'=>e=.returned (.bool r)∧Drawn0 w w':=by
 have H:((iW.f a0).bind fun t333=>(some (!t333)))=some r:=h
 clear h
 replace H:=oa_ H
 obtain⟨t333,A2,H⟩:=H
 obtain rfl:=Option.some.inj H
 go_enter Tryz.func121,Tryz.ntmps121
 go_wp2_with (first|((with_reducible refine gc_ (f:=122) rfl ?_);refine gl_ (some 4) Tryz.func122 #[.int .i64 a0] ?_;(with_reducible refine (iW.calls a0 t333 _ A2.out).mono ?_);rintro e w' ⟨rfl,⟨nd,rfl⟩⟩;refine⟨_,rfl,?_⟩))
 go_ret
 exact dz_
def ag.l0:Nat→List Int→Int→Int→Option (Int)
 | 0,_,_,_=>none
 | k+1,x0,x7,x8=>if x8<x7 then (if 0≤x8 then (if x8<(x0.length:Int) then ((fK.f (rd x0 x8)).bind fun t335=>(if t335=true then (some x8) else (ag.l0 k x0 x7 (wrap64 (x8+1))))) else (none)) else (none)) else (some (-1))
def ag.f(k:Nat)(l0:List Int)  : Option (Int):=ag.l0 k l0 (l0.length:Int) 0
theorem ag.calls(k:Nat)(A0:Option Addr)(c0:Nat)(l0:List Int)  (r:Int)(w:World)(hr0:Kd.C (Kd.int .i64) w A0 l0.length l0)(hc0:l0.length≤c0)(h:ag.f k l0=some r) :
  Calls Tryz.prog 109 #[.slice A0 l0.length c0,.func (.func 121) #[] #[]] w fun e w'=>e=.returned (.int .i64 r)∧Drawn0 w w':=by
 have HR0:=A_.mk hr0
 have HC0:=A_.mk hc0
 clear hr0 hc0
 have H:(ag.l0 k l0 (l0.length:Int) 0)=some r:=h
 clear h
 have H':=A_.mk H
 clear H
 go_enter Tryz.func109,Tryz.ntmps109
 go_wp2
 go_loopg [8] k (fun kq v8 w'=>∃ (x8_1:Int),v8=.int .i64 x8_1∧A_ (ag.l0 kq l0 (l0.length:Int) x8_1=some r)∧A_ (kq≤k)∧Drawn0 w w')
 case atStart=>exact ⟨(0),rs_,H',⟨Nat.le_refl _⟩,by repeat (first|exact Drawn0.refl _|apply Drawn0.step)⟩
 case round =>
  clear H'
  obtain⟨x8_1,rfl,HA,HK1,⟨m1,rfl⟩⟩:=hrel
  cases gk with
  | zero=>exact absurd HA.out (by simp [ag.l0])
  | succ k1 =>
   have H:=HA.out
   clear HA
   simp only [ag.l0] at H
   by_cases c3:x8_1<(l0.length:Int)
   rotate_left
   ·rw [if_neg c3] at H
    have c3b0:=decide_eq_false c3
    clear c3
    obtain rfl:=Option.some.inj H
    go_wp2
    go_ret
    exact dz_
   rw [if_pos c3] at H
   have c3b0:=decide_eq_true c3
   clear c3
   by_cases c4:0≤x8_1
   rotate_left
   ·rw [if_neg c4] at H
    exact absurd H (by simp)
   rw [if_pos c4] at H
   have c4b0:=decide_eq_true c4
   clear c4
   by_cases c5:x8_1<(l0.length:Int)
   rotate_left
   ·rw [if_neg c5] at H
    exact absurd H (by simp)
   rw [if_pos c5] at H
   have c5b0:=decide_eq_true c5
   clear c5
   replace H:=oa_ H
   obtain⟨t335,A6,H⟩:=H
   by_cases c7:t335=true
   ·subst c7
    have H1:(some x8_1)=some r:=by rw [if_pos rfl] at H;exact H
    clear H
    have H:=H1
    clear H1
    obtain rfl:=Option.some.inj H
    have p334:0≤(x8_1:Int):=od_
    have q334:x8_1<(l0.length:Int):=od_
    obtain⟨ad334,e334,hx334_0⟩:=Kd.d9 HR0.out x8_1 p334 q334
    cases e334
    replace p334:=eq_true p334
    replace q334:=eq_true q334
    go_wp2_with (first|(go_at_call 121;(with_reducible refine (fK.calls (rd l0 x8_1) true _ A6.out).mono ?_);rintro e w' ⟨rfl,⟨nd,rfl⟩⟩))
    go_ret
    exact dz_
   replace c7:=Bool.eq_false_iff.mpr c7
   subst c7
   have H1:(ag.l0 k1 l0 (l0.length:Int) (wrap64 (x8_1+1)))=some r:=by rw [if_neg (show ¬ (false=true) by decide)] at H;exact H
   clear H
   have H:=H1
   clear H1
   have H':=A_.mk H
   clear H
   have p334:0≤(x8_1:Int):=od_
   have q334:x8_1<(l0.length:Int):=od_
   obtain⟨ad334,e334,hx334_0⟩:=Kd.d9 HR0.out x8_1 p334 q334
   cases e334
   replace p334:=eq_true p334
   replace q334:=eq_true q334
   go_wp2_with (first|(go_at_call 121;(with_reducible refine (fK.calls (rd l0 x8_1) false _ A6.out).mono ?_);rintro e w' ⟨rfl,⟨nd,rfl⟩⟩))
   go_roundg k1
   case measure=>have:=HK1.out;omega
   case rel=>exact ⟨(wrap64 (x8_1+1)),rs_,H',⟨by have:=HK1.out;omega⟩,by repeat (first|exact Drawn0.refl _|apply Drawn0.step)⟩
def aT.f(k:Nat)(l0:List Int)  : Option (Bool):=(ag.f k l0).bind fun t336=>(some (decide (t336 ≥ 0)))
theorem aT.calls(k:Nat)(A0:Option Addr)(c0:Nat)(l0:List Int)  (r:Bool)(w:World)(hr0:Kd.C (Kd.int .i64) w A0 l0.length l0)(hc0:l0.length≤c0)(h:aT.f k l0=some r) :
  Calls Tryz.prog 80 #[.slice A0 l0.length c0,.func (.func 121) #[] #[]] w fun e w'=>e=.returned (.bool r)∧Drawn0 w w':=by
 have HR0:=A_.mk hr0
 have HC0:=A_.mk hc0
 clear hr0 hc0
 have H:((ag.f k l0).bind fun t336=>(some (decide (t336 ≥ 0))))=some r:=h
 clear h
 replace H:=oa_ H
 obtain⟨t336,A3,H⟩:=H
 obtain rfl:=Option.some.inj H
 go_enter Tryz.func80,Tryz.ntmps80
 go_wp2_with (first|((with_reducible refine gc_ (f:=109) rfl ?_);refine gl_ (some 7) Tryz.func109 #[.slice A0 l0.length c0,.func (.func 121) #[] #[]] ?_;(with_reducible refine (ag.calls k _ _ l0  t336 _ ?side1 ?side2 A3.out).mono ?_);(case side1=>exact cY (HR0.out));(case side2=>exact HC0.out);rintro e w' ⟨rfl,⟨nd,rfl⟩⟩;refine⟨_,rfl,?_⟩))
 go_ret
 exact dz_
def bf.f(k:Nat)(l0:List Int):Option (Bool):=if (l0.length:Int)≤40 then ((aT.f k l0).bind fun t337=>(some (!t337))) else (some false)
theorem bf.calls(k:Nat)(A0:Option Addr)(c0:Nat)(l0:List Int)(r:Bool)(w:World)(hr0:Kd.C (Kd.int .i64) w A0 l0.length l0)(hc0:l0.length≤c0)(h:bf.f k l0=some r) :
  Calls Tryz.prog 106 #[.slice A0 l0.length c0] w fun e w'=>e=.returned (.bool r)∧Drawn0 w w':=by
 have HR0:=A_.mk hr0
 have HC0:=A_.mk hc0
 clear hr0 hc0
 have H:(if (l0.length:Int)≤40 then ((aT.f k l0).bind fun t337=>(some (!t337))) else (some false))=some r:=h
 clear h
 by_cases c2:(l0.length:Int)≤40
 ·rw [if_pos c2] at H
  have c2b0:=decide_eq_true c2
  have c2b1:decide (l0.length≤40)=true:=decide_eq_true (by omega)
  clear c2
  replace H:=oa_ H
  obtain⟨t337,A3,H⟩:=H
  obtain rfl:=Option.some.inj H
  go_enter Tryz.func106,Tryz.ntmps106
  go_wp2_with (first|(go_at_call 80;(with_reducible refine (aT.calls k _ _ l0  t337 _ ?side1 ?side2 A3.out).mono ?_);(case side1=>exact cY (HR0.out));(case side2=>exact HC0.out);rintro e w' ⟨rfl,⟨nd,rfl⟩⟩))
  go_ret
  exact dz_
 ·rw [if_neg c2] at H
  have c2b0:=decide_eq_false c2
  have c2b1:decide (l0.length≤40)=false:=decide_eq_false (by omega)
  clear c2
  obtain rfl:=Option.some.inj H
  go_enter Tryz.func106,Tryz.ntmps106
  go_wp2
  go_ret
  exact dz_
def aY.l4:Nat→(List (S68))→(Int)→(Bool)→(Int)→Option ((Bool)×(Bool)×(Int))
 | 0,_,_,_,_=>none
 | k+1,l0_1,a0_0,x4_s2,x4_s27=>(if x4_s27<(l0_1.length:Int) then (if 0≤x4_s27 then (if x4_s27<(l0_1.length:Int) then ((dE.f ((ay l0_1 x4_s27).f0) a0_0).bind fun t3=>(if t3=(wrap64 ((l0_1.length:Int)-x4_s27)) then ((bf.f k ((ay l0_1 x4_s27).f1)).bind fun t4=>(if t4=true then (aY.l4 k l0_1 a0_0 x4_s2 (wrap64 (x4_s27+1))) else (some (false,x4_s2,x4_s27)))) else (some (false,x4_s2,x4_s27)))) else none) else none) else (some (true,x4_s2,x4_s27)))
def aY.f(k:Nat)(a0_0:Int)(l0_1:List (S68))(a0_2:Int):Option ((Bool)):=((bB.f a0_0).bind fun t1=>(if t1=true then (if 7<(l0_1.length:Int) then (some (false)) else ((bE.f a0_2 0 (l0_1.length:Int)).bind fun t2=>(if t2=true then ((aY.l4 k l0_1 a0_0 false 0).bind fun ⟨z4_b,z4_s2,z4_s27⟩=>(if z4_b=true then (some (true)) else (some (false)))) else (some (false))))) else (some (false))))
theorem aY.calls(k:Nat)(a0_0:Int)(A0_1:Option Addr)(c0_1:Nat)(l0_1:List (S68))(a0_2:Int)(r:Bool)(w:World)(hr0_1:Kd.C k68 w A0_1 l0_1.length l0_1)(hc0_1:l0_1.length≤c0_1)(h:aY.f k a0_0 l0_1 a0_2=some r) :
  Calls Tryz.prog 77 #[.agg #[.int .i64 a0_0,.slice A0_1 l0_1.length c0_1,.int .i64 a0_2]] w fun e w'=>e=.returned (.bool r)∧Below w.heap.size w w':=by
 have HR0_1:=A_.mk hr0_1
 have HC0_1:=A_.mk hc0_1
 have HW0_1:=A_.mk hr0_1
 clear hr0_1 hc0_1
 have HB:=A_.mk (Below.refl w.heap.size w)
 unfold aY.f at h
 have H:=h
 clear h
 replace H:=oa_ H
 obtain⟨t1,A2,H⟩:=H
 replace H:=A_.mk H
 have hu36:=Tryz.underlying36
 have hu68:=Tryz.underlying68
 go_enter Tryz.func77,Tryz.ntmps77
 have HS:=A_.mk (Nat.le_refl w.heap.size)
 go_wp2_with (first|((with_reducible refine gd_ (N:=1) rfl ?_);refine by_ 1 (cs:=#[.int .i64 a0_0,.slice A0_1 l0_1.length c0_1,.int .i64 a0_2]) (t:=36) ?_;intro gb1_ hg w1_ hbox hb;replace HS:=aHg HS hg hbox;replace HB:=aHB HB hb;have BK1:=A_.mk hbox;clear hbox hb hg;have Q1:=av BK1.out))
 refine(bB.calls a0_0 t1 _ A2.out).mono ?_
 rintro e w2_ ⟨rfl,hb⟩
 replace hb:=Drawn0.below hb
 replace HS:=aHs HS hb.size
 replace BK1:=aBb BK1 hb
 replace HB:=aHB HB hb
 clear hb  Q1
 have Q1:=av BK1.out
 replace H:=H.out
 by_cases hc1_:t1=true
 case neg =>
  rw [if_neg hc1_] at H
  replace hc1_:=eq_false_of_ne_true hc1_
  subst hc1_
  replace H:=Option.some.inj H
  subst H
  go_wp2
  go_ret
  exact⟨rfl,HB.out⟩
 rw [if_pos hc1_] at H
 subst hc1_
 by_cases hc2_:7<(l0_1.length:Int)
 case pos =>
  rw [if_pos hc2_] at H
  have hc2_b0:=decide_eq_true hc2_
  have hc2_b1:decide (7<l0_1.length)=true:=decide_eq_true (by omega)
  replace hc2_:=A_.mk hc2_
  replace H:=Option.some.inj H
  subst H
  go_wp2
  go_ret
  exact⟨rfl,HB.out⟩
 rw [if_neg hc2_] at H
 have hc2_b0:=decide_eq_false hc2_
 have hc2_b1:decide (7<l0_1.length)=false:=decide_eq_false (by omega)
 replace hc2_:=A_.mk hc2_
 replace H:=oa_ H
 obtain⟨t2,A3,H⟩:=H
 replace H:=A_.mk H
 go_wp2_with (fail)
 refine(bE.calls a0_2 0 (l0_1.length:Int) t2 _ A3.out).mono ?_
 rintro e w3_ ⟨rfl,hb⟩
 replace hb:=Drawn0.below hb
 replace HS:=aHs HS hb.size
 replace BK1:=aBb BK1 hb
 replace HB:=aHB HB hb
 clear hb  Q1
 have Q1:=av BK1.out
 replace H:=H.out
 by_cases hc3_:t2=true
 case neg =>
  rw [if_neg hc3_] at H
  replace hc3_:=eq_false_of_ne_true hc3_
  subst hc3_
  replace H:=Option.some.inj H
  subst H
  go_wp2
  go_ret
  exact⟨rfl,HB.out⟩
 rw [if_pos hc3_] at H
 subst hc3_
 replace H:=ob_ H
 obtain⟨⟨z4_b,z4_s2,z4_s27⟩,AL_,H⟩:=H
 have HRL4:=A_.mk H
 have AL4:=A_.mk AL_
 clear H AL_
 go_wp2
 obtain⟨fp10_,hfp_⟩:=m0_ 0
 have hfb1_:fp10_ gb1_=0:=hfp_ _
 go_loopg [2,27] k (fun kq v2 v27 w'=>∃ (fx4_:Nat→Nat)   (x4_s2:Bool) (x4_s27:Int),v2=.bool x4_s2∧v27=.int .i64 x4_s27∧A_ (aY.l4 kq l0_1 a0_0 x4_s2 x4_s27=some (z4_b,z4_s2,z4_s27))∧A_ (kq≤k)∧A_ (w'.heap[gb1_]?=some (.cells #[.int .i64 a0_0,.slice A0_1 l0_1.length c0_1,.int .i64 a0_2] 36 (0,0)))∧A_ (0≤fx4_ gb1_)∧A_ (Below w.heap.size w w')∧A_ (w3_.heap.size≤w'.heap.size))
 case atStart=>exact ⟨fp10_,false,0,rs_,rs_,AL4,⟨Nat.le_refl _⟩,BK1,⟨Nat.le_of_eq hfb1_.symm⟩,HB,⟨Nat.le_refl _⟩⟩
 case round =>
  clear AL4 HB BK1 Q1 hfp_ hfb1_
  obtain⟨fx4_,x4_s2,x4_s27,rfl,rfl,HA,HKL4,BK1,HG1_,HB,HSL_⟩:=hrel
  rename World=>wq4_
  replace HS:=aHs HS HSL_.out
  clear HSL_
  replace HS:=aHs HS HG1_.out
  clear HG1_
  cases gk with
  | zero=>exact absurd HA.out (by simp [aY.l4])
  | succ kq4_ =>
   have H:=HA.out
   clear HA
   simp only [aY.l4] at H
   have Q1:=av BK1.out
   by_cases hc4_:x4_s27<(l0_1.length:Int)
   case neg =>
    rw [if_neg hc4_] at H
    have hc4_b0:=decide_eq_false hc4_
    have hc4_b1:decide (x4_s27<l0_1.length)=false:=decide_eq_false (by omega)
    replace H:=jE H
    obtain⟨rfl,rfl,rfl⟩:=H
    have H:=HRL4.out
    clear HRL4
    (try dsimp only at H)
    rw [if_pos rfl] at H
    replace H:=Option.some.inj H
    subst H
    go_wp2
    go_ret
    exact⟨rfl,HB.out⟩
   rw [if_pos hc4_] at H
   have hc4_b0:=decide_eq_true hc4_
   have hc4_b1:decide (x4_s27<l0_1.length)=true:=decide_eq_true (by omega)
   replace H:=ky H
   obtain⟨hp5_,hq5_,H⟩:=H
   have EB5:=A_.mk (And.intro hp5_ hq5_)
   obtain⟨ad5_,A5_1,c5_1,eA_,hx0_,hx1_,hl1_,hi1_⟩:=iq HW0_1.out x4_s27 hp5_ hq5_
   subst eA_
   have HX5:=A_.mk (And.intro hx0_ hx1_)
   have HE5_1:=A_.mk hi1_
   have HD5_1:=A_.mk hl1_
   clear hx0_ hx1_ hl1_ hi1_
   replace hp5_:=eq_true hp5_
   replace hq5_:=eq_true hq5_
   replace H:=oa_ H
   obtain⟨t3,A8,H⟩:=H
   replace H:=A_.mk H
   clear Q1
   have QE5:=oJ HB.out HX5.out
   go_wp2_with (first|((with_reducible refine gd_ (N:=5) rfl ?_);refine by_ 5 (cs:=#[.int .i64 0,.slice none 0 0]) (t:=68) ?_;intro gb6_ hg w6_ hbox hb;replace HS:=aHg HS hg hbox;replace BK1:=aBb BK1 hb;replace HB:=aHB HB hb;have BK6:=A_.mk hbox;clear hbox hb hg QE5;have Q6:=ak BK6.out;have QE5:=oJ HB.out HX5.out)|((with_reducible refine ae (t:=68) (p:=5) rfl ?_);obtain⟨qf0,qf1⟩:=dO BK6;refine so_ (w1:=(jv w6_ gb6_ (.int .i64 ((ay l0_1 x4_s27).f0)) (.slice A5_1 ((ay l0_1 x4_s27).f1).length c5_1))) ?_;intro w7_ hw;clear qf0 qf1;obtain⟨hbx,hkp,hbb⟩:=jA hw BK6 HB (ho_ HS);clear hw;replace BK1:=aBk BK1 hkp HS;replace BK6:=A_.mk hbx;replace HB:=A_.mk hbb;replace HS:=aHs HS hkp.1;clear hkp hbb hbx Q6 QE5;have Q1:=av BK1.out;have Q6:=ak BK6.out;have QE5:=oJ HB.out HX5.out))
   refine(dE.calls ((ay l0_1 x4_s27).f0) a0_0 t3 _ A8.out).mono ?_
   rintro e w8_ ⟨rfl,hb⟩
   replace hb:=Drawn0.below hb
   revert BK1 BK6 HB HS
   refine aD hb ?_
   intro BK1 BK6 HB HS
   clear hb  Q1 Q6 QE5
   have Q1:=av BK1.out
   have Q6:=ak BK6.out
   have QE5:=oJ HB.out HX5.out
   replace H:=H.out
   by_cases hc5_:t3=(wrap64 ((l0_1.length:Int)-x4_s27))
   case neg =>
    rw [if_neg hc5_] at H
    have hc5_b:=iE hc5_
    replace H:=jE H
    obtain⟨rfl,rfl,rfl⟩:=H
    have H:=HRL4.out
    clear HRL4
    (try dsimp only at H)
    rw [if_neg (by decide)] at H
    replace H:=Option.some.inj H
    subst H
    go_wp2
    go_ret
    exact⟨rfl,HB.out⟩
   rw [if_pos hc5_] at H
   replace hc5_:=iF hc5_
   replace H:=oa_ H
   obtain⟨t4,A9,H⟩:=H
   replace H:=A_.mk H
   go_wp2_with (fail)
   refine(bf.calls kq4_ _ _ ((ay l0_1 x4_s27).f1) t4 _ (cb_ HE5_1 HB) HD5_1.out A9.out).mono ?_
   rintro e w9_ ⟨rfl,hb⟩
   replace hb:=Drawn0.below hb
   replace HS:=aHs HS hb.size
   replace BK1:=aBb BK1 hb
   replace HB:=aHB HB hb
   clear hb  Q1 Q6 QE5
   have Q1:=av BK1.out
   replace H:=H.out
   by_cases hc6_:t4=true
   case pos =>
    rw [if_pos hc6_] at H
    subst hc6_
    have HA:=A_.mk H
    clear H
    go_wp2
    obtain⟨fp11_,hfp_⟩:=m0_ 0
    have hfb1_:fp11_ gb1_=0:=hfp_ _
    go_roundg kq4_
    case measure=>have:=HKL4.out;omega
    case rel=>exact ⟨fp11_,x4_s2,(wrap64 (x4_s27+1)),rs_,rs_,HA,⟨by have:=HKL4.out;omega⟩,BK1,⟨Nat.le_of_eq hfb1_.symm⟩,HB,⟨(ho_ HS)⟩⟩
   rw [if_neg hc6_] at H
   replace hc6_:=eq_false_of_ne_true hc6_
   subst hc6_
   replace H:=jE H
   obtain⟨rfl,rfl,rfl⟩:=H
   have H:=HRL4.out
   clear HRL4
   (try dsimp only at H)
   rw [if_neg (by decide)] at H
   replace H:=Option.some.inj H
   subst H
   go_wp2
   go_ret
   exact⟨rfl,HB.out⟩
def fJ.f(k:Nat)(l0:List Int):Option (Bool):=(bf.f k l0).bind fun t338=>(some (!t338))
theorem fJ.calls(k:Nat)(A0:Option Addr)(c0:Nat)(l0:List Int)(r:Bool)(w:World)(hr0:Kd.C (Kd.int .i64) w A0 l0.length l0)(hc0:l0.length≤c0)(h:fJ.f k l0=some r) :
  Calls Tryz.prog 108 #[.slice A0 l0.length c0] w fun e w'=>e=.returned (.bool r)∧Drawn0 w w':=by
 have HR0:=A_.mk hr0
 have HC0:=A_.mk hc0
 clear hr0 hc0
 have H:((bf.f k l0).bind fun t338=>(some (!t338)))=some r:=h
 clear h
 replace H:=oa_ H
 obtain⟨t338,A2,H⟩:=H
 obtain rfl:=Option.some.inj H
 go_enter Tryz.func108,Tryz.ntmps108
 go_wp2_with (first|((with_reducible refine gc_ (f:=106) rfl ?_);refine gl_ (some 4) Tryz.func106 #[.slice A0 l0.length c0] ?_;(with_reducible refine (bf.calls k _ _ l0 t338 _ ?side1 ?side2 A2.out).mono ?_);(case side1=>exact cY (HR0.out));(case side2=>exact HC0.out);rintro e w' ⟨rfl,⟨nd,rfl⟩⟩;refine⟨_,rfl,?_⟩))
 go_ret
 exact dz_
def af.l0:Nat→List (List Int)→Int→Int→Option (Int)
 | 0,_,_,_=>none
 | k+1,x0,x7,x8=>if x8<x7 then (if 0≤x8 then (if x8<(x0.length:Int) then ((fJ.f k (dD x0 x8)).bind fun t340=>(if t340=true then (some x8) else (af.l0 k x0 x7 (wrap64 (x8+1))))) else (none)) else (none)) else (some (-1))
def af.f(k:Nat)(l0:List (List Int))  : Option (Int):=af.l0 k l0 (l0.length:Int) 0
theorem af.calls(k:Nat)(A0:Option Addr)(c0:Nat)(l0:List (List Int))  (r:Int)(w:World)(hr0:Kd.C (Kd.slice 3 (Kd.int .i64)) w A0 l0.length l0)(hc0:l0.length≤c0)(h:af.f k l0=some r) :
  Calls Tryz.prog 123 #[.slice A0 l0.length c0,.func (.func 108) #[] #[]] w fun e w'=>e=.returned (.int .i64 r)∧Drawn0 w w':=by
 have HR0:=A_.mk hr0
 have HC0:=A_.mk hc0
 clear hr0 hc0
 have H:(af.l0 k l0 (l0.length:Int) 0)=some r:=h
 clear h
 have H':=A_.mk H
 clear H
 go_enter Tryz.func123,Tryz.ntmps123
 go_wp2
 go_loopg [8] k (fun kq v8 w'=>∃ (x8_1:Int),v8=.int .i64 x8_1∧A_ (af.l0 kq l0 (l0.length:Int) x8_1=some r)∧A_ (kq≤k)∧Drawn0 w w')
 case atStart=>exact ⟨(0),rs_,H',⟨Nat.le_refl _⟩,by repeat (first|exact Drawn0.refl _|apply Drawn0.step)⟩
 case round =>
  clear H'
  obtain⟨x8_1,rfl,HA,HK1,⟨m1,rfl⟩⟩:=hrel
  cases gk with
  | zero=>exact absurd HA.out (by simp [af.l0])
  | succ k1 =>
   have H:=HA.out
   clear HA
   simp only [af.l0] at H
   by_cases c3:x8_1<(l0.length:Int)
   rotate_left
   ·rw [if_neg c3] at H
    have c3b0:=decide_eq_false c3
    clear c3
    obtain rfl:=Option.some.inj H
    go_wp2
    go_ret
    exact dz_
   rw [if_pos c3] at H
   have c3b0:=decide_eq_true c3
   clear c3
   by_cases c4:0≤x8_1
   rotate_left
   ·rw [if_neg c4] at H
    exact absurd H (by simp)
   rw [if_pos c4] at H
   have c4b0:=decide_eq_true c4
   clear c4
   by_cases c5:x8_1<(l0.length:Int)
   rotate_left
   ·rw [if_neg c5] at H
    exact absurd H (by simp)
   rw [if_pos c5] at H
   have c5b0:=decide_eq_true c5
   clear c5
   replace H:=oa_ H
   obtain⟨t340,A6,H⟩:=H
   by_cases c7:t340=true
   ·subst c7
    have H1:(some x8_1)=some r:=by rw [if_pos rfl] at H;exact H
    clear H
    have H:=H1
    clear H1
    obtain rfl:=Option.some.inj H
    have p339:0≤(x8_1:Int):=od_
    have q339:x8_1<(l0.length:Int):=od_
    obtain⟨ad339,A339_0,c339_0,e339,hx339_0,hl339_0,hi339_0⟩:=ko HR0.out x8_1 p339 q339
    cases e339
    have HR339_0:=A_.mk hi339_0
    have HC339_0:=A_.mk hl339_0
    clear hi339_0 hl339_0
    replace p339:=eq_true p339
    replace q339:=eq_true q339
    go_wp2_with (first|(go_at_call 108;(with_reducible refine (fJ.calls k1 _ _ (dD l0 x8_1) true _ ?side1 ?side2 A6.out).mono ?_);(case side1=>exact cY (HR339_0.out));(case side2=>exact HC339_0.out);rintro e w' ⟨rfl,⟨nd,rfl⟩⟩))
    go_ret
    exact dz_
   replace c7:=Bool.eq_false_iff.mpr c7
   subst c7
   have H1:(af.l0 k1 l0 (l0.length:Int) (wrap64 (x8_1+1)))=some r:=by rw [if_neg (show ¬ (false=true) by decide)] at H;exact H
   clear H
   have H:=H1
   clear H1
   have H':=A_.mk H
   clear H
   have p339:0≤(x8_1:Int):=od_
   have q339:x8_1<(l0.length:Int):=od_
   obtain⟨ad339,A339_0,c339_0,e339,hx339_0,hl339_0,hi339_0⟩:=ko HR0.out x8_1 p339 q339
   cases e339
   have HR339_0:=A_.mk hi339_0
   have HC339_0:=A_.mk hl339_0
   clear hi339_0 hl339_0
   replace p339:=eq_true p339
   replace q339:=eq_true q339
   go_wp2_with (first|(go_at_call 108;(with_reducible refine (fJ.calls k1 _ _ (dD l0 x8_1) false _ ?side1 ?side2 A6.out).mono ?_);(case side1=>exact cY (HR339_0.out));(case side2=>exact HC339_0.out);rintro e w' ⟨rfl,⟨nd,rfl⟩⟩))
   go_roundg k1
   case measure=>have:=HK1.out;omega
   case rel=>exact ⟨(wrap64 (x8_1+1)),rs_,H',⟨by have:=HK1.out;omega⟩,by repeat (first|exact Drawn0.refl _|apply Drawn0.step)⟩
def aU.f(k:Nat)(l0:List (List Int))  : Option (Bool):=(af.f k l0).bind fun t341=>(some (decide (t341 ≥ 0)))
theorem aU.calls(k:Nat)(A0:Option Addr)(c0:Nat)(l0:List (List Int))  (r:Bool)(w:World)(hr0:Kd.C (Kd.slice 3 (Kd.int .i64)) w A0 l0.length l0)(hc0:l0.length≤c0)(h:aU.f k l0=some r) :
  Calls Tryz.prog 107 #[.slice A0 l0.length c0,.func (.func 108) #[] #[]] w fun e w'=>e=.returned (.bool r)∧Drawn0 w w':=by
 have HR0:=A_.mk hr0
 have HC0:=A_.mk hc0
 clear hr0 hc0
 have H:((af.f k l0).bind fun t341=>(some (decide (t341 ≥ 0))))=some r:=h
 clear h
 replace H:=oa_ H
 obtain⟨t341,A3,H⟩:=H
 obtain rfl:=Option.some.inj H
 go_enter Tryz.func107,Tryz.ntmps107
 go_wp2_with (first|((with_reducible refine gc_ (f:=123) rfl ?_);refine gl_ (some 7) Tryz.func123 #[.slice A0 l0.length c0,.func (.func 108) #[] #[]] ?_;(with_reducible refine (af.calls k _ _ l0  t341 _ ?side1 ?side2 A3.out).mono ?_);(case side1=>exact cY (HR0.out));(case side2=>exact HC0.out);rintro e w' ⟨rfl,⟨nd,rfl⟩⟩;refine⟨_,rfl,?_⟩))
 go_ret
 exact dz_
def dz.f(k:Nat)(l0:List (List Int)):Option (Bool):=(aU.f k l0).bind fun t342=>(some (!t342))
theorem dz.calls(k:Nat)(A0:Option Addr)(c0:Nat)(l0:List (List Int))(r:Bool)(w:World)(hr0:Kd.C (Kd.slice 3 (Kd.int .i64)) w A0 l0.length l0)(hc0:l0.length≤c0)(h:dz.f k l0=some r) :
  Calls Tryz.prog 79 #[.slice A0 l0.length c0] w fun e w'=>e=.returned (.bool r)∧Drawn0 w w':=by
 have HR0:=A_.mk hr0
 have HC0:=A_.mk hc0
 clear hr0 hc0
 have H:((aU.f k l0).bind fun t342=>(some (!t342)))=some r:=h
 clear h
 replace H:=oa_ H
 obtain⟨t342,A2,H⟩:=H
 obtain rfl:=Option.some.inj H
 go_enter Tryz.func79,Tryz.ntmps79
 go_wp2_with (first|((with_reducible refine gc_ (f:=107) rfl ?_);refine gl_ (some 4) Tryz.func107 #[.slice A0 l0.length c0,.func (.func 108) #[] #[]] ?_;(with_reducible refine (aU.calls k _ _ l0  t342 _ ?side1 ?side2 A2.out).mono ?_);(case side1=>exact cY (HR0.out));(case side2=>exact HC0.out);rintro e w' ⟨rfl,⟨nd,rfl⟩⟩;refine⟨_,rfl,?_⟩))
 go_ret
 exact dz_
def bL.f(k:Nat)(a0_0:Int)(l0_1:List (List Int)):Option (Bool):=(bB.f a0_0).bind fun t344=>(if t344=true then (if (l0_1.length:Int)≤1000 then ((dz.f k l0_1).bind fun t345=>(some t345)) else (some false)) else (some false))
theorem bL.calls(k:Nat)(a0_0:Int)(A0_1:Option Addr)(c0_1:Nat)(l0_1:List (List Int))(r:Bool)(w:World)(hr0_1:Kd.C (Kd.slice 3 (Kd.int .i64)) w A0_1 l0_1.length l0_1)(hc0_1:l0_1.length≤c0_1)(h:bL.f k a0_0 l0_1=some r) :
  Calls Tryz.prog 78 #[.agg #[.int .i64 a0_0,.slice A0_1 l0_1.length c0_1]] w fun e w'=>e=.returned (.bool r)∧Below w.heap.size w w':=by
 have hu37:=Tryz.underlying37
 have HR0_1:=A_.mk hr0_1
 have HC0_1:=A_.mk hc0_1
 clear hr0_1 hc0_1
 have HB:=A_.mk (Below.refl w.heap.size w)
 have H:((bB.f a0_0).bind fun t344=>(if t344=true then (if (l0_1.length:Int)≤1000 then ((dz.f k l0_1).bind fun t345=>(some t345)) else (some false)) else (some false)))=some r:=h
 clear h
 replace H:=oa_ H
 obtain⟨t344,A2,H⟩:=H
 by_cases c3:t344=true
 rotate_left
 ·replace c3:=Bool.eq_false_iff.mpr c3
  subst c3
  have H1:(some false)=some r:=by rw [if_neg (show ¬ (false=true) by decide)] at H;exact H
  clear H
  have H:=H1
  clear H1
  obtain rfl:=Option.some.inj H
  go_enter Tryz.func78,Tryz.ntmps78
  go_wp2_with (first|((with_reducible refine gd_ (N:=1) rfl ?_);(try (refine bn (by rfl) ?_;dsimp only));refine by_ 1 (cs:=#[.int .i64 a0_0,.slice A0_1 l0_1.length c0_1]) (t:=37) ?_;intro gb343 hg w10 hbox hb;have n0_:=A_.mk (bt_ (beY HB.out) hb);have n1_:=A_.mk (hbox);have n2_:=A_.mk ((by rw [hg];exact(bz_ (beY HB.out)):w.heap.size≤gb343));have n3_:=A_.mk ((by rw [hg];exact(bz_ (beY HB.out)):w.heap.size≤gb343));clear HB;have HB:=n0_;have BK343:=n1_;have GW343:=n2_;have GE343:=n3_;clear n0_ n1_ n2_ n3_ hb hbox hg;obtain⟨hcz11_0,hcz11_1⟩:=gq BK343;obtain⟨hfz11_0,hfz11_1⟩:=dO BK343)|((with_reducible refine gc_ (f:=82) rfl ?_);refine gl_ (some 5) Tryz.func82 #[.int .i64 a0_0] ?_;(with_reducible refine (bB.calls a0_0 false _ A2.out).mono ?_);rintro e w' ⟨rfl,⟨nd,rfl⟩⟩;refine⟨_,rfl,?_⟩))
  go_ret
  exact⟨re_,(zA_ HB GE343)⟩
 subst c3
 have H1:(if (l0_1.length:Int)≤1000 then ((dz.f k l0_1).bind fun t345=>(some t345)) else (some false))=some r:=by rw [if_pos rfl] at H;exact H
 clear H
 have H:=H1
 clear H1
 by_cases c4:(l0_1.length:Int)≤1000
 rotate_left
 ·rw [if_neg c4] at H
  have c4b0:=decide_eq_false c4
  have c4b1:decide (l0_1.length≤1000)=false:=decide_eq_false (by omega)
  clear c4
  obtain rfl:=Option.some.inj H
  go_enter Tryz.func78,Tryz.ntmps78
  go_wp2_with (first|((with_reducible refine gd_ (N:=1) rfl ?_);(try (refine bn (by rfl) ?_;dsimp only));refine by_ 1 (cs:=#[.int .i64 a0_0,.slice A0_1 l0_1.length c0_1]) (t:=37) ?_;intro gb343 hg w8 hbox hb;have n0_:=A_.mk (bt_ (beY HB.out) hb);have n1_:=A_.mk (hbox);have n2_:=A_.mk ((by rw [hg];exact(bz_ (beY HB.out)):w.heap.size≤gb343));have n3_:=A_.mk ((by rw [hg];exact(bz_ (beY HB.out)):w.heap.size≤gb343));clear HB;have HB:=n0_;have BK343:=n1_;have GW343:=n2_;have GE343:=n3_;clear n0_ n1_ n2_ n3_ hb hbox hg;obtain⟨hcz9_0,hcz9_1⟩:=gq BK343;obtain⟨hfz9_0,hfz9_1⟩:=dO BK343)|((with_reducible refine gc_ (f:=82) rfl ?_);refine gl_ (some 5) Tryz.func82 #[.int .i64 a0_0] ?_;(with_reducible refine (bB.calls a0_0 true _ A2.out).mono ?_);rintro e w' ⟨rfl,⟨nd,rfl⟩⟩;refine⟨_,rfl,?_⟩))
  go_ret
  exact⟨re_,(zA_ HB GE343)⟩
 rw [if_pos c4] at H
 have c4b0:=decide_eq_true c4
 have c4b1:decide (l0_1.length≤1000)=true:=decide_eq_true (by omega)
 clear c4
 replace H:=oa_ H
 obtain⟨t345,A5,H⟩:=H
 obtain rfl:=Option.some.inj H
 go_enter Tryz.func78,Tryz.ntmps78
 go_wp2_with (first|((with_reducible refine gd_ (N:=1) rfl ?_);(try (refine bn (by rfl) ?_;dsimp only));refine by_ 1 (cs:=#[.int .i64 a0_0,.slice A0_1 l0_1.length c0_1]) (t:=37) ?_;intro gb343 hg w6 hbox hb;have n0_:=A_.mk (bt_ (beY HB.out) hb);have n1_:=A_.mk (hbox);have n2_:=A_.mk ((by rw [hg];exact(bz_ (beY HB.out)):w.heap.size≤gb343));have n3_:=A_.mk ((by rw [hg];exact(bz_ (beY HB.out)):w.heap.size≤gb343));clear HB;have HB:=n0_;have BK343:=n1_;have GW343:=n2_;have GE343:=n3_;clear n0_ n1_ n2_ n3_ hb hbox hg;obtain⟨hcz7_0,hcz7_1⟩:=gq BK343;obtain⟨hfz7_0,hfz7_1⟩:=dO BK343)|((with_reducible refine gc_ (f:=82) rfl ?_);refine gl_ (some 5) Tryz.func82 #[.int .i64 a0_0] ?_;(with_reducible refine (bB.calls a0_0 true _ A2.out).mono ?_);rintro e w' ⟨rfl,⟨nd,rfl⟩⟩;refine⟨_,rfl,?_⟩)|(go_at_call 79;(with_reducible refine (dz.calls k _ _ l0_1 t345 _ ?side1 ?side2 A5.out).mono ?_);(case side1=>repeat (first|exact (Kd.cu HR0_1.out ((zA_ HB GE343)))|(with_reducible refine Kd.fo ?_ _)|(with_reducible refine Kd.fq ?_ _)|(with_reducible refine Kd.gI ?_)));(case side2=>exact HC0_1.out);rintro e w' ⟨rfl,⟨nd,rfl⟩⟩))
 go_ret
 exact⟨re_,(zA_ HB GE343)⟩
def gZ.f(a0:Int):Option (Bool):=(bB.f a0).bind fun t346=>(if t346=true then (some false) else ((bE.f a0 100 115).bind fun t347=>(some (!t347))))
theorem gZ.calls(a0:Int)(r:Bool)(w:World)(h:gZ.f a0=some r) :
  Calls Tryz.prog 81 #[.int .i64 a0] w fun e w'=>e=.returned (.bool r)∧Drawn0 w w':=by
 have H:((bB.f a0).bind fun t346=>(if t346=true then (some false) else ((bE.f a0 100 115).bind fun t347=>(some (!t347)))))=some r:=h
 clear h
 replace H:=oa_ H
 obtain⟨t346,A2,H⟩:=H
 by_cases c3:t346=true
 ·subst c3
  have H1:(some false)=some r:=by rw [if_pos rfl] at H;exact H
  clear H
  have H:=H1
  clear H1
  obtain rfl:=Option.some.inj H
  go_enter Tryz.func81,Tryz.ntmps81
  go_wp2_with (first|((with_reducible refine gc_ (f:=82) rfl ?_);refine gl_ (some 4) Tryz.func82 #[.int .i64 a0] ?_;(with_reducible refine (bB.calls a0 true _ A2.out).mono ?_);rintro e w' ⟨rfl,⟨nd,rfl⟩⟩;refine⟨_,rfl,?_⟩))
  go_ret
  exact dz_
 ·replace c3:=Bool.eq_false_iff.mpr c3
  subst c3
  have H1:((bE.f a0 100 115).bind fun t347=>(some (!t347)))=some r:=by rw [if_neg (show ¬ (false=true) by decide)] at H;exact H
  clear H
  have H:=H1
  clear H1
  replace H:=oa_ H
  obtain⟨t347,A4,H⟩:=H
  obtain rfl:=Option.some.inj H
  go_enter Tryz.func81,Tryz.ntmps81
  go_wp2_with (first|((with_reducible refine gc_ (f:=82) rfl ?_);refine gl_ (some 4) Tryz.func82 #[.int .i64 a0] ?_;(with_reducible refine (bB.calls a0 false _ A2.out).mono ?_);rintro e w' ⟨rfl,⟨nd,rfl⟩⟩;refine⟨_,rfl,?_⟩)|(go_at_call 83;(with_reducible refine (bE.calls a0 100 115 t347 _ A4.out).mono ?_);rintro e w' ⟨rfl,⟨nd,rfl⟩⟩))
  go_ret
  exact dz_
def ah.l0:Nat→List Int→Int→Int→Option (Int)
 | 0,_,_,_=>none
 | k+1,x0,x7,x8=>if x8<x7 then (if 0≤x8 then (if x8<(x0.length:Int) then ((gZ.f (rd x0 x8)).bind fun t349=>(if t349=true then (some x8) else (ah.l0 k x0 x7 (wrap64 (x8+1))))) else (none)) else (none)) else (some (-1))
def ah.f(k:Nat)(l0:List Int)  : Option (Int):=ah.l0 k l0 (l0.length:Int) 0
theorem ah.calls(k:Nat)(A0:Option Addr)(c0:Nat)(l0:List Int)  (r:Int)(w:World)(hr0:Kd.C (Kd.int .i64) w A0 l0.length l0)(hc0:l0.length≤c0)(h:ah.f k l0=some r) :
  Calls Tryz.prog 109 #[.slice A0 l0.length c0,.func (.func 81) #[] #[]] w fun e w'=>e=.returned (.int .i64 r)∧Drawn0 w w':=by
 have HR0:=A_.mk hr0
 have HC0:=A_.mk hc0
 clear hr0 hc0
 have H:(ah.l0 k l0 (l0.length:Int) 0)=some r:=h
 clear h
 have H':=A_.mk H
 clear H
 go_enter Tryz.func109,Tryz.ntmps109
 go_wp2
 go_loopg [8] k (fun kq v8 w'=>∃ (x8_1:Int),v8=.int .i64 x8_1∧A_ (ah.l0 kq l0 (l0.length:Int) x8_1=some r)∧A_ (kq≤k)∧Drawn0 w w')
 case atStart=>exact ⟨(0),rs_,H',⟨Nat.le_refl _⟩,by repeat (first|exact Drawn0.refl _|apply Drawn0.step)⟩
 case round =>
  clear H'
  obtain⟨x8_1,rfl,HA,HK1,⟨m1,rfl⟩⟩:=hrel
  cases gk with
  | zero=>exact absurd HA.out (by simp [ah.l0])
  | succ k1 =>
   have H:=HA.out
   clear HA
   simp only [ah.l0] at H
   by_cases c3:x8_1<(l0.length:Int)
   rotate_left
   ·rw [if_neg c3] at H
    have c3b0:=decide_eq_false c3
    clear c3
    obtain rfl:=Option.some.inj H
    go_wp2
    go_ret
    exact dz_
   rw [if_pos c3] at H
   have c3b0:=decide_eq_true c3
   clear c3
   by_cases c4:0≤x8_1
   rotate_left
   ·rw [if_neg c4] at H
    exact absurd H (by simp)
   rw [if_pos c4] at H
   have c4b0:=decide_eq_true c4
   clear c4
   by_cases c5:x8_1<(l0.length:Int)
   rotate_left
   ·rw [if_neg c5] at H
    exact absurd H (by simp)
   rw [if_pos c5] at H
   have c5b0:=decide_eq_true c5
   clear c5
   replace H:=oa_ H
   obtain⟨t349,A6,H⟩:=H
   by_cases c7:t349=true
   ·subst c7
    have H1:(some x8_1)=some r:=by rw [if_pos rfl] at H;exact H
    clear H
    have H:=H1
    clear H1
    obtain rfl:=Option.some.inj H
    have p348:0≤(x8_1:Int):=od_
    have q348:x8_1<(l0.length:Int):=od_
    obtain⟨ad348,e348,hx348_0⟩:=Kd.d9 HR0.out x8_1 p348 q348
    cases e348
    replace p348:=eq_true p348
    replace q348:=eq_true q348
    go_wp2_with (first|(go_at_call 81;(with_reducible refine (gZ.calls (rd l0 x8_1) true _ A6.out).mono ?_);rintro e w' ⟨rfl,⟨nd,rfl⟩⟩))
    go_ret
    exact dz_
   replace c7:=Bool.eq_false_iff.mpr c7
   subst c7
   have H1:(ah.l0 k1 l0 (l0.length:Int) (wrap64 (x8_1+1)))=some r:=by rw [if_neg (show ¬ (false=true) by decide)] at H;exact H
   clear H
   have H:=H1
   clear H1
   have H':=A_.mk H
   clear H
   have p348:0≤(x8_1:Int):=od_
   have q348:x8_1<(l0.length:Int):=od_
   obtain⟨ad348,e348,hx348_0⟩:=Kd.d9 HR0.out x8_1 p348 q348
   cases e348
   replace p348:=eq_true p348
   replace q348:=eq_true q348
   go_wp2_with (first|(go_at_call 81;(with_reducible refine (gZ.calls (rd l0 x8_1) false _ A6.out).mono ?_);rintro e w' ⟨rfl,⟨nd,rfl⟩⟩))
   go_roundg k1
   case measure=>have:=HK1.out;omega
   case rel=>exact ⟨(wrap64 (x8_1+1)),rs_,H',⟨by have:=HK1.out;omega⟩,by repeat (first|exact Drawn0.refl _|apply Drawn0.step)⟩
def az.f(k:Nat)(l0:List Int)  : Option (Bool):=(ah.f k l0).bind fun t350=>(some (decide (t350 ≥ 0)))
theorem az.calls(k:Nat)(A0:Option Addr)(c0:Nat)(l0:List Int)  (r:Bool)(w:World)(hr0:Kd.C (Kd.int .i64) w A0 l0.length l0)(hc0:l0.length≤c0)(h:az.f k l0=some r) :
  Calls Tryz.prog 80 #[.slice A0 l0.length c0,.func (.func 81) #[] #[]] w fun e w'=>e=.returned (.bool r)∧Drawn0 w w':=by
 have HR0:=A_.mk hr0
 have HC0:=A_.mk hc0
 clear hr0 hc0
 have H:((ah.f k l0).bind fun t350=>(some (decide (t350 ≥ 0))))=some r:=h
 clear h
 replace H:=oa_ H
 obtain⟨t350,A3,H⟩:=H
 obtain rfl:=Option.some.inj H
 go_enter Tryz.func80,Tryz.ntmps80
 go_wp2_with (first|((with_reducible refine gc_ (f:=109) rfl ?_);refine gl_ (some 7) Tryz.func109 #[.slice A0 l0.length c0,.func (.func 81) #[] #[]] ?_;(with_reducible refine (ah.calls k _ _ l0  t350 _ ?side1 ?side2 A3.out).mono ?_);(case side1=>exact cY (HR0.out));(case side2=>exact HC0.out);rintro e w' ⟨rfl,⟨nd,rfl⟩⟩;refine⟨_,rfl,?_⟩))
 go_ret
 exact dz_
def iG.f(k:Nat)(a0_0:Int)(l0_1:List (S68))(a0_2:Int)(a0_3:Int)(l0_4:List (List Int))(l0_5:List (List Int))(l0_6:List Int):Option (Bool):=(aY.f k a0_0 l0_1 a0_2).bind fun t352=>(if t352=true then ((bL.f k a0_3 l0_4).bind fun t353=>(if t353=true then ((dz.f k l0_5).bind fun t354=>(if t354=true then (if (l0_5.length:Int)≤8 then (if (l0_6.length:Int)≤8 then ((az.f k l0_6).bind fun t355=>(some (!t355))) else (some false)) else (some false)) else (some false))) else (some false))) else (some false))
theorem iG.calls(k:Nat)(a0_0:Int)(A0_1:Option Addr)(c0_1:Nat)(l0_1:List (S68))(a0_2:Int)(a0_3:Int)(A0_4:Option Addr)(c0_4:Nat)(l0_4:List (List Int))(A0_5:Option Addr)(c0_5:Nat)(l0_5:List (List Int))(A0_6:Option Addr)(c0_6:Nat)(l0_6:List Int)(r:Bool)(w:World)(hr0_1:Kd.C k68 w A0_1 l0_1.length l0_1)(hc0_1:l0_1.length≤c0_1)(hr0_4:Kd.C (Kd.slice 3 (Kd.int .i64)) w A0_4 l0_4.length l0_4)(hc0_4:l0_4.length≤c0_4)(hr0_5:Kd.C (Kd.slice 3 (Kd.int .i64)) w A0_5 l0_5.length l0_5)(hc0_5:l0_5.length≤c0_5)(hr0_6:Kd.C (Kd.int .i64) w A0_6 l0_6.length l0_6)(hc0_6:l0_6.length≤c0_6)(h:iG.f k a0_0 l0_1 a0_2 a0_3 l0_4 l0_5 l0_6=some r) :
  Calls Tryz.prog 41 #[.agg #[.int .i64 a0_0,.slice A0_1 l0_1.length c0_1,.int .i64 a0_2,.int .i64 a0_3,.slice A0_4 l0_4.length c0_4,.slice A0_5 l0_5.length c0_5,.slice A0_6 l0_6.length c0_6]] w fun e w'=>e=.returned (.bool r)∧Below w.heap.size w w':=by
 have hu39:=Tryz.underlying39
 have hu36:=Tryz.underlying36
 have hu37:=Tryz.underlying37
 have HR0_1:=A_.mk hr0_1
 have HC0_1:=A_.mk hc0_1
 clear hr0_1 hc0_1
 have HR0_4:=A_.mk hr0_4
 have HC0_4:=A_.mk hc0_4
 clear hr0_4 hc0_4
 have HR0_5:=A_.mk hr0_5
 have HC0_5:=A_.mk hc0_5
 clear hr0_5 hc0_5
 have HR0_6:=A_.mk hr0_6
 have HC0_6:=A_.mk hc0_6
 clear hr0_6 hc0_6
 have HB:=A_.mk (Below.refl w.heap.size w)
 have H:((aY.f k a0_0 l0_1 a0_2).bind fun t352=>(if t352=true then ((bL.f k a0_3 l0_4).bind fun t353=>(if t353=true then ((dz.f k l0_5).bind fun t354=>(if t354=true then (if (l0_5.length:Int)≤8 then (if (l0_6.length:Int)≤8 then ((az.f k l0_6).bind fun t355=>(some (!t355))) else (some false)) else (some false)) else (some false))) else (some false))) else (some false)))=some r:=h
 clear h
 replace H:=oa_ H
 obtain⟨t352,A2,H⟩:=H
 by_cases c3:t352=true
 rotate_left
 ·replace c3:=Bool.eq_false_iff.mpr c3
  subst c3
  have H1:(some false)=some r:=by rw [if_neg (show ¬ (false=true) by decide)] at H;exact H
  clear H
  have H:=H1
  clear H1
  obtain rfl:=Option.some.inj H
  go_enter Tryz.func41,Tryz.ntmps41
  go_wp2_with (first|((with_reducible refine gd_ (N:=1) rfl ?_);(try (refine bn (by rfl) ?_;dsimp only));refine by_ 1 (cs:=#[.int .i64 a0_0,.slice A0_1 l0_1.length c0_1,.int .i64 a0_2,.int .i64 a0_3,.slice A0_4 l0_4.length c0_4,.slice A0_5 l0_5.length c0_5,.slice A0_6 l0_6.length c0_6]) (t:=39) ?_;intro gb351 hg w40 hbox hb;have n0_:=A_.mk (bt_ (beY HB.out) hb);have n1_:=A_.mk (hbox);have n2_:=A_.mk ((by rw [hg];exact(bz_ (beY HB.out)):w.heap.size≤gb351));have n3_:=A_.mk ((by rw [hg];exact(bz_ (beY HB.out)):w.heap.size≤gb351));clear HB;have HB:=n0_;have BK351:=n1_;have GW351:=n2_;have GE351:=n3_;clear n0_ n1_ n2_ n3_ hb hbox hg;obtain⟨hcz41_0,hcz41_1,hcz41_2,hcz41_3,hcz41_4,hcz41_5,hcz41_6⟩:=mi BK351;obtain⟨hfz41_0,hfz41_1,hfz41_2,hfz41_3,hfz41_4,hfz41_5,hfz41_6⟩:=gM BK351)|((with_reducible refine gc_ (f:=77) rfl ?_);refine gl_ (some 5) Tryz.func77 #[.agg #[.int .i64 a0_0,.slice A0_1 l0_1.length c0_1,.int .i64 a0_2]] ?_;(with_reducible refine (aY.calls k a0_0 _ _ l0_1 a0_2 false _ ?side1 ?side2 A2.out).mono ?_);(case side1=>exact cY ((cb_ HR0_1 HB)));(case side2=>exact HC0_1.out);rintro e w42 ⟨rfl,hb⟩;refine⟨_,rfl,?_⟩;have n0_:=A_.mk (bb_ (bY BK351.out) hb);have n1_:=A_.mk (bt_ ((zA_ HB GE351)) hb);clear BK351 HB;have BK351:=n0_;have HB:=n1_;clear n0_ n1_;(try clear hb);(try clear hb2);(try clear hk);(try clear hi)))
  go_ret
  exact⟨re_,(zA_ HB GE351)⟩
 subst c3
 have H1:((bL.f k a0_3 l0_4).bind fun t353=>(if t353=true then ((dz.f k l0_5).bind fun t354=>(if t354=true then (if (l0_5.length:Int)≤8 then (if (l0_6.length:Int)≤8 then ((az.f k l0_6).bind fun t355=>(some (!t355))) else (some false)) else (some false)) else (some false))) else (some false)))=some r:=by rw [if_pos rfl] at H;exact H
 clear H
 have H:=H1
 clear H1
 replace H:=oa_ H
 obtain⟨t353,A4,H⟩:=H
 by_cases c5:t353=true
 rotate_left
 ·replace c5:=Bool.eq_false_iff.mpr c5
  subst c5
  have H1:(some false)=some r:=by rw [if_neg (show ¬ (false=true) by decide)] at H;exact H
  clear H
  have H:=H1
  clear H1
  obtain rfl:=Option.some.inj H
  go_enter Tryz.func41,Tryz.ntmps41
  go_wp2_with (first|((with_reducible refine gd_ (N:=1) rfl ?_);(try (refine bn (by rfl) ?_;dsimp only));refine by_ 1 (cs:=#[.int .i64 a0_0,.slice A0_1 l0_1.length c0_1,.int .i64 a0_2,.int .i64 a0_3,.slice A0_4 l0_4.length c0_4,.slice A0_5 l0_5.length c0_5,.slice A0_6 l0_6.length c0_6]) (t:=39) ?_;intro gb351 hg w35 hbox hb;have n0_:=A_.mk (bt_ (beY HB.out) hb);have n1_:=A_.mk (hbox);have n2_:=A_.mk ((by rw [hg];exact(bz_ (beY HB.out)):w.heap.size≤gb351));have n3_:=A_.mk ((by rw [hg];exact(bz_ (beY HB.out)):w.heap.size≤gb351));clear HB;have HB:=n0_;have BK351:=n1_;have GW351:=n2_;have GE351:=n3_;clear n0_ n1_ n2_ n3_ hb hbox hg;obtain⟨hcz36_0,hcz36_1,hcz36_2,hcz36_3,hcz36_4,hcz36_5,hcz36_6⟩:=mi BK351;obtain⟨hfz36_0,hfz36_1,hfz36_2,hfz36_3,hfz36_4,hfz36_5,hfz36_6⟩:=gM BK351)|((with_reducible refine gc_ (f:=77) rfl ?_);refine gl_ (some 5) Tryz.func77 #[.agg #[.int .i64 a0_0,.slice A0_1 l0_1.length c0_1,.int .i64 a0_2]] ?_;(with_reducible refine (aY.calls k a0_0 _ _ l0_1 a0_2 true _ ?side1 ?side2 A2.out).mono ?_);(case side1=>exact cY ((cb_ HR0_1 HB)));(case side2=>exact HC0_1.out);rintro e w37 ⟨rfl,hb⟩;refine⟨_,rfl,?_⟩;have n0_:=A_.mk (bb_ (bY BK351.out) hb);have n1_:=A_.mk (bt_ ((zA_ HB GE351)) hb);clear BK351 HB;have BK351:=n0_;have HB:=n1_;clear n0_ n1_;(try clear hb);(try clear hb2);(try clear hk);(try clear hi);obtain⟨hcz38_0,hcz38_1,hcz38_2,hcz38_3,hcz38_4,hcz38_5,hcz38_6⟩:=mi BK351;obtain⟨hfz38_0,hfz38_1,hfz38_2,hfz38_3,hfz38_4,hfz38_5,hfz38_6⟩:=gM BK351)|(go_at_call 78;(with_reducible refine (bL.calls k a0_3 _ _ l0_4 false _ ?side1 ?side2 A4.out).mono ?_);(case side1=>exact cY ((cb_ HR0_4 HB)));(case side2=>exact HC0_4.out);rintro e w39 ⟨rfl,hb⟩;have n0_:=A_.mk (bb_ (bY BK351.out) hb);have n1_:=A_.mk (bt_ ((zA_ HB GE351)) hb);clear BK351 HB;have BK351:=n0_;have HB:=n1_;clear n0_ n1_;(try clear hb);(try clear hb2);(try clear hk);(try clear hi)))
  go_ret
  exact⟨re_,(zA_ HB GE351)⟩
 subst c5
 have H1:((dz.f k l0_5).bind fun t354=>(if t354=true then (if (l0_5.length:Int)≤8 then (if (l0_6.length:Int)≤8 then ((az.f k l0_6).bind fun t355=>(some (!t355))) else (some false)) else (some false)) else (some false)))=some r:=by rw [if_pos rfl] at H;exact H
 clear H
 have H:=H1
 clear H1
 replace H:=oa_ H
 obtain⟨t354,A6,H⟩:=H
 by_cases c7:t354=true
 rotate_left
 ·replace c7:=Bool.eq_false_iff.mpr c7
  subst c7
  have H1:(some false)=some r:=by rw [if_neg (show ¬ (false=true) by decide)] at H;exact H
  clear H
  have H:=H1
  clear H1
  obtain rfl:=Option.some.inj H
  go_enter Tryz.func41,Tryz.ntmps41
  go_wp2_with (first|((with_reducible refine gd_ (N:=1) rfl ?_);(try (refine bn (by rfl) ?_;dsimp only));refine by_ 1 (cs:=#[.int .i64 a0_0,.slice A0_1 l0_1.length c0_1,.int .i64 a0_2,.int .i64 a0_3,.slice A0_4 l0_4.length c0_4,.slice A0_5 l0_5.length c0_5,.slice A0_6 l0_6.length c0_6]) (t:=39) ?_;intro gb351 hg w29 hbox hb;have n0_:=A_.mk (bt_ (beY HB.out) hb);have n1_:=A_.mk (hbox);have n2_:=A_.mk ((by rw [hg];exact(bz_ (beY HB.out)):w.heap.size≤gb351));have n3_:=A_.mk ((by rw [hg];exact(bz_ (beY HB.out)):w.heap.size≤gb351));clear HB;have HB:=n0_;have BK351:=n1_;have GW351:=n2_;have GE351:=n3_;clear n0_ n1_ n2_ n3_ hb hbox hg;obtain⟨hcz30_0,hcz30_1,hcz30_2,hcz30_3,hcz30_4,hcz30_5,hcz30_6⟩:=mi BK351;obtain⟨hfz30_0,hfz30_1,hfz30_2,hfz30_3,hfz30_4,hfz30_5,hfz30_6⟩:=gM BK351)|((with_reducible refine gc_ (f:=77) rfl ?_);refine gl_ (some 5) Tryz.func77 #[.agg #[.int .i64 a0_0,.slice A0_1 l0_1.length c0_1,.int .i64 a0_2]] ?_;(with_reducible refine (aY.calls k a0_0 _ _ l0_1 a0_2 true _ ?side1 ?side2 A2.out).mono ?_);(case side1=>exact cY ((cb_ HR0_1 HB)));(case side2=>exact HC0_1.out);rintro e w31 ⟨rfl,hb⟩;refine⟨_,rfl,?_⟩;have n0_:=A_.mk (bb_ (bY BK351.out) hb);have n1_:=A_.mk (bt_ ((zA_ HB GE351)) hb);clear BK351 HB;have BK351:=n0_;have HB:=n1_;clear n0_ n1_;(try clear hb);(try clear hb2);(try clear hk);(try clear hi);obtain⟨hcz32_0,hcz32_1,hcz32_2,hcz32_3,hcz32_4,hcz32_5,hcz32_6⟩:=mi BK351;obtain⟨hfz32_0,hfz32_1,hfz32_2,hfz32_3,hfz32_4,hfz32_5,hfz32_6⟩:=gM BK351)|(go_at_call 78;(with_reducible refine (bL.calls k a0_3 _ _ l0_4 true _ ?side1 ?side2 A4.out).mono ?_);(case side1=>exact cY ((cb_ HR0_4 HB)));(case side2=>exact HC0_4.out);rintro e w33 ⟨rfl,hb⟩;have n0_:=A_.mk (bb_ (bY BK351.out) hb);have n1_:=A_.mk (bt_ ((zA_ HB GE351)) hb);clear BK351 HB;have BK351:=n0_;have HB:=n1_;clear n0_ n1_;(try clear hb);(try clear hb2);(try clear hk);(try clear hi);obtain⟨hcz34_0,hcz34_1,hcz34_2,hcz34_3,hcz34_4,hcz34_5,hcz34_6⟩:=mi BK351;obtain⟨hfz34_0,hfz34_1,hfz34_2,hfz34_3,hfz34_4,hfz34_5,hfz34_6⟩:=gM BK351)|(go_at_call 79;(with_reducible refine (dz.calls k _ _ l0_5 false _ ?side1 ?side2 A6.out).mono ?_);(case side1=>exact cY ((cb_ HR0_5 HB)));(case side2=>exact HC0_5.out);rintro e w' ⟨rfl,⟨nd,rfl⟩⟩))
  go_ret
  exact⟨re_,(zA_ HB GE351)⟩
 subst c7
 have H1:(if (l0_5.length:Int)≤8 then (if (l0_6.length:Int)≤8 then ((az.f k l0_6).bind fun t355=>(some (!t355))) else (some false)) else (some false))=some r:=by rw [if_pos rfl] at H;exact H
 clear H
 have H:=H1
 clear H1
 by_cases c8:(l0_5.length:Int)≤8
 rotate_left
 ·rw [if_neg c8] at H
  have c8b0:=decide_eq_false c8
  have c8b1:decide (l0_5.length≤8)=false:=decide_eq_false (by omega)
  clear c8
  obtain rfl:=Option.some.inj H
  go_enter Tryz.func41,Tryz.ntmps41
  go_wp2_with (first|((with_reducible refine gd_ (N:=1) rfl ?_);(try (refine bn (by rfl) ?_;dsimp only));refine by_ 1 (cs:=#[.int .i64 a0_0,.slice A0_1 l0_1.length c0_1,.int .i64 a0_2,.int .i64 a0_3,.slice A0_4 l0_4.length c0_4,.slice A0_5 l0_5.length c0_5,.slice A0_6 l0_6.length c0_6]) (t:=39) ?_;intro gb351 hg w23 hbox hb;have n0_:=A_.mk (bt_ (beY HB.out) hb);have n1_:=A_.mk (hbox);have n2_:=A_.mk ((by rw [hg];exact(bz_ (beY HB.out)):w.heap.size≤gb351));have n3_:=A_.mk ((by rw [hg];exact(bz_ (beY HB.out)):w.heap.size≤gb351));clear HB;have HB:=n0_;have BK351:=n1_;have GW351:=n2_;have GE351:=n3_;clear n0_ n1_ n2_ n3_ hb hbox hg;obtain⟨hcz24_0,hcz24_1,hcz24_2,hcz24_3,hcz24_4,hcz24_5,hcz24_6⟩:=mi BK351;obtain⟨hfz24_0,hfz24_1,hfz24_2,hfz24_3,hfz24_4,hfz24_5,hfz24_6⟩:=gM BK351)|((with_reducible refine gc_ (f:=77) rfl ?_);refine gl_ (some 5) Tryz.func77 #[.agg #[.int .i64 a0_0,.slice A0_1 l0_1.length c0_1,.int .i64 a0_2]] ?_;(with_reducible refine (aY.calls k a0_0 _ _ l0_1 a0_2 true _ ?side1 ?side2 A2.out).mono ?_);(case side1=>exact cY ((cb_ HR0_1 HB)));(case side2=>exact HC0_1.out);rintro e w25 ⟨rfl,hb⟩;refine⟨_,rfl,?_⟩;have n0_:=A_.mk (bb_ (bY BK351.out) hb);have n1_:=A_.mk (bt_ ((zA_ HB GE351)) hb);clear BK351 HB;have BK351:=n0_;have HB:=n1_;clear n0_ n1_;(try clear hb);(try clear hb2);(try clear hk);(try clear hi);obtain⟨hcz26_0,hcz26_1,hcz26_2,hcz26_3,hcz26_4,hcz26_5,hcz26_6⟩:=mi BK351;obtain⟨hfz26_0,hfz26_1,hfz26_2,hfz26_3,hfz26_4,hfz26_5,hfz26_6⟩:=gM BK351)|(go_at_call 78;(with_reducible refine (bL.calls k a0_3 _ _ l0_4 true _ ?side1 ?side2 A4.out).mono ?_);(case side1=>exact cY ((cb_ HR0_4 HB)));(case side2=>exact HC0_4.out);rintro e w27 ⟨rfl,hb⟩;have n0_:=A_.mk (bb_ (bY BK351.out) hb);have n1_:=A_.mk (bt_ ((zA_ HB GE351)) hb);clear BK351 HB;have BK351:=n0_;have HB:=n1_;clear n0_ n1_;(try clear hb);(try clear hb2);(try clear hk);(try clear hi);obtain⟨hcz28_0,hcz28_1,hcz28_2,hcz28_3,hcz28_4,hcz28_5,hcz28_6⟩:=mi BK351;obtain⟨hfz28_0,hfz28_1,hfz28_2,hfz28_3,hfz28_4,hfz28_5,hfz28_6⟩:=gM BK351)|(go_at_call 79;(with_reducible refine (dz.calls k _ _ l0_5 true _ ?side1 ?side2 A6.out).mono ?_);(case side1=>exact cY ((cb_ HR0_5 HB)));(case side2=>exact HC0_5.out);rintro e w' ⟨rfl,⟨nd,rfl⟩⟩))
  go_ret
  exact⟨re_,(zA_ HB GE351)⟩
 rw [if_pos c8] at H
 have c8b0:=decide_eq_true c8
 have c8b1:decide (l0_5.length≤8)=true:=decide_eq_true (by omega)
 clear c8
 by_cases c9:(l0_6.length:Int)≤8
 rotate_left
 ·rw [if_neg c9] at H
  have c9b0:=decide_eq_false c9
  have c9b1:decide (l0_6.length≤8)=false:=decide_eq_false (by omega)
  clear c9
  obtain rfl:=Option.some.inj H
  go_enter Tryz.func41,Tryz.ntmps41
  go_wp2_with (first|((with_reducible refine gd_ (N:=1) rfl ?_);(try (refine bn (by rfl) ?_;dsimp only));refine by_ 1 (cs:=#[.int .i64 a0_0,.slice A0_1 l0_1.length c0_1,.int .i64 a0_2,.int .i64 a0_3,.slice A0_4 l0_4.length c0_4,.slice A0_5 l0_5.length c0_5,.slice A0_6 l0_6.length c0_6]) (t:=39) ?_;intro gb351 hg w17 hbox hb;have n0_:=A_.mk (bt_ (beY HB.out) hb);have n1_:=A_.mk (hbox);have n2_:=A_.mk ((by rw [hg];exact(bz_ (beY HB.out)):w.heap.size≤gb351));have n3_:=A_.mk ((by rw [hg];exact(bz_ (beY HB.out)):w.heap.size≤gb351));clear HB;have HB:=n0_;have BK351:=n1_;have GW351:=n2_;have GE351:=n3_;clear n0_ n1_ n2_ n3_ hb hbox hg;obtain⟨hcz18_0,hcz18_1,hcz18_2,hcz18_3,hcz18_4,hcz18_5,hcz18_6⟩:=mi BK351;obtain⟨hfz18_0,hfz18_1,hfz18_2,hfz18_3,hfz18_4,hfz18_5,hfz18_6⟩:=gM BK351)|((with_reducible refine gc_ (f:=77) rfl ?_);refine gl_ (some 5) Tryz.func77 #[.agg #[.int .i64 a0_0,.slice A0_1 l0_1.length c0_1,.int .i64 a0_2]] ?_;(with_reducible refine (aY.calls k a0_0 _ _ l0_1 a0_2 true _ ?side1 ?side2 A2.out).mono ?_);(case side1=>exact cY ((cb_ HR0_1 HB)));(case side2=>exact HC0_1.out);rintro e w19 ⟨rfl,hb⟩;refine⟨_,rfl,?_⟩;have n0_:=A_.mk (bb_ (bY BK351.out) hb);have n1_:=A_.mk (bt_ ((zA_ HB GE351)) hb);clear BK351 HB;have BK351:=n0_;have HB:=n1_;clear n0_ n1_;(try clear hb);(try clear hb2);(try clear hk);(try clear hi);obtain⟨hcz20_0,hcz20_1,hcz20_2,hcz20_3,hcz20_4,hcz20_5,hcz20_6⟩:=mi BK351;obtain⟨hfz20_0,hfz20_1,hfz20_2,hfz20_3,hfz20_4,hfz20_5,hfz20_6⟩:=gM BK351)|(go_at_call 78;(with_reducible refine (bL.calls k a0_3 _ _ l0_4 true _ ?side1 ?side2 A4.out).mono ?_);(case side1=>exact cY ((cb_ HR0_4 HB)));(case side2=>exact HC0_4.out);rintro e w21 ⟨rfl,hb⟩;have n0_:=A_.mk (bb_ (bY BK351.out) hb);have n1_:=A_.mk (bt_ ((zA_ HB GE351)) hb);clear BK351 HB;have BK351:=n0_;have HB:=n1_;clear n0_ n1_;(try clear hb);(try clear hb2);(try clear hk);(try clear hi);obtain⟨hcz22_0,hcz22_1,hcz22_2,hcz22_3,hcz22_4,hcz22_5,hcz22_6⟩:=mi BK351;obtain⟨hfz22_0,hfz22_1,hfz22_2,hfz22_3,hfz22_4,hfz22_5,hfz22_6⟩:=gM BK351)|(go_at_call 79;(with_reducible refine (dz.calls k _ _ l0_5 true _ ?side1 ?side2 A6.out).mono ?_);(case side1=>exact cY ((cb_ HR0_5 HB)));(case side2=>exact HC0_5.out);rintro e w' ⟨rfl,⟨nd,rfl⟩⟩))
  go_ret
  exact⟨re_,(zA_ HB GE351)⟩
 rw [if_pos c9] at H
 have c9b0:=decide_eq_true c9
 have c9b1:decide (l0_6.length≤8)=true:=decide_eq_true (by omega)
 clear c9
 replace H:=oa_ H
 obtain⟨t355,A10,H⟩:=H
 obtain rfl:=Option.some.inj H
 go_enter Tryz.func41,Tryz.ntmps41
 go_wp2_with (first|((with_reducible refine gd_ (N:=1) rfl ?_);(try (refine bn (by rfl) ?_;dsimp only));refine by_ 1 (cs:=#[.int .i64 a0_0,.slice A0_1 l0_1.length c0_1,.int .i64 a0_2,.int .i64 a0_3,.slice A0_4 l0_4.length c0_4,.slice A0_5 l0_5.length c0_5,.slice A0_6 l0_6.length c0_6]) (t:=39) ?_;intro gb351 hg w11 hbox hb;have n0_:=A_.mk (bt_ (beY HB.out) hb);have n1_:=A_.mk (hbox);have n2_:=A_.mk ((by rw [hg];exact(bz_ (beY HB.out)):w.heap.size≤gb351));have n3_:=A_.mk ((by rw [hg];exact(bz_ (beY HB.out)):w.heap.size≤gb351));clear HB;have HB:=n0_;have BK351:=n1_;have GW351:=n2_;have GE351:=n3_;clear n0_ n1_ n2_ n3_ hb hbox hg;obtain⟨hcz12_0,hcz12_1,hcz12_2,hcz12_3,hcz12_4,hcz12_5,hcz12_6⟩:=mi BK351;obtain⟨hfz12_0,hfz12_1,hfz12_2,hfz12_3,hfz12_4,hfz12_5,hfz12_6⟩:=gM BK351)|((with_reducible refine gc_ (f:=77) rfl ?_);refine gl_ (some 5) Tryz.func77 #[.agg #[.int .i64 a0_0,.slice A0_1 l0_1.length c0_1,.int .i64 a0_2]] ?_;(with_reducible refine (aY.calls k a0_0 _ _ l0_1 a0_2 true _ ?side1 ?side2 A2.out).mono ?_);(case side1=>exact cY ((cb_ HR0_1 HB)));(case side2=>exact HC0_1.out);rintro e w13 ⟨rfl,hb⟩;refine⟨_,rfl,?_⟩;have n0_:=A_.mk (bb_ (bY BK351.out) hb);have n1_:=A_.mk (bt_ ((zA_ HB GE351)) hb);clear BK351 HB;have BK351:=n0_;have HB:=n1_;clear n0_ n1_;(try clear hb);(try clear hb2);(try clear hk);(try clear hi);obtain⟨hcz14_0,hcz14_1,hcz14_2,hcz14_3,hcz14_4,hcz14_5,hcz14_6⟩:=mi BK351;obtain⟨hfz14_0,hfz14_1,hfz14_2,hfz14_3,hfz14_4,hfz14_5,hfz14_6⟩:=gM BK351)|(go_at_call 78;(with_reducible refine (bL.calls k a0_3 _ _ l0_4 true _ ?side1 ?side2 A4.out).mono ?_);(case side1=>exact cY ((cb_ HR0_4 HB)));(case side2=>exact HC0_4.out);rintro e w15 ⟨rfl,hb⟩;have n0_:=A_.mk (bb_ (bY BK351.out) hb);have n1_:=A_.mk (bt_ ((zA_ HB GE351)) hb);clear BK351 HB;have BK351:=n0_;have HB:=n1_;clear n0_ n1_;(try clear hb);(try clear hb2);(try clear hk);(try clear hi);obtain⟨hcz16_0,hcz16_1,hcz16_2,hcz16_3,hcz16_4,hcz16_5,hcz16_6⟩:=mi BK351;obtain⟨hfz16_0,hfz16_1,hfz16_2,hfz16_3,hfz16_4,hfz16_5,hfz16_6⟩:=gM BK351)|(go_at_call 79;(with_reducible refine (dz.calls k _ _ l0_5 true _ ?side1 ?side2 A6.out).mono ?_);(case side1=>exact cY ((cb_ HR0_5 HB)));(case side2=>exact HC0_5.out);rintro e w' ⟨rfl,⟨nd,rfl⟩⟩)|(go_at_call 80;(with_reducible refine (az.calls k _ _ l0_6  t355 _ ?side1 ?side2 A10.out).mono ?_);(case side1=>repeat (first|exact (Kd.cu HR0_6.out ((zA_ HB GE351)))|(with_reducible refine Kd.fo ?_ _)|(with_reducible refine Kd.fq ?_ _)|(with_reducible refine Kd.gI ?_)));(case side2=>exact HC0_6.out);rintro e w' ⟨rfl,⟨nd,rfl⟩⟩))
 go_ret
 exact⟨re_,(zA_ HB GE351)⟩
def eB.f(k:Nat)(a0_0:Int)(l0_1:List (S68))(a0_2:Int):Option ((Int)×(List (S68))×(Int)×(Int)×(List Int)×(Bool)):=((bg.f k a0_0 l0_1 a0_2).bind fun ⟨t1,t2,t3⟩=>((aY.f k a0_0 l0_1 a0_2).bind fun t4=>(if t4=true then (if a0_2=(l0_1.length:Int) then (some (t1,t2,t3,0,[],false)) else (if 0≤a0_2 then (if a0_2<(l0_1.length:Int) then ((fF.f ((ay l0_1 a0_2).f0) ((ay l0_1 a0_2).f1)).bind fun ⟨t5,t6⟩=>(some (t1,t2,(wrap64 (t3+1)),t5,t6,true))) else none) else none)) else (some (t1,t2,t3,0,[],false)))))
theorem eB.calls(k:Nat)(a0_0:Int)(A0_1:Option Addr)(c0_1:Nat)(l0_1:List (S68))(a0_2:Int)(r1:Int)(r2:List (S68))(r3:Int)(r4:Int)(r5:List Int)(r6:Bool)(w:World)(hr0_1:Kd.C k68 w A0_1 l0_1.length l0_1)(hc0_1:l0_1.length≤c0_1)(h:eB.f k a0_0 l0_1 a0_2=some (r1,r2,r3,r4,r5,r6)) :
  Calls Tryz.prog 92 #[.agg #[.int .i64 a0_0,.slice A0_1 l0_1.length c0_1,.int .i64 a0_2]] w fun e w'=>∃ f_:Nat→Nat,∃ v0_ v1_:Value,e=.returned (.tuple #[.agg #[.int .i64 r1,v0_,.int .i64 r3],.agg #[.int .i64 r4,v1_],.bool r6])∧Kd.S k68 68 w' w.heap.size (fun k_=>f_ k_=0) v0_ r2∧Kd.R (Kd.int .i64) 3 w' w.heap.size (fun k_=>f_ k_=1) v1_ r5∧Below w.heap.size w w':=by
 have HR0_1:=A_.mk hr0_1
 have HC0_1:=A_.mk hc0_1
 have HW0_1:=A_.mk hr0_1
 clear hr0_1 hc0_1
 have HB:=A_.mk (Below.refl w.heap.size w)
 unfold eB.f at h
 have H:=h
 clear h
 replace H:=oa_ H
 obtain⟨⟨t1,t2,t3⟩,A4,H⟩:=H
 try dsimp only at H
 replace H:=oa_ H
 obtain⟨t4,A7,H⟩:=H
 replace H:=A_.mk H
 have hu36:=Tryz.underlying36
 have hu68:=Tryz.underlying68
 go_enter Tryz.func92,Tryz.ntmps92
 have HS:=A_.mk (Nat.le_refl w.heap.size)
 go_wp2_with (first|((with_reducible refine gd_ (N:=1) rfl ?_);refine by_ 1 (cs:=#[.int .i64 a0_0,.slice A0_1 l0_1.length c0_1,.int .i64 a0_2]) (t:=36) ?_;intro gb1_ hg w1_ hbox hb;replace HS:=aHg HS hg hbox;replace HB:=aHB HB hb;have BK1:=A_.mk hbox;clear hbox hb hg)|((with_reducible refine gd_ (N:=2) rfl ?_);refine by_ 2 (cs:=#[.int .i64 0,.slice none 0 0,.int .i64 0]) (t:=36) ?_;intro gb2_ hg w2_ hbox hb;replace HS:=aHg HS hg hbox;replace BK1:=aBb BK1 hb;replace HB:=aHB HB hb;have BK2:=A_.mk hbox;clear hbox hb hg)|((with_reducible refine gd_ (N:=3) rfl ?_);refine by_ 3 (cs:=#[.int .i64 0,.slice none 0 0]) (t:=68) ?_;intro gb3_ hg w3_ hbox hb;replace HS:=aHg HS hg hbox;revert BK1 HB BK2;refine aD hb ?_;intro BK1 HB BK2;have BK3:=A_.mk hbox;clear hbox hb hg;have Q1:=av BK1.out)|((with_reducible refine gc_ (f:=73) rfl ?_);refine gl_ (some 7) Tryz.func73 #[.agg #[.int .i64 a0_0,.slice A0_1 l0_1.length c0_1,.int .i64 a0_2]] ?_;(with_reducible refine (bg.calls k a0_0 _ _ l0_1 a0_2 t1 t2 t3 _ (cb_ HR0_1 HB) HC0_1.out A4.out).mono ?_);rintro e w4_ ⟨f4_,v0_,rfl,ho0_,hb⟩;refine⟨_,rfl,?_⟩;replace HS:=aHs HS hb.size;obtain⟨Ao4_0,co4_0,rfl,HO4_0⟩:=sSn ho0_ HB.out.size;revert BK1 HB BK2 BK3;refine aD hb ?_;intro BK1 HB BK2 BK3;clear hb ho0_ Q1)|((with_reducible refine gd_ (N:=5) rfl ?_);refine by_ 5 (cs:=#[.int .i64 0,.slice none 0 0,.int .i64 0]) (t:=36) ?_;intro gb5_ hg w5_ hbox hb;replace HS:=aHg HS hg hbox;revert HO4_0 BK1 HB BK2 BK3;refine aD hb ?_;intro HO4_0 BK1 HB BK2 BK3;have BK5:=A_.mk hbox;clear hbox hb hg;have Q5:=av BK5.out)|((with_reducible refine ae (t:=36) (p:=5) rfl ?_);obtain⟨qf0,qf1,qf2⟩:=eT BK5;refine so_ (w1:=(iN w5_ gb5_ (.int .i64 t1) (.slice Ao4_0 t2.length co4_0) (.int .i64 t3))) ?_;intro w6_ hw;clear qf0 qf1 qf2;obtain⟨hbx,hkp,hbb⟩:=iT hw BK5 HB (ho_ HS);clear hw;revert HO4_0 BK1 BK2 BK3;refine bC hkp HS ?_;intro HO4_0 BK1 BK2 BK3;replace BK5:=A_.mk hbx;replace HB:=A_.mk hbb;replace HS:=aHs HS hkp.1;clear hkp hbb hbx Q5;have Q1:=av BK1.out))
 refine(aY.calls k a0_0 _ _ l0_1 a0_2 t4 _ (cb_ HR0_1 HB) HC0_1.out A7.out).mono ?_
 rintro e w7_ ⟨rfl,hb⟩
 revert HO4_0 BK1 BK2 BK3 BK5 HB HS
 refine aD hb ?_
 intro HO4_0 BK1 BK2 BK3 BK5 HB HS
 clear hb  Q1
 have Q1:=av BK1.out
 have Q2:=av BK2.out
 have Q3:=ak BK3.out
 have Q5:=av BK5.out
 replace H:=H.out
 by_cases hc1_:t4=true
 case neg =>
  rw [if_neg hc1_] at H
  replace hc1_:=eq_false_of_ne_true hc1_
  subst hc1_
  replace H:=uj H
  obtain⟨rfl,rfl,rfl,rfl,rfl,rfl⟩:=H
  go_wp2_with (first|((with_reducible refine ae (t:=36) (p:=2) rfl ?_);obtain⟨qf0,qf1,qf2⟩:=eT BK2;refine so_ (w1:=(iN w7_ gb2_ (.int .i64 t1) (.slice Ao4_0 t2.length co4_0) (.int .i64 t3))) ?_;intro w15_ hw;clear qf0 qf1 qf2;obtain⟨hbx,hkp,hbb⟩:=iT hw BK2 HB (ho_ HS);clear hw;replace HO4_0:=aSk HO4_0 hkp HS;replace BK3:=aBk BK3 hkp HS;replace BK2:=A_.mk hbx;replace HB:=A_.mk hbb;replace HS:=aHs HS hkp.1;clear hkp hbb hbx Q1 Q2 Q3 Q5;have Q3:=ak BK3.out)|((with_reducible refine ae (t:=68) (p:=3) rfl ?_);obtain⟨qf0,qf1⟩:=dO BK3;refine so_ (w1:=(jv w15_ gb3_ (.int .i64 0) (.slice none 0 0))) ?_;intro w16_ hw;clear qf0 qf1;obtain⟨hbx,hkp,hbb⟩:=jA hw BK3 HB (ho_ HS);clear hw;replace HO4_0:=aSk HO4_0 hkp HS;replace BK2:=aBk BK2 hkp HS;replace BK3:=A_.mk hbx;replace HB:=A_.mk hbb;replace HS:=aHs HS hkp.1;clear hkp hbb hbx Q3))
  refine bodyPost_ret (jy rfl _ _ gb2_ 36 _ (0,0) _ rfl BK2.out Tryz.underlying36 rfl (by kernel_rfl) gb3_ 68 #[.int .i64 0,.slice none 0 0] (0,0) _ rfl BK3.out Tryz.underlying68 rfl (by kernel_rfl)) rfl ?_
  obtain⟨f_,hf_⟩:=mS_ HO4_0 0 (m0_ 0)
  exact⟨f_,_,_,rfl,cS_ HO4_0 HS hf_,Kd.jF _ _ _ _ _,HB.out⟩
 rw [if_pos hc1_] at H
 subst hc1_
 by_cases hc2_:a0_2=(l0_1.length:Int)
 case pos =>
  rw [if_pos hc2_] at H
  have hc2_b1:(a0_2==l0_1.length)=true:=by first|simpa using hc2_|(simp at hc2_ ⊢;omega)
  replace hc2_:=iF hc2_
  replace H:=uj H
  obtain⟨rfl,rfl,rfl,rfl,rfl,rfl⟩:=H
  go_wp2_with (first|((with_reducible refine ae (t:=36) (p:=2) rfl ?_);obtain⟨qf0,qf1,qf2⟩:=eT BK2;refine so_ (w1:=(iN w7_ gb2_ (.int .i64 t1) (.slice Ao4_0 t2.length co4_0) (.int .i64 t3))) ?_;intro w8_ hw;clear qf0 qf1 qf2;obtain⟨hbx,hkp,hbb⟩:=iT hw BK2 HB (ho_ HS);clear hw;replace HO4_0:=aSk HO4_0 hkp HS;replace BK3:=aBk BK3 hkp HS;replace BK2:=A_.mk hbx;replace HB:=A_.mk hbb;replace HS:=aHs HS hkp.1;clear hkp hbb hbx Q1 Q2 Q3 Q5;have Q3:=ak BK3.out)|((with_reducible refine ae (t:=68) (p:=3) rfl ?_);obtain⟨qf0,qf1⟩:=dO BK3;refine so_ (w1:=(jv w8_ gb3_ (.int .i64 0) (.slice none 0 0))) ?_;intro w9_ hw;clear qf0 qf1;obtain⟨hbx,hkp,hbb⟩:=jA hw BK3 HB (ho_ HS);clear hw;replace HO4_0:=aSk HO4_0 hkp HS;replace BK2:=aBk BK2 hkp HS;replace BK3:=A_.mk hbx;replace HB:=A_.mk hbb;replace HS:=aHs HS hkp.1;clear hkp hbb hbx Q3))
  refine bodyPost_ret (jy rfl _ _ gb2_ 36 _ (0,0) _ rfl BK2.out Tryz.underlying36 rfl (by kernel_rfl) gb3_ 68 #[.int .i64 0,.slice none 0 0] (0,0) _ rfl BK3.out Tryz.underlying68 rfl (by kernel_rfl)) rfl ?_
  obtain⟨f_,hf_⟩:=mS_ HO4_0 0 (m0_ 0)
  exact⟨f_,_,_,rfl,cS_ HO4_0 HS hf_,Kd.jF _ _ _ _ _,HB.out⟩
 rw [if_neg hc2_] at H
 have hc2_b:=iE hc2_
 have hc2_b1:(a0_2==l0_1.length)=false:=by first|simpa using hc2_|(simp at hc2_ ⊢;omega)
 replace H:=ky H
 obtain⟨hp11_,hq11_,H⟩:=H
 have EB11:=A_.mk (And.intro hp11_ hq11_)
 obtain⟨ad11_,A11_1,c11_1,eA_,hx0_,hx1_,hl1_,hi1_⟩:=iq HW0_1.out a0_2 hp11_ hq11_
 subst eA_
 have HX11:=A_.mk (And.intro hx0_ hx1_)
 have HE11_1:=A_.mk hi1_
 have HD11_1:=A_.mk hl1_
 clear hx0_ hx1_ hl1_ hi1_
 replace hp11_:=eq_true hp11_
 replace hq11_:=eq_true hq11_
 replace H:=oa_ H
 obtain⟨⟨t5,t6⟩,A12,H⟩:=H
 try dsimp only at H
 replace H:=uj H
 obtain⟨rfl,rfl,rfl,rfl,rfl,rfl⟩:=H
 go_wp2_with (first|((with_reducible refine ae (t:=3) (p:=24) rfl ?_);have qf0:=bf_ BK5.out 2;refine so_ (w1:=(w7_.setCell ⟨gb5_,2,none⟩ (.int .i64 (wrap64 (t3+1))))) ?_;intro w10_ hw;clear qf0;obtain⟨hbx,hkp,hbb⟩:=nu hw BK5 HB (ho_ HS);clear hw;replace HO4_0:=aSk HO4_0 hkp HS;replace BK1:=aBk BK1 hkp HS;replace BK2:=aBk BK2 hkp HS;replace BK3:=aBk BK3 hkp HS;replace BK5:=A_.mk hbx;replace HB:=A_.mk hbb;replace HS:=aHs HS hkp.1;clear hkp hbb hbx Q1 Q2 Q3 Q5))
 refine dN (n:=11) (S:=fun w'=>(w'.cell? ⟨gb1_,0,none⟩=some (.int .i64 a0_0)∧w'.cell? ⟨gb1_,1,none⟩=some (.slice (some ad11_) l0_1.length c0_1)∧w'.cell? ⟨gb1_,2,none⟩=some (.int .i64 a0_2))∧(w'.cell? ⟨gb5_,0,none⟩=some (.int .i64 t1)∧w'.cell? ⟨gb5_,1,none⟩=some (.slice Ao4_0 t2.length co4_0)∧w'.cell? ⟨gb5_,2,none⟩=some (.int .i64 (wrap64 (t3+1))))∧(w'.cell? (ad11_.add ((a0_2).toNat*2))=some (.int .i64 ((ay l0_1 a0_2).f0))∧w'.cell? ⟨(ad11_.add ((a0_2).toNat*2)).block,(ad11_.add ((a0_2).toNat*2)).off+1,none⟩=some (.slice A11_1 ((ay l0_1 a0_2).f1).length c11_1))) (ds:=[8,9]) #[F,F,F,F,F,F,F,F,F,F,F] (by kernel_rfl) rfl rfl ⟨av BK1.out,av BK5.out,oJ (aV HB.out) HX11.out⟩ (fun hHeld=>?_)
 have hb:=aV (Below.refl w10_.heap.size w10_)
 revert HO4_0 BK1 BK2 BK3 BK5 HB HS
 refine aD hb ?_
 intro HO4_0 BK1 BK2 BK3 BK5 HB HS
 clear hb
 generalize w10_.drew=w17d_ at HO4_0 BK1 BK2 BK3 BK5 HB HS hHeld ⊢
 refine tl_ (i:=0) (N:=some 25) #[T,F,F,F,F,F,F,F,F,F,F] rfl hHeld ?_
 refine pd_ (i:=1) (N:=some 26) #[T,T,F,F,F,F,F,F,F,F,F] rfl ?_
 refine tl_ (i:=2) (N:=some 27) #[T,T,T,F,F,F,F,F,F,F,F] rfl hHeld ?_
 refine pd_ (i:=3) (N:=some 28) #[T,T,T,T,F,F,F,F,F,F,F] rfl ?_
 refine tl_ (i:=4) (N:=some 29) #[T,T,T,T,T,F,F,F,F,F,F] rfl hHeld ?_
 refine pd_ (i:=5) (N:=some 30) #[T,T,T,T,T,T,F,F,F,F,F] rfl ?_
 refine tl_ (i:=6) (N:=some 31) #[T,T,T,T,T,T,T,F,F,F,F] rfl hHeld ?_
 refine on_ (i:=7) (N:=some 32) #[T,T,T,T,T,T,T,T,F,F,F] rfl (fun K hK=>?_)
 refine gz_ Tryz.func104 #[.agg #[.int .i64 ((ay l0_1 a0_2).f0),.slice A11_1 ((ay l0_1 a0_2).f1).length c11_1]] ?_
 with_reducible refine (fF.calls ((ay l0_1 a0_2).f0) _ _ ((ay l0_1 a0_2).f1) t5 t6 _ (cb_ HE11_1 HB) HD11_1.out A12.out).mono ?_
 rintro e w12_ ⟨v1_,rfl,ho0_,hb⟩
 refine⟨_,rfl,?_⟩
 replace HS:=aHs HS hb.size
 obtain⟨Ao12_1,co12_1,rfl,HO12_1⟩:=sRm ho0_ HB.out.size
 revert HO4_0 BK1 BK2 BK3 BK5 HB
 refine aD hb ?_
 intro HO4_0 BK1 BK2 BK3 BK5 HB
 clear hb ho0_
 refine hK.out _ _ ⟨av BK1.out,av BK5.out,oJ HB.out HX11.out⟩ (fun hHeld=>?_)
 clear hK K
 refine nm_ ?_
 refine gG (i:=8) (N:=none) #[T,T,T,T,T,T,T,T,T,F,F] rfl rfl (by kernel_rfl) (by decide) (fun K hK=>?_)
 have Q1:=av BK1.out
 have Q2:=av BK2.out
 have Q3:=ak BK3.out
 have Q5:=av BK5.out
 obtain⟨qf0,qf1,qf2⟩:=eT BK2
 obtain⟨w13_,hw⟩:=lw_ ((iN w12_ gb2_ (.int .i64 t1) (.slice Ao4_0 t2.length co4_0) (.int .i64 (wrap64 (t3+1)))))
 refine fT (w1:=w13_) (by rfl) rfl ?_ ?_
 ·rw [hw];go_simp;try rfl
 refine hK.out _ _ ?_
 clear hK K qf0 qf1 qf2 Q1 Q2 Q3 Q5
 obtain⟨hbx,hkp,hbb⟩:=iT hw BK2 HB (ho_ HS)
 clear hw
 revert HO12_1 HO4_0 BK1 BK3 BK5
 refine bC hkp HS ?_
 intro HO12_1 HO4_0 BK1 BK3 BK5
 replace BK2:=A_.mk hbx
 replace HB:=A_.mk hbb
 replace HS:=aHs HS hkp.1
 clear hkp hbb hbx
 refine gG (i:=9) (N:=none) #[T,T,T,T,T,T,T,T,T,T,F] rfl rfl (by kernel_rfl) (by decide) (fun K hK=>?_)
 have Q1:=av BK1.out
 have Q2:=av BK2.out
 have Q3:=ak BK3.out
 have Q5:=av BK5.out
 obtain⟨qf0,qf1⟩:=dO BK3
 obtain⟨w14_,hw⟩:=lw_ ((jv w13_ gb3_ (.int .i64 t5) (.slice Ao12_1 t6.length co12_1)))
 refine fT (w1:=w14_) (by rfl) rfl ?_ ?_
 ·rw [hw];go_simp;try rfl
 refine hK.out _ _ ?_
 clear hK K qf0 qf1 Q1 Q2 Q3 Q5
 obtain⟨hbx,hkp,hbb⟩:=jA hw BK3 HB (ho_ HS)
 clear hw
 revert HO12_1 HO4_0 BK1 BK5 BK2
 refine bC hkp HS ?_
 intro HO12_1 HO4_0 BK1 BK5 BK2
 replace BK3:=A_.mk hbx
 replace HB:=A_.mk hbb
 replace HS:=aHs HS hkp.1
 clear hkp hbb hbx
 refine pd_ (i:=10) (N:=some 4) #[T,T,T,T,T,T,T,T,T,T,T] rfl ?_
 refine fA (by kernel_rfl) ?_
 go_wp2
 refine bodyPost_ret (jy rfl _ _ gb2_ 36 _ (0,0) _ rfl BK2.out Tryz.underlying36 rfl (by kernel_rfl) gb3_ 68 #[.int .i64 t5,.slice Ao12_1 t6.length co12_1] (0,0) _ rfl BK3.out Tryz.underlying68 rfl (by kernel_rfl)) rfl ?_
 obtain⟨f_,hf_⟩:=mS_ HO4_0 0 (mR_ HO12_1 1 (m0_ 0))
 exact⟨f_,_,_,rfl,cS_ HO4_0 HS hf_,cR_ HO12_1 HS hf_,HB.out⟩
def gz.f(a0:Int):Option (Bool):=(bE.f a0 0 65535).bind fun t356=>(some t356)
theorem gz.calls(a0:Int)(r:Bool)(w:World)(h:gz.f a0=some r) :
  Calls Tryz.prog 84 #[.int .i64 a0] w fun e w'=>e=.returned (.bool r)∧Drawn0 w w':=by
 have H:((bE.f a0 0 65535).bind fun t356=>(some t356))=some r:=h
 clear h
 replace H:=oa_ H
 obtain⟨t356,A2,H⟩:=H
 obtain rfl:=Option.some.inj H
 go_enter Tryz.func84,Tryz.ntmps84
 go_wp2_with (first|((with_reducible refine gc_ (f:=83) rfl ?_);refine gl_ (some 4) Tryz.func83 #[.int .i64 a0,.int .i64 0,.int .i64 65535] ?_;(with_reducible refine (bE.calls a0 0 65535 t356 _ A2.out).mono ?_);rintro e w' ⟨rfl,⟨nd,rfl⟩⟩;refine⟨_,rfl,?_⟩))
 go_ret
 exact dz_
def gB.f(a0:Int):Option (Int×Int):=(gz.f a0).bind fun t357=>(if t357=true then (some (wrap64 (Int.tdiv a0 256),Int.tmod a0 256)) else (some (0,0)))
theorem gB.calls(a0:Int)(r1:Int)(r2:Int)(w:World)(h:gB.f a0=some (r1,r2)) :
  Calls Tryz.prog 124 #[.int .i64 a0] w fun e w'=>e=.returned (.tuple #[.int .i64 r1,.int .i64 r2])∧Drawn0 w w':=by
 have H:((gz.f a0).bind fun t357=>(if t357=true then (some (wrap64 (Int.tdiv a0 256),Int.tmod a0 256)) else (some (0,0))))=some (r1,r2):=h
 clear h
 replace H:=oa_ H
 obtain⟨t357,A2,H⟩:=H
 by_cases c3:t357=true
 ·subst c3
  have H1:(some (wrap64 (Int.tdiv a0 256),Int.tmod a0 256))=some (r1,r2):=by rw [if_pos rfl] at H;exact H
  clear H
  have H:=H1
  clear H1
  replace H:=lh H
  obtain⟨rfl,rfl⟩:=H
  go_enter Tryz.func124,Tryz.ntmps124
  go_wp2_with (first|((with_reducible refine gc_ (f:=84) rfl ?_);refine gl_ (some 5) Tryz.func84 #[.int .i64 a0] ?_;(with_reducible refine (gz.calls a0 true _ A2.out).mono ?_);rintro e w' ⟨rfl,⟨nd,rfl⟩⟩;refine⟨_,rfl,?_⟩))
  go_ret2
  exact dz_
 ·replace c3:=Bool.eq_false_iff.mpr c3
  subst c3
  have H1:(some (0,0))=some (r1,r2):=by rw [if_neg (show ¬ (false=true) by decide)] at H;exact H
  clear H
  have H:=H1
  clear H1
  replace H:=lh H
  obtain⟨rfl,rfl⟩:=H
  go_enter Tryz.func124,Tryz.ntmps124
  go_wp2_with (first|((with_reducible refine gc_ (f:=84) rfl ?_);refine gl_ (some 5) Tryz.func84 #[.int .i64 a0] ?_;(with_reducible refine (gz.calls a0 false _ A2.out).mono ?_);rintro e w' ⟨rfl,⟨nd,rfl⟩⟩;refine⟨_,rfl,?_⟩))
  go_ret2
  exact dz_
mutual
def bz.l0:Nat→Int→List Int→Int→Int→Option (Int)
 | 0,_,_,_,_=>none
 | k+1,x3,x9,x10,x11=>if x11<x10 then (if 0≤x11 then (if x11<(x9.length:Int) then (bz.l1 k (Go.bits .xor .i64 x3 (wrap64 ((rd x9 x11)*256))) x9 x10 x11 0) else (none)) else (none)) else (some x3)
def bz.l1:Nat→Int→List Int→Int→Int→Int→Option (Int)
 | 0,_,_,_,_,_=>none
 | k+1,x3,x9,x10,x11,x19=>if x19<8 then (if (wrap64 (x3*2)) > 65535 then (bz.l1 k (Go.bits .xor .i64 (wrap64 (x3*2)) 69665) x9 x10 x11 (wrap64 (x19+1))) else (bz.l1 k (wrap64 (x3*2)) x9 x10 x11 (wrap64 (x19+1)))) else (bz.l0 k x3 x9 x10 (wrap64 (x11+1)))
end
def bz.f(k:Nat)(l0:List Int):Option (Int):=(bf.f k l0).bind fun t358=>(if t358=true then (bz.l0 k 65535 l0 (l0.length:Int) 0) else (some (-1)))
theorem bz.calls(k:Nat)(A0:Option Addr)(c0:Nat)(l0:List Int)(r:Int)(w:World)(hr0:Kd.C (Kd.int .i64) w A0 l0.length l0)(hc0:l0.length≤c0)(h:bz.f k l0=some r) :
  Calls Tryz.prog 125 #[.slice A0 l0.length c0] w fun e w'=>e=.returned (.int .i64 r)∧Drawn0 w w':=by
 have HR0:=A_.mk hr0
 have HC0:=A_.mk hc0
 clear hr0 hc0
 have H:((bf.f k l0).bind fun t358=>(if t358=true then (bz.l0 k 65535 l0 (l0.length:Int) 0) else (some (-1))))=some r:=h
 clear h
 replace H:=oa_ H
 obtain⟨t358,A2,H⟩:=H
 by_cases c3:t358=true
 rotate_left
 ·replace c3:=Bool.eq_false_iff.mpr c3
  subst c3
  have H1:(some (-1))=some r:=by rw [if_neg (show ¬ (false=true) by decide)] at H;exact H
  clear H
  have H:=H1
  clear H1
  obtain rfl:=Option.some.inj H
  go_enter Tryz.func125,Tryz.ntmps125
  go_wp2_with (first|((with_reducible refine gc_ (f:=106) rfl ?_);refine gl_ (some 7) Tryz.func106 #[.slice A0 l0.length c0] ?_;(with_reducible refine (bf.calls k _ _ l0 false _ ?side1 ?side2 A2.out).mono ?_);(case side1=>exact cY (HR0.out));(case side2=>exact HC0.out);rintro e w' ⟨rfl,⟨nd,rfl⟩⟩;refine⟨_,rfl,?_⟩))
  go_ret
  exact dz_
 subst c3
 have H1:(bz.l0 k 65535 l0 (l0.length:Int) 0)=some r:=by rw [if_pos rfl] at H;exact H
 clear H
 have H:=H1
 clear H1
 have H':=A_.mk H
 clear H
 go_enter Tryz.func125,Tryz.ntmps125
 go_wp2_with (first|((with_reducible refine gc_ (f:=106) rfl ?_);refine gl_ (some 7) Tryz.func106 #[.slice A0 l0.length c0] ?_;(with_reducible refine (bf.calls k _ _ l0 true _ ?side1 ?side2 A2.out).mono ?_);(case side1=>exact cY (HR0.out));(case side2=>exact HC0.out);rintro e w' ⟨rfl,⟨nd,rfl⟩⟩;refine⟨_,rfl,?_⟩))
 go_loopg [3,11] k (fun kq v3 v11 w'=>∃ (x3_1:Int) (x11_1:Int),v3=.int .i64 x3_1∧v11=.int .i64 x11_1∧A_ (bz.l0 kq x3_1 l0 (l0.length:Int) x11_1=some r)∧A_ (kq≤k)∧Drawn0 w w')
 case atStart=>exact ⟨(65535),(0),rs_,rs_,H',⟨Nat.le_refl _⟩,by repeat (first|exact Drawn0.refl _|apply Drawn0.step)⟩
 case round =>
  clear H'
  obtain⟨x3_1,x11_1,rfl,rfl,HA,HK1,⟨m1,rfl⟩⟩:=hrel
  cases gk with
  | zero=>exact absurd HA.out (by simp [bz.l0])
  | succ k1 =>
   have H:=HA.out
   clear HA
   simp only [bz.l0] at H
   by_cases c4:x11_1<(l0.length:Int)
   rotate_left
   ·rw [if_neg c4] at H
    have c4b0:=decide_eq_false c4
    clear c4
    obtain rfl:=Option.some.inj H
    go_wp2
    go_ret
    exact dz_
   rw [if_pos c4] at H
   have c4b0:=decide_eq_true c4
   clear c4
   by_cases c5:0≤x11_1
   rotate_left
   ·rw [if_neg c5] at H
    exact absurd H (by simp)
   rw [if_pos c5] at H
   have c5b0:=decide_eq_true c5
   clear c5
   by_cases c6:x11_1<(l0.length:Int)
   rotate_left
   ·rw [if_neg c6] at H
    exact absurd H (by simp)
   rw [if_pos c6] at H
   have c6b0:=decide_eq_true c6
   clear c6
   have H':=A_.mk H
   clear H
   have p359:0≤(x11_1:Int):=od_
   have q359:x11_1<(l0.length:Int):=od_
   obtain⟨ad359,e359,hx359_0⟩:=Kd.d9 HR0.out x11_1 p359 q359
   cases e359
   replace p359:=eq_true p359
   replace q359:=eq_true q359
   go_wp2
   go_loopg [3,19] k1 (fun kq v3 v19 w'=>∃ (x3_2:Int) (x19_2:Int),v3=.int .i64 x3_2∧v19=.int .i64 x19_2∧A_ (bz.l1 kq x3_2 l0 (l0.length:Int) x11_1 x19_2=some r)∧A_ (kq≤k1)∧Drawn0 w w')
   case atStart=>exact ⟨(Go.bits .xor .i64 x3_1 (wrap64 ((rd l0 x11_1)*256))),(0),rs_,rs_,H',⟨Nat.le_refl _⟩,by repeat (first|exact Drawn0.refl _|apply Drawn0.step)⟩
   case round =>
    clear H'
    obtain⟨x3_2,x19_2,rfl,rfl,HA,HK2,⟨m2,rfl⟩⟩:=hrel
    cases gk with
    | zero=>exact absurd HA.out (by simp [bz.l1])
    | succ k2 =>
     have H:=HA.out
     clear HA
     simp only [bz.l1] at H
     by_cases c7:x19_2<8
     rotate_left
     ·rw [if_neg c7] at H
      have c7b0:=decide_eq_false c7
      clear c7
      have H':=A_.mk H
      clear H
      go_wp2
      go_roundg k2
      case measure=>have:=HK1.out;have:=HK2.out;omega
      case rel=>exact ⟨(x3_2),(wrap64 (x11_1+1)),rs_,rs_,H',⟨by have:=HK1.out;have:=HK2.out;omega⟩,by repeat (first|exact Drawn0.refl _|apply Drawn0.step)⟩
     rw [if_pos c7] at H
     have c7b0:=decide_eq_true c7
     clear c7
     by_cases c8:(wrap64 (x3_2*2)) > 65535
     rotate_left
     ·rw [if_neg c8] at H
      have c8b0:=decide_eq_false c8
      clear c8
      have H':=A_.mk H
      clear H
      go_wp2
      go_roundg k2
      case measure=>have:=HK1.out;have:=HK2.out;omega
      case rel=>exact ⟨(wrap64 (x3_2*2)),(wrap64 (x19_2+1)),rs_,rs_,H',⟨by have:=HK1.out;have:=HK2.out;omega⟩,by repeat (first|exact Drawn0.refl _|apply Drawn0.step)⟩
     rw [if_pos c8] at H
     have c8b0:=decide_eq_true c8
     clear c8
     have H':=A_.mk H
     clear H
     go_wp2
     go_roundg k2
     case measure=>have:=HK1.out;have:=HK2.out;omega
     case rel=>exact ⟨(Go.bits .xor .i64 (wrap64 (x3_2*2)) 69665),(wrap64 (x19_2+1)),rs_,rs_,H',⟨by have:=HK1.out;have:=HK2.out;omega⟩,by repeat (first|exact Drawn0.refl _|apply Drawn0.step)⟩
def bu.j0:Nat→List Int→Bool→Option (List Int)
 | 0,_,_=>none
 | k+1,x0,x12=>if x12=true then (some ([]:List Int)) else ((bz.f k x0).bind fun t361=>((gB.f t361).bind fun bt362=>((ai.f x0).bind fun t364=>((some (([bt362.1,bt362.2]:List Int):List Int)).bind fun y367=>(if t364.length+y367.length<17592186044416 then (some (t364++y367)) else (none))))))
def bu.f(k:Nat)(l0:List Int):Option (List Int):=(bf.f k l0).bind fun t360=>(if t360=true then (bu.j0 k l0 (decide ((l0.length:Int) > 38))) else (bu.j0 k l0 true))
theorem bu.calls(k:Nat)(A0:Option Addr)(c0:Nat)(l0:List Int)(r:List Int)(w:World)(hr0:Kd.C (Kd.int .i64) w A0 l0.length l0)(hc0:l0.length≤c0)(h:bu.f k l0=some r) :
  Calls Tryz.prog 113 #[.slice A0 l0.length c0] w fun e w'=>∃ v0_:Value,e=.returned (v0_)∧Kd.R (Kd.int .i64) 3 w' w.heap.size (fun _=>True) v0_ r∧Below w.heap.size w w':=by
 have HR0:=A_.mk hr0
 have HC0:=A_.mk hc0
 clear hr0 hc0
 have HB:=A_.mk (Below.refl w.heap.size w)
 have H:((bf.f k l0).bind fun t360=>(if t360=true then (bu.j0 k l0 (decide ((l0.length:Int) > 38))) else (bu.j0 k l0 true)))=some r:=h
 clear h
 have HC2:=A_.mk H
 clear H
 go_enter Tryz.func113,Tryz.ntmps113
 go_upto_region 1 with (fail)
 go_cut [12] (fun v12 wc=>∃ (kq:Nat) (x12_1:Bool),v12=.bool x12_1∧A_ (bu.j0 kq l0 x12_1=some r)∧A_ (kq≤k)∧A_ (Below w.heap.size w wc))
 case first =>
  have H:=HC2.out
  clear HC2
  replace H:=oa_ H
  obtain⟨t360,A3,H⟩:=H
  by_cases c4:t360=true
  rotate_left
  ·replace c4:=Bool.eq_false_iff.mpr c4
   subst c4
   have H1:(bu.j0 k l0 true)=some r:=by rw [if_neg (show ¬ (false=true) by decide)] at H;exact H
   clear H
   have H:=H1
   clear H1
   have H':=A_.mk H
   clear H
   go_wp2_with (first|((with_reducible refine gc_ (f:=106) rfl ?_);refine gl_ (some 6) Tryz.func106 #[.slice A0 l0.length c0] ?_;(with_reducible refine (bf.calls k _ _ l0 false _ ?side1 ?side2 A3.out).mono ?_);(case side1=>exact cY ((cb_ HR0 HB)));(case side2=>exact HC0.out);rintro e w' ⟨rfl,⟨nd,rfl⟩⟩;refine⟨_,rfl,?_⟩))
   go_meet
   case rel=>exact ⟨_,(true),rs_,H',⟨by first|omega|exact Nat.le_refl _⟩,⟨beY HB.out⟩⟩
  subst c4
  have H1:(bu.j0 k l0 (decide ((l0.length:Int) > 38)))=some r:=by rw [if_pos rfl] at H;exact H
  clear H
  have H:=H1
  clear H1
  have H':=A_.mk H
  clear H
  go_wp2_with (first|((with_reducible refine gc_ (f:=106) rfl ?_);refine gl_ (some 6) Tryz.func106 #[.slice A0 l0.length c0] ?_;(with_reducible refine (bf.calls k _ _ l0 true _ ?side1 ?side2 A3.out).mono ?_);(case side1=>exact cY ((cb_ HR0 HB)));(case side2=>exact HC0.out);rintro e w' ⟨rfl,⟨nd,rfl⟩⟩;refine⟨_,rfl,?_⟩))
  go_meet
  case rel=>exact ⟨_,(decide ((l0.length:Int) > 38)),rs_,H',⟨by first|omega|exact Nat.le_refl _⟩,⟨beY HB.out⟩⟩
 case rest =>
  clear HC2
  obtain⟨kq,x12_1,rfl,HA,HJ1,HB⟩:=hcut
  cases kq with
  | zero=>exact absurd HA.out (by simp [bu.j0])
  | succ kj1 =>
   have H:=HA.out
   clear HA
   simp only [bu.j0] at H
   by_cases c5:x12_1=true
   ·subst c5
    have H1:(some ([]:List Int))=some r:=by rw [if_pos rfl] at H;exact H
    clear H
    have H:=H1
    clear H1
    obtain rfl:=Option.some.inj H
    go_wp2
    go_ret
    exact⟨_,re_,by first|exact Kd.jF _ _ _ _ _|exact Kd.lI _ _ _ _ _|exact Kd.jY _ _ _ _ _|exact Kd.lw _ _ _ _ _|exact Kd.kX _ _ _ _ _,beY HB.out⟩
   replace c5:=Bool.eq_false_iff.mpr c5
   subst c5
   have H1:((bz.f kj1 l0).bind fun t361=>((gB.f t361).bind fun bt362=>((ai.f l0).bind fun t364=>((some (([bt362.1,bt362.2]:List Int):List Int)).bind fun y367=>(if t364.length+y367.length<17592186044416 then (some (t364++y367)) else (none))))))=some r:=by rw [if_neg (show ¬ (false=true) by decide)] at H;exact H
   clear H
   have H:=H1
   clear H1
   replace H:=oa_ H
   obtain⟨t361,A6,H⟩:=H
   replace H:=ob_ H
   obtain⟨⟨t362,t363⟩,A70,H⟩:=H
   replace H:((ai.f l0).bind fun t364=>((some (([t362,t363]:List Int):List Int)).bind fun y367=>(if t364.length+y367.length<17592186044416 then (some (t364++y367)) else (none))))=some r:=H
   have A7:=A_.mk A70
   clear A70
   replace H:=oa_ H
   obtain⟨t364,A8,H⟩:=H
   obtain⟨y367,hy367⟩:∃ y_:List Int,y_=(([t362,t363]:List Int)):=⟨_,rfl⟩
   replace H:(if t364.length+y367.length<17592186044416 then (some (t364++y367)) else (none))=some r:=by first|(rw [hy367];with_reducible exact H)|(have H2_:=(Option.bind_some _ _).symm.trans H;rw [hy367];with_reducible exact H2_)|(have H2_:=(Option.bind_some _ _).symm.trans H;with_reducible exact H2_)|with_reducible exact H|(rw [hy367];exact H)|exact H
   have Ny367:=A_.mk hy367
   clear hy367
   by_cases c9:t364.length+y367.length<17592186044416
   rotate_left
   ·rw [if_neg c9] at H
    exact absurd H (by simp)
   rw [if_pos c9] at H
   have LMc9:=A_.mk c9
   clear c9
   obtain⟨y370,hy370⟩:∃ y_:List Int,y_=(t364++y367):=⟨_,rfl⟩
   replace H:(some y370)=some r:=by first|(rw [hy370];with_reducible exact H)|(have H2_:=(Option.bind_some _ _).symm.trans H;rw [hy370];with_reducible exact H2_)|(have H2_:=(Option.bind_some _ _).symm.trans H;with_reducible exact H2_)|with_reducible exact H|(rw [hy370];exact H)|exact H
   have Ny370:=A_.mk hy370
   clear hy370
   obtain rfl:=Option.some.inj H
   go_wp2_with (first|((with_reducible refine gc_ (f:=125) rfl ?_);refine gl_ (some 15) Tryz.func125 #[.slice A0 l0.length c0] ?_;(with_reducible refine (bz.calls kj1 _ _ l0 t361 _ ?side1 ?side2 A6.out).mono ?_);(case side1=>exact cY ((cb_ HR0 HB)));(case side2=>exact HC0.out);rintro e w' ⟨rfl,⟨nd,rfl⟩⟩;refine⟨_,rfl,?_⟩)|((with_reducible refine gc_ (f:=124) rfl ?_);refine gl_ (some 16) Tryz.func124 #[.int .i64 t361] ?_;(with_reducible refine (gB.calls t361 t362 t363 _ A7.out).mono ?_);rintro e w' ⟨rfl,⟨nd,rfl⟩⟩;refine⟨_,rfl,?_⟩)|((with_reducible refine gc_ (f:=76) rfl ?_);refine gl_ (some 20) Tryz.func76 #[.slice A0 l0.length c0] ?_;(with_reducible refine (ai.calls _ _ l0 t364 _ ?side1 ?side2 A8.out).mono ?_);(case side1=>exact cY ((cb_ HR0 HB)));(case side2=>exact HC0.out);rintro e w10 ⟨v365,rfl,ho0,hb⟩;refine⟨_,rfl,?_⟩;have n0_:=A_.mk (Kd.bR ho0 (bz_ (beY HB.out)));have n1_:=A_.mk (bt_ (beY HB.out) hb);clear HB;have HO366:=n0_;have HB:=n1_;clear n0_ n1_;(try clear hb);(try clear hb2);(try clear hk);(try clear hi);(try clear ho0))|((with_reducible refine gd_ (N:=23) rfl ?_);(try (refine bn (by rfl) ?_;dsimp only));refine Kd.iM (Kd.int .i64) _ 3 ?hg (N:=23) ?hd (xs:=([t362,t363]:List Int)) (inner:=[.int .i64 t362,.int .i64 t363]) (ok:=fun _=>True) (okp:=fun _=>True) ?hr ?hp (fun _ hk=>hk) trivial (Below.refl _ _) (Nat.le_refl _) (by simp) ?_;(case hd=>rfl);(case hg=>rfl);(case hr=>first|(go_simp;done)|(go_simp;rfl));(case hp=>exact (Reps.one (show Kd.M (Kd.int .i64) _ _ _ t362 [.int .i64 t362] from rfl) (Reps.one (show Kd.M (Kd.int .i64) _ _ _ t363 [.int .i64 t363] from rfl) (Reps.none _ _))));intro v368 w11 ho12 hb hg_ hnew_;clear hg_ hnew_;(first|rw [←Ny367.out] at ho12|(simp only [Int.reduceToNat] at ho12;rw [←Ny367.out] at ho12));have n0_:=A_.mk (Kd.kV (rY HO366.out) (Kd.jG ho12) hb);have n1_:=A_.mk (Kd.bR (Kd.oI ho12 (Kd.qD (rY HO366.out))) (bz_ (beY HB.out)));have n2_:=A_.mk (bt_ (beY HB.out) hb);clear HO366 HB;have HO366:=n0_;have HO369:=n1_;have HB:=n2_;clear n0_ n1_ n2_ hb ho12;obtain⟨Ao14,co14,eo14⟩:=Kd.aX HO369.out;subst eo14)|((with_reducible refine cz (b:=.append) (xs:=#[.tmp 20,.tmp 23]) rfl ?_);(try (refine bn (by rfl) ?_;dsimp only));at_builtin;refine Kd.dW (Kd.int .i64) (w0:=w) w.heap.size rfl (.tmp 20) (.tmp 23) 28 3 (.int .i64 0) 8 rfl Tryz.underlying28 info3 rfl (by decide) (by omega) v365 t364 y367 _ _ _ (fun k_=>some k_≠(.slice Ao14 y367.length co14:Value).ownBlock) (fun _=>False) rfl rfl ?aO ?aR (fun _ _ h=>h) (fun _ h=>h.elim) ?aF ?aB ?aS ?aL ?_;(case aR=>repeat (first|exact (je HO369)|(with_reducible refine Kd.fo ?_ _)|(with_reducible refine Kd.fq ?_ _)|(with_reducible refine Kd.gI ?_)));(case aB=>exact (beY HB.out));(case aF=>exact (fun k_ hk=>Kd.fresh' (Kd.qD (rY HO369.out)) k_ hk));(case aO=>exact (by (repeat apply rX);exact Kd.aC HO366.out (fun _ hk=>hk.2)));(case aS=>exact (bz_ (beY HB.out)));(case aL=>have:=LMc9.out;omega);intro v371 w13 ho hb hg hat;rw [←Ny370.out] at ho;have n0_:=A_.mk (Kd.qb (ok:=(fun _=>True)) (rY HO369.out) hg hat);have n1_:=A_.mk (hb);have n2_:=A_.mk (ho);clear HO369 HB HO366;have HO369:=n0_;have HB:=n1_;have HO372:=n2_;clear n0_ n1_ n2_ ho hb hg hat))
   go_ret
   exact⟨_,re_,by (repeat apply rX);exact Kd.aC HO372.out (fun _ hk=>trivial),beY HB.out⟩
def ib.f(k:Nat)(a0_0:Int)(l0_1:List Int):Option (List Int):=(bB.f a0_0).bind fun t374=>(if t374=true then ((some (([a0_0]:List Int):List Int)).bind fun y375=>(if y375.length+l0_1.length<17592186044416 then ((bu.f k (y375++l0_1)).bind fun t381=>(some t381)) else (none))) else (some ([]:List Int)))
theorem ib.calls(k:Nat)(a0_0:Int)(A0_1:Option Addr)(c0_1:Nat)(l0_1:List Int)(r:List Int)(w:World)(hr0_1:Kd.C (Kd.int .i64) w A0_1 l0_1.length l0_1)(hc0_1:l0_1.length≤c0_1)(h:ib.f k a0_0 l0_1=some r) :
  Calls Tryz.prog 93 #[.agg #[.int .i64 a0_0,.slice A0_1 l0_1.length c0_1]] w fun e w'=>∃ v0_:Value,e=.returned (v0_)∧Kd.R (Kd.int .i64) 3 w' w.heap.size (fun _=>True) v0_ r∧Below w.heap.size w w':=by
 have hu68:=Tryz.underlying68
 have HR0_1:=A_.mk hr0_1
 have HC0_1:=A_.mk hc0_1
 clear hr0_1 hc0_1
 have HB:=A_.mk (Below.refl w.heap.size w)
 have H:((bB.f a0_0).bind fun t374=>(if t374=true then ((some (([a0_0]:List Int):List Int)).bind fun y375=>(if y375.length+l0_1.length<17592186044416 then ((bu.f k (y375++l0_1)).bind fun t381=>(some t381)) else (none))) else (some ([]:List Int))))=some r:=h
 clear h
 replace H:=oa_ H
 obtain⟨t374,A2,H⟩:=H
 by_cases c3:t374=true
 rotate_left
 ·replace c3:=Bool.eq_false_iff.mpr c3
  subst c3
  have H1:(some ([]:List Int))=some r:=by rw [if_neg (show ¬ (false=true) by decide)] at H;exact H
  clear H
  have H:=H1
  clear H1
  obtain rfl:=Option.some.inj H
  go_enter Tryz.func93,Tryz.ntmps93
  go_wp2_with (first|((with_reducible refine gd_ (N:=1) rfl ?_);refine by_ 1 (cs:=#[.int .i64 a0_0,.slice A0_1 l0_1.length c0_1]) (t:=68) ?_;intro gb373 hg w14 hbox hb;have n0_:=A_.mk (bt_ (beY HB.out) hb);have n1_:=A_.mk (hbox);have n2_:=A_.mk ((by rw [hg];exact(bz_ (beY HB.out)):w.heap.size≤gb373));have n3_:=A_.mk ((by rw [hg];exact(bz_ (beY HB.out)):w.heap.size≤gb373));clear HB;have HB:=n0_;have BK373:=n1_;have GW373:=n2_;have GE373:=n3_;clear n0_ n1_ n2_ n3_ hb hbox hg;obtain⟨hcz15_0,hcz15_1⟩:=gq BK373;obtain⟨hfz15_0,hfz15_1⟩:=dO BK373)|((with_reducible refine gc_ (f:=82) rfl ?_);refine gl_ (some 5) Tryz.func82 #[.int .i64 a0_0] ?_;(with_reducible refine (bB.calls a0_0 false _ A2.out).mono ?_);rintro e w' ⟨rfl,⟨nd,rfl⟩⟩;refine⟨_,rfl,?_⟩))
  go_ret
  exact⟨_,re_,by first|exact Kd.jF _ _ _ _ _|exact Kd.lI _ _ _ _ _|exact Kd.jY _ _ _ _ _|exact Kd.lw _ _ _ _ _|exact Kd.kX _ _ _ _ _,(zA_ HB GE373)⟩
 subst c3
 have H1:((some (([a0_0]:List Int):List Int)).bind fun y375=>(if y375.length+l0_1.length<17592186044416 then ((bu.f k (y375++l0_1)).bind fun t381=>(some t381)) else (none)))=some r:=by rw [if_pos rfl] at H;exact H
 clear H
 have H:=H1
 clear H1
 obtain⟨y375,hy375⟩:∃ y_:List Int,y_=(([a0_0]:List Int)):=⟨_,rfl⟩
 replace H:(if y375.length+l0_1.length<17592186044416 then ((bu.f k (y375++l0_1)).bind fun t381=>(some t381)) else (none))=some r:=by first|(rw [hy375];with_reducible exact H)|(have H2_:=(Option.bind_some _ _).symm.trans H;rw [hy375];with_reducible exact H2_)|(have H2_:=(Option.bind_some _ _).symm.trans H;with_reducible exact H2_)|with_reducible exact H|(rw [hy375];exact H)|exact H
 have Ny375:=A_.mk hy375
 clear hy375
 by_cases c4:y375.length+l0_1.length<17592186044416
 rotate_left
 ·rw [if_neg c4] at H
  exact absurd H (by simp)
 rw [if_pos c4] at H
 have LMc4:=A_.mk c4
 clear c4
 obtain⟨y378,hy378⟩:∃ y_:List Int,y_=(y375++l0_1):=⟨_,rfl⟩
 replace H:((bu.f k y378).bind fun t381=>(some t381))=some r:=by first|(rw [hy378];with_reducible exact H)|(have H2_:=(Option.bind_some _ _).symm.trans H;rw [hy378];with_reducible exact H2_)|(have H2_:=(Option.bind_some _ _).symm.trans H;with_reducible exact H2_)|with_reducible exact H|(rw [hy378];exact H)|exact H
 have Ny378:=A_.mk hy378
 clear hy378
 replace H:=oa_ H
 obtain⟨t381,A5,H⟩:=H
 obtain rfl:=Option.some.inj H
 go_enter Tryz.func93,Tryz.ntmps93
 go_wp2_with (first|((with_reducible refine gd_ (N:=1) rfl ?_);refine by_ 1 (cs:=#[.int .i64 a0_0,.slice A0_1 l0_1.length c0_1]) (t:=68) ?_;intro gb373 hg w6 hbox hb;have n0_:=A_.mk (bt_ (beY HB.out) hb);have n1_:=A_.mk (hbox);have n2_:=A_.mk ((by rw [hg];exact(bz_ (beY HB.out)):w.heap.size≤gb373));have n3_:=A_.mk ((by rw [hg];exact(bz_ (beY HB.out)):w.heap.size≤gb373));clear HB;have HB:=n0_;have BK373:=n1_;have GW373:=n2_;have GE373:=n3_;clear n0_ n1_ n2_ n3_ hb hbox hg;obtain⟨hcz7_0,hcz7_1⟩:=gq BK373;obtain⟨hfz7_0,hfz7_1⟩:=dO BK373)|((with_reducible refine gc_ (f:=82) rfl ?_);refine gl_ (some 5) Tryz.func82 #[.int .i64 a0_0] ?_;(with_reducible refine (bB.calls a0_0 true _ A2.out).mono ?_);rintro e w' ⟨rfl,⟨nd,rfl⟩⟩;refine⟨_,rfl,?_⟩)|((with_reducible refine gd_ (N:=9) rfl ?_);refine Kd.iM (Kd.int .i64) _ 3 ?hg (N:=9) ?hd (xs:=([a0_0]:List Int)) (inner:=[.int .i64 a0_0]) (ok:=fun _=>True) (okp:=fun _=>True) ?hr ?hp (fun _ hk=>hk) trivial (Below.refl _ _) (Nat.le_refl _) (by simp) ?_;(case hd=>rfl);(case hg=>rfl);(case hr=>first|(go_simp;done)|(go_simp;rfl));(case hp=>exact (Reps.one (show Kd.M (Kd.int .i64) _ _ _ a0_0 [.int .i64 a0_0] from rfl) (Reps.none _ _)));intro v376 w8 ho9 hb hg_ hnew_;clear hg_ hnew_;(first|rw [←Ny375.out] at ho9|(simp only [Int.reduceToNat] at ho9;rw [←Ny375.out] at ho9));have n0_:=A_.mk (Kd.bR ho9 (bz_ ((zA_ HB GE373))));have n1_:=A_.mk (bb_ (bY BK373.out) hb);have n2_:=A_.mk (bt_ ((zA_ HB GE373)) hb);clear BK373 HB;have HO377:=n0_;have BK373:=n1_;have HB:=n2_;clear n0_ n1_ n2_ hb ho9;obtain⟨hcz10_0,hcz10_1⟩:=gq BK373;obtain⟨hfz10_0,hfz10_1⟩:=dO BK373)|((with_reducible refine cz (b:=.append) (xs:=#[.tmp 9,.tmp 11]) rfl ?_);at_builtin;refine Kd.dW (Kd.int .i64) (w0:=w) w.heap.size rfl (.tmp 9) (.tmp 11) 28 3 (.int .i64 0) 8 rfl Tryz.underlying28 info3 rfl (by decide) (by omega) v376 y375 l0_1 _ _ _ (fun _=>True) (fun _=>False) rfl rfl ?aO ?aR (fun _ _ h=>h) (fun _ h=>h.elim) ?aF ?aB ?aS ?aL ?_;(case aR=>repeat (first|exact (cb_ HR0_1 HB)|(with_reducible refine Kd.fo ?_ _)|(with_reducible refine Kd.fq ?_ _)|(with_reducible refine Kd.gI ?_)));(case aB=>exact ((zA_ HB GE373)));(case aF=>exact (fun _ _=>trivial));(case aO=>exact (rY HO377.out));(case aS=>exact (bz_ ((zA_ HB GE373))));(case aL=>have:=LMc4.out;omega);intro v379 w11 ho hb hg hat;rw [←Ny378.out] at ho;have n0_:=A_.mk (fC (g:=gb373) (o:=.cells #[.int .i64 a0_0,.slice A0_1 l0_1.length c0_1] 68 (0,0)) (bY BK373.out) hg (Kd.ou HO377.out BK373.out (by decide)));have n1_:=A_.mk (hb);have n2_:=A_.mk (ho);clear BK373 HB HO377;have BK373:=n0_;have HB:=n1_;have HO380:=n2_;clear n0_ n1_ n2_ ho hb hg hat;obtain⟨Ao12,co12,eo12⟩:=Kd.aX HO380.out;subst eo12)|((with_reducible refine gc_ (f:=113) rfl ?_);refine gl_ (some 13) Tryz.func113 #[.slice Ao12 y378.length co12] ?_;(with_reducible refine (bu.calls k _ _ y378 t381 _ ?side1 ?side2 A5.out).mono ?_);(case side1=>exact cY ((je HO380)));(case side2=>exact (jB HO380));rintro e w13 ⟨v382,rfl,ho0,hb⟩;refine⟨_,rfl,?_⟩;have n0_:=A_.mk (Kd.kV (rY HO380.out) (Kd.jG ho0) hb);have n1_:=A_.mk (Kd.bR (Kd.oI ho0 (Kd.qD (rY HO380.out))) (bz_ ((zA_ HB GE373))));have n2_:=A_.mk (bb_ (bY BK373.out) hb);have n3_:=A_.mk (bt_ ((zA_ HB GE373)) hb);clear HO380 BK373 HB;have HO380:=n0_;have HO383:=n1_;have BK373:=n2_;have HB:=n3_;clear n0_ n1_ n2_ n3_;(try clear hb);(try clear hb2);(try clear hk);(try clear hi);(try clear ho0)))
 go_ret
 exact⟨_,re_,by (repeat apply rX);exact Kd.aC HO383.out (fun _ hk=>trivial),(zA_ HB GE373)⟩
def g_.f(k:Nat)(a0_0:Int)(l0_1:List (S68))(a0_2:Int)(a0_3:Int)(l0_4:List (List Int))(l0_5:List (List Int))(l0_6:List Int):Option ((Bool)×(Int)×(List (S68))×(Int)×(Int)×(List (List Int))×(List (List Int))×(List Int)):=((eB.f k a0_0 l0_1 a0_2).bind fun ⟨t1,t2,t3,t4,t5,t6⟩=>(if t6=true then (if (l0_5.length:Int)=8 then (some (false,a0_0,l0_1,a0_2,a0_3,l0_4,l0_5,l0_6)) else ((ib.f k t4 t5).bind fun t7=>(if (l0_5.length+1)*24≤140737488355328 then (some (true,t1,t2,t3,a0_3,l0_4,(l0_5++[t7]),l0_6)) else none))) else (some (false,a0_0,l0_1,a0_2,a0_3,l0_4,l0_5,l0_6))))
theorem g_.calls(k:Nat)(gb_:Nat)(f0_:Nat→Nat)(a0_0:Int)(A0_1:Option Addr)(c0_1:Nat)(l0_1:List (S68))(a0_2:Int)(a0_3:Int)(A0_4:Option Addr)(c0_4:Nat)(l0_4:List (List Int))(A0_5:Option Addr)(c0_5:Nat)(l0_5:List (List Int))(A0_6:Option Addr)(c0_6:Nat)(l0_6:List Int)(r1:Bool)(r2:Int)(r3:List (S68))(r4:Int)(r5:Int)(r6:List (List Int))(r7:List (List Int))(r8:List Int)(w w1:World)(hB:Below w.heap.size w w1)(hg:w.heap.size≤gb_)(hbx:w1.heap[gb_]?=some (.cells #[.int .i64 a0_0,.slice A0_1 l0_1.length c0_1,.int .i64 a0_2,.int .i64 a0_3,.slice A0_4 l0_4.length c0_4,.slice A0_5 l0_5.length c0_5,.slice A0_6 l0_6.length c0_6] 39 (0,0)))(hp0_1:Kd.S k68 68 w1 w.heap.size (fun k_=>(w.heap.size≤k_∧k_<w1.heap.size)∧k_≠gb_∧f0_ k_=0) (.slice A0_1 l0_1.length c0_1) l0_1)(hp0_4:Kd.S (Kd.slice 3 (Kd.int .i64)) 28 w1 w.heap.size (fun k_=>(w.heap.size≤k_∧k_<w1.heap.size)∧k_≠gb_∧f0_ k_=1) (.slice A0_4 l0_4.length c0_4) l0_4)(hp0_5:Kd.S (Kd.slice 3 (Kd.int .i64)) 28 w1 w.heap.size (fun k_=>(w.heap.size≤k_∧k_<w1.heap.size)∧k_≠gb_∧f0_ k_=2) (.slice A0_5 l0_5.length c0_5) l0_5)(hp0_6:Kd.R (Kd.int .i64) 3 w1 w.heap.size (fun k_=>(w.heap.size≤k_∧k_<w1.heap.size)∧k_≠gb_∧f0_ k_=3) (.slice A0_6 l0_6.length c0_6) l0_6)(h:g_.f k a0_0 l0_1 a0_2 a0_3 l0_4 l0_5 l0_6=some (r1,r2,r3,r4,r5,r6,r7,r8)) :
  Calls Tryz.prog 55 #[.pointer (some ⟨gb_,0,none⟩)] w1 fun e w'=>∃ f_:Nat→Nat,∃ v0_ v1_ v2_ v3_:Value,e=.returned (.bool r1)∧w'.heap[gb_]?=some (.cells #[.int .i64 r2,v0_,.int .i64 r4,.int .i64 r5,v1_,v2_,v3_] 39 (0,0))∧Kd.S k68 68 w' w.heap.size (fun k_=>(w.heap.size≤k_∧k_<w'.heap.size)∧k_≠gb_∧f_ k_=0) v0_ r3∧Kd.S (Kd.slice 3 (Kd.int .i64)) 28 w' w.heap.size (fun k_=>(w.heap.size≤k_∧k_<w'.heap.size)∧k_≠gb_∧f_ k_=1) v1_ r6∧Kd.S (Kd.slice 3 (Kd.int .i64)) 28 w' w.heap.size (fun k_=>(w.heap.size≤k_∧k_<w'.heap.size)∧k_≠gb_∧f_ k_=2) v2_ r7∧Kd.R (Kd.int .i64) 3 w' w.heap.size (fun k_=>(w.heap.size≤k_∧k_<w'.heap.size)∧k_≠gb_∧f_ k_=3) v3_ r8∧(∀ k_,k_<w1.heap.size→f_ k_<4→k_=gb_∨f0_ k_<4)∧Below w.heap.size w w'∧Kept w1 w' (fun k_=>k_=gb_∨((w.heap.size≤k_∧k_<w1.heap.size)∧k_≠gb_∧f0_ k_<4)):=by
 obtain⟨gb1_,rfl⟩:∃ q_,q_=gb_:=⟨_,rfl⟩
 have HO0_1:=A_.mk hp0_1
 clear hp0_1
 have HO0_4:=A_.mk hp0_4
 clear hp0_4
 have HO0_5:=A_.mk hp0_5
 clear hp0_5
 have HO0_6:=A_.mk hp0_6
 clear hp0_6
 have BK1:=A_.mk hbx
 have HS:=A_.mk (And.intro hB.size (And.intro hg (aI hbx)))
 have HK:=A_.mk (Kept.refl w1 (fun k_=>k_=gb1_∨((w.heap.size≤k_∧k_<w1.heap.size)∧k_≠gb1_∧f0_ k_<4)))
 clear hbx hg
 have HB:=A_.mk hB
 clear hB
 unfold g_.f at h
 have H:=h
 clear h
 replace H:=oa_ H
 obtain⟨⟨t1,t2,t3,t4,t5,t6⟩,A2,H⟩:=H
 try dsimp only at H
 by_cases hc1_:t6=true
 case neg =>
  rw [if_neg hc1_] at H
  replace hc1_:=eq_false_of_ne_true hc1_
  subst hc1_
  replace H:=il H
  obtain⟨rfl,rfl,rfl,rfl,rfl,rfl,rfl,rfl⟩:=H
  have hu36:=Tryz.underlying36
  have hu39:=Tryz.underlying39
  have hu68:=Tryz.underlying68
  go_enter Tryz.func55,Tryz.ntmps55
  have Q1:=aa BK1.out
  go_wp2_with (first|((with_reducible refine gc_ (f:=92) rfl ?_);refine gl_ (some 11) Tryz.func92 #[.agg #[.int .i64 a0_0,.slice A0_1 l0_1.length c0_1,.int .i64 a0_2]] ?_;(with_reducible refine (eB.calls k a0_0 _ _ l0_1 a0_2 t1 t2 t3 t4 t5 false _ (dV HO0_1) (dS HO0_1) A2.out).mono ?_);rintro e w2_ ⟨f2_,v0_,v1_,rfl,ho0_,ho1_,hb⟩;refine⟨_,rfl,?_⟩;replace HS:=aHs HS hb.size;obtain⟨Ao2_0,co2_0,ev_⟩:=Kd.dx ho0_;subst ev_;obtain⟨Ao2_1,co2_1,ev_⟩:=Kd.aX ho1_;subst ev_;replace HO0_1:=aSb HO0_1 hb;replace HO0_4:=aSb HO0_4 hb;replace HO0_5:=aSb HO0_5 hb;replace HO0_6:=aRb HO0_6 hb;replace BK1:=aBb BK1 hb;replace HK:=aKb HK hb;replace HB:=aHB HB hb;clear hb ho0_ ho1_ Q1)|((with_reducible refine gd_ (N:=3) rfl ?_);refine by_ 3 (cs:=#[.int .i64 0,.slice none 0 0,.int .i64 0]) (t:=36) ?_;intro gb3_ hg w3_ hbox hb;replace HS:=aHg HS hg hbox;revert HO0_1 HO0_4 HO0_5 HO0_6 BK1 HK HB;refine aD hb ?_;intro HO0_1 HO0_4 HO0_5 HO0_6 BK1 HK HB;have BK3:=A_.mk hbox;clear hbox hb hg)|((with_reducible refine gd_ (N:=4) rfl ?_);refine by_ 4 (cs:=#[.int .i64 0,.slice none 0 0]) (t:=68) ?_;intro gb4_ hg w4_ hbox hb;replace HS:=aHg HS hg hbox;revert HO0_1 HO0_4 HO0_5 HO0_6 BK1 HK HB BK3;refine aD hb ?_;intro HO0_1 HO0_4 HO0_5 HO0_6 BK1 HK HB BK3;have BK4:=A_.mk hbox;clear hbox hb hg;have Q3:=av BK3.out)|((with_reducible refine ae (t:=36) (p:=3) rfl ?_);obtain⟨qf0,qf1,qf2⟩:=eT BK3;refine so_ (w1:=(iN w4_ gb3_ (.int .i64 t1) (.slice Ao2_0 t2.length co2_0) (.int .i64 t3))) ?_;intro w5_ hw;clear qf0 qf1 qf2;obtain⟨hbx,hkp,hbb⟩:=iT hw BK3 HB (ho_ HS);clear hw;replace HK:=kt_ HK hkp HS;revert HO0_1 HO0_4 HO0_5 HO0_6 BK1 BK4;refine bC hkp HS ?_;intro HO0_1 HO0_4 HO0_5 HO0_6 BK1 BK4;replace BK3:=A_.mk hbx;replace HB:=A_.mk hbb;replace HS:=aHs HS hkp.1;clear hkp hbb hbx Q3;have Q4:=ak BK4.out)|((with_reducible refine ae (t:=68) (p:=4) rfl ?_);obtain⟨qf0,qf1⟩:=dO BK4;refine so_ (w1:=(jv w5_ gb4_ (.int .i64 t4) (.slice Ao2_1 t5.length co2_1))) ?_;intro w6_ hw;clear qf0 qf1;obtain⟨hbx,hkp,hbb⟩:=jA hw BK4 HB (ho_ HS);clear hw;replace HK:=kt_ HK hkp HS;revert HO0_1 HO0_4 HO0_5 HO0_6 BK1;refine bC hkp HS ?_;intro HO0_1 HO0_4 HO0_5 HO0_6 BK1;replace BK4:=A_.mk hbx;replace HB:=A_.mk hbb;replace HS:=aHs HS hkp.1;clear hkp hbb hbx Q4))
  go_ret
  obtain⟨f_,hf_⟩:=mS_ HO0_1 0 (mS_ HO0_4 1 (mS_ HO0_5 2 (mR_ HO0_6 3 (m0_ 4))))
  have hfk_:∀ k_,k_<w1.heap.size→f_ k_<4→k_=gb1_∨f0_ k_<4:=fun k_ h1_ h2_=>by have:=HS.out;rw [hf_] at h2_;repeat' (first|omega|split at h2_)
  first|exact ⟨f_,_,_,_,_,rfl,BK1.out,cS_ HO0_1 HS hf_,cS_ HO0_4 HS hf_,cS_ HO0_5 HS hf_,cR_ HO0_6 HS hf_,hfk_,HB.out,HK.out⟩|exact ⟨rfl,f_,_,_,_,_,BK1.out,cS_ HO0_1 HS hf_,cS_ HO0_4 HS hf_,cS_ HO0_5 HS hf_,cR_ HO0_6 HS hf_,hfk_,HB.out,HK.out⟩
 rw [if_pos hc1_] at H
 subst hc1_
 by_cases hc2_:(l0_5.length:Int)=8
 case pos =>
  rw [if_pos hc2_] at H
  have hc2_b1:(l0_5.length==8)=true:=by first|simpa using hc2_|(simp at hc2_ ⊢;omega)
  replace hc2_:=iF hc2_
  replace H:=il H
  obtain⟨rfl,rfl,rfl,rfl,rfl,rfl,rfl,rfl⟩:=H
  have hu36:=Tryz.underlying36
  have hu39:=Tryz.underlying39
  have hu68:=Tryz.underlying68
  go_enter Tryz.func55,Tryz.ntmps55
  have Q1:=aa BK1.out
  go_wp2_with (first|((with_reducible refine gc_ (f:=92) rfl ?_);refine gl_ (some 11) Tryz.func92 #[.agg #[.int .i64 a0_0,.slice A0_1 l0_1.length c0_1,.int .i64 a0_2]] ?_;(with_reducible refine (eB.calls k a0_0 _ _ l0_1 a0_2 t1 t2 t3 t4 t5 true _ (dV HO0_1) (dS HO0_1) A2.out).mono ?_);rintro e w2_ ⟨f2_,v0_,v1_,rfl,ho0_,ho1_,hb⟩;refine⟨_,rfl,?_⟩;replace HS:=aHs HS hb.size;obtain⟨Ao2_0,co2_0,ev_⟩:=Kd.dx ho0_;subst ev_;obtain⟨Ao2_1,co2_1,ev_⟩:=Kd.aX ho1_;subst ev_;replace HO0_1:=aSb HO0_1 hb;replace HO0_4:=aSb HO0_4 hb;replace HO0_5:=aSb HO0_5 hb;replace HO0_6:=aRb HO0_6 hb;replace BK1:=aBb BK1 hb;replace HK:=aKb HK hb;replace HB:=aHB HB hb;clear hb ho0_ ho1_ Q1)|((with_reducible refine gd_ (N:=3) rfl ?_);refine by_ 3 (cs:=#[.int .i64 0,.slice none 0 0,.int .i64 0]) (t:=36) ?_;intro gb3_ hg w3_ hbox hb;replace HS:=aHg HS hg hbox;revert HO0_1 HO0_4 HO0_5 HO0_6 BK1 HK HB;refine aD hb ?_;intro HO0_1 HO0_4 HO0_5 HO0_6 BK1 HK HB;have BK3:=A_.mk hbox;clear hbox hb hg)|((with_reducible refine gd_ (N:=4) rfl ?_);refine by_ 4 (cs:=#[.int .i64 0,.slice none 0 0]) (t:=68) ?_;intro gb4_ hg w4_ hbox hb;replace HS:=aHg HS hg hbox;revert HO0_1 HO0_4 HO0_5 HO0_6 BK1 HK HB BK3;refine aD hb ?_;intro HO0_1 HO0_4 HO0_5 HO0_6 BK1 HK HB BK3;have BK4:=A_.mk hbox;clear hbox hb hg;have Q3:=av BK3.out)|((with_reducible refine ae (t:=36) (p:=3) rfl ?_);obtain⟨qf0,qf1,qf2⟩:=eT BK3;refine so_ (w1:=(iN w4_ gb3_ (.int .i64 t1) (.slice Ao2_0 t2.length co2_0) (.int .i64 t3))) ?_;intro w5_ hw;clear qf0 qf1 qf2;obtain⟨hbx,hkp,hbb⟩:=iT hw BK3 HB (ho_ HS);clear hw;replace HK:=kt_ HK hkp HS;revert HO0_1 HO0_4 HO0_5 HO0_6 BK1 BK4;refine bC hkp HS ?_;intro HO0_1 HO0_4 HO0_5 HO0_6 BK1 BK4;replace BK3:=A_.mk hbx;replace HB:=A_.mk hbb;replace HS:=aHs HS hkp.1;clear hkp hbb hbx Q3;have Q4:=ak BK4.out)|((with_reducible refine ae (t:=68) (p:=4) rfl ?_);obtain⟨qf0,qf1⟩:=dO BK4;refine so_ (w1:=(jv w5_ gb4_ (.int .i64 t4) (.slice Ao2_1 t5.length co2_1))) ?_;intro w6_ hw;clear qf0 qf1;obtain⟨hbx,hkp,hbb⟩:=jA hw BK4 HB (ho_ HS);clear hw;replace HK:=kt_ HK hkp HS;revert HO0_1 HO0_4 HO0_5 HO0_6 BK1;refine bC hkp HS ?_;intro HO0_1 HO0_4 HO0_5 HO0_6 BK1;replace BK4:=A_.mk hbx;replace HB:=A_.mk hbb;replace HS:=aHs HS hkp.1;clear hkp hbb hbx Q4;have Q1:=aa BK1.out))
  go_ret
  obtain⟨f_,hf_⟩:=mS_ HO0_1 0 (mS_ HO0_4 1 (mS_ HO0_5 2 (mR_ HO0_6 3 (m0_ 4))))
  have hfk_:∀ k_,k_<w1.heap.size→f_ k_<4→k_=gb1_∨f0_ k_<4:=fun k_ h1_ h2_=>by have:=HS.out;rw [hf_] at h2_;repeat' (first|omega|split at h2_)
  first|exact ⟨f_,_,_,_,_,rfl,BK1.out,cS_ HO0_1 HS hf_,cS_ HO0_4 HS hf_,cS_ HO0_5 HS hf_,cR_ HO0_6 HS hf_,hfk_,HB.out,HK.out⟩|exact ⟨rfl,f_,_,_,_,_,BK1.out,cS_ HO0_1 HS hf_,cS_ HO0_4 HS hf_,cS_ HO0_5 HS hf_,cR_ HO0_6 HS hf_,hfk_,HB.out,HK.out⟩
 rw [if_neg hc2_] at H
 have hc2_b:=iE hc2_
 have hc2_b1:(l0_5.length==8)=false:=by first|simpa using hc2_|(simp at hc2_ ⊢;omega)
 replace H:=oa_ H
 obtain⟨t7,A7,H⟩:=H
 replace H:=lM H
 obtain⟨LM8,H⟩:=H
 obtain⟨y8,Ny8⟩:=le_ ((l0_5++[t7]))
 rw [←Ny8.out] at H
 replace H:=il H
 obtain⟨rfl,rfl,rfl,rfl,rfl,rfl,rfl,rfl⟩:=H
 have hu36:=Tryz.underlying36
 have hu39:=Tryz.underlying39
 have hu68:=Tryz.underlying68
 go_enter Tryz.func55,Tryz.ntmps55
 have Q1:=aa BK1.out
 go_wp2_with (first|((with_reducible refine gc_ (f:=92) rfl ?_);refine gl_ (some 11) Tryz.func92 #[.agg #[.int .i64 a0_0,.slice A0_1 l0_1.length c0_1,.int .i64 a0_2]] ?_;(with_reducible refine (eB.calls k a0_0 _ _ l0_1 a0_2 t1 t2 t3 t4 t5 true _ (dV HO0_1) (dS HO0_1) A2.out).mono ?_);rintro e w2_ ⟨f2_,v0_,v1_,rfl,ho0_,ho1_,hb⟩;refine⟨_,rfl,?_⟩;replace HS:=aHs HS hb.size;obtain⟨Ao2_0,co2_0,rfl,HO2_0⟩:=sSn ho0_ HB.out.size;obtain⟨Ao2_1,co2_1,rfl,HO2_1⟩:=sRn ho1_ HB.out.size;replace HO0_1:=aSb HO0_1 hb;replace HO0_4:=aSb HO0_4 hb;replace HO0_5:=aSb HO0_5 hb;replace HO0_6:=aRb HO0_6 hb;replace BK1:=aBb BK1 hb;replace HK:=aKb HK hb;replace HB:=aHB HB hb;clear hb ho0_ ho1_ Q1)|((with_reducible refine gd_ (N:=3) rfl ?_);refine by_ 3 (cs:=#[.int .i64 0,.slice none 0 0,.int .i64 0]) (t:=36) ?_;intro gb3_ hg w3_ hbox hb;replace HS:=aHg HS hg hbox;revert HO2_0 HO2_1 HO0_4 HO0_5 HO0_6 BK1 HK HB;refine aD hb ?_;intro HO2_0 HO2_1 HO0_4 HO0_5 HO0_6 BK1 HK HB;have BK3:=A_.mk hbox;clear hbox hb hg)|((with_reducible refine gd_ (N:=4) rfl ?_);refine by_ 4 (cs:=#[.int .i64 0,.slice none 0 0]) (t:=68) ?_;intro gb4_ hg w4_ hbox hb;replace HS:=aHg HS hg hbox;revert HO2_0 HO2_1 HO0_4 HO0_5 HO0_6 BK1 HK HB BK3;refine aD hb ?_;intro HO2_0 HO2_1 HO0_4 HO0_5 HO0_6 BK1 HK HB BK3;have BK4:=A_.mk hbox;clear hbox hb hg;have Q3:=av BK3.out)|((with_reducible refine ae (t:=36) (p:=3) rfl ?_);obtain⟨qf0,qf1,qf2⟩:=eT BK3;refine so_ (w1:=(iN w4_ gb3_ (.int .i64 t1) (.slice Ao2_0 t2.length co2_0) (.int .i64 t3))) ?_;intro w5_ hw;clear qf0 qf1 qf2;obtain⟨hbx,hkp,hbb⟩:=iT hw BK3 HB (ho_ HS);clear hw;replace HK:=kt_ HK hkp HS;revert HO2_0 HO2_1 HO0_4 HO0_5 HO0_6 BK1 BK4;refine bC hkp HS ?_;intro HO2_0 HO2_1 HO0_4 HO0_5 HO0_6 BK1 BK4;replace BK3:=A_.mk hbx;replace HB:=A_.mk hbb;replace HS:=aHs HS hkp.1;clear hkp hbb hbx Q3;have Q4:=ak BK4.out)|((with_reducible refine ae (t:=68) (p:=4) rfl ?_);obtain⟨qf0,qf1⟩:=dO BK4;refine so_ (w1:=(jv w5_ gb4_ (.int .i64 t4) (.slice Ao2_1 t5.length co2_1))) ?_;intro w6_ hw;clear qf0 qf1;obtain⟨hbx,hkp,hbb⟩:=jA hw BK4 HB (ho_ HS);clear hw;replace HK:=kt_ HK hkp HS;revert HO2_0 HO2_1 HO0_4 HO0_5 HO0_6 BK1 BK3;refine bC hkp HS ?_;intro HO2_0 HO2_1 HO0_4 HO0_5 HO0_6 BK1 BK3;replace BK4:=A_.mk hbx;replace HB:=A_.mk hbb;replace HS:=aHs HS hkp.1;clear hkp hbb hbx Q4;have Q1:=aa BK1.out))
 refine dN (n:=17) (S:=fun w'=>(w'.cell? ⟨gb1_,0,none⟩=some (.int .i64 a0_0)∧w'.cell? ⟨gb1_,1,none⟩=some (.slice A0_1 l0_1.length c0_1)∧w'.cell? ⟨gb1_,2,none⟩=some (.int .i64 a0_2)∧w'.cell? ⟨gb1_,3,none⟩=some (.int .i64 a0_3)∧w'.cell? ⟨gb1_,4,none⟩=some (.slice A0_4 l0_4.length c0_4)∧w'.cell? ⟨gb1_,5,none⟩=some (.slice A0_5 l0_5.length c0_5)∧w'.cell? ⟨gb1_,6,none⟩=some (.slice A0_6 l0_6.length c0_6))∧(w'.cell? ⟨gb3_,0,none⟩=some (.int .i64 t1)∧w'.cell? ⟨gb3_,1,none⟩=some (.slice Ao2_0 t2.length co2_0)∧w'.cell? ⟨gb3_,2,none⟩=some (.int .i64 t3))∧(w'.cell? ⟨gb4_,0,none⟩=some (.int .i64 t4)∧w'.cell? ⟨gb4_,1,none⟩=some (.slice Ao2_1 t5.length co2_1))) (ds:=[13,16]) #[F,F,F,F,F,F,F,F,F,F,F,F,F,F,F,F,F] (by kernel_rfl) rfl rfl ⟨aa BK1.out,av BK3.out,ak BK4.out⟩ (fun hHeld=>?_)
 clear Q1
 have hb:=aV (Below.refl w6_.heap.size w6_)
 revert HK HO2_0 HO2_1 HO0_4 HO0_5 HO0_6 BK1 BK3 BK4 HB HS
 refine aD hb ?_
 intro HK HO2_0 HO2_1 HO0_4 HO0_5 HO0_6 BK1 BK3 BK4 HB HS
 clear hb
 generalize w6_.drew=w11d_ at HO0_4 HO0_5 HO0_6 HO2_0 HO2_1 HK BK1 BK3 BK4 HB HS hHeld ⊢
 refine pd_ (i:=0) (N:=some 25) #[T,F,F,F,F,F,F,F,F,F,F,F,F,F,F,F,F] rfl ?_
 refine pd_ (i:=1) (N:=some 26) #[T,T,F,F,F,F,F,F,F,F,F,F,F,F,F,F,F] rfl ?_
 refine tl_ (i:=2) (N:=some 27) #[T,T,T,F,F,F,F,F,F,F,F,F,F,F,F,F,F] rfl hHeld ?_
 refine pd_ (i:=3) (N:=some 28) #[T,T,T,T,F,F,F,F,F,F,F,F,F,F,F,F,F] rfl ?_
 refine pd_ (i:=4) (N:=some 29) #[T,T,T,T,T,F,F,F,F,F,F,F,F,F,F,F,F] rfl ?_
 refine pd_ (i:=5) (N:=some 30) #[T,T,T,T,T,T,F,F,F,F,F,F,F,F,F,F,F] rfl ?_
 refine tl_ (i:=6) (N:=some 31) #[T,T,T,T,T,T,T,F,F,F,F,F,F,F,F,F,F] rfl hHeld ?_
 refine tl_ (i:=7) (N:=some 32) #[T,T,T,T,T,T,T,T,F,F,F,F,F,F,F,F,F] rfl hHeld ?_
 refine on_ (i:=8) (N:=some 33) #[T,T,T,T,T,T,T,T,T,F,F,F,F,F,F,F,F] rfl (fun K hK=>?_)
 refine gz_ Tryz.func93 #[.agg #[.int .i64 t4,.slice Ao2_1 t5.length co2_1]] ?_
 with_reducible refine (ib.calls k t4 _ _ t5 t7 _ (je HO2_1) (jB HO2_1) A7.out).mono ?_
 rintro e w7_ ⟨v0_,rfl,ho0_,hb⟩
 refine⟨_,rfl,?_⟩
 replace HS:=aHs HS hb.size
 obtain⟨Ao7_0,co7_0,rfl,HO7_0⟩:=sRm ho0_ HB.out.size
 revert HO0_4 HO0_5 HO0_6 HO2_0 HO2_1 HK BK1 BK3 BK4 HB
 refine aD hb ?_
 intro HO0_4 HO0_5 HO0_6 HO2_0 HO2_1 HK BK1 BK3 BK4 HB
 clear hb ho0_
 refine hK.out _ _ ⟨aa BK1.out,av BK3.out,ak BK4.out⟩ (fun hHeld=>?_)
 clear hK K
 refine nm_ ?_
 refine on_ (i:=9) (N:=some 34) #[T,T,T,T,T,T,T,T,T,T,F,F,F,F,F,F,F] rfl (fun K hK=>?_)
 refine kN (w1:=?_) (v:=?_) (by rfl) rfl ?_ ?_
 rotate_left 2
 ·go_simp
  constructor
  ·rfl
  ·rfl
 refine hK.out _ _ ⟨aa (bl_ BK1.out _),av (bl_ BK3.out _),ak (bl_ BK4.out _)⟩ (fun hHeld=>?_)
 clear hK K
 refine nm_ ?_
 refine on_ (i:=10) (N:=some 35) #[T,T,T,T,T,T,T,T,T,T,T,F,F,F,F,F,F] rfl (fun K hK=>?_)
 refine Kd.gu (Kd.slice 3 (Kd.int .i64)) (w0:=w) w.heap.size (by rfl) (.tmp 31) (.tmp 34) 25 28 ((.slice none 0 0)) 24 rfl Tryz.underlying25 info28 rfl (by decide) (by omega) (.slice A0_5 l0_5.length c0_5) l0_5 t7 [.slice Ao7_0 t7.length co7_0] (fun k_=>(((w.heap.size≤k_∧k_<w1.heap.size)∧k_≠gb1_∧f0_ k_=2))∨(((w11d_.heap.size≤k_∧k_<w7_.heap.size)))∨w7_.heap.size≤k_) (fun k_=>((w11d_.heap.size≤k_∧k_<w7_.heap.size))) rfl rfl ?aP ?aQ ?aF ?aO HB.out HB.out.size ?aL ?_
 case aP=>exact Kd.mO HO7_0.out
 case aQ=>exact fun k_ hk_=>⟨.inr (.inl hk_),fun e_=>by have:=(Kd.S_R HO0_5.out).1 k_ e_.symm;clear e_;have:=HS.out;omega⟩
 case aF=>exact fun k_ hk_=>.inr (.inr hk_)
 case aO=>exact Kd.dw HO0_5.out (fun k_ hk_=>⟨.inl hk_,fun e_=>by have:=HS.out;omega⟩)
 case aL=>have:=LM8.out;omega
 intro v_ w8_ ho hbb hg hat
 clear hat
 rw [←Ny8.out] at ho
 have hkp:Kept w7_ w8_ (fun k_=>((w.heap.size≤k_∧k_<w1.heap.size)∧k_≠gb1_∧f0_ k_=2)):=Kept.aZ hg (Kept.refl _ _) (fun k_ e_=>.inl ((Kd.S_R HO0_5.out).1 k_ e_))
 replace HK:=kt_ HK hkp HS
 revert HO0_4 HO0_6 HO2_0 HO2_1 BK1 BK3 BK4
 refine bC hkp HS ?_
 intro HO0_4 HO0_6 HO2_0 HO2_1 BK1 BK3 BK4
 replace HS:=aHs HS hkp.1
 obtain⟨Ao8,co8,ev_⟩:=Kd.dx ho
 subst ev_
 have HO8:=A_.mk (Kd.dw (ok':=(fun k_=>((w.heap.size≤k_∧k_<w1.heap.size)∧k_≠gb1_∧f0_ k_=2)∨((w11d_.heap.size≤k_∧k_<w7_.heap.size))∨((w7_.heap.size≤k_∧k_<w8_.heap.size)))) (Kd.ik ho) (fun k_ hk_=>by have:=hk_.1;have:=hk_.2.2.1;have:=hk_.2.1;clear hk_;have:=HS.out;omega))
 replace HB:=A_.mk hbb
 clear hkp hbb hg ho HO0_5 HO7_0
 refine hK.out _ _ ⟨aa BK1.out,av BK3.out,ak BK4.out⟩ (fun hHeld=>?_)
 clear hK K
 refine nm_ ?_
 refine pd_ (i:=11) (N:=some 36) #[T,T,T,T,T,T,T,T,T,T,T,T,F,F,F,F,F] rfl ?_
 refine pd_ (i:=12) (N:=some 37) #[T,T,T,T,T,T,T,T,T,T,T,T,T,F,F,F,F] rfl ?_
 refine gG (i:=13) (N:=none) #[T,T,T,T,T,T,T,T,T,T,T,T,T,T,F,F,F] rfl rfl (by kernel_rfl) (by decide) (fun K hK=>?_)
 have Q1:=aa BK1.out
 have Q3:=av BK3.out
 have Q4:=ak BK4.out
 obtain⟨qf0,qf1,qf2⟩:=eT BK1
 obtain⟨w9_,hw⟩:=lw_ ((((w8_.setCell ⟨gb1_,0,none⟩ (.int .i64 t1)).setCell ⟨gb1_,1,none⟩ (.slice Ao2_0 t2.length co2_0)).setCell ⟨gb1_,2,none⟩ (.int .i64 t3)))
 refine fT (w1:=w9_) (by rfl) rfl ?_ ?_
 ·rw [hw];go_simp;try rfl
 refine hK.out _ _ ?_
 clear hK K qf0 qf1 qf2 Q1 Q3 Q4
 obtain⟨hbx,hkp,hbb⟩:=jd hw BK1 HB (ho_ HS)
 clear hw
 replace HK:=kt_ HK hkp HS
 revert HO0_4 HO0_6 HO2_0 HO2_1 BK3 BK4 HO8
 refine bC hkp HS ?_
 intro HO0_4 HO0_6 HO2_0 HO2_1 BK3 BK4 HO8
 replace BK1:=A_.mk hbx
 replace HB:=A_.mk hbb
 replace HS:=aHs HS hkp.1
 clear hkp hbb hbx
 refine pd_ (i:=14) (N:=some 38) #[T,T,T,T,T,T,T,T,T,T,T,T,T,T,T,F,F] rfl ?_
 refine pd_ (i:=15) (N:=some 39) #[T,T,T,T,T,T,T,T,T,T,T,T,T,T,T,T,F] rfl ?_
 refine gG (i:=16) (N:=none) #[T,T,T,T,T,T,T,T,T,T,T,T,T,T,T,T,T] rfl rfl (by kernel_rfl) (by decide) (fun K hK=>?_)
 have Q1:=aa BK1.out
 have Q3:=av BK3.out
 have Q4:=ak BK4.out
 have qf0:=bf_ BK1.out 5
 obtain⟨w10_,hw⟩:=lw_ ((w9_.setCell ⟨gb1_,5,none⟩ (.slice Ao8 y8.length co8)))
 refine fT (w1:=w10_) (by rfl) rfl ?_ ?_
 ·rw [hw];go_simp;try rfl
 refine hK.out _ _ ?_
 clear hK K qf0 Q1 Q3 Q4
 obtain⟨hbx,hkp,hbb⟩:=j6 hw BK1 HB (ho_ HS)
 clear hw
 replace HK:=kt_ HK hkp HS
 revert HO0_4 HO0_6 HO2_0 HO2_1 BK3 BK4 HO8
 refine bC hkp HS ?_
 intro HO0_4 HO0_6 HO2_0 HO2_1 BK3 BK4 HO8
 replace BK1:=A_.mk hbx
 replace HB:=A_.mk hbb
 replace HS:=aHs HS hkp.1
 clear hkp hbb hbx
 refine fA (by kernel_rfl) ?_
 go_wp2
 go_ret
 obtain⟨f_,hf_⟩:=mS_ HO2_0 0 (mS_ HO0_4 1 (mS_ HO8 2 (mR_ HO0_6 3 (m0_ 4))))
 have hfk_:∀ k_,k_<w1.heap.size→f_ k_<4→k_=gb1_∨f0_ k_<4:=fun k_ h1_ h2_=>by have:=HS.out;rw [hf_] at h2_;repeat' (first|omega|split at h2_)
 first|exact ⟨f_,_,_,_,_,rfl,BK1.out,cS_ HO2_0 HS hf_,cS_ HO0_4 HS hf_,cS_ HO8 HS hf_,cR_ HO0_6 HS hf_,hfk_,HB.out,HK.out⟩|exact ⟨rfl,f_,_,_,_,_,BK1.out,cS_ HO2_0 HS hf_,cS_ HO0_4 HS hf_,cS_ HO8 HS hf_,cR_ HO0_6 HS hf_,hfk_,HB.out,HK.out⟩
theorem pg{α:Type}(d:Kd α){W:World}{base e g n c:Nat}{ok:Nat→Prop}{xs:List α}(HO:d.R e W base ok (.slice (some ⟨g,0,none⟩) n c) xs)(hn:n<c)(zs:List Value)(hz:zs.length=d.sz) :
  d.R e (W.setCells g (n*d.sz) zs) base ok (.slice (some ⟨g,0,none⟩) n c) xs∧W.grownBy (W.setCells g (n*d.sz) zs) (some g)∧(∀ j,j<d.sz→(W.cell? ⟨g,n*d.sz+j,none⟩).isSome=true)∧(∀ j,W.frozen? ⟨g,j,none⟩=false):=by
 obtain⟨hl,hnc,_⟩:=Kd.eQ HO
 obtain⟨hok,inner,hown,hr⟩:=HO
 rcases hown.2 with ⟨hv,_⟩ | ⟨g',cap',cur,hv,hb,hh,h3,hcm,hcs,htake⟩
 ·cases hv
 injection hv with ha _ hc
 injection ha with ha
 injection ha with hg
 subst hg;subst hc
 have hle:(n+1)*d.sz≤c*d.sz:=Nat.mul_le_mul_right _ hn
 rw [Nat.succ_mul] at hle
 obtain⟨cur',h4,h5,h6⟩:=j3 zs (n*d.sz) W cur hh (by omega)
 obtain⟨s1,s2,s3,s4⟩:=jP g zs (n*d.sz) W
 have hfar:∀ k',k'≠g→(W.setCells g (n*d.sz) zs).heap[k']?=W.heap[k']?:=fun k' hk'=>j4 zs _ k' hk'
 refine⟨⟨hok,inner,⟨hown.1,.inr ⟨g,c,cur',by rw [hl],hb,h4,h3,hcm,by rw [h5,hcs],?_⟩⟩,hr.jT (fun p q hp=>d.M_move (fun k' hk'=>hfar k' (fun he=>hk'.2 (by simp [Value.ownBlock,he]))) hp)⟩,⟨s1,s2,s3,by rw [s4];exact Nat.le_refl _,fun k' _ hk'=>hfar k' (fun he=>hk' (by rw [he]))⟩,fun j hj=>?_,fun j=>bf_ hh _⟩
 ·rw [h6,←htake,←hl,List.append_assoc,List.take_append_of_le_length (by rw [List.length_take,Array.length_toList];omega),List.take_take,Nat.min_self]
 ·rw [cell_of_row W g _ cur _ (0,0) hh]
  simp
  omega
theorem ug{α:Type}(d:Kd α){W:World}{base e g n c:Nat}{ok:Nat→Prop}{xs:List α}(HO:Kd.S d e W base ok (.slice (some ⟨g,0,none⟩) n c) xs)(hn:n<c)(zs:List Value)(hz:zs.length=d.sz) :
  Kd.S d e (W.setCells g (n*d.sz) zs) base ok (.slice (some ⟨g,0,none⟩) n c) xs∧W.grownBy (W.setCells g (n*d.sz) zs) (some g)∧(∀ j,j<d.sz→(W.cell? ⟨g,n*d.sz+j,none⟩).isSome=true)∧(∀ j,W.frozen? ⟨g,j,none⟩=false):=by
 obtain⟨f,HR⟩:=HO
 obtain⟨h1,h2,h3,h4⟩:=pg (Kd.tag f d) HR hn zs hz
 exact⟨⟨f,h1⟩,h2,h3,h4⟩
theorem l8{P:Program}(w:World)(t e ty:TypeId)(z:Value)(ht:P.underlying t=some (.slice e))(hv:∀ w,(zeroValue e).run P w=.ok z w)(zs:List Value)(hz:z.cells=zs.toArray)(h1:∀ u∈zs,u.oneCell'=true)(b o c:Nat)
  (hc:∀ j,j<zs.length→(w.cell? ⟨b,o+j,none⟩).isSome=true) (hf:∀ j,j<zs.length→w.frozen? ⟨b,o+j,none⟩=false) :
  (Builtin.clear_ #[t] ty #[.slice (some ⟨b,o,none⟩) 1 c]).run P w=.ok (.tuple #[]) (w.setCells b o zs):=by
 have hzc:(Builtin.zeroCells z.cells 1).toList=zs:=by
  rw [hz]
  simp [Builtin.zeroCells]
  apply List.ext_getElem
  ·simp
  ·intro i h1 h2
   simp at h1 ⊢
   simp [Nat.mod_eq_of_lt h2]
   rw [List.getElem?_eq_getElem h2];rfl
 have hst:=run_storeCells_cells (P:=P) b o zs 0 w (by simpa using hc) (by simpa using hf) h1
 simp only [Nat.add_zero] at hst
 simp [Builtin.clear_,run_underlying ht,hv,hzc,hst]
theorem jK.calls(P0_:Nat→Prop)(g n c:Nat)(l0:List (List Int))(i:Int)(w0 w:World)(hB:Below w0.heap.size w0 w)(ho:Kd.S (Kd.slice 3 (Kd.int .i64)) 28 w w0.heap.size P0_ (.slice (some ⟨g,0,none⟩) n c) l0)(h0:0≤i)(h1:i<(n:Int)) :
  Calls Tryz.prog 86 #[.slice (some ⟨g,0,none⟩) n c,.int .i64 i,.int .i64 (wrap64 (i+1))] w fun e w'=>e=.returned (.slice (some ⟨g,0,none⟩) (n-1) c)∧Kd.S (Kd.slice 3 (Kd.int .i64)) 28 w' w0.heap.size P0_ (.slice (some ⟨g,0,none⟩) (n-1) c) (l0.eraseIdx i.toNat)∧Below w0.heap.size w0 w'∧Kept w w' (fun k_=>k_=g):=by
 obtain⟨m,rfl⟩:∃ m:Nat,i=m:=⟨i.toNat,by omega⟩
 have hnc:=(Kd.eF ho).2.1
 have hcm:c≤9223372036854775807:=by
  obtain⟨f,_,inner,hown,_⟩:=ho
  rcases hown.2 with ⟨hv,_⟩ | ⟨g',cap',cur,hv,_,_,_,hcm,_⟩
  ·cases hv
  ·cases hv;exact hcm
 obtain⟨p,rfl⟩:∃ p,n=p+1:=⟨n-1,by omega⟩
 have hm:m<p+1:=by omega
 have hm2:m≤p:=by omega
 have hw:wrap64 ((m:Int)+1)=((m+1:Nat):Int):=by unfold wrap64;omega
 rw [hw]
 have hbase:=hB.size
 have HO:=A_.mk ho
 have HB:=A_.mk hB
 have hne:¬ m=m+1:=by omega
 have hc1:m+1≤p+1:=hm
 have hc2:m≤c:=by omega
 have hc3:m+1≤c:=by omega
 have hc4:m≤m+1:=by omega
 have hc5:m≤p+1:=by omega
 have hi1:(0:Int)≤(m:Int)+1:=by omega
 have hi2:(m:Int)+1≤((p+1:Nat):Int):=by omega
 clear ho hB hw h0 h1
 go_enter Tryz.func86,Tryz.ntmps86
 go_wp2_with fail
 refine dN (n:=8) (S:=fun w'=>True) (ds:=[]) #[F,F,F,F,F,F,F,F] (by kernel_rfl) rfl rfl trivial (fun hHeld=>?_)
 refine pd_ (i:=0) (N:=some 20) #[T,F,F,F,F,F,F,F] rfl ?_
 refine pd_ (i:=1) (N:=some 21) #[T,T,F,F,F,F,F,F] rfl ?_
 refine pd_ (i:=2) (N:=some 22) #[T,T,T,F,F,F,F,F] rfl ?_
 refine pd_ (i:=3) (N:=some 23) #[T,T,T,T,F,F,F,F] rfl ?_
 refine pd_ (i:=4) (N:=some 24) #[T,T,T,T,T,F,F,F] rfl ?_
 refine pd_ (i:=5) (N:=some 25) #[T,T,T,T,T,T,F,F] rfl ?_
 refine on_ (i:=6) (N:=some 26) #[T,T,T,T,T,T,T,F] rfl (fun K hK=>?_)
 refine Kd.mg (Kd.slice 3 (Kd.int .i64)) w0.heap.size (by rfl) (.tmp 22) (.tmp 25) 25 28 rfl Tryz.underlying25 (by kernel_rfl) (g:=g) (n:=p+1) (c:=c) (k:=m) (m:=p-m) rfl rfl ?hA (by omega) (Kd.d_ HO.out) hm (aV HB.out) hbase ?_
 case hA =>
  by_cases hz:c=m+1
  ·rw [if_pos hz,if_pos hz]
  rw [if_neg hz,if_neg hz];show _=some (Addr.add ⟨g,0,none⟩ ((m+1)*1));rw [kL,Nat.zero_add,Nat.mul_one]
 intro w1 ho hb hg
 refine hK.out _ _ trivial (fun hHeld=>?_)
 clear hK K
 refine nm_ ?_
 refine pd_ (i:=7) (N:=some 0) #[T,T,T,T,T,T,T,T] rfl ?_
 refine fA (by kernel_rfl) ?_
 have hpc:p<c:=by omega
 rw [Nat.add_sub_cancel] at ho
 obtain⟨hN2,hg2,hcs,hfr⟩:=ug (Kd.slice 3 (Kd.int .i64)) ho hpc [.slice none 0 0] rfl
 simp only [show ((Kd.slice 3 (Kd.int .i64))).sz=1 from rfl,Nat.mul_one] at hN2 hg2 hcs hfr
 have hcl:∀ ty,(Builtin.clear_ #[25] ty #[.slice (some ⟨g,p,none⟩) 1 (c-p)]).run Tryz.prog w1=.ok (.tuple #[]) (w1.setCells g (p) [.slice none 0 0]) :=
  fun ty=>l8 w1 25 28 ty (.slice none 0 0) Tryz.underlying25 (fun _=>by kernel_rfl) [.slice none 0 0] rfl (by decide) g (p) (c-p) (fun j hj=>hcs j hj) (fun j hj=>hfr _)
 replace hN2:Kd.S (Kd.slice 3 (Kd.int .i64)) 28 (w1.setCells g (p) [.slice none 0 0]) w0.heap.size P0_ (.slice (some ⟨g,0,none⟩) p c) (l0.eraseIdx m):=hN2
 replace hg2:w1.grownBy (w1.setCells g (p) [.slice none 0 0]) (some g):=hg2
 generalize w1.setCells g (p) [.slice none 0 0]=W2 at hN2 hg2 hcl
 have HN:=A_.mk hN2
 have HG:=A_.mk hg
 have HG2:=A_.mk hg2
 have HB2:=A_.mk (hb.grown hg2 (Nat.le_trans hbase hg.size) (fun k hk=>by injection hk with hk;subst hk;exact(Kd.u7 ho) _ (by simp [Value.ownBlock])))
 have hp1:p≤c:=by omega
 have hp2:p+1≤c:=by omega
 have hp3:p≤p+1:=by omega
 have hp4:¬ c=p:=by omega
 clear hN2 hg hg2 hcs hfr ho hb
 go_wp2
 all_goals (go_ret;first|exact ⟨rfl,HN.out,HB2.out,Kept.aZ HG2.out (Kept.aZ HG.out (Kept.drew (Kept.refl w _)) (fun k hk=>.inl (by injection hk with hk;exact hk.symm))) (fun k hk=>.inl (by injection hk with hk;exact hk.symm))⟩|(subst h;exact⟨rfl,HN.out,HB2.out,Kept.aZ HG2.out (Kept.aZ HG.out (Kept.drew (Kept.refl w _)) (fun k hk=>.inl (by injection hk with hk;exact hk.symm))) (fun k hk=>.inl (by injection hk with hk;exact hk.symm))⟩))
def gP.f(a0:Int):Option (Int):=(bB.f a0).bind fun t384=>(if t384=true then (some (Int.tmod (wrap64 (a0+1)) 16)) else (some (-1)))
theorem gP.calls(a0:Int)(r:Int)(w:World)(h:gP.f a0=some r) :
  Calls Tryz.prog 110 #[.int .i64 a0] w fun e w'=>e=.returned (.int .i64 r)∧Drawn0 w w':=by
 have H:((bB.f a0).bind fun t384=>(if t384=true then (some (Int.tmod (wrap64 (a0+1)) 16)) else (some (-1))))=some r:=h
 clear h
 replace H:=oa_ H
 obtain⟨t384,A2,H⟩:=H
 by_cases c3:t384=true
 ·subst c3
  have H1:(some (Int.tmod (wrap64 (a0+1)) 16))=some r:=by rw [if_pos rfl] at H;exact H
  clear H
  have H:=H1
  clear H1
  obtain rfl:=Option.some.inj H
  go_enter Tryz.func110,Tryz.ntmps110
  go_wp2_with (first|((with_reducible refine gc_ (f:=82) rfl ?_);refine gl_ (some 4) Tryz.func82 #[.int .i64 a0] ?_;(with_reducible refine (bB.calls a0 true _ A2.out).mono ?_);rintro e w' ⟨rfl,⟨nd,rfl⟩⟩;refine⟨_,rfl,?_⟩))
  go_ret
  exact dz_
 ·replace c3:=Bool.eq_false_iff.mpr c3
  subst c3
  have H1:(some (-1))=some r:=by rw [if_neg (show ¬ (false=true) by decide)] at H;exact H
  clear H
  have H:=H1
  clear H1
  obtain rfl:=Option.some.inj H
  go_enter Tryz.func110,Tryz.ntmps110
  go_wp2_with (first|((with_reducible refine gc_ (f:=82) rfl ?_);refine gl_ (some 4) Tryz.func82 #[.int .i64 a0] ?_;(with_reducible refine (bB.calls a0 false _ A2.out).mono ?_);rintro e w' ⟨rfl,⟨nd,rfl⟩⟩;refine⟨_,rfl,?_⟩))
  go_ret
  exact dz_
end Go.Proofs.YtmdehehgmnihpaaGreat.PFnExactLinkStep
