import Derived.Test.YtmdehehgmnihpaaGreatPFnExactLinkStepx3
namespace Go.Proofs.YtmdehehgmnihpaaGreat.PFnExactLinkStep
open Go.RowKit Go.Proofs.YtmdehehgmnihpaaGreatW.PrintWords Go.Proofs.YtmdehehgmnihpaaGreatW.PrintLast Go.Proofs.YtmdehehgmnihpaaGreatW.PrintMore
attribute [local go_sem] dM dL eu ek dn dm dJ dK
set_option maxHeartbeats 8000000
set_option maxRecDepth 100000
set_option linter.unusedVariables false
set_option linter.unusedSimpArgs false
def fU.f(k:Nat)(a0_0:Int)(l0_1:List (S68))(a0_2:Int)(a0_3:Int)(l0_4:List (List Int))(l0_5:List (List Int))(l0_6:List Int):Option ((Int)×(List (S68))×(Int)×(Int)×(List (List Int))×(List (List Int))×(List Int)):=(if 0≤(0:Int) then (if (0:Int)<(l0_5.length:Int) then ((eD.f k a0_3 l0_4 (fG l0_5 (0:Int))).bind fun ⟨t1,t2,t3⟩=>(if 0≤(0:Int) then (if (0:Int)<(l0_5.length:Int) then (if (l0_6.length:Int)<8 then ((jr.f k t1 t2).bind fun t5=>(if t3=2 then (if (l0_6.length+1)*8≤140737488355328 then (some (a0_0,l0_1,a0_2,t1,t2,(l0_5.drop 1),(l0_6++[(wrap64 (t5+100))]))) else none) else (if t3=3 then (if (l0_6.length+1)*8≤140737488355328 then (some (a0_0,l0_1,a0_2,t1,t2,(l0_5.drop 1),(l0_6++[(wrap64 (t5+100))]))) else none) else (if (l0_6.length+1)*8≤140737488355328 then (some (a0_0,l0_1,a0_2,t1,t2,(l0_5.drop 1),(l0_6++[t5]))) else none)))) else (some (a0_0,l0_1,a0_2,t1,t2,(l0_5.drop 1),l0_6))) else none) else none)) else none) else none)
theorem fU.calls(k:Nat)(f0_:Nat→Nat)(a0_0:Int)(A0_1:Option Addr)(c0_1:Nat)(l0_1:List (S68))(a0_2:Int)(a0_3:Int)(A0_4:Option Addr)(c0_4:Nat)(l0_4:List (List Int))(A0_5:Option Addr)(c0_5:Nat)(l0_5:List (List Int))(A0_6:Option Addr)(c0_6:Nat)(l0_6:List Int)(r1:Int)(r2:List (S68))(r3:Int)(r4:Int)(r5:List (List Int))(r6:List (List Int))(r7:List Int)(w w1:World)(hB:Below w.heap.size w w1)(hp0_1:Kd.S k68 68 w1 w.heap.size (fun k_=>(w.heap.size≤k_∧k_<w1.heap.size)∧f0_ k_=0) (.slice A0_1 l0_1.length c0_1) l0_1)(hp0_4:Kd.S (Kd.slice 3 (Kd.int .i64)) 28 w1 w.heap.size (fun k_=>(w.heap.size≤k_∧k_<w1.heap.size)∧f0_ k_=1) (.slice A0_4 l0_4.length c0_4) l0_4)(hp0_5:Kd.S (Kd.slice 3 (Kd.int .i64)) 28 w1 w.heap.size (fun k_=>(w.heap.size≤k_∧k_<w1.heap.size)∧f0_ k_=2) (.slice A0_5 l0_5.length c0_5) l0_5)(hp0_6:Kd.R (Kd.int .i64) 3 w1 w.heap.size (fun k_=>(w.heap.size≤k_∧k_<w1.heap.size)∧f0_ k_=3) (.slice A0_6 l0_6.length c0_6) l0_6)(h:fU.f k a0_0 l0_1 a0_2 a0_3 l0_4 l0_5 l0_6=some (r1,r2,r3,r4,r5,r6,r7)) :
  Calls Tryz.prog 32 #[.agg #[.int .i64 a0_0,.slice A0_1 l0_1.length c0_1,.int .i64 a0_2,.int .i64 a0_3,.slice A0_4 l0_4.length c0_4,.slice A0_5 l0_5.length c0_5,.slice A0_6 l0_6.length c0_6]] w1 fun e w'=>∃ f_:Nat→Nat,∃ v0_ v1_ v2_ v3_:Value,e=.returned (.agg #[.int .i64 r1,v0_,.int .i64 r3,.int .i64 r4,v1_,v2_,v3_])∧Kd.V k68 68 w' w.heap.size (fun k_=>(w.heap.size≤k_∧k_<w'.heap.size)∧f_ k_=0) v0_ r2∧Kd.V (Kd.slice 3 (Kd.int .i64)) 28 w' w.heap.size (fun k_=>(w.heap.size≤k_∧k_<w'.heap.size)∧f_ k_=1) v1_ r5∧Kd.V (Kd.slice 3 (Kd.int .i64)) 28 w' w.heap.size (fun k_=>(w.heap.size≤k_∧k_<w'.heap.size)∧f_ k_=2) v2_ r6∧Kd.V (Kd.int .i64) 3 w' w.heap.size (fun k_=>(w.heap.size≤k_∧k_<w'.heap.size)∧f_ k_=3) v3_ r7∧(∀ k_,k_<w1.heap.size→f_ k_<4→f0_ k_<4)∧Below w.heap.size w w'∧Kept w1 w' (fun k_=>((w.heap.size≤k_∧k_<w1.heap.size)∧f0_ k_<4)):=by
 have HO0_1:=A_.mk hp0_1
 clear hp0_1
 have HO0_4:=A_.mk hp0_4
 clear hp0_4
 have HO0_5:=A_.mk hp0_5
 clear hp0_5
 have HO0_6:=A_.mk hp0_6
 clear hp0_6
 have HS:=A_.mk hB.size
 have HK:=A_.mk (Kept.refl w1 (fun k_=>((w.heap.size≤k_∧k_<w1.heap.size)∧f0_ k_<4)))
 have HB:=A_.mk hB
 clear hB
 unfold fU.f at h
 have H:=h
 clear h
 replace H:=ky H
 obtain⟨hp3_,hq3_,H⟩:=H
 have EB3:=A_.mk (And.intro hp3_ hq3_)
 have hn3_:(0<l0_5.length)=True:=eq_true (by omega)
 replace hp3_:=eq_true hp3_
 replace hq3_:=eq_true hq3_
 replace H:=oa_ H
 obtain⟨⟨t1,t2,t3⟩,A4,H⟩:=H
 try dsimp only at H
 replace H:=ky H
 obtain⟨hp8_,hq8_,H⟩:=H
 have EB8:=A_.mk (And.intro hp8_ hq8_)
 clear hp8_ hq8_
 obtain⟨y4,Ny4⟩:=le_ ((l0_5.drop 1))
 rw [←Ny4.out] at H
 by_cases hc1_:(l0_6.length:Int)<8
 case neg =>
  rw [if_neg hc1_] at H
  have hc1_b0:=decide_eq_false hc1_
  have hc1_b1:decide (l0_6.length<8)=false:=decide_eq_false (by omega)
  replace hc1_:=A_.mk hc1_
  replace H:=qo H
  obtain⟨rfl,rfl,rfl,rfl,rfl,rfl,rfl⟩:=H
  have hu37:=Tryz.underlying37
  have hu39:=Tryz.underlying39
  go_enter Tryz.func32,Tryz.ntmps32
  go_wp2_with (first|((with_reducible refine gd_ (N:=1) rfl ?_);refine by_ 1 (cs:=#[.int .i64 a0_0,.slice A0_1 l0_1.length c0_1,.int .i64 a0_2,.int .i64 a0_3,.slice A0_4 l0_4.length c0_4,.slice A0_5 l0_5.length c0_5,.slice A0_6 l0_6.length c0_6]) (t:=39) ?_;intro gb1_ hg w1_ hbox hb;replace HS:=aHg HS hg hbox;revert HO0_1 HO0_4 HO0_5 HO0_6 HK HB;refine aD hb ?_;intro HO0_1 HO0_4 HO0_5 HO0_6 HK HB;have BK1:=A_.mk hbox;clear hbox hb hg)|((with_reducible refine gd_ (N:=2) rfl ?_);refine by_ 2 (cs:=#[.int .i64 0,.slice none 0 0,.int .i64 0,.int .i64 0,.slice none 0 0,.slice none 0 0,.slice none 0 0]) (t:=39) ?_;intro gb2_ hg w2_ hbox hb;replace HS:=aHg HS hg hbox;revert HO0_1 HO0_4 HO0_5 HO0_6 HK HB BK1;refine aD hb ?_;intro HO0_1 HO0_4 HO0_5 HO0_6 HK HB BK1;have BK2:=A_.mk hbox;clear hbox hb hg))
  obtain⟨gHO0_5_,ed_⟩:=mI HO0_5.out (by have:=EB3.out;omega)
  subst ed_
  obtain⟨A3_0,c3_0,hx_,hl_,hi_⟩:=oh HO0_5.out EB3.out
  have HX3:=A_.mk (show w2_.cell? ⟨gHO0_5_,0,none⟩=some (.slice A3_0 (fG l0_5 (0:Int)).length c3_0) from hx_)
  have HD3:=A_.mk hl_
  have HE3:=A_.mk hi_
  clear hx_ hl_ hi_
  refine dN (n:=13) (S:=fun w'=>(w'.cell? ⟨gb1_,0,none⟩=some (.int .i64 a0_0)∧w'.cell? ⟨gb1_,1,none⟩=some (.slice A0_1 l0_1.length c0_1)∧w'.cell? ⟨gb1_,2,none⟩=some (.int .i64 a0_2)∧w'.cell? ⟨gb1_,3,none⟩=some (.int .i64 a0_3)∧w'.cell? ⟨gb1_,4,none⟩=some (.slice A0_4 l0_4.length c0_4)∧w'.cell? ⟨gb1_,5,none⟩=some (.slice (some ⟨gHO0_5_,0,none⟩) l0_5.length c0_5)∧w'.cell? ⟨gb1_,6,none⟩=some (.slice A0_6 l0_6.length c0_6))∧(w'.cell? ⟨gHO0_5_,0,none⟩=some (.slice A3_0 (fG l0_5 (0:Int)).length c3_0))) (ds:=[11]) #[F,F,F,F,F,F,F,F,F,F,F,F,F] (by kernel_rfl) rfl rfl ⟨aa BK1.out,HX3.out⟩ (fun hHeld=>?_)
  have hb:=aV (Below.refl w2_.heap.size w2_)
  replace HS:=aHs HS hb.size
  replace HO0_1:=aSb HO0_1 hb
  replace HO0_4:=aSb HO0_4 hb
  replace HO0_5:=aSb HO0_5 hb
  replace HO0_6:=aRb HO0_6 hb
  replace BK1:=aBb BK1 hb
  replace BK2:=aBb BK2 hb
  replace HE3:=A_.mk (Kd.cu HE3.out hb)
  replace HX3:=A_.mk ((hb.cell (wl_ _ _ HX3.out)).trans HX3.out)
  replace HK:=aKb HK hb
  replace HB:=aHB HB hb
  clear hb
  generalize w2_.drew=w21d_ at HO0_1 HO0_4 HO0_5 HO0_6 HE3 HX3 HK BK1 BK2 HB HS hHeld ⊢
  refine pd_ (i:=0) (N:=some 7) #[T,F,F,F,F,F,F,F,F,F,F,F,F] rfl ?_
  refine tl_ (i:=1) (N:=some 8) #[T,T,F,F,F,F,F,F,F,F,F,F,F] rfl hHeld ?_
  refine pd_ (i:=2) (N:=some 9) #[T,T,T,F,F,F,F,F,F,F,F,F,F] rfl ?_
  refine tl_ (i:=3) (N:=some 10) #[T,T,T,T,F,F,F,F,F,F,F,F,F] rfl hHeld ?_
  refine pd_ (i:=4) (N:=some 11) #[T,T,T,T,T,F,F,F,F,F,F,F,F] rfl ?_
  refine tl_ (i:=5) (N:=some 12) #[T,T,T,T,T,T,F,F,F,F,F,F,F] rfl hHeld ?_
  refine mR (σ:=Value×Nat×Nat×Nat) 2 #[T,T,T,T,T,T,T,T,T,T,T,F,F] (fun s_=>[(13,.tuple #[.agg #[.int .i64 t1,s_.1],.int .i64 t3]),(6,.tuple #[.agg #[.int .i64 t1,s_.1],.int .i64 t3]),(14,.agg #[.int .i64 t1,s_.1]),(15,.int .i64 t3),(3,.pointer (some ⟨s_.2.1,0,none⟩))]) (fun s_ w'=>((w'.cell? ⟨gb1_,0,none⟩=some (.int .i64 a0_0)∧w'.cell? ⟨gb1_,1,none⟩=some (.slice A0_1 l0_1.length c0_1)∧w'.cell? ⟨gb1_,2,none⟩=some (.int .i64 a0_2)∧w'.cell? ⟨gb1_,3,none⟩=some (.int .i64 a0_3)∧w'.cell? ⟨gb1_,4,none⟩=some (.slice A0_4 l0_4.length c0_4)∧w'.cell? ⟨gb1_,5,none⟩=some (.slice (some ⟨gHO0_5_,0,none⟩) l0_5.length c0_5)∧w'.cell? ⟨gb1_,6,none⟩=some (.slice A0_6 l0_6.length c0_6))∧(w'.cell? ⟨gHO0_5_,0,none⟩=some (.slice A3_0 (fG l0_5 (0:Int)).length c3_0)))∧Kd.S k68 68 w' w.heap.size (fun k_=>((w.heap.size≤k_∧k_<w1.heap.size)∧f0_ k_=0)) (.slice A0_1 l0_1.length c0_1) l0_1∧Kd.S (Kd.slice 3 (Kd.int .i64)) 28 w' w.heap.size (fun k_=>((w.heap.size≤k_∧k_<w1.heap.size)∧f0_ k_=2)) (.slice (some ⟨gHO0_5_,0,none⟩) l0_5.length c0_5) l0_5∧Kd.R (Kd.int .i64) 3 w' w.heap.size (fun k_=>((w.heap.size≤k_∧k_<w1.heap.size)∧f0_ k_=3)) (.slice A0_6 l0_6.length c0_6) l0_6∧w'.heap[gb1_]?=some (.cells #[.int .i64 a0_0,.slice A0_1 l0_1.length c0_1,.int .i64 a0_2,.int .i64 a0_3,.slice A0_4 l0_4.length c0_4,.slice (some ⟨gHO0_5_,0,none⟩) l0_5.length c0_5,.slice A0_6 l0_6.length c0_6] 39 (0,0))∧w'.heap[gb2_]?=some (.cells #[.int .i64 0,.slice none 0 0,.int .i64 0,.int .i64 0,.slice none 0 0,.slice none 0 0,.slice none 0 0] 39 (0,0))∧Kept w1 w' (fun k_=>((w.heap.size≤k_∧k_<w1.heap.size)∧f0_ k_<4))∧Below w.heap.size w w'∧w21d_.heap.size≤w'.heap.size∧(w21d_.heap.size≤s_.2.2.1∧s_.2.2.1≤s_.2.2.2∧s_.2.2.2≤w'.heap.size)∧Kd.V (Kd.slice 3 (Kd.int .i64)) 28 w' w.heap.size (fun k_=>(s_.2.2.1≤k_∧k_<s_.2.2.2)) s_.1 t2∧w'.heap[s_.2.1]?=some (.cells #[.int .i64 0,.slice none 0 0] 37 (0,0))∧(w21d_.heap.size≤s_.2.1∧s_.2.1<w'.heap.size∧(s_.2.1<s_.2.2.1∨s_.2.2.2≤s_.2.1))) ?_ ?_
  rotate_left
  ·intro hCont
   refine jU (i:=6) (j:=10) (Ni:=some 13) (Nj:=some 3) #[T,T,T,T,T,T,T,F,F,F,F,F,F] #[T,T,T,T,T,T,F,F,F,F,T,F,F] rfl rfl rfl rfl (by kernel_rfl) (by decide) (by decide) (fun K hK=>?_) (fun K hK=>?_)
   ·skip
    refine gz_ Tryz.func69 #[.agg #[.int .i64 a0_3,.slice A0_4 l0_4.length c0_4],.slice A3_0 (fG l0_5 (0:Int)).length c3_0] ?_
    with_reducible refine (eD.calls k a0_3 _ _ l0_4 _ _ (fG l0_5 (0:Int)) t1 t2 t3 _ (dV HO0_4) (dS HO0_4) HE3.out HD3.out A4.out).mono ?_
    rintro e w4_ ⟨v1_,rfl,ho0_,hb⟩
    refine⟨_,rfl,?_⟩
    replace HS:=aHs HS hb.size
    replace ho0_:=Kd.N_V (base':=w.heap.size) ho0_
    obtain⟨Ao4_1,co4_1,ev_⟩:=Kd.gH ho0_
    subst ev_
    have HO4_1:=A_.mk (Kd.aW (ok':=(fun k_=>((w21d_.heap.size≤k_∧k_<w4_.heap.size)))) (Kd.lg ho0_) (fun k_ hk_=>⟨hk_.1,hk_.2⟩))
    revert HO0_1 HO0_4 HO0_5 HO0_6 BK1 BK2
    refine aD hb ?_
    intro HO0_1 HO0_4 HO0_5 HO0_6 BK1 BK2
    replace HE3:=A_.mk (Kd.cu HE3.out hb)
    replace HX3:=A_.mk ((hb.cell (wl_ _ _ HX3.out)).trans HX3.out)
    replace HK:=aKb HK hb
    replace HB:=aHB HB hb
    clear hb ho0_
    refine hK.out _ _ ⟨aa BK1.out,HX3.out⟩ (fun hHeld=>?_)
    clear hK K
    refine nm_ ?_
    refine pd_ (i:=7) (N:=some 6) #[T,T,T,T,T,T,T,T,F,F,F,F,F] rfl ?_
    refine pd_ (i:=8) (N:=some 14) #[T,T,T,T,T,T,T,T,T,F,F,F,F] rfl ?_
    refine pd_ (i:=9) (N:=some 15) #[T,T,T,T,T,T,T,T,T,T,F,F,F] rfl ?_
    refine on_ (i:=10) (N:=some 3) #[T,T,T,T,T,T,T,T,T,T,T,F,F] rfl (fun K hK=>?_)
    refine bo_ (N:=3) (cs:=#[.int .i64 0,.slice none 0 0]) (t:=37) ?_
    intro gb5_ hg w5_ hbox hb
    replace HS:=aHg HS hg hbox
    revert HO4_1 HO0_1 HO0_4 HO0_5 HO0_6 BK1 BK2
    refine aD hb ?_
    intro HO4_1 HO0_1 HO0_4 HO0_5 HO0_6 BK1 BK2
    replace HE3:=A_.mk (Kd.cu HE3.out hb)
    replace HX3:=A_.mk ((hb.cell (wl_ _ _ HX3.out)).trans HX3.out)
    replace HK:=aKb HK hb
    replace HB:=aHB HB hb
    have BK5:=A_.mk hbox
    clear hbox hb hg
    refine hK.out _ _ ⟨aa BK1.out,HX3.out⟩ (fun hHeld=>?_)
    clear hK K
    refine nm_ ?_
    exact nj_ (hCont (.slice Ao4_1 t2.length co4_1,gb5_,(w21d_.heap.size),(w4_.heap.size)) _ ⟨hHeld,HO0_1.out,HO0_5.out,HO0_6.out,BK1.out,BK2.out,HK.out,HB.out,(ho_ HS),(by have:=HS.out;(try dsimp only);omega),HO4_1.out,BK5.out,(by have:=HS.out;(try dsimp only);omega)⟩)
   ·skip
    refine bo_ (N:=3) (cs:=#[.int .i64 0,.slice none 0 0]) (t:=37) ?_
    intro gb5_ hg w5_ hbox hb
    replace HS:=aHg HS hg hbox
    revert HO0_1 HO0_4 HO0_5 HO0_6 BK1 BK2
    refine aD hb ?_
    intro HO0_1 HO0_4 HO0_5 HO0_6 BK1 BK2
    replace HE3:=A_.mk (Kd.cu HE3.out hb)
    replace HX3:=A_.mk ((hb.cell (wl_ _ _ HX3.out)).trans HX3.out)
    replace HK:=aKb HK hb
    replace HB:=aHB HB hb
    have BK5:=A_.mk hbox
    clear hbox hb hg
    refine hK.out _ _ ⟨aa BK1.out,HX3.out⟩ (fun hHeld=>?_)
    clear hK K
    refine nm_ ?_
    refine on_ (i:=6) (N:=some 13) #[T,T,T,T,T,T,T,F,F,F,T,F,F] rfl (fun K hK=>?_)
    refine gz_ Tryz.func69 #[.agg #[.int .i64 a0_3,.slice A0_4 l0_4.length c0_4],.slice A3_0 (fG l0_5 (0:Int)).length c3_0] ?_
    with_reducible refine (eD.calls k a0_3 _ _ l0_4 _ _ (fG l0_5 (0:Int)) t1 t2 t3 _ (dV HO0_4) (dS HO0_4) HE3.out HD3.out A4.out).mono ?_
    rintro e w4_ ⟨v1_,rfl,ho0_,hb⟩
    refine⟨_,rfl,?_⟩
    replace HS:=aHs HS hb.size
    replace ho0_:=Kd.N_V (base':=w.heap.size) ho0_
    obtain⟨Ao4_1,co4_1,ev_⟩:=Kd.gH ho0_
    subst ev_
    have HO4_1:=A_.mk (Kd.aW (ok':=(fun k_=>((w5_.heap.size≤k_∧k_<w4_.heap.size)))) (Kd.lg ho0_) (fun k_ hk_=>⟨hk_.1,hk_.2⟩))
    revert HO0_1 HO0_4 HO0_5 HO0_6 BK1 BK2 BK5
    refine aD hb ?_
    intro HO0_1 HO0_4 HO0_5 HO0_6 BK1 BK2 BK5
    replace HE3:=A_.mk (Kd.cu HE3.out hb)
    replace HX3:=A_.mk ((hb.cell (wl_ _ _ HX3.out)).trans HX3.out)
    replace HK:=aKb HK hb
    replace HB:=aHB HB hb
    clear hb ho0_
    refine hK.out _ _ ⟨aa BK1.out,HX3.out⟩ (fun hHeld=>?_)
    clear hK K
    refine nm_ ?_
    refine pd_ (i:=7) (N:=some 6) #[T,T,T,T,T,T,T,T,F,F,T,F,F] rfl ?_
    refine pd_ (i:=8) (N:=some 14) #[T,T,T,T,T,T,T,T,T,F,T,F,F] rfl ?_
    refine pd_ (i:=9) (N:=some 15) #[T,T,T,T,T,T,T,T,T,T,T,F,F] rfl ?_
    exact nj_ (hCont (.slice Ao4_1 t2.length co4_1,gb5_,(w5_.heap.size),(w4_.heap.size)) _ ⟨hHeld,HO0_1.out,HO0_5.out,HO0_6.out,BK1.out,BK2.out,HK.out,HB.out,(ho_ HS),(by have:=HS.out;(try dsimp only);omega),HO4_1.out,BK5.out,(by have:=HS.out;(try dsimp only);omega)⟩)
  rintro⟨z0_,gb5_,lo21j_,up21j_⟩ w21j_ ⟨hHeld,m0_,m1_,m2_,m3_,m4_,m5_,m6_,m7_,m8_,m9_,m10_,m11_⟩
  replace HO0_1:=A_.mk m0_
  replace HO0_5:=A_.mk m1_
  replace HO0_6:=A_.mk m2_
  replace BK1:=A_.mk m3_
  replace BK2:=A_.mk m4_
  replace HK:=A_.mk m5_
  replace HB:=A_.mk m6_
  replace HS:=A_.mk (And.intro HS.out m7_)
  replace HS:=A_.mk (And.intro HS.out (show w21d_.heap.size≤lo21j_∧lo21j_≤up21j_∧up21j_≤w21j_.heap.size from m8_))
  obtain⟨Ao4_1,co4_1,ev_⟩:=Kd.gH m9_
  replace ev_:z0_=_:=ev_
  subst ev_
  have HO4_1:=A_.mk (show Kd.V (Kd.slice 3 (Kd.int .i64)) 28 w21j_ w.heap.size (fun k_=>((lo21j_≤k_∧k_<up21j_))) (.slice Ao4_1 t2.length co4_1) t2 from m9_)
  have BK5:=A_.mk (show w21j_.heap[gb5_]?=some (.cells #[.int .i64 0,.slice none 0 0] 37 (0,0)) from m10_)
  replace HS:=A_.mk (And.intro HS.out (show w21d_.heap.size≤gb5_∧gb5_<w21j_.heap.size∧(gb5_<lo21j_∨up21j_≤gb5_) from m11_))
  clear m0_ m1_ m2_ m3_ m4_ m5_ m6_ m7_ m8_ m9_ m10_ m11_
  refine lD (a':=?_) ?_ ?_
  rotate_left
  ·simp only [putAll,Act.put,List.setIfInBounds_toArray,List.set_cons_zero,List.set_cons_succ]
   rfl
  refine gG (i:=11) (N:=none) #[T,T,T,T,T,T,T,T,T,T,T,T,F] rfl rfl (by kernel_rfl) (by decide) (fun K hK=>?_)
  have Q1:=aa BK1.out
  have Q2:=aa BK2.out
  have Q5:=ak BK5.out
  obtain⟨qf0,qf1⟩:=dO BK5
  obtain⟨w6_,hw⟩:=lw_ ((jv w21j_ gb5_ (.int .i64 t1) (.slice Ao4_1 t2.length co4_1)))
  refine fT (w1:=w6_) (by rfl) rfl ?_ ?_
  ·rw [hw];go_simp;try rfl
  refine hK.out _ _ ?_
  clear hK K qf0 qf1 Q1 Q2 Q5
  obtain⟨hbx,hkp,hbb⟩:=jA hw BK5 HB (ho_ HS)
  clear hw
  replace HK:=kt_ HK hkp HS
  revert HO0_1 HO0_5 HO0_6 BK1 BK2 HO4_1
  refine bC hkp HS ?_
  intro HO0_1 HO0_5 HO0_6 BK1 BK2 HO4_1
  replace BK5:=A_.mk hbx
  replace HB:=A_.mk hbb
  replace HS:=aHs HS hkp.1
  clear hkp hbb hbx
  refine pd_ (i:=12) (N:=some 4) #[T,T,T,T,T,T,T,T,T,T,T,T,T] rfl ?_
  refine fA (by kernel_rfl) ?_
  have Q1:=aa BK1.out
  have Q5:=ak BK5.out
  obtain⟨ax8_,hax8_⟩:∃ q_:Option Addr,(if c0_5=1 then (some ⟨gHO0_5_,0,none⟩:Option Addr) else some ⟨gHO0_5_,1,none⟩)=q_:=⟨_,rfl⟩
  have hnc_:=(dS HO0_5)
  have hz0_:1≤l0_5.length:=by have:=EB8.out;omega
  have hz1_:1≤c0_5:=by omega
  have hz2_:(1:Int)≤(l0_5.length:Int):=by omega
  go_wp2_with (first|((with_reducible refine ae (t:=37) (p:=17) rfl ?_);have qf0:=bf_ BK1.out 3;have qf1:=bf_ BK1.out 4;refine so_ (w1:=((w6_.setCell ⟨gb1_,3,none⟩ (.int .i64 t1)).setCell ⟨gb1_,4,none⟩ (.slice Ao4_1 t2.length co4_1))) ?_;intro w7_ hw;clear qf0 qf1;obtain⟨hbx,hkp,hbb⟩:=nL hw BK1 HB (ho_ HS);clear hw;replace HK:=kt_ HK hkp HS;revert HO0_1 HO0_5 HO0_6 BK2 HO4_1;refine bC hkp HS ?_;intro HO0_1 HO0_5 HO0_6 BK2 HO4_1;replace BK1:=A_.mk hbx;replace HB:=A_.mk hbb;replace HS:=aHs HS hkp.1;clear hkp hbb hbx Q1 Q5;have Q1:=aa BK1.out;have HO8:=A_.mk (show Kd.V (Kd.slice 3 (Kd.int .i64)) 28 w7_ w.heap.size (fun k_=>((w.heap.size≤k_∧k_<w1.heap.size)∧f0_ k_=2)) (.slice ax8_ (l0_5.length-1) (c0_5-1)) y4 from by rw [Ny4.out];exact oC (Kd.S_V HO0_5.out) (by have:=EB8.out;omega) rfl hax8_))|((with_reducible refine ae (t:=25) (p:=21) rfl ?_);have qf0:=bf_ BK1.out 5;refine so_ (w1:=(w7_.setCell ⟨gb1_,5,none⟩ (.slice ax8_ (l0_5.length-1) (c0_5-1)))) ?_;intro w9_ hw;clear qf0;obtain⟨hbx,hkp,hbb⟩:=j6 hw BK1 HB (ho_ HS);clear hw;replace HK:=kt_ HK hkp HS;revert HO0_1 HO0_6 BK2 HO4_1 HO8;refine bC hkp HS ?_;intro HO0_1 HO0_6 BK2 HO4_1 HO8;replace BK1:=A_.mk hbx;replace HB:=A_.mk hbb;replace HS:=aHs HS hkp.1;clear hkp hbb hbx Q1;have Q1:=aa BK1.out;have Q2:=aa BK2.out)|((with_reducible refine ae (t:=39) (p:=2) rfl ?_);obtain⟨qf0,qf1,qf2,qf3,qf4,qf5,qf6⟩:=gM BK2;refine so_ (w1:=(iR w9_ gb2_ (.int .i64 a0_0) (.slice A0_1 l0_1.length c0_1) (.int .i64 a0_2) (.int .i64 t1) (.slice Ao4_1 t2.length co4_1) (.slice ax8_ (l0_5.length-1) (c0_5-1)) (.slice A0_6 l0_6.length c0_6))) ?_;intro w20_ hw;clear qf0 qf1 qf2 qf3 qf4 qf5 qf6;obtain⟨hbx,hkp,hbb⟩:=iV hw BK2 HB (ho_ HS);clear hw;replace HK:=kt_ HK hkp HS;revert HO0_1 HO0_6 HO4_1 HO8;refine bC hkp HS ?_;intro HO0_1 HO0_6 HO4_1 HO8;replace BK2:=A_.mk hbx;replace HB:=A_.mk hbb;replace HS:=aHs HS hkp.1;clear hkp hbb hbx Q1 Q2))
  refine bodyPost_ret (results_cell_row rfl _ _ gb2_ 39 _ (0,0) _ rfl BK2.out Tryz.underlying39 rfl (by kernel_rfl)) rfl ?_
  obtain⟨f_,hf_⟩:=mS_ HO0_1 0 (mV_ HO4_1 1 (mV_ HO8 2 (mR_ HO0_6 3 (m0_ 4))))
  have hfk_:∀ k_,k_<w1.heap.size→f_ k_<4→f0_ k_<4:=fun k_ h1_ h2_=>by have:=HS.out;rw [hf_] at h2_;repeat' (first|omega|split at h2_)
  first|exact ⟨f_,_,_,_,_,rfl,lZ HO0_1 HS hf_,cV_ HO4_1 HS hf_,cV_ HO8 HS hf_,rz HO0_6 HS hf_,hfk_,HB.out,HK.out⟩|exact ⟨rfl,f_,_,_,_,_,lZ HO0_1 HS hf_,cV_ HO4_1 HS hf_,cV_ HO8 HS hf_,rz HO0_6 HS hf_,hfk_,HB.out,HK.out⟩
 rw [if_pos hc1_] at H
 have hc1_b0:=decide_eq_true hc1_
 have hc1_b1:decide (l0_6.length<8)=true:=decide_eq_true (by omega)
 replace hc1_:=A_.mk hc1_
 replace H:=oa_ H
 obtain⟨t5,A10,H⟩:=H
 replace H:=A_.mk H
 have hu37:=Tryz.underlying37
 have hu39:=Tryz.underlying39
 go_enter Tryz.func32,Tryz.ntmps32
 go_wp2_with (first|((with_reducible refine gd_ (N:=1) rfl ?_);refine by_ 1 (cs:=#[.int .i64 a0_0,.slice A0_1 l0_1.length c0_1,.int .i64 a0_2,.int .i64 a0_3,.slice A0_4 l0_4.length c0_4,.slice A0_5 l0_5.length c0_5,.slice A0_6 l0_6.length c0_6]) (t:=39) ?_;intro gb1_ hg w1_ hbox hb;replace HS:=aHg HS hg hbox;revert HO0_1 HO0_4 HO0_5 HO0_6 HK HB;refine aD hb ?_;intro HO0_1 HO0_4 HO0_5 HO0_6 HK HB;have BK1:=A_.mk hbox;clear hbox hb hg)|((with_reducible refine gd_ (N:=2) rfl ?_);refine by_ 2 (cs:=#[.int .i64 0,.slice none 0 0,.int .i64 0,.int .i64 0,.slice none 0 0,.slice none 0 0,.slice none 0 0]) (t:=39) ?_;intro gb2_ hg w2_ hbox hb;replace HS:=aHg HS hg hbox;revert HO0_1 HO0_4 HO0_5 HO0_6 HK HB BK1;refine aD hb ?_;intro HO0_1 HO0_4 HO0_5 HO0_6 HK HB BK1;have BK2:=A_.mk hbox;clear hbox hb hg))
 obtain⟨gHO0_5_,ed_⟩:=mI HO0_5.out (by have:=EB3.out;omega)
 subst ed_
 obtain⟨A3_0,c3_0,hx_,hl_,hi_⟩:=oh HO0_5.out EB3.out
 have HX3:=A_.mk (show w2_.cell? ⟨gHO0_5_,0,none⟩=some (.slice A3_0 (fG l0_5 (0:Int)).length c3_0) from hx_)
 have HD3:=A_.mk hl_
 have HE3:=A_.mk hi_
 clear hx_ hl_ hi_
 refine dN (n:=13) (S:=fun w'=>(w'.cell? ⟨gb1_,0,none⟩=some (.int .i64 a0_0)∧w'.cell? ⟨gb1_,1,none⟩=some (.slice A0_1 l0_1.length c0_1)∧w'.cell? ⟨gb1_,2,none⟩=some (.int .i64 a0_2)∧w'.cell? ⟨gb1_,3,none⟩=some (.int .i64 a0_3)∧w'.cell? ⟨gb1_,4,none⟩=some (.slice A0_4 l0_4.length c0_4)∧w'.cell? ⟨gb1_,5,none⟩=some (.slice (some ⟨gHO0_5_,0,none⟩) l0_5.length c0_5)∧w'.cell? ⟨gb1_,6,none⟩=some (.slice A0_6 l0_6.length c0_6))∧(w'.cell? ⟨gHO0_5_,0,none⟩=some (.slice A3_0 (fG l0_5 (0:Int)).length c3_0))) (ds:=[11]) #[F,F,F,F,F,F,F,F,F,F,F,F,F] (by kernel_rfl) rfl rfl ⟨aa BK1.out,HX3.out⟩ (fun hHeld=>?_)
 have hb:=aV (Below.refl w2_.heap.size w2_)
 replace HS:=aHs HS hb.size
 replace HO0_1:=aSb HO0_1 hb
 replace HO0_4:=aSb HO0_4 hb
 replace HO0_5:=aSb HO0_5 hb
 replace HO0_6:=aRb HO0_6 hb
 replace BK1:=aBb BK1 hb
 replace BK2:=aBb BK2 hb
 replace HE3:=A_.mk (Kd.cu HE3.out hb)
 replace HX3:=A_.mk ((hb.cell (wl_ _ _ HX3.out)).trans HX3.out)
 replace HK:=aKb HK hb
 replace HB:=aHB HB hb
 clear hb
 generalize w2_.drew=w22d_ at HO0_1 HO0_4 HO0_5 HO0_6 HE3 HX3 HK BK1 BK2 HB HS hHeld ⊢
 refine pd_ (i:=0) (N:=some 7) #[T,F,F,F,F,F,F,F,F,F,F,F,F] rfl ?_
 refine tl_ (i:=1) (N:=some 8) #[T,T,F,F,F,F,F,F,F,F,F,F,F] rfl hHeld ?_
 refine pd_ (i:=2) (N:=some 9) #[T,T,T,F,F,F,F,F,F,F,F,F,F] rfl ?_
 refine tl_ (i:=3) (N:=some 10) #[T,T,T,T,F,F,F,F,F,F,F,F,F] rfl hHeld ?_
 refine pd_ (i:=4) (N:=some 11) #[T,T,T,T,T,F,F,F,F,F,F,F,F] rfl ?_
 refine tl_ (i:=5) (N:=some 12) #[T,T,T,T,T,T,F,F,F,F,F,F,F] rfl hHeld ?_
 refine mR (σ:=Value×Nat×Nat×Nat) 2 #[T,T,T,T,T,T,T,T,T,T,T,F,F] (fun s_=>[(13,.tuple #[.agg #[.int .i64 t1,s_.1],.int .i64 t3]),(6,.tuple #[.agg #[.int .i64 t1,s_.1],.int .i64 t3]),(14,.agg #[.int .i64 t1,s_.1]),(15,.int .i64 t3),(3,.pointer (some ⟨s_.2.1,0,none⟩))]) (fun s_ w'=>((w'.cell? ⟨gb1_,0,none⟩=some (.int .i64 a0_0)∧w'.cell? ⟨gb1_,1,none⟩=some (.slice A0_1 l0_1.length c0_1)∧w'.cell? ⟨gb1_,2,none⟩=some (.int .i64 a0_2)∧w'.cell? ⟨gb1_,3,none⟩=some (.int .i64 a0_3)∧w'.cell? ⟨gb1_,4,none⟩=some (.slice A0_4 l0_4.length c0_4)∧w'.cell? ⟨gb1_,5,none⟩=some (.slice (some ⟨gHO0_5_,0,none⟩) l0_5.length c0_5)∧w'.cell? ⟨gb1_,6,none⟩=some (.slice A0_6 l0_6.length c0_6))∧(w'.cell? ⟨gHO0_5_,0,none⟩=some (.slice A3_0 (fG l0_5 (0:Int)).length c3_0)))∧Kd.S k68 68 w' w.heap.size (fun k_=>((w.heap.size≤k_∧k_<w1.heap.size)∧f0_ k_=0)) (.slice A0_1 l0_1.length c0_1) l0_1∧Kd.S (Kd.slice 3 (Kd.int .i64)) 28 w' w.heap.size (fun k_=>((w.heap.size≤k_∧k_<w1.heap.size)∧f0_ k_=2)) (.slice (some ⟨gHO0_5_,0,none⟩) l0_5.length c0_5) l0_5∧Kd.R (Kd.int .i64) 3 w' w.heap.size (fun k_=>((w.heap.size≤k_∧k_<w1.heap.size)∧f0_ k_=3)) (.slice A0_6 l0_6.length c0_6) l0_6∧w'.heap[gb1_]?=some (.cells #[.int .i64 a0_0,.slice A0_1 l0_1.length c0_1,.int .i64 a0_2,.int .i64 a0_3,.slice A0_4 l0_4.length c0_4,.slice (some ⟨gHO0_5_,0,none⟩) l0_5.length c0_5,.slice A0_6 l0_6.length c0_6] 39 (0,0))∧w'.heap[gb2_]?=some (.cells #[.int .i64 0,.slice none 0 0,.int .i64 0,.int .i64 0,.slice none 0 0,.slice none 0 0,.slice none 0 0] 39 (0,0))∧Kept w1 w' (fun k_=>((w.heap.size≤k_∧k_<w1.heap.size)∧f0_ k_<4))∧Below w.heap.size w w'∧w22d_.heap.size≤w'.heap.size∧(w22d_.heap.size≤s_.2.2.1∧s_.2.2.1≤s_.2.2.2∧s_.2.2.2≤w'.heap.size)∧Kd.V (Kd.slice 3 (Kd.int .i64)) 28 w' w.heap.size (fun k_=>(s_.2.2.1≤k_∧k_<s_.2.2.2)) s_.1 t2∧w'.heap[s_.2.1]?=some (.cells #[.int .i64 0,.slice none 0 0] 37 (0,0))∧(w22d_.heap.size≤s_.2.1∧s_.2.1<w'.heap.size∧(s_.2.1<s_.2.2.1∨s_.2.2.2≤s_.2.1))) ?_ ?_
 rotate_left
 ·intro hCont
  refine jU (i:=6) (j:=10) (Ni:=some 13) (Nj:=some 3) #[T,T,T,T,T,T,T,F,F,F,F,F,F] #[T,T,T,T,T,T,F,F,F,F,T,F,F] rfl rfl rfl rfl (by kernel_rfl) (by decide) (by decide) (fun K hK=>?_) (fun K hK=>?_)
  ·skip
   refine gz_ Tryz.func69 #[.agg #[.int .i64 a0_3,.slice A0_4 l0_4.length c0_4],.slice A3_0 (fG l0_5 (0:Int)).length c3_0] ?_
   with_reducible refine (eD.calls k a0_3 _ _ l0_4 _ _ (fG l0_5 (0:Int)) t1 t2 t3 _ (dV HO0_4) (dS HO0_4) HE3.out HD3.out A4.out).mono ?_
   rintro e w4_ ⟨v1_,rfl,ho0_,hb⟩
   refine⟨_,rfl,?_⟩
   replace HS:=aHs HS hb.size
   replace ho0_:=Kd.N_V (base':=w.heap.size) ho0_
   obtain⟨Ao4_1,co4_1,ev_⟩:=Kd.gH ho0_
   subst ev_
   have HO4_1:=A_.mk (Kd.aW (ok':=(fun k_=>((w22d_.heap.size≤k_∧k_<w4_.heap.size)))) (Kd.lg ho0_) (fun k_ hk_=>⟨hk_.1,hk_.2⟩))
   revert HO0_1 HO0_4 HO0_5 HO0_6 BK1 BK2
   refine aD hb ?_
   intro HO0_1 HO0_4 HO0_5 HO0_6 BK1 BK2
   replace HE3:=A_.mk (Kd.cu HE3.out hb)
   replace HX3:=A_.mk ((hb.cell (wl_ _ _ HX3.out)).trans HX3.out)
   replace HK:=aKb HK hb
   replace HB:=aHB HB hb
   clear hb ho0_
   refine hK.out _ _ ⟨aa BK1.out,HX3.out⟩ (fun hHeld=>?_)
   clear hK K
   refine nm_ ?_
   refine pd_ (i:=7) (N:=some 6) #[T,T,T,T,T,T,T,T,F,F,F,F,F] rfl ?_
   refine pd_ (i:=8) (N:=some 14) #[T,T,T,T,T,T,T,T,T,F,F,F,F] rfl ?_
   refine pd_ (i:=9) (N:=some 15) #[T,T,T,T,T,T,T,T,T,T,F,F,F] rfl ?_
   refine on_ (i:=10) (N:=some 3) #[T,T,T,T,T,T,T,T,T,T,T,F,F] rfl (fun K hK=>?_)
   refine bo_ (N:=3) (cs:=#[.int .i64 0,.slice none 0 0]) (t:=37) ?_
   intro gb5_ hg w5_ hbox hb
   replace HS:=aHg HS hg hbox
   revert HO4_1 HO0_1 HO0_4 HO0_5 HO0_6 BK1 BK2
   refine aD hb ?_
   intro HO4_1 HO0_1 HO0_4 HO0_5 HO0_6 BK1 BK2
   replace HE3:=A_.mk (Kd.cu HE3.out hb)
   replace HX3:=A_.mk ((hb.cell (wl_ _ _ HX3.out)).trans HX3.out)
   replace HK:=aKb HK hb
   replace HB:=aHB HB hb
   have BK5:=A_.mk hbox
   clear hbox hb hg
   refine hK.out _ _ ⟨aa BK1.out,HX3.out⟩ (fun hHeld=>?_)
   clear hK K
   refine nm_ ?_
   exact nj_ (hCont (.slice Ao4_1 t2.length co4_1,gb5_,(w22d_.heap.size),(w4_.heap.size)) _ ⟨hHeld,HO0_1.out,HO0_5.out,HO0_6.out,BK1.out,BK2.out,HK.out,HB.out,(ho_ HS),(by have:=HS.out;(try dsimp only);omega),HO4_1.out,BK5.out,(by have:=HS.out;(try dsimp only);omega)⟩)
  ·skip
   refine bo_ (N:=3) (cs:=#[.int .i64 0,.slice none 0 0]) (t:=37) ?_
   intro gb5_ hg w5_ hbox hb
   replace HS:=aHg HS hg hbox
   revert HO0_1 HO0_4 HO0_5 HO0_6 BK1 BK2
   refine aD hb ?_
   intro HO0_1 HO0_4 HO0_5 HO0_6 BK1 BK2
   replace HE3:=A_.mk (Kd.cu HE3.out hb)
   replace HX3:=A_.mk ((hb.cell (wl_ _ _ HX3.out)).trans HX3.out)
   replace HK:=aKb HK hb
   replace HB:=aHB HB hb
   have BK5:=A_.mk hbox
   clear hbox hb hg
   refine hK.out _ _ ⟨aa BK1.out,HX3.out⟩ (fun hHeld=>?_)
   clear hK K
   refine nm_ ?_
   refine on_ (i:=6) (N:=some 13) #[T,T,T,T,T,T,T,F,F,F,T,F,F] rfl (fun K hK=>?_)
   refine gz_ Tryz.func69 #[.agg #[.int .i64 a0_3,.slice A0_4 l0_4.length c0_4],.slice A3_0 (fG l0_5 (0:Int)).length c3_0] ?_
   with_reducible refine (eD.calls k a0_3 _ _ l0_4 _ _ (fG l0_5 (0:Int)) t1 t2 t3 _ (dV HO0_4) (dS HO0_4) HE3.out HD3.out A4.out).mono ?_
   rintro e w4_ ⟨v1_,rfl,ho0_,hb⟩
   refine⟨_,rfl,?_⟩
   replace HS:=aHs HS hb.size
   replace ho0_:=Kd.N_V (base':=w.heap.size) ho0_
   obtain⟨Ao4_1,co4_1,ev_⟩:=Kd.gH ho0_
   subst ev_
   have HO4_1:=A_.mk (Kd.aW (ok':=(fun k_=>((w5_.heap.size≤k_∧k_<w4_.heap.size)))) (Kd.lg ho0_) (fun k_ hk_=>⟨hk_.1,hk_.2⟩))
   revert HO0_1 HO0_4 HO0_5 HO0_6 BK1 BK2 BK5
   refine aD hb ?_
   intro HO0_1 HO0_4 HO0_5 HO0_6 BK1 BK2 BK5
   replace HE3:=A_.mk (Kd.cu HE3.out hb)
   replace HX3:=A_.mk ((hb.cell (wl_ _ _ HX3.out)).trans HX3.out)
   replace HK:=aKb HK hb
   replace HB:=aHB HB hb
   clear hb ho0_
   refine hK.out _ _ ⟨aa BK1.out,HX3.out⟩ (fun hHeld=>?_)
   clear hK K
   refine nm_ ?_
   refine pd_ (i:=7) (N:=some 6) #[T,T,T,T,T,T,T,T,F,F,T,F,F] rfl ?_
   refine pd_ (i:=8) (N:=some 14) #[T,T,T,T,T,T,T,T,T,F,T,F,F] rfl ?_
   refine pd_ (i:=9) (N:=some 15) #[T,T,T,T,T,T,T,T,T,T,T,F,F] rfl ?_
   exact nj_ (hCont (.slice Ao4_1 t2.length co4_1,gb5_,(w5_.heap.size),(w4_.heap.size)) _ ⟨hHeld,HO0_1.out,HO0_5.out,HO0_6.out,BK1.out,BK2.out,HK.out,HB.out,(ho_ HS),(by have:=HS.out;(try dsimp only);omega),HO4_1.out,BK5.out,(by have:=HS.out;(try dsimp only);omega)⟩)
 rintro⟨z0_,gb5_,lo22j_,up22j_⟩ w22j_ ⟨hHeld,m0_,m1_,m2_,m3_,m4_,m5_,m6_,m7_,m8_,m9_,m10_,m11_⟩
 replace HO0_1:=A_.mk m0_
 replace HO0_5:=A_.mk m1_
 replace HO0_6:=A_.mk m2_
 replace BK1:=A_.mk m3_
 replace BK2:=A_.mk m4_
 replace HK:=A_.mk m5_
 replace HB:=A_.mk m6_
 replace HS:=A_.mk (And.intro HS.out m7_)
 replace HS:=A_.mk (And.intro HS.out (show w22d_.heap.size≤lo22j_∧lo22j_≤up22j_∧up22j_≤w22j_.heap.size from m8_))
 obtain⟨Ao4_1,co4_1,ev_⟩:=Kd.gH m9_
 replace ev_:z0_=_:=ev_
 subst ev_
 have HO4_1:=A_.mk (show Kd.V (Kd.slice 3 (Kd.int .i64)) 28 w22j_ w.heap.size (fun k_=>((lo22j_≤k_∧k_<up22j_))) (.slice Ao4_1 t2.length co4_1) t2 from m9_)
 have BK5:=A_.mk (show w22j_.heap[gb5_]?=some (.cells #[.int .i64 0,.slice none 0 0] 37 (0,0)) from m10_)
 replace HS:=A_.mk (And.intro HS.out (show w22d_.heap.size≤gb5_∧gb5_<w22j_.heap.size∧(gb5_<lo22j_∨up22j_≤gb5_) from m11_))
 clear m0_ m1_ m2_ m3_ m4_ m5_ m6_ m7_ m8_ m9_ m10_ m11_
 refine lD (a':=?_) ?_ ?_
 rotate_left
 ·simp only [putAll,Act.put,List.setIfInBounds_toArray,List.set_cons_zero,List.set_cons_succ]
  rfl
 refine gG (i:=11) (N:=none) #[T,T,T,T,T,T,T,T,T,T,T,T,F] rfl rfl (by kernel_rfl) (by decide) (fun K hK=>?_)
 have Q1:=aa BK1.out
 have Q2:=aa BK2.out
 have Q5:=ak BK5.out
 obtain⟨qf0,qf1⟩:=dO BK5
 obtain⟨w6_,hw⟩:=lw_ ((jv w22j_ gb5_ (.int .i64 t1) (.slice Ao4_1 t2.length co4_1)))
 refine fT (w1:=w6_) (by rfl) rfl ?_ ?_
 ·rw [hw];go_simp;try rfl
 refine hK.out _ _ ?_
 clear hK K qf0 qf1 Q1 Q2 Q5
 obtain⟨hbx,hkp,hbb⟩:=jA hw BK5 HB (ho_ HS)
 clear hw
 replace HK:=kt_ HK hkp HS
 revert HO0_1 HO0_5 HO0_6 BK1 BK2 HO4_1
 refine bC hkp HS ?_
 intro HO0_1 HO0_5 HO0_6 BK1 BK2 HO4_1
 replace BK5:=A_.mk hbx
 replace HB:=A_.mk hbb
 replace HS:=aHs HS hkp.1
 clear hkp hbb hbx
 refine pd_ (i:=12) (N:=some 4) #[T,T,T,T,T,T,T,T,T,T,T,T,T] rfl ?_
 refine fA (by kernel_rfl) ?_
 have Q1:=aa BK1.out
 have Q5:=ak BK5.out
 obtain⟨ax8_,hax8_⟩:∃ q_:Option Addr,(if c0_5=1 then (some ⟨gHO0_5_,0,none⟩:Option Addr) else some ⟨gHO0_5_,1,none⟩)=q_:=⟨_,rfl⟩
 have hnc_:=(dS HO0_5)
 have hz0_:1≤l0_5.length:=by have:=EB8.out;omega
 have hz1_:1≤c0_5:=by omega
 have hz2_:(1:Int)≤(l0_5.length:Int):=by omega
 go_wp2_with (first|((with_reducible refine ae (t:=37) (p:=17) rfl ?_);have qf0:=bf_ BK1.out 3;have qf1:=bf_ BK1.out 4;refine so_ (w1:=((w6_.setCell ⟨gb1_,3,none⟩ (.int .i64 t1)).setCell ⟨gb1_,4,none⟩ (.slice Ao4_1 t2.length co4_1))) ?_;intro w7_ hw;clear qf0 qf1;obtain⟨hbx,hkp,hbb⟩:=nL hw BK1 HB (ho_ HS);clear hw;replace HK:=kt_ HK hkp HS;revert HO0_1 HO0_5 HO0_6 BK2 HO4_1 BK5;refine bC hkp HS ?_;intro HO0_1 HO0_5 HO0_6 BK2 HO4_1 BK5;replace BK1:=A_.mk hbx;replace HB:=A_.mk hbb;replace HS:=aHs HS hkp.1;clear hkp hbb hbx Q1 Q5;have Q1:=aa BK1.out;have HO8:=A_.mk (show Kd.V (Kd.slice 3 (Kd.int .i64)) 28 w7_ w.heap.size (fun k_=>((w.heap.size≤k_∧k_<w1.heap.size)∧f0_ k_=2)) (.slice ax8_ (l0_5.length-1) (c0_5-1)) y4 from by rw [Ny4.out];exact oC (Kd.S_V HO0_5.out) (by have:=EB8.out;omega) rfl hax8_))|((with_reducible refine ae (t:=25) (p:=21) rfl ?_);have qf0:=bf_ BK1.out 5;refine so_ (w1:=(w7_.setCell ⟨gb1_,5,none⟩ (.slice ax8_ (l0_5.length-1) (c0_5-1)))) ?_;intro w9_ hw;clear qf0;obtain⟨hbx,hkp,hbb⟩:=j6 hw BK1 HB (ho_ HS);clear hw;replace HK:=kt_ HK hkp HS;revert HO0_1 HO0_6 BK2 HO4_1 BK5 HO8;refine bC hkp HS ?_;intro HO0_1 HO0_6 BK2 HO4_1 BK5 HO8;replace BK1:=A_.mk hbx;replace HB:=A_.mk hbb;replace HS:=aHs HS hkp.1;clear hkp hbb hbx Q1;have Q1:=aa BK1.out;have Q5:=ak BK5.out))
 refine(jr.calls k t1 _ _ t2 t5 _ (lY HO4_1) (lX HO4_1) A10.out).mono ?_
 rintro e w10_ ⟨rfl,hb⟩
 revert HK HO0_1 HO0_6 BK2 HO4_1 HO8 BK1 HB HS
 refine aD hb ?_
 intro HK HO0_1 HO0_6 BK2 HO4_1 HO8 BK1 HB HS
 clear hb  Q1 Q5
 have Q1:=aa BK1.out
 have Q2:=aa BK2.out
 replace H:=H.out
 by_cases hc2_:t3=2
 case pos =>
  rw [if_pos hc2_] at H
  replace hc2_:=iF hc2_
  replace H:=lM H
  obtain⟨LM11,H⟩:=H
  obtain⟨y6,Ny6⟩:=le_ ((l0_6++[(wrap64 (t5+100))]))
  rw [←Ny6.out] at H
  replace H:=qo H
  obtain⟨rfl,rfl,rfl,rfl,rfl,rfl,rfl⟩:=H
  go_wp2_with (first|((with_reducible refine cz (b:=.append) (xs:=#[.tmp 37,.tmp 39]) rfl ?_);at_builtin;refine Kd.jS (Kd.int .i64) (w0:=w) w.heap.size rfl (.tmp 37) (.tmp 39) 28 3 ((.int .i64 0)) 8 rfl Tryz.underlying28 info3 rfl (by decide) (by omega) (.slice A0_6 l0_6.length c0_6) l0_6 (wrap64 (t5+100)) [.int .i64 (wrap64 (t5+100))] (fun k_=>(((w.heap.size≤k_∧k_<w1.heap.size)∧f0_ k_=3))∨w10_.heap.size≤k_) (fun _=>False) rfl rfl ?aP (fun _ hk=>hk.elim) (fun _ hk=>.inr hk) (Kd.aC HO0_6.out (fun _ hk=>.inl hk)) HB.out HB.out.size ?aL ?_;(case aP=>rfl);(case aL=>have:=LM11.out;omega);intro v_ w11_ ho hbb hg hat;clear hat;rw [←Ny6.out] at ho;have hkp:Kept w10_ w11_ (fun k_=>((w.heap.size≤k_∧k_<w1.heap.size)∧f0_ k_=3)):=Kept.aZ hg (Kept.refl _ _) (fun k_ e_=>.inl (HO0_6.out.1 k_ e_));replace HK:=kt_ HK hkp HS;revert HO0_1 BK2 HO4_1 HO8 BK1;refine bC hkp HS ?_;intro HO0_1 BK2 HO4_1 HO8 BK1;replace HS:=aHs HS hkp.1;obtain⟨Ao11,co11,ev_⟩:=Kd.aX ho;subst ev_;have HO11:=A_.mk (Kd.aC (ok':=(fun k_=>((w.heap.size≤k_∧k_<w1.heap.size)∧f0_ k_=3)∨((w10_.heap.size≤k_∧k_<w11_.heap.size)))) (Kd.bP ho) (fun k_ hk_=>by have:=hk_.1;have:=hk_.2.2.1;have:=hk_.2.1;clear hk_;(try dsimp only at *);omega));replace HB:=A_.mk hbb;clear hkp hbb hg ho HO0_6 Q1 Q2;have Q1:=aa BK1.out)|((with_reducible refine ae (t:=28) (p:=41) rfl ?_);have qf0:=bf_ BK1.out 6;refine so_ (w1:=(w11_.setCell ⟨gb1_,6,none⟩ (.slice Ao11 y6.length co11))) ?_;intro w12_ hw;clear qf0;obtain⟨hbx,hkp,hbb⟩:=jD hw BK1 HB (ho_ HS);clear hw;replace HK:=kt_ HK hkp HS;revert HO0_1 BK2 HO4_1 HO8 HO11;refine bC hkp HS ?_;intro HO0_1 BK2 HO4_1 HO8 HO11;replace BK1:=A_.mk hbx;replace HB:=A_.mk hbb;replace HS:=aHs HS hkp.1;clear hkp hbb hbx Q1;have Q1:=aa BK1.out;have Q2:=aa BK2.out)|((with_reducible refine ae (t:=39) (p:=2) rfl ?_);obtain⟨qf0,qf1,qf2,qf3,qf4,qf5,qf6⟩:=gM BK2;refine so_ (w1:=(iR w12_ gb2_ (.int .i64 a0_0) (.slice A0_1 l0_1.length c0_1) (.int .i64 a0_2) (.int .i64 t1) (.slice Ao4_1 t2.length co4_1) (.slice ax8_ (l0_5.length-1) (c0_5-1)) (.slice Ao11 y6.length co11))) ?_;intro w13_ hw;clear qf0 qf1 qf2 qf3 qf4 qf5 qf6;obtain⟨hbx,hkp,hbb⟩:=iV hw BK2 HB (ho_ HS);clear hw;replace HK:=kt_ HK hkp HS;revert HO0_1 HO4_1 HO8 HO11;refine bC hkp HS ?_;intro HO0_1 HO4_1 HO8 HO11;replace BK2:=A_.mk hbx;replace HB:=A_.mk hbb;replace HS:=aHs HS hkp.1;clear hkp hbb hbx Q1 Q2))
  refine bodyPost_ret (results_cell_row rfl _ _ gb2_ 39 _ (0,0) _ rfl BK2.out Tryz.underlying39 rfl (by kernel_rfl)) rfl ?_
  obtain⟨f_,hf_⟩:=mS_ HO0_1 0 (mV_ HO4_1 1 (mV_ HO8 2 (mR_ HO11 3 (m0_ 4))))
  have hfk_:∀ k_,k_<w1.heap.size→f_ k_<4→f0_ k_<4:=fun k_ h1_ h2_=>by have:=HS.out;rw [hf_] at h2_;repeat' (first|omega|split at h2_)
  first|exact ⟨f_,_,_,_,_,rfl,lZ HO0_1 HS hf_,cV_ HO4_1 HS hf_,cV_ HO8 HS hf_,rz HO11 HS hf_,hfk_,HB.out,HK.out⟩|exact ⟨rfl,f_,_,_,_,_,lZ HO0_1 HS hf_,cV_ HO4_1 HS hf_,cV_ HO8 HS hf_,rz HO11 HS hf_,hfk_,HB.out,HK.out⟩
 rw [if_neg hc2_] at H
 have hc2_b:=iE hc2_
 by_cases hc4_:t3=3
 case pos =>
  rw [if_pos hc4_] at H
  replace hc4_:=iF hc4_
  replace H:=lM H
  obtain⟨LM14,H⟩:=H
  obtain⟨y7,Ny7⟩:=le_ ((l0_6++[(wrap64 (t5+100))]))
  rw [←Ny7.out] at H
  replace H:=qo H
  obtain⟨rfl,rfl,rfl,rfl,rfl,rfl,rfl⟩:=H
  go_wp2_with (first|((with_reducible refine cz (b:=.append) (xs:=#[.tmp 37,.tmp 39]) rfl ?_);at_builtin;refine Kd.jS (Kd.int .i64) (w0:=w) w.heap.size rfl (.tmp 37) (.tmp 39) 28 3 ((.int .i64 0)) 8 rfl Tryz.underlying28 info3 rfl (by decide) (by omega) (.slice A0_6 l0_6.length c0_6) l0_6 (wrap64 (t5+100)) [.int .i64 (wrap64 (t5+100))] (fun k_=>(((w.heap.size≤k_∧k_<w1.heap.size)∧f0_ k_=3))∨w10_.heap.size≤k_) (fun _=>False) rfl rfl ?aP (fun _ hk=>hk.elim) (fun _ hk=>.inr hk) (Kd.aC HO0_6.out (fun _ hk=>.inl hk)) HB.out HB.out.size ?aL ?_;(case aP=>rfl);(case aL=>have:=LM14.out;omega);intro v_ w14_ ho hbb hg hat;clear hat;rw [←Ny7.out] at ho;have hkp:Kept w10_ w14_ (fun k_=>((w.heap.size≤k_∧k_<w1.heap.size)∧f0_ k_=3)):=Kept.aZ hg (Kept.refl _ _) (fun k_ e_=>.inl (HO0_6.out.1 k_ e_));replace HK:=kt_ HK hkp HS;revert HO0_1 BK2 HO4_1 HO8 BK1;refine bC hkp HS ?_;intro HO0_1 BK2 HO4_1 HO8 BK1;replace HS:=aHs HS hkp.1;obtain⟨Ao14,co14,ev_⟩:=Kd.aX ho;subst ev_;have HO14:=A_.mk (Kd.aC (ok':=(fun k_=>((w.heap.size≤k_∧k_<w1.heap.size)∧f0_ k_=3)∨((w10_.heap.size≤k_∧k_<w14_.heap.size)))) (Kd.bP ho) (fun k_ hk_=>by have:=hk_.1;have:=hk_.2.2.1;have:=hk_.2.1;clear hk_;(try dsimp only at *);omega));replace HB:=A_.mk hbb;clear hkp hbb hg ho HO0_6 Q1 Q2;have Q1:=aa BK1.out)|((with_reducible refine ae (t:=28) (p:=41) rfl ?_);have qf0:=bf_ BK1.out 6;refine so_ (w1:=(w14_.setCell ⟨gb1_,6,none⟩ (.slice Ao14 y7.length co14))) ?_;intro w15_ hw;clear qf0;obtain⟨hbx,hkp,hbb⟩:=jD hw BK1 HB (ho_ HS);clear hw;replace HK:=kt_ HK hkp HS;revert HO0_1 BK2 HO4_1 HO8 HO14;refine bC hkp HS ?_;intro HO0_1 BK2 HO4_1 HO8 HO14;replace BK1:=A_.mk hbx;replace HB:=A_.mk hbb;replace HS:=aHs HS hkp.1;clear hkp hbb hbx Q1;have Q1:=aa BK1.out;have Q2:=aa BK2.out)|((with_reducible refine ae (t:=39) (p:=2) rfl ?_);obtain⟨qf0,qf1,qf2,qf3,qf4,qf5,qf6⟩:=gM BK2;refine so_ (w1:=(iR w15_ gb2_ (.int .i64 a0_0) (.slice A0_1 l0_1.length c0_1) (.int .i64 a0_2) (.int .i64 t1) (.slice Ao4_1 t2.length co4_1) (.slice ax8_ (l0_5.length-1) (c0_5-1)) (.slice Ao14 y7.length co14))) ?_;intro w16_ hw;clear qf0 qf1 qf2 qf3 qf4 qf5 qf6;obtain⟨hbx,hkp,hbb⟩:=iV hw BK2 HB (ho_ HS);clear hw;replace HK:=kt_ HK hkp HS;revert HO0_1 HO4_1 HO8 HO14;refine bC hkp HS ?_;intro HO0_1 HO4_1 HO8 HO14;replace BK2:=A_.mk hbx;replace HB:=A_.mk hbb;replace HS:=aHs HS hkp.1;clear hkp hbb hbx Q1 Q2))
  refine bodyPost_ret (results_cell_row rfl _ _ gb2_ 39 _ (0,0) _ rfl BK2.out Tryz.underlying39 rfl (by kernel_rfl)) rfl ?_
  obtain⟨f_,hf_⟩:=mS_ HO0_1 0 (mV_ HO4_1 1 (mV_ HO8 2 (mR_ HO14 3 (m0_ 4))))
  have hfk_:∀ k_,k_<w1.heap.size→f_ k_<4→f0_ k_<4:=fun k_ h1_ h2_=>by have:=HS.out;rw [hf_] at h2_;repeat' (first|omega|split at h2_)
  first|exact ⟨f_,_,_,_,_,rfl,lZ HO0_1 HS hf_,cV_ HO4_1 HS hf_,cV_ HO8 HS hf_,rz HO14 HS hf_,hfk_,HB.out,HK.out⟩|exact ⟨rfl,f_,_,_,_,_,lZ HO0_1 HS hf_,cV_ HO4_1 HS hf_,cV_ HO8 HS hf_,rz HO14 HS hf_,hfk_,HB.out,HK.out⟩
 rw [if_neg hc4_] at H
 have hc4_b:=iE hc4_
 replace H:=lM H
 obtain⟨LM17,H⟩:=H
 obtain⟨y8,Ny8⟩:=le_ ((l0_6++[t5]))
 rw [←Ny8.out] at H
 replace H:=qo H
 obtain⟨rfl,rfl,rfl,rfl,rfl,rfl,rfl⟩:=H
 go_wp2_with (first|((with_reducible refine cz (b:=.append) (xs:=#[.tmp 37,.tmp 39]) rfl ?_);at_builtin;refine Kd.jS (Kd.int .i64) (w0:=w) w.heap.size rfl (.tmp 37) (.tmp 39) 28 3 ((.int .i64 0)) 8 rfl Tryz.underlying28 info3 rfl (by decide) (by omega) (.slice A0_6 l0_6.length c0_6) l0_6 t5 [.int .i64 t5] (fun k_=>(((w.heap.size≤k_∧k_<w1.heap.size)∧f0_ k_=3))∨w10_.heap.size≤k_) (fun _=>False) rfl rfl ?aP (fun _ hk=>hk.elim) (fun _ hk=>.inr hk) (Kd.aC HO0_6.out (fun _ hk=>.inl hk)) HB.out HB.out.size ?aL ?_;(case aP=>rfl);(case aL=>have:=LM17.out;omega);intro v_ w17_ ho hbb hg hat;clear hat;rw [←Ny8.out] at ho;have hkp:Kept w10_ w17_ (fun k_=>((w.heap.size≤k_∧k_<w1.heap.size)∧f0_ k_=3)):=Kept.aZ hg (Kept.refl _ _) (fun k_ e_=>.inl (HO0_6.out.1 k_ e_));replace HK:=kt_ HK hkp HS;revert HO0_1 BK2 HO4_1 HO8 BK1;refine bC hkp HS ?_;intro HO0_1 BK2 HO4_1 HO8 BK1;replace HS:=aHs HS hkp.1;obtain⟨Ao17,co17,ev_⟩:=Kd.aX ho;subst ev_;have HO17:=A_.mk (Kd.aC (ok':=(fun k_=>((w.heap.size≤k_∧k_<w1.heap.size)∧f0_ k_=3)∨((w10_.heap.size≤k_∧k_<w17_.heap.size)))) (Kd.bP ho) (fun k_ hk_=>by have:=hk_.1;have:=hk_.2.2.1;have:=hk_.2.1;clear hk_;(try dsimp only at *);omega));replace HB:=A_.mk hbb;clear hkp hbb hg ho HO0_6 Q1 Q2;have Q1:=aa BK1.out)|((with_reducible refine ae (t:=28) (p:=41) rfl ?_);have qf0:=bf_ BK1.out 6;refine so_ (w1:=(w17_.setCell ⟨gb1_,6,none⟩ (.slice Ao17 y8.length co17))) ?_;intro w18_ hw;clear qf0;obtain⟨hbx,hkp,hbb⟩:=jD hw BK1 HB (ho_ HS);clear hw;replace HK:=kt_ HK hkp HS;revert HO0_1 BK2 HO4_1 HO8 HO17;refine bC hkp HS ?_;intro HO0_1 BK2 HO4_1 HO8 HO17;replace BK1:=A_.mk hbx;replace HB:=A_.mk hbb;replace HS:=aHs HS hkp.1;clear hkp hbb hbx Q1;have Q1:=aa BK1.out;have Q2:=aa BK2.out)|((with_reducible refine ae (t:=39) (p:=2) rfl ?_);obtain⟨qf0,qf1,qf2,qf3,qf4,qf5,qf6⟩:=gM BK2;refine so_ (w1:=(iR w18_ gb2_ (.int .i64 a0_0) (.slice A0_1 l0_1.length c0_1) (.int .i64 a0_2) (.int .i64 t1) (.slice Ao4_1 t2.length co4_1) (.slice ax8_ (l0_5.length-1) (c0_5-1)) (.slice Ao17 y8.length co17))) ?_;intro w19_ hw;clear qf0 qf1 qf2 qf3 qf4 qf5 qf6;obtain⟨hbx,hkp,hbb⟩:=iV hw BK2 HB (ho_ HS);clear hw;replace HK:=kt_ HK hkp HS;revert HO0_1 HO4_1 HO8 HO17;refine bC hkp HS ?_;intro HO0_1 HO4_1 HO8 HO17;replace BK2:=A_.mk hbx;replace HB:=A_.mk hbb;replace HS:=aHs HS hkp.1;clear hkp hbb hbx Q1 Q2))
 refine bodyPost_ret (results_cell_row rfl _ _ gb2_ 39 _ (0,0) _ rfl BK2.out Tryz.underlying39 rfl (by kernel_rfl)) rfl ?_
 obtain⟨f_,hf_⟩:=mS_ HO0_1 0 (mV_ HO4_1 1 (mV_ HO8 2 (mR_ HO17 3 (m0_ 4))))
 have hfk_:∀ k_,k_<w1.heap.size→f_ k_<4→f0_ k_<4:=fun k_ h1_ h2_=>by have:=HS.out;rw [hf_] at h2_;repeat' (first|omega|split at h2_)
 first|exact ⟨f_,_,_,_,_,rfl,lZ HO0_1 HS hf_,cV_ HO4_1 HS hf_,cV_ HO8 HS hf_,rz HO17 HS hf_,hfk_,HB.out,HK.out⟩|exact ⟨rfl,f_,_,_,_,_,lZ HO0_1 HS hf_,cV_ HO4_1 HS hf_,cV_ HO8 HS hf_,rz HO17 HS hf_,hfk_,HB.out,HK.out⟩
def dP.f(k:Nat)(l0:List Int)(a1:Int):Option (List Int):=(some (([]:List Int):List Int)).bind fun y242=>(if y242.length+l0.length<17592186044416 then ((some (y242++l0:List Int)).bind fun y245=>((aj.f k l0).bind fun t248=>(if t248=true then ((bI.f a1 0 (wrap64 ((wrap64 (8*(l0.length:Int)))-1))).bind fun t249=>(if t249=true then (if 0≤(wrap64 (Int.tdiv a1 8)) then (if (wrap64 (Int.tdiv a1 8))<(y245.length:Int) then (if 0≤(Int.tmod a1 8) then (some (y245.set ((wrap64 (Int.tdiv a1 8)):Int).toNat (Go.bits .xor .i64 (rd y245 (wrap64 (Int.tdiv a1 8))) (shl .i64 1 (Int.tmod a1 8))))) else (none)) else (none)) else (none)) else (some y245))) else (some y245)))) else (none))
def dP.T3:Bool×List (List Nat×List Nat):=(true,[([],[]),([],[]),([1],[1]),([],[]),([],[]),([4],[4]),([3,5],[3,5]),([6],[6]),([],[]),([8],[8]),([9],[9]),([7,10],[7,10]),([0,2,0,1,2,3,4,5,6,7,8,9,10,11],[0,2]),([12,11,0,1,2,3,4,5,6,7,8,9,10,11],[11,12])])
def dP.B3:List Nat:=[0,0,2,0,0,16,56,120,0,256,768,2040,4095,8191]
theorem dP.tab3:rtab .any (opsOf Tryz.f33 3)=dP.T3:=by kernel_rfl
theorem dP.bits3:waitsOk dP.T3.2 dP.B3=true:=by kernel_rfl
theorem dP.calls(k:Nat)(A0:Option Addr)(c0:Nat)(l0:List Int)(a1:Int)(r:List Int)(w:World)(hr0:Kd.C (Kd.int .i64) w A0 l0.length l0)(hc0:l0.length≤c0)(h:dP.f k l0 a1=some r) :
  Calls Tryz.prog 33 #[.slice A0 l0.length c0,.int .i64 a1] w fun e w'=>∃ v0_:Value,e=.returned (v0_)∧Kd.R (Kd.int .i64) 3 w' w.heap.size (fun _=>True) v0_ r∧Below w.heap.size w w':=by
 have HR0:=A_.mk hr0
 have HC0:=A_.mk hc0
 clear hr0 hc0
 have HB:=A_.mk (Below.refl w.heap.size w)
 have H:((some (([]:List Int):List Int)).bind fun y242=>(if y242.length+l0.length<17592186044416 then ((some (y242++l0:List Int)).bind fun y245=>((aj.f k l0).bind fun t248=>(if t248=true then ((bI.f a1 0 (wrap64 ((wrap64 (8*(l0.length:Int)))-1))).bind fun t249=>(if t249=true then (if 0≤(wrap64 (Int.tdiv a1 8)) then (if (wrap64 (Int.tdiv a1 8))<(y245.length:Int) then (if 0≤(Int.tmod a1 8) then (some (y245.set ((wrap64 (Int.tdiv a1 8)):Int).toNat (Go.bits .xor .i64 (rd y245 (wrap64 (Int.tdiv a1 8))) (shl .i64 1 (Int.tmod a1 8))))) else (none)) else (none)) else (none)) else (some y245))) else (some y245)))) else (none)))=some r:=h
 clear h
 obtain⟨y242,hy242⟩:∃ y_:List Int,y_=(([]:List Int)):=⟨_,rfl⟩
 replace H:(if y242.length+l0.length<17592186044416 then ((some (y242++l0:List Int)).bind fun y245=>((aj.f k l0).bind fun t248=>(if t248=true then ((bI.f a1 0 (wrap64 ((wrap64 (8*(l0.length:Int)))-1))).bind fun t249=>(if t249=true then (if 0≤(wrap64 (Int.tdiv a1 8)) then (if (wrap64 (Int.tdiv a1 8))<(y245.length:Int) then (if 0≤(Int.tmod a1 8) then (some (y245.set ((wrap64 (Int.tdiv a1 8)):Int).toNat (Go.bits .xor .i64 (rd y245 (wrap64 (Int.tdiv a1 8))) (shl .i64 1 (Int.tmod a1 8))))) else (none)) else (none)) else (none)) else (some y245))) else (some y245)))) else (none))=some r:=by first|(rw [hy242];with_reducible exact H)|(have H2_:=(Option.bind_some _ _).symm.trans H;rw [hy242];with_reducible exact H2_)|(have H2_:=(Option.bind_some _ _).symm.trans H;with_reducible exact H2_)|with_reducible exact H|(rw [hy242];exact H)|exact H
 have Ny242:=A_.mk hy242
 clear hy242
 by_cases c3:y242.length+l0.length<17592186044416
 rotate_left
 ·rw [if_neg c3] at H
  exact absurd H (by simp)
 rw [if_pos c3] at H
 have LMc3:=A_.mk c3
 clear c3
 obtain⟨y245,hy245⟩:∃ y_:List Int,y_=(y242++l0):=⟨_,rfl⟩
 replace H:((aj.f k l0).bind fun t248=>(if t248=true then ((bI.f a1 0 (wrap64 ((wrap64 (8*(l0.length:Int)))-1))).bind fun t249=>(if t249=true then (if 0≤(wrap64 (Int.tdiv a1 8)) then (if (wrap64 (Int.tdiv a1 8))<(y245.length:Int) then (if 0≤(Int.tmod a1 8) then (some (y245.set ((wrap64 (Int.tdiv a1 8)):Int).toNat (Go.bits .xor .i64 (rd y245 (wrap64 (Int.tdiv a1 8))) (shl .i64 1 (Int.tmod a1 8))))) else (none)) else (none)) else (none)) else (some y245))) else (some y245)))=some r:=by first|(rw [hy245];with_reducible exact H)|(have H2_:=(Option.bind_some _ _).symm.trans H;rw [hy245];with_reducible exact H2_)|(have H2_:=(Option.bind_some _ _).symm.trans H;with_reducible exact H2_)|with_reducible exact H|(rw [hy245];exact H)|exact H
 have Ny245:=A_.mk hy245
 clear hy245
 replace H:=oa_ H
 obtain⟨t248,A4,H⟩:=H
 by_cases c5:t248=true
 rotate_left
 ·replace c5:=Bool.eq_false_iff.mpr c5
  subst c5
  have H1:(some y245)=some r:=by rw [if_neg (show ¬ (false=true) by decide)] at H;exact H
  clear H
  have H:=H1
  clear H1
  obtain rfl:=Option.some.inj H
  go_enter Tryz.func33,Tryz.ntmps33
  go_wp2_with (first|((with_reducible refine gd_ (N:=6) rfl ?_);(try (refine bn (by rfl) ?_;dsimp only));refine Kd.iM (Kd.int .i64) _ 3 ?hg (N:=6) ?hd (xs:=([]:List Int)) (inner:=[]) (ok:=fun _=>True) (okp:=fun _=>True) ?hr ?hp (fun _ hk=>hk) trivial (Below.refl _ _) (Nat.le_refl _) (by simp) ?_;(case hd=>rfl);(case hg=>rfl);(case hr=>first|(go_simp;done)|(go_simp;rfl));(case hp=>exact (Reps.none _ _));intro v243 w24 ho25 hb hg_ hnew_;clear hg_ hnew_;(first|rw [←Ny242.out] at ho25|(simp only [Int.reduceToNat] at ho25;rw [←Ny242.out] at ho25));have n0_:=A_.mk (Kd.bR ho25 (bz_ (beY HB.out)));have n1_:=A_.mk (bt_ (beY HB.out) hb);clear HB;have HO244:=n0_;have HB:=n1_;clear n0_ n1_ hb ho25)|((with_reducible refine cz (b:=.append) (xs:=#[.tmp 6,.tmp 7]) rfl ?_);(try (refine bn (by rfl) ?_;dsimp only));at_builtin;refine Kd.dW (Kd.int .i64) (w0:=w) w.heap.size rfl (.tmp 6) (.tmp 7) 28 3 (.int .i64 0) 8 rfl Tryz.underlying28 info3 rfl (by decide) (by omega) v243 y242 l0 _ _ _ (fun _=>True) (fun _=>False) rfl rfl ?aO ?aR (fun _ _ h=>h) (fun _ h=>h.elim) ?aF ?aB ?aS ?aL ?_;(case aR=>repeat (first|exact (cb_ HR0 HB)|(with_reducible refine Kd.fo ?_ _)|(with_reducible refine Kd.fq ?_ _)|(with_reducible refine Kd.gI ?_)));(case aB=>exact (beY HB.out));(case aF=>exact (fun _ _=>trivial));(case aO=>exact (rY HO244.out));(case aS=>exact (bz_ (beY HB.out)));(case aL=>have:=LMc3.out;omega);intro v246 w26 ho hb hg hat;rw [←Ny245.out] at ho;have n0_:=A_.mk (hb);have n1_:=A_.mk (ho);clear HB HO244;have HB:=n0_;have HO247:=n1_;clear n0_ n1_ ho hb hg hat)|((with_reducible refine gc_ (f:=64) rfl ?_);refine gl_ (some 10) Tryz.func64 #[.slice A0 l0.length c0] ?_;(with_reducible refine (aj.calls k _ _ l0 false _ ?side1 ?side2 A4.out).mono ?_);(case side1=>exact cY ((cb_ HR0 HB)));(case side2=>exact HC0.out);rintro e w' ⟨rfl,⟨nd,rfl⟩⟩;refine⟨_,rfl,?_⟩))
  go_ret
  exact⟨_,re_,by (repeat apply rX);exact HO247.out,beY HB.out⟩
 subst c5
 have H1:((bI.f a1 0 (wrap64 ((wrap64 (8*(l0.length:Int)))-1))).bind fun t249=>(if t249=true then (if 0≤(wrap64 (Int.tdiv a1 8)) then (if (wrap64 (Int.tdiv a1 8))<(y245.length:Int) then (if 0≤(Int.tmod a1 8) then (some (y245.set ((wrap64 (Int.tdiv a1 8)):Int).toNat (Go.bits .xor .i64 (rd y245 (wrap64 (Int.tdiv a1 8))) (shl .i64 1 (Int.tmod a1 8))))) else (none)) else (none)) else (none)) else (some y245)))=some r:=by rw [if_pos rfl] at H;exact H
 clear H
 have H:=H1
 clear H1
 replace H:=oa_ H
 obtain⟨t249,A6,H⟩:=H
 by_cases c7:t249=true
 rotate_left
 ·replace c7:=Bool.eq_false_iff.mpr c7
  subst c7
  have H1:(some y245)=some r:=by rw [if_neg (show ¬ (false=true) by decide)] at H;exact H
  clear H
  have H:=H1
  clear H1
  obtain rfl:=Option.some.inj H
  go_enter Tryz.func33,Tryz.ntmps33
  go_wp2_with (first|((with_reducible refine gd_ (N:=6) rfl ?_);(try (refine bn (by rfl) ?_;dsimp only));refine Kd.iM (Kd.int .i64) _ 3 ?hg (N:=6) ?hd (xs:=([]:List Int)) (inner:=[]) (ok:=fun _=>True) (okp:=fun _=>True) ?hr ?hp (fun _ hk=>hk) trivial (Below.refl _ _) (Nat.le_refl _) (by simp) ?_;(case hd=>rfl);(case hg=>rfl);(case hr=>first|(go_simp;done)|(go_simp;rfl));(case hp=>exact (Reps.none _ _));intro v243 w21 ho22 hb hg_ hnew_;clear hg_ hnew_;(first|rw [←Ny242.out] at ho22|(simp only [Int.reduceToNat] at ho22;rw [←Ny242.out] at ho22));have n0_:=A_.mk (Kd.bR ho22 (bz_ (beY HB.out)));have n1_:=A_.mk (bt_ (beY HB.out) hb);clear HB;have HO244:=n0_;have HB:=n1_;clear n0_ n1_ hb ho22)|((with_reducible refine cz (b:=.append) (xs:=#[.tmp 6,.tmp 7]) rfl ?_);(try (refine bn (by rfl) ?_;dsimp only));at_builtin;refine Kd.dW (Kd.int .i64) (w0:=w) w.heap.size rfl (.tmp 6) (.tmp 7) 28 3 (.int .i64 0) 8 rfl Tryz.underlying28 info3 rfl (by decide) (by omega) v243 y242 l0 _ _ _ (fun _=>True) (fun _=>False) rfl rfl ?aO ?aR (fun _ _ h=>h) (fun _ h=>h.elim) ?aF ?aB ?aS ?aL ?_;(case aR=>repeat (first|exact (cb_ HR0 HB)|(with_reducible refine Kd.fo ?_ _)|(with_reducible refine Kd.fq ?_ _)|(with_reducible refine Kd.gI ?_)));(case aB=>exact (beY HB.out));(case aF=>exact (fun _ _=>trivial));(case aO=>exact (rY HO244.out));(case aS=>exact (bz_ (beY HB.out)));(case aL=>have:=LMc3.out;omega);intro v246 w23 ho hb hg hat;rw [←Ny245.out] at ho;have n0_:=A_.mk (hb);have n1_:=A_.mk (ho);clear HB HO244;have HB:=n0_;have HO247:=n1_;clear n0_ n1_ ho hb hg hat)|((with_reducible refine gc_ (f:=64) rfl ?_);refine gl_ (some 10) Tryz.func64 #[.slice A0 l0.length c0] ?_;(with_reducible refine (aj.calls k _ _ l0 true _ ?side1 ?side2 A4.out).mono ?_);(case side1=>exact cY ((cb_ HR0 HB)));(case side2=>exact HC0.out);rintro e w' ⟨rfl,⟨nd,rfl⟩⟩;refine⟨_,rfl,?_⟩)|(go_at_call 28;(with_reducible refine (bI.calls a1 0 (wrap64 ((wrap64 (8*(l0.length:Int)))-1)) false _ A6.out).mono ?_);rintro e w' ⟨rfl,⟨nd,rfl⟩⟩))
  go_ret
  exact⟨_,re_,by (repeat apply rX);exact HO247.out,beY HB.out⟩
 subst c7
 have H1:(if 0≤(wrap64 (Int.tdiv a1 8)) then (if (wrap64 (Int.tdiv a1 8))<(y245.length:Int) then (if 0≤(Int.tmod a1 8) then (some (y245.set ((wrap64 (Int.tdiv a1 8)):Int).toNat (Go.bits .xor .i64 (rd y245 (wrap64 (Int.tdiv a1 8))) (shl .i64 1 (Int.tmod a1 8))))) else (none)) else (none)) else (none))=some r:=by rw [if_pos rfl] at H;exact H
 clear H
 have H:=H1
 clear H1
 obtain⟨ji8,hji8⟩:∃ j_:Int,(wrap64 (Int.tdiv a1 8))=j_:=⟨_,rfl⟩
 replace H:(if 0≤(ji8) then (if (ji8)<(y245.length:Int) then (if 0≤(Int.tmod a1 8) then (some (y245.set ((ji8):Int).toNat (Go.bits .xor .i64 (rd y245 (ji8)) (shl .i64 1 (Int.tmod a1 8))))) else (none)) else (none)) else (none))=some r:=by first|(rw [hji8] at H;exact H)|(simp only [hji8] at H ⊢;exact H)
 (try rw [hji8] at A4)
 (try rw [hji8] at A6)
 have hji8w:(IntKind.i64.wrap (Int.tdiv a1 8))=ji8:=(jg _).trans hji8
 by_cases c9:0≤(ji8)
 rotate_left
 ·rw [if_neg c9] at H
  exact absurd H (by simp)
 rw [if_pos c9] at H
 have c9b0:=decide_eq_true c9
 clear c9
 by_cases c10:(ji8)<(y245.length:Int)
 rotate_left
 ·rw [if_neg c10] at H
  exact absurd H (by simp)
 rw [if_pos c10] at H
 have c10b0:=decide_eq_true c10
 clear c10
 obtain⟨ji11,hji11⟩:∃ j_:Int,(Int.tmod a1 8)=j_:=⟨_,rfl⟩
 replace H:(if 0≤(ji11) then (some (y245.set ((ji8):Int).toNat (Go.bits .xor .i64 (rd y245 (ji8)) (shl .i64 1 (ji11))))) else (none))=some r:=by first|(rw [hji11] at H;exact H)|(simp only [hji11] at H ⊢;exact H)
 (try rw [hji11] at A4)
 (try rw [hji11] at A6)
 by_cases c12:0≤(ji11)
 rotate_left
 ·rw [if_neg c12] at H
  exact absurd H (by simp)
 rw [if_pos c12] at H
 have c12b0:=eq_true c12
 have c12b1:=decide_eq_true c12
 clear c12
 obtain⟨ji13,hji13⟩:∃ j_:Int,(shl .i64 1 (ji11))=j_:=⟨_,rfl⟩
 replace H:(some (y245.set ((ji8):Int).toNat (Go.bits .xor .i64 (rd y245 (ji8)) (ji13))))=some r:=by first|(rw [hji13] at H;exact H)|(simp only [hji13] at H ⊢;exact H)
 (try rw [hji13] at A4)
 (try rw [hji13] at A6)
 have hji13_:(IntKind.i64.wrap (1*2 ^ min (ji11).toNat 64))=ji13:=hji13
 have hji13z:(ji11)≤64→(IntKind.i64.wrap (1*2 ^ (ji11).toNat))=ji13:=o9 hji13
 have hji13u:(IntKind.i64.wrap (2 ^ min (ji11).toNat 64))=ji13:=by have h_:=hji13_;rw [Int.one_mul] at h_;exact h_
 have hji13v:(ji11)≤64→(IntKind.i64.wrap (2 ^ (ji11).toNat))=ji13:=fun hle_=>by have h_:=hji13z hle_;rw [Int.one_mul] at h_;exact h_
 have hji13y:(wrap64 (1*2 ^ min (ji11).toNat 64))=ji13:=(jg _).symm.trans hji13_
 have hji13x:(ji11)≤64→(wrap64 (1*2 ^ (ji11).toNat))=ji13:=fun h_=>(jg _).symm.trans (hji13z h_)
 obtain⟨y251,hy251⟩:∃ y_:List Int,y_=(y245.set ((ji8):Int).toNat (Go.bits .xor .i64 (rd y245 (ji8)) (ji13))):=⟨_,rfl⟩
 replace H:(some y251)=some r:=by first|(rw [hy251];with_reducible exact H)|(have H2_:=(Option.bind_some _ _).symm.trans H;rw [hy251];with_reducible exact H2_)|(have H2_:=(Option.bind_some _ _).symm.trans H;with_reducible exact H2_)|with_reducible exact H|(rw [hy251];exact H)|exact H
 have Ny251:=A_.mk hy251
 clear hy251
 obtain rfl:=Option.some.inj H
 go_enter Tryz.func33,Tryz.ntmps33
 try go_wp2_with (first|((with_reducible refine gd_ (N:=6) rfl ?_);(try (refine bn (by rfl) ?_;dsimp only));refine Kd.iM (Kd.int .i64) _ 3 ?hg (N:=6) ?hd (xs:=([]:List Int)) (inner:=[]) (ok:=fun _=>True) (okp:=fun _=>True) ?hr ?hp (fun _ hk=>hk) trivial (Below.refl _ _) (Nat.le_refl _) (by simp) ?_;(case hd=>rfl);(case hg=>rfl);(case hr=>first|(go_simp;done)|(go_simp;rfl));(case hp=>exact (Reps.none _ _));intro v243 w15 ho16 hb hg_ hnew_;clear hg_ hnew_;(first|rw [←Ny242.out] at ho16|(simp only [Int.reduceToNat] at ho16;rw [←Ny242.out] at ho16));have n0_:=A_.mk (Kd.bR ho16 (bz_ (beY HB.out)));have n1_:=A_.mk (bt_ (beY HB.out) hb);clear HB;have HO244:=n0_;have HB:=n1_;clear n0_ n1_ hb ho16)|((with_reducible refine cz (b:=.append) (xs:=#[.tmp 6,.tmp 7]) rfl ?_);(try (refine bn (by rfl) ?_;dsimp only));at_builtin;refine Kd.dW (Kd.int .i64) (w0:=w) w.heap.size rfl (.tmp 6) (.tmp 7) 28 3 (.int .i64 0) 8 rfl Tryz.underlying28 info3 rfl (by decide) (by omega) v243 y242 l0 _ _ _ (fun _=>True) (fun _=>False) rfl rfl ?aO ?aR (fun _ _ h=>h) (fun _ h=>h.elim) ?aF ?aB ?aS ?aL ?_;(case aR=>repeat (first|exact (cb_ HR0 HB)|(with_reducible refine Kd.fo ?_ _)|(with_reducible refine Kd.fq ?_ _)|(with_reducible refine Kd.gI ?_)));(case aB=>exact (beY HB.out));(case aF=>exact (fun _ _=>trivial));(case aO=>exact (rY HO244.out));(case aS=>exact (bz_ (beY HB.out)));(case aL=>have:=LMc3.out;omega);intro v246 w17 ho hb hg hat;rw [←Ny245.out] at ho;have n0_:=A_.mk (hb);have n1_:=A_.mk (ho);clear HB HO244;have HB:=n0_;have HO247:=n1_;clear n0_ n1_ ho hb hg hat)|((with_reducible refine gc_ (f:=64) rfl ?_);refine gl_ (some 10) Tryz.func64 #[.slice A0 l0.length c0] ?_;(with_reducible refine (aj.calls k _ _ l0 true _ ?side1 ?side2 A4.out).mono ?_);(case side1=>exact cY ((cb_ HR0 HB)));(case side2=>exact HC0.out);rintro e w' ⟨rfl,⟨nd,rfl⟩⟩;refine⟨_,rfl,?_⟩;(try (rw [jL w17];generalize hq_:World.drewN w17 _=w17;have n0_:A_ (Kd.R (Kd.int .i64) 3 w17 w.heap.size (fun _=>True) v246 y245):=⟨by rw [←hq_];exact(rY HO247.out)⟩;have n1_:A_ (Below w.heap.size w w17):=⟨by rw [←hq_];exact(beY HB.out)⟩;clear HO247 HB hq_;have HO247:=n0_;have HB:=n1_;clear n0_ n1_)))|(go_at_call 28;(with_reducible refine (bI.calls a1 0 (wrap64 ((wrap64 (8*(l0.length:Int)))-1)) true _ A6.out).mono ?_);rintro e w' ⟨rfl,⟨nd,rfl⟩⟩;(try (rw [jL w17];generalize hq_:World.drewN w17 _=w17;have n0_:A_ (Kd.R (Kd.int .i64) 3 w17 w.heap.size (fun _=>True) v246 y245):=⟨by rw [←hq_];exact(rY HO247.out)⟩;have n1_:A_ (Below w.heap.size w w17):=⟨by rw [←hq_];exact(beY HB.out)⟩;clear HO247 HB hq_;have HO247:=n0_;have HB:=n1_;clear n0_ n1_))))
 have n0_:=A_.mk (Kd.rF HO247.out)
 have n1_:=A_.mk (be_ HB.out)
 clear HO247 HB
 have HO247:=n0_
 have HB:=n1_
 clear n0_ n1_
 obtain⟨Ao19,co19,eo19⟩:=Kd.aX HO247.out
 (first|subst eo19|(injection eo19 with f1_ f2_ f3_;have f4_:=f1_.symm;have f5_:=f3_.symm;clear f1_ f2_ f3_;subst f4_;subst f5_))
 have p250:0≤((ji8):Int):=od_
 have q250:(ji8)<(y245.length:Int):=od_
 obtain⟨ad250,e250,hx250_0⟩:=Kd.d9 (je HO247) (ji8) p250 q250
 cases e250
 replace p250:=eq_true p250
 replace q250:=eq_true q250
 have p14:0≤((ji8):Int):=od_
 have q14:((ji8):Int)<((y245.length:Int):Int):=od_
 obtain⟨go14,co14,eo14,gb14,gl14,cl14,HG14⟩:=Kd.nS HO247.out (by omega)
 (first|cases eo14|(injection eo14 with ea_ en_ ec_;(first|subst ea_|(injection ea_ with ea_;subst ea_));subst ec_;clear en_))
 have GB14:=A_.mk gb14
 have GG14:=A_.mk HG14
 clear gb14 gl14 HG14
 (first|simp only [add_plain] at hx250_0|skip)
 obtain⟨hx14_0,hf14_0⟩:=Kd.ll 0 HO247.out ((ji8):Int) p14 q14
 replace p14:=eq_true p14
 replace q14:=eq_true q14
 have HP20:=Kd.xG HO247.out ((ji8):Int) (Go.bits .xor .i64 (rd y245 (ji8)) (ji13))
 rw [←Ny251.out] at HP20
 have HQ20:=A_.mk HP20
 clear HP20
 refine dN (n:=14) (S:=fun w'=>w'.cell? ⟨go14,((ji8)).toNat,none⟩=some (.int .i64 (rd y245 (ji8)))) (ds:=[13]) #[F,F,F,F,F,F,F,F,F,F,F,F,F,F] (by kernel_rfl) rfl rfl (hx250_0) (fun hHeld=>?_);refine jH dP.tab3 dP.bits3 (fun HT_ HW_=>?_)
 generalize w17.drew=w18 at HO247 HB GG14 HQ20 hf14_0 hx14_0 hx250_0 hHeld ⊢
 refine pr_ (i:=0) (N:=some 19) #[T,F,F,F,F,F,F,F,F,F,F,F,F,F] rfl HT_.out ?_
 refine pr_ (i:=1) (N:=some 20) #[T,T,F,F,F,F,F,F,F,F,F,F,F,F] rfl HT_.out ?_
 refine pr_ (i:=2) (N:=some 21) #[T,T,T,F,F,F,F,F,F,F,F,F,F,F] rfl HT_.out ?_
 refine pr_ (i:=3) (N:=some 22) #[T,T,T,T,F,F,F,F,F,F,F,F,F,F] rfl HT_.out ?_
 refine pr_ (i:=4) (N:=some 23) #[T,T,T,T,T,F,F,F,F,F,F,F,F,F] rfl HT_.out ?_
 refine pr_ (i:=5) (N:=some 24) #[T,T,T,T,T,T,F,F,F,F,F,F,F,F] rfl HT_.out ?_
 refine pr_ (i:=6) (N:=some 25) #[T,T,T,T,T,T,T,F,F,F,F,F,F,F] rfl HT_.out ?_
 refine pr_ (i:=8) (N:=some 27) #[T,T,T,T,T,T,T,F,T,F,F,F,F,F] rfl HT_.out ?_
 refine pr_ (i:=9) (N:=some 28) #[T,T,T,T,T,T,T,F,T,T,F,F,F,F] rfl HT_.out ?_
 refine pr_ (i:=10) (N:=some 29) #[T,T,T,T,T,T,T,F,T,T,T,F,F,F] rfl HT_.out ?_
 refine nV (i:=7) (N:=some 26) (v:=?_) (a':=?_) #[T,T,T,T,T,T,T,T,T,T,T,F,F,F] rfl rfl (oq HT_.out HW_.out (by kernel_rfl)) (fun _ _ _ h=>h) (Or.inl ⟨by rfl,?_⟩) hHeld ?_ ?_
 rotate_left
 ·intro w' s0
  go_simp
  with_reducible rfl
 rotate_left
 ·simp only [pS]
  rfl
 refine pr_ (i:=11) (N:=some 30) #[T,T,T,T,T,T,T,T,T,T,T,T,F,F] rfl HT_.out ?_
 refine pr_ (i:=12) (N:=some 31) #[T,T,T,T,T,T,T,T,T,T,T,T,T,F] rfl HT_.out ?_
 refine gG (i:=13) (N:=none) #[T,T,T,T,T,T,T,T,T,T,T,T,T,T] rfl rfl (qc HT_.out (by kernel_rfl)) (by decide) (fun K hK=>?_)
 refine fT (w1:=?_) (by rfl) rfl ?_ ?_
 rotate_left
 ·go_simp
  rfl
 refine hK.out _ _ ?_
 clear hK K
 refine fA (lc HT_.out (by kernel_rfl)) ?_
 try go_wp2
 go_ret
 exact⟨_,by first|rfl|(simp [dQ,dR] <;> rfl)|(simp only [←hji8,←hji11,←hji13];first|rfl|(simp [dQ,dR] <;> rfl))|(simp [*,dQ,dR] <;> rfl),by (repeat apply rX);exact HQ20.out,(zA_ HB GB14)⟩
def gY.f(k:Nat)(a0_0:Int)(l0_1:List (S68))(a0_2:Int):Option ((Int)×(List (S68))×(Int)):=((aG.f k a0_0 l0_1 a0_2).bind fun ⟨t1,t2,t3⟩=>((au.f k a0_0 l0_1 a0_2).bind fun t4=>(if t4=true then (some (t1,t2,0)) else (some (t1,t2,t3)))))
theorem gY.calls(k:Nat)(a0_0:Int)(A0_1:Option Addr)(c0_1:Nat)(l0_1:List (S68))(a0_2:Int)(r1:Int)(r2:List (S68))(r3:Int)(w:World)(hr0_1:Kd.C k68 w A0_1 l0_1.length l0_1)(hc0_1:l0_1.length≤c0_1)(h:gY.f k a0_0 l0_1 a0_2=some (r1,r2,r3)) :
  Calls Tryz.prog 35 #[.agg #[.int .i64 a0_0,.slice A0_1 l0_1.length c0_1,.int .i64 a0_2]] w fun e w'=>∃ v0_:Value,e=.returned (.agg #[.int .i64 r1,v0_,.int .i64 r3])∧Kd.V k68 68 w' w.heap.size (fun k_=>w.heap.size≤k_) v0_ r2∧Below w.heap.size w w':=by
 have HR0_1:=A_.mk hr0_1
 have HC0_1:=A_.mk hc0_1
 clear hr0_1 hc0_1
 have HB:=A_.mk (Below.refl w.heap.size w)
 unfold gY.f at h
 have H:=h
 clear h
 replace H:=oa_ H
 obtain⟨⟨t1,t2,t3⟩,A3,H⟩:=H
 try dsimp only at H
 replace H:=oa_ H
 obtain⟨t4,A6,H⟩:=H
 replace H:=A_.mk H
 have hu36:=Tryz.underlying36
 go_enter Tryz.func35,Tryz.ntmps35
 have HS:=A_.mk (Nat.le_refl w.heap.size)
 go_wp2_with (first|((with_reducible refine gd_ (N:=1) rfl ?_);refine by_ 1 (cs:=#[.int .i64 a0_0,.slice A0_1 l0_1.length c0_1,.int .i64 a0_2]) (t:=36) ?_;intro gb1_ hg w1_ hbox hb;replace HS:=aHg HS hg hbox;replace HB:=aHB HB hb;have BK1:=A_.mk hbox;clear hbox hb hg)|((with_reducible refine gd_ (N:=2) rfl ?_);refine by_ 2 (cs:=#[.int .i64 0,.slice none 0 0,.int .i64 0]) (t:=36) ?_;intro gb2_ hg w2_ hbox hb;replace HS:=aHg HS hg hbox;replace BK1:=aBb BK1 hb;replace HB:=aHB HB hb;have BK2:=A_.mk hbox;clear hbox hb hg;have Q1:=av BK1.out)|((with_reducible refine gc_ (f:=60) rfl ?_);refine gl_ (some 5) Tryz.func60 #[.agg #[.int .i64 a0_0,.slice A0_1 l0_1.length c0_1,.int .i64 a0_2]] ?_;(with_reducible refine (aG.calls k a0_0 _ _ l0_1 a0_2 t1 t2 t3 _ (cb_ HR0_1 HB) HC0_1.out A3.out).mono ?_);rintro e w3_ ⟨v1_,rfl,ho0_,hb⟩;refine⟨_,rfl,?_⟩;replace HS:=aHs HS hb.size;obtain⟨Ao3_1,co3_1,rfl,HO3_1⟩:=sSm ho0_ HB.out.size;revert BK1 HB BK2;refine aD hb ?_;intro BK1 HB BK2;clear hb ho0_ Q1)|((with_reducible refine gd_ (N:=3) rfl ?_);refine by_ 3 (cs:=#[.int .i64 0,.slice none 0 0,.int .i64 0]) (t:=36) ?_;intro gb4_ hg w4_ hbox hb;replace HS:=aHg HS hg hbox;revert HO3_1 BK1 HB BK2;refine aD hb ?_;intro HO3_1 BK1 HB BK2;have BK4:=A_.mk hbox;clear hbox hb hg;have Q4:=av BK4.out)|((with_reducible refine ae (t:=36) (p:=3) rfl ?_);obtain⟨qf0,qf1,qf2⟩:=eT BK4;refine so_ (w1:=(iN w4_ gb4_ (.int .i64 t1) (.slice Ao3_1 t2.length co3_1) (.int .i64 t3))) ?_;intro w5_ hw;clear qf0 qf1 qf2;obtain⟨hbx,hkp,hbb⟩:=iT hw BK4 HB (ho_ HS);clear hw;revert HO3_1 BK1 BK2;refine bC hkp HS ?_;intro HO3_1 BK1 BK2;replace BK4:=A_.mk hbx;replace HB:=A_.mk hbb;replace HS:=aHs HS hkp.1;clear hkp hbb hbx Q4;have Q1:=av BK1.out))
 refine(au.calls k a0_0 _ _ l0_1 a0_2 t4 _ (cb_ HR0_1 HB) HC0_1.out A6.out).mono ?_
 rintro e w6_ ⟨rfl,hb⟩
 revert HO3_1 BK2 BK4 HB HS
 refine aD hb ?_
 intro HO3_1 BK2 BK4 HB HS
 clear hb  Q1
 have Q2:=av BK2.out
 have Q4:=av BK4.out
 replace H:=H.out
 by_cases hc1_:t4=true
 case pos =>
  rw [if_pos hc1_] at H
  subst hc1_
  replace H:=jE H
  obtain⟨rfl,rfl,rfl⟩:=H
  go_wp2_with (first|((with_reducible refine ae (t:=3) (p:=8) rfl ?_);have qf0:=bf_ BK4.out 2;refine so_ (w1:=(w6_.setCell ⟨gb4_,2,none⟩ (.int .i64 0))) ?_;intro w7_ hw;clear qf0;obtain⟨hbx,hkp,hbb⟩:=nu hw BK4 HB (ho_ HS);clear hw;replace HO3_1:=aSk HO3_1 hkp HS;replace BK2:=aBk BK2 hkp HS;replace BK4:=A_.mk hbx;replace HB:=A_.mk hbb;replace HS:=aHs HS hkp.1;clear hkp hbb hbx Q2 Q4;have Q2:=av BK2.out;have Q4:=av BK4.out)|((with_reducible refine ae (t:=36) (p:=2) rfl ?_);obtain⟨qf0,qf1,qf2⟩:=eT BK2;refine so_ (w1:=(iN w7_ gb2_ (.int .i64 t1) (.slice Ao3_1 t2.length co3_1) (.int .i64 0))) ?_;intro w8_ hw;clear qf0 qf1 qf2;obtain⟨hbx,hkp,hbb⟩:=iT hw BK2 HB (ho_ HS);clear hw;replace HO3_1:=aSk HO3_1 hkp HS;replace BK2:=A_.mk hbx;replace HB:=A_.mk hbb;replace HS:=aHs HS hkp.1;clear hkp hbb hbx Q2 Q4))
  refine bodyPost_ret (results_cell_row rfl _ _ gb2_ 36 _ (0,0) _ rfl BK2.out Tryz.underlying36 rfl (by kernel_rfl)) rfl ?_
  exact⟨_,rfl,Kd.aW (Kd.S_V HO3_1.out) (hk_ HS),HB.out⟩
 rw [if_neg hc1_] at H
 replace hc1_:=eq_false_of_ne_true hc1_
 subst hc1_
 replace H:=jE H
 obtain⟨rfl,rfl,rfl⟩:=H
 go_wp2_with (first|((with_reducible refine ae (t:=36) (p:=2) rfl ?_);obtain⟨qf0,qf1,qf2⟩:=eT BK2;refine so_ (w1:=(iN w6_ gb2_ (.int .i64 t1) (.slice Ao3_1 t2.length co3_1) (.int .i64 t3))) ?_;intro w9_ hw;clear qf0 qf1 qf2;obtain⟨hbx,hkp,hbb⟩:=iT hw BK2 HB (ho_ HS);clear hw;replace HO3_1:=aSk HO3_1 hkp HS;replace BK2:=A_.mk hbx;replace HB:=A_.mk hbb;replace HS:=aHs HS hkp.1;clear hkp hbb hbx Q2 Q4))
 refine bodyPost_ret (results_cell_row rfl _ _ gb2_ 36 _ (0,0) _ rfl BK2.out Tryz.underlying36 rfl (by kernel_rfl)) rfl ?_
 exact⟨_,rfl,Kd.aW (Kd.S_V HO3_1.out) (hk_ HS),HB.out⟩
def cB.l0:Nat→Int→Int→Int→List (S68)→Int→Int→List (S68)→Int→Option (Int×(List (S68))×Int×Bool)
 | 0,_,_,_,_,_,_,_,_=>none
 | k+1,x1,x7,x253000,x253001,x253002,x260000,x260001,x260002=>if x7<(x253001.length:Int) then (if 0≤x7 then (if ((ay x253001 x7).f0)=x1 then (if 0≤(wrap64 (x7+1)) then (if (wrap64 (x7+1))≤(x260001.length:Int) then (some (x260000,(x260001.drop ((wrap64 (x7+1)):Int).toNat),mx 0 (wrap64 ((wrap64 (x253002-x7))-1)),true)) else (none)) else (none)) else (cB.l0 k x1 (wrap64 (x7+1)) x253000 x253001 x253002 x260000 x260001 x260002)) else (none)) else (some (x260000,x260001,x260002,false))
def cB.f(k:Nat)(a0_0:Int)(l0_1:List (S68))(a0_2:Int)(a1:Int):Option (Int×(List (S68))×Int×Bool):=(aG.f k a0_0 l0_1 a0_2).bind fun bt254=>((au.f k a0_0 l0_1 a0_2).bind fun t260=>(if t260=true then (cB.l0 k a1 0 a0_0 l0_1 a0_2 bt254.1 bt254.2.1 bt254.2.2) else (some (bt254.1,bt254.2.1,bt254.2.2,false))))
theorem cB.calls(k:Nat)(a0_0:Int)(A0_1:Option Addr)(c0_1:Nat)(l0_1:List (S68))(a0_2:Int)(a1:Int)(r1:Int)(r2:List (S68))(r3:Int)(r4:Bool)(w:World)(hr0_1:Kd.C k68 w A0_1 l0_1.length l0_1)(hc0_1:l0_1.length≤c0_1)(h:cB.f k a0_0 l0_1 a0_2 a1=some (r1,r2,r3,r4)) :
  Calls Tryz.prog 71 #[.agg #[.int .i64 a0_0,.slice A0_1 l0_1.length c0_1,.int .i64 a0_2],.int .i64 a1] w fun e w'=>∃ v1_:Value,e=.returned (.tuple #[.agg #[.int .i64 r1,v1_,.int .i64 r3],.bool r4])∧Kd.Q k68 68 w' w.heap.size (fun _=>True) v1_ r2∧Below w.heap.size w w':=by
 have hu36:=Tryz.underlying36
 have HR0_1:=A_.mk hr0_1
 have HC0_1:=A_.mk hc0_1
 clear hr0_1 hc0_1
 have HB:=A_.mk (Below.refl w.heap.size w)
 have H:((aG.f k a0_0 l0_1 a0_2).bind fun bt254=>((au.f k a0_0 l0_1 a0_2).bind fun t260=>(if t260=true then (cB.l0 k a1 0 a0_0 l0_1 a0_2 bt254.1 bt254.2.1 bt254.2.2) else (some (bt254.1,bt254.2.1,bt254.2.2,false)))))=some (r1,r2,r3,r4):=h
 clear h
 replace H:=ob_ H
 obtain⟨⟨t254,t255,t258⟩,A30,H⟩:=H
 replace H:((au.f k a0_0 l0_1 a0_2).bind fun t260=>(if t260=true then (cB.l0 k a1 0 a0_0 l0_1 a0_2 t254 t255 t258) else (some (t254,t255,t258,false))))=some (r1,r2,r3,r4):=H
 have A3:=A_.mk A30
 clear A30
 replace H:=oa_ H
 obtain⟨t260,A4,H⟩:=H
 by_cases c5:t260=true
 rotate_left
 ·replace c5:=Bool.eq_false_iff.mpr c5
  subst c5
  have H1:(some (t254,t255,t258,false))=some (r1,r2,r3,r4):=by rw [if_neg (show ¬ (false=true) by decide)] at H;exact H
  clear H
  have H:=H1
  clear H1
  replace H:=mo H
  obtain⟨rfl,rfl,rfl,rfl⟩:=H
  go_enter Tryz.func71,Tryz.ntmps71
  go_wp2_with (first|((with_reducible refine gd_ (N:=2) rfl ?_);refine by_ 2 (cs:=#[.int .i64 a0_0,.slice A0_1 l0_1.length c0_1,.int .i64 a0_2]) (t:=36) ?_;intro gb252 hg w43 hbox hb;have n0_:=A_.mk (bt_ (beY HB.out) hb);have n1_:=A_.mk (hbox);have n2_:=A_.mk ((by rw [hg];exact(bz_ (beY HB.out)):w.heap.size≤gb252));have n3_:=A_.mk ((by rw [hg];exact(bz_ (beY HB.out)):w.heap.size≤gb252));clear HB;have HB:=n0_;have BK252:=n1_;have GW252:=n2_;have GE252:=n3_;clear n0_ n1_ n2_ n3_ hb hbox hg)|((with_reducible refine gd_ (N:=4) rfl ?_);refine by_ 4 (cs:=#[.int .i64 0,.slice none 0 0,.int .i64 0]) (t:=36) ?_;intro gb253 hg w44 hbox hb;have n0_:=A_.mk (bb_ (bY BK252.out) hb);have n1_:=A_.mk (bt_ ((zA_ HB GE252)) hb);have n2_:=A_.mk (hbox);have n3_:=A_.mk ((by rw [hg];exact(bz_ ((zA_ HB GE252))):w.heap.size≤gb253));have n4_:=A_.mk ((by rw [hg];exact(bz_ ((zA_ HB GE252))):w.heap.size≤gb253));have n5_:=A_.mk ((by rw [hg];exact Nat.ne_of_lt (aI (bY BK252.out)):gb252≠gb253));have n6_:=A_.mk ((by rw [hg];exact Nat.ne_of_gt (aI (bY BK252.out)):gb253≠gb252));clear BK252 HB;have BK252:=n0_;have HB:=n1_;have BK253:=n2_;have GW253:=n3_;have GE253:=n4_;have NB252_253:=n5_;have NB253_252:=n6_;clear n0_ n1_ n2_ n3_ n4_ n5_ n6_ hb hbox hg;have hnb45:=NB252_253.out;have hnc45:=NB253_252.out;obtain⟨hcz46_0,hcz46_1,hcz46_2⟩:=lv BK252;obtain⟨hfz46_0,hfz46_1,hfz46_2⟩:=eT BK252)|((with_reducible refine gc_ (f:=60) rfl ?_);refine gl_ (some 9) Tryz.func60 #[.agg #[.int .i64 a0_0,.slice A0_1 l0_1.length c0_1,.int .i64 a0_2]] ?_;(with_reducible refine (aG.calls k a0_0 _ _ l0_1 a0_2 t254 t255 t258 _ ?side1 ?side2 A3.out).mono ?_);(case side1=>exact cY ((cb_ HR0_1 HB)));(case side2=>exact HC0_1.out);rintro e w47 ⟨v256,rfl,ho0,hb⟩;refine⟨_,rfl,?_⟩;have n0_:=A_.mk (Kd.j5 ho0 (bz_ ((zB_ HB GE252 GE253))));have n1_:=A_.mk (bb_ (bY BK252.out) hb);have n2_:=A_.mk (bb_ (bY BK253.out) hb);have n3_:=A_.mk (bt_ ((zB_ HB GE252 GE253)) hb);clear BK252 BK253 HB;have HO257:=n0_;have BK252:=n1_;have BK253:=n2_;have HB:=n3_;clear n0_ n1_ n2_ n3_;(try clear hb);(try clear hb2);(try clear hk);(try clear hi);(try clear ho0))|((with_reducible refine gd_ (N:=6) rfl ?_);refine by_ 6 (cs:=#[.int .i64 0,.slice none 0 0,.int .i64 0]) (t:=36) ?_;intro gb259 hg w48 hbox hb;have n0_:=A_.mk (Kd.iY (by (with_reducible repeat (first|apply Kd.dI|apply Kd.dH|apply Kd.d_));exact HO257.out) hb);have n1_:=A_.mk (bb_ (bY BK252.out) hb);have n2_:=A_.mk (bb_ (bY BK253.out) hb);have n3_:=A_.mk (bt_ ((zB_ HB GE252 GE253)) hb);have n4_:=A_.mk (hbox);have n5_:=A_.mk ((by rw [hg];exact(bz_ ((zB_ HB GE252 GE253))):w.heap.size≤gb259));have n6_:=A_.mk ((by rw [hg];exact(bz_ ((zB_ HB GE252 GE253))):w.heap.size≤gb259));have n7_:=A_.mk ((by rw [hg];exact Nat.ne_of_lt (aI (bY BK252.out)):gb252≠gb259));have n8_:=A_.mk ((by rw [hg];exact Nat.ne_of_gt (aI (bY BK252.out)):gb259≠gb252));have n9_:=A_.mk ((by rw [hg];exact Nat.ne_of_lt (aI (bY BK253.out)):gb253≠gb259));have n10_:=A_.mk ((by rw [hg];exact Nat.ne_of_gt (aI (bY BK253.out)):gb259≠gb253));clear HO257 BK252 BK253 HB;have HO257:=n0_;have BK252:=n1_;have BK253:=n2_;have HB:=n3_;have BK259:=n4_;have GW259:=n5_;have GE259:=n6_;have NB252_259:=n7_;have NB259_252:=n8_;have NB253_259:=n9_;have NB259_253:=n10_;clear n0_ n1_ n2_ n3_ n4_ n5_ n6_ n7_ n8_ n9_ n10_ hb hbox hg;have hnb49:=NB259_252.out;have hnc49:=NB252_259.out;have hnb50:=NB259_253.out;have hnc50:=NB253_259.out;obtain⟨hcz51_0,hcz51_1,hcz51_2⟩:=lv BK259;obtain⟨hfz51_0,hfz51_1,hfz51_2⟩:=eT BK259;obtain⟨Ao52,co52,eo52⟩:=Kd.dx HO257.out;subst eo52;obtain⟨hcz53_0,hcz53_1,hcz53_2⟩:=lv BK252;obtain⟨hfz53_0,hfz53_1,hfz53_2⟩:=eT BK252)|((with_reducible refine gc_ (f:=62) rfl ?_);refine gl_ (some 11) Tryz.func62 #[.agg #[.int .i64 a0_0,.slice A0_1 l0_1.length c0_1,.int .i64 a0_2]] ?_;(with_reducible refine (au.calls k a0_0 _ _ l0_1 a0_2 false _ ?side1 ?side2 A4.out).mono ?_);(case side1=>exact Kd.cu HR0_1.out ((zC_ HB GE252 GE253 GE259)));(case side2=>exact HC0_1.out);rintro e w54 ⟨rfl,hb⟩;refine⟨_,rfl,?_⟩;have n0_:=A_.mk (Kd.iY (by (with_reducible repeat (first|apply Kd.dI|apply Kd.dH|apply Kd.d_));exact(Kd.dw (Kd.iU (p:=⟨gb259,2,none⟩) (Kd.iU (p:=⟨gb259,1,none⟩) (Kd.iU (p:=⟨gb259,0,none⟩) (Kd.jC HO257.out BK259.out (by decide)) (fun _ hk=>hk.2) (.int .i64 t254)) (fun _ hk=>hk.2) (.slice Ao52 t255.length co52)) (fun _ hk=>hk.2) (.int .i64 t258)) (fun _ h_=>h_.1))) hb);have n1_:=A_.mk (bb_ (g:=gb252) (o:=.cells #[.int .i64 a0_0,.slice A0_1 l0_1.length c0_1,.int .i64 a0_2] 36 (0,0)) (by (repeat apply bX);refine bA ?_ NB252_259.out _;(repeat apply bX);refine bA ?_ NB252_259.out _;(repeat apply bX);refine bA ?_ NB252_259.out _;(repeat apply bX);exact BK252.out) hb);have n2_:=A_.mk (bb_ (g:=gb253) (o:=.cells #[.int .i64 0,.slice none 0 0,.int .i64 0] 36 (0,0)) (by (repeat apply bX);refine bA ?_ NB253_259.out _;(repeat apply bX);refine bA ?_ NB253_259.out _;(repeat apply bX);refine bA ?_ NB253_259.out _;(repeat apply bX);exact BK253.out) hb);have n3_:=A_.mk (bb_ (g:=gb259) (o:=.cells #[.int .i64 t254,.slice Ao52 t255.length co52,.int .i64 t258] 36 (0,0)) (by (repeat apply bX);refine bp_ (cs:=#[.int .i64 t254,.slice Ao52 t255.length co52,.int .i64 0]) ?_ 2 _ rfl;(repeat apply bX);refine bp_ (cs:=#[.int .i64 t254,.slice none 0 0,.int .i64 0]) ?_ 1 _ rfl;(repeat apply bX);refine bp_ (cs:=#[.int .i64 0,.slice none 0 0,.int .i64 0]) ?_ 0 _ rfl;(repeat apply bX);exact BK259.out) hb);have n4_:=A_.mk (bt_ ((zC_ HB GE252 GE253 GE259)) hb);clear HO257 BK252 BK253 BK259 HB;have HO257:=n0_;have BK252:=n1_;have BK253:=n2_;have BK259:=n3_;have HB:=n4_;clear n0_ n1_ n2_ n3_ n4_;(try clear hb);(try clear hb2);(try clear hk);(try clear hi);obtain⟨hcz55_0,hcz55_1,hcz55_2⟩:=lv BK259;obtain⟨hfz55_0,hfz55_1,hfz55_2⟩:=eT BK259;obtain⟨hcz56_0,hcz56_1,hcz56_2⟩:=lv BK253;obtain⟨hfz56_0,hfz56_1,hfz56_2⟩:=eT BK253))
  refine bodyPost_ret (aM rfl _ _ gb253 36 #[.int .i64 t254,.slice Ao52 t255.length co52,.int .i64 t258] (0,0) _ rfl (by (repeat apply bX);refine bp_ (cs:=#[.int .i64 t254,.slice Ao52 t255.length co52,.int .i64 0]) ?_ 2 _ rfl;(repeat apply bX);refine bp_ (cs:=#[.int .i64 t254,.slice none 0 0,.int .i64 0]) ?_ 1 _ rfl;(repeat apply bX);refine bp_ (cs:=#[.int .i64 0,.slice none 0 0,.int .i64 0]) ?_ 0 _ rfl;(repeat apply bX);exact BK253.out) Tryz.underlying36 rfl (by kernel_rfl)) rfl ?_
  exact⟨_,re_,Kd.mr ((Kd.S_R (by (with_reducible repeat (first|apply Kd.dI|apply Kd.dH|apply Kd.d_));exact Kd.dw (Kd.iU (p:=⟨gb253,2,none⟩) (Kd.iU (p:=⟨gb253,1,none⟩) (Kd.iU (p:=⟨gb253,0,none⟩) (Kd.jC HO257.out BK253.out (by decide)) (fun _ hk=>hk.2) (.int .i64 t254)) (fun _ hk=>hk.2) (.slice Ao52 t255.length co52)) (fun _ hk=>hk.2) (.int .i64 t258)) (fun _ hk=>trivial)))),(zC_ HB GE252 GE253 GE259)⟩
 subst c5
 have H1:(cB.l0 k a1 0 a0_0 l0_1 a0_2 t254 t255 t258)=some (r1,r2,r3,r4):=by rw [if_pos rfl] at H;exact H
 clear H
 have H:=H1
 clear H1
 have H':=A_.mk H
 clear H
 go_enter Tryz.func71,Tryz.ntmps71
 go_wp2_with (first|((with_reducible refine gd_ (N:=2) rfl ?_);refine by_ 2 (cs:=#[.int .i64 a0_0,.slice A0_1 l0_1.length c0_1,.int .i64 a0_2]) (t:=36) ?_;intro gb252 hg w6 hbox hb;have n0_:=A_.mk (bt_ (beY HB.out) hb);have n1_:=A_.mk (hbox);have n2_:=A_.mk ((by rw [hg];exact(bz_ (beY HB.out)):w.heap.size≤gb252));have n3_:=A_.mk ((by rw [hg];exact(bz_ (beY HB.out)):w.heap.size≤gb252));clear HB;have HB:=n0_;have BK252:=n1_;have GW252:=n2_;have GE252:=n3_;clear n0_ n1_ n2_ n3_ hb hbox hg)|((with_reducible refine gd_ (N:=4) rfl ?_);refine by_ 4 (cs:=#[.int .i64 0,.slice none 0 0,.int .i64 0]) (t:=36) ?_;intro gb253 hg w7 hbox hb;have n0_:=A_.mk (bb_ (bY BK252.out) hb);have n1_:=A_.mk (bt_ ((zA_ HB GE252)) hb);have n2_:=A_.mk (hbox);have n3_:=A_.mk ((by rw [hg];exact(bz_ ((zA_ HB GE252))):w.heap.size≤gb253));have n4_:=A_.mk ((by rw [hg];exact(bz_ ((zA_ HB GE252))):w.heap.size≤gb253));have n5_:=A_.mk ((by rw [hg];exact Nat.ne_of_lt (aI (bY BK252.out)):gb252≠gb253));have n6_:=A_.mk ((by rw [hg];exact Nat.ne_of_gt (aI (bY BK252.out)):gb253≠gb252));clear BK252 HB;have BK252:=n0_;have HB:=n1_;have BK253:=n2_;have GW253:=n3_;have GE253:=n4_;have NB252_253:=n5_;have NB253_252:=n6_;clear n0_ n1_ n2_ n3_ n4_ n5_ n6_ hb hbox hg;have hnb8:=NB252_253.out;have hnc8:=NB253_252.out;obtain⟨hcz9_0,hcz9_1,hcz9_2⟩:=lv BK252;obtain⟨hfz9_0,hfz9_1,hfz9_2⟩:=eT BK252)|((with_reducible refine gc_ (f:=60) rfl ?_);refine gl_ (some 9) Tryz.func60 #[.agg #[.int .i64 a0_0,.slice A0_1 l0_1.length c0_1,.int .i64 a0_2]] ?_;(with_reducible refine (aG.calls k a0_0 _ _ l0_1 a0_2 t254 t255 t258 _ ?side1 ?side2 A3.out).mono ?_);(case side1=>exact cY ((cb_ HR0_1 HB)));(case side2=>exact HC0_1.out);rintro e w10 ⟨v256,rfl,ho0,hb⟩;refine⟨_,rfl,?_⟩;have n0_:=A_.mk (Kd.j5 ho0 (bz_ ((zB_ HB GE252 GE253))));have n1_:=A_.mk (bb_ (bY BK252.out) hb);have n2_:=A_.mk (bb_ (bY BK253.out) hb);have n3_:=A_.mk (bt_ ((zB_ HB GE252 GE253)) hb);clear BK252 BK253 HB;have HO257:=n0_;have BK252:=n1_;have BK253:=n2_;have HB:=n3_;clear n0_ n1_ n2_ n3_;(try clear hb);(try clear hb2);(try clear hk);(try clear hi);(try clear ho0))|((with_reducible refine gd_ (N:=6) rfl ?_);refine by_ 6 (cs:=#[.int .i64 0,.slice none 0 0,.int .i64 0]) (t:=36) ?_;intro gb259 hg w11 hbox hb;have n0_:=A_.mk (Kd.iY (by (with_reducible repeat (first|apply Kd.dI|apply Kd.dH|apply Kd.d_));exact HO257.out) hb);have n1_:=A_.mk (bb_ (bY BK252.out) hb);have n2_:=A_.mk (bb_ (bY BK253.out) hb);have n3_:=A_.mk (bt_ ((zB_ HB GE252 GE253)) hb);have n4_:=A_.mk (hbox);have n5_:=A_.mk ((by rw [hg];exact(bz_ ((zB_ HB GE252 GE253))):w.heap.size≤gb259));have n6_:=A_.mk ((by rw [hg];exact(bz_ ((zB_ HB GE252 GE253))):w.heap.size≤gb259));have n7_:=A_.mk ((by rw [hg];exact Nat.ne_of_lt (aI (bY BK252.out)):gb252≠gb259));have n8_:=A_.mk ((by rw [hg];exact Nat.ne_of_gt (aI (bY BK252.out)):gb259≠gb252));have n9_:=A_.mk ((by rw [hg];exact Nat.ne_of_lt (aI (bY BK253.out)):gb253≠gb259));have n10_:=A_.mk ((by rw [hg];exact Nat.ne_of_gt (aI (bY BK253.out)):gb259≠gb253));clear HO257 BK252 BK253 HB;have HO257:=n0_;have BK252:=n1_;have BK253:=n2_;have HB:=n3_;have BK259:=n4_;have GW259:=n5_;have GE259:=n6_;have NB252_259:=n7_;have NB259_252:=n8_;have NB253_259:=n9_;have NB259_253:=n10_;clear n0_ n1_ n2_ n3_ n4_ n5_ n6_ n7_ n8_ n9_ n10_ hb hbox hg;have hnb12:=NB259_252.out;have hnc12:=NB252_259.out;have hnb13:=NB259_253.out;have hnc13:=NB253_259.out;obtain⟨hcz14_0,hcz14_1,hcz14_2⟩:=lv BK259;obtain⟨hfz14_0,hfz14_1,hfz14_2⟩:=eT BK259;obtain⟨Ao15,co15,eo15⟩:=Kd.dx HO257.out;subst eo15;obtain⟨hcz16_0,hcz16_1,hcz16_2⟩:=lv BK252;obtain⟨hfz16_0,hfz16_1,hfz16_2⟩:=eT BK252)|((with_reducible refine gc_ (f:=62) rfl ?_);refine gl_ (some 11) Tryz.func62 #[.agg #[.int .i64 a0_0,.slice A0_1 l0_1.length c0_1,.int .i64 a0_2]] ?_;(with_reducible refine (au.calls k a0_0 _ _ l0_1 a0_2 true _ ?side1 ?side2 A4.out).mono ?_);(case side1=>exact Kd.cu HR0_1.out ((zC_ HB GE252 GE253 GE259)));(case side2=>exact HC0_1.out);rintro e w17 ⟨rfl,hb⟩;refine⟨_,rfl,?_⟩;have n0_:=A_.mk (Kd.iY (by (with_reducible repeat (first|apply Kd.dI|apply Kd.dH|apply Kd.d_));exact(Kd.dw (Kd.iU (p:=⟨gb259,2,none⟩) (Kd.iU (p:=⟨gb259,1,none⟩) (Kd.iU (p:=⟨gb259,0,none⟩) (Kd.jC HO257.out BK259.out (by decide)) (fun _ hk=>hk.2) (.int .i64 t254)) (fun _ hk=>hk.2) (.slice Ao15 t255.length co15)) (fun _ hk=>hk.2) (.int .i64 t258)) (fun _ h_=>h_.1))) hb);have n1_:=A_.mk (bb_ (g:=gb252) (o:=.cells #[.int .i64 a0_0,.slice A0_1 l0_1.length c0_1,.int .i64 a0_2] 36 (0,0)) (by (repeat apply bX);refine bA ?_ NB252_259.out _;(repeat apply bX);refine bA ?_ NB252_259.out _;(repeat apply bX);refine bA ?_ NB252_259.out _;(repeat apply bX);exact BK252.out) hb);have n2_:=A_.mk (bb_ (g:=gb253) (o:=.cells #[.int .i64 0,.slice none 0 0,.int .i64 0] 36 (0,0)) (by (repeat apply bX);refine bA ?_ NB253_259.out _;(repeat apply bX);refine bA ?_ NB253_259.out _;(repeat apply bX);refine bA ?_ NB253_259.out _;(repeat apply bX);exact BK253.out) hb);have n3_:=A_.mk (bb_ (g:=gb259) (o:=.cells #[.int .i64 t254,.slice Ao15 t255.length co15,.int .i64 t258] 36 (0,0)) (by (repeat apply bX);refine bp_ (cs:=#[.int .i64 t254,.slice Ao15 t255.length co15,.int .i64 0]) ?_ 2 _ rfl;(repeat apply bX);refine bp_ (cs:=#[.int .i64 t254,.slice none 0 0,.int .i64 0]) ?_ 1 _ rfl;(repeat apply bX);refine bp_ (cs:=#[.int .i64 0,.slice none 0 0,.int .i64 0]) ?_ 0 _ rfl;(repeat apply bX);exact BK259.out) hb);have n4_:=A_.mk (bt_ ((zC_ HB GE252 GE253 GE259)) hb);clear HO257 BK252 BK253 BK259 HB;have HO257:=n0_;have BK252:=n1_;have BK253:=n2_;have BK259:=n3_;have HB:=n4_;clear n0_ n1_ n2_ n3_ n4_;(try clear hb);(try clear hb2);(try clear hk);(try clear hi)))
 go_loopg [7] k (fun kq v7 w'=>∃ (x7_1:Int) (x254000_1:Int) (x254002_1:Int) (x260001_1:List (S68)) (x260002_1:Int) (u260001:Value),v7=.int .i64 x7_1∧A_ (cB.l0 kq a1 x7_1 a0_0 l0_1 a0_2 t254 x260001_1 x260002_1=some (r1,r2,r3,r4))∧A_ (kq≤k)∧A_ (Kd.Q k68 68 w' w.heap.size (fun _=>True) u260001 x260001_1)∧A_ (w'.heap[gb252]?=some (.cells #[.int .i64 a0_0,(.slice A0_1 l0_1.length c0_1),.int .i64 a0_2] 36 (0,0)))∧A_ (w'.heap[gb253]?=some (.cells #[.int .i64 x254000_1,(.slice none 0 0),.int .i64 x254002_1] 36 (0,0)))∧A_ (w'.heap[gb259]?=some (.cells #[.int .i64 t254,u260001,.int .i64 x260002_1] 36 (0,0)))∧A_ (Below w.heap.size w w'))
 case atStart=>exact ⟨(0),(0),(0),(t255),(t258),(.slice Ao15 t255.length co15),rs_,H',⟨Nat.le_refl _⟩,⟨Kd.mr ((Kd.S_R (by (with_reducible repeat (first|apply Kd.dI|apply Kd.dH|apply Kd.d_));exact HO257.out)))⟩,⟨by (repeat apply bX);exact BK252.out⟩,⟨by (repeat apply bX);exact BK253.out⟩,⟨by (repeat apply bX);exact BK259.out⟩,⟨(zC_ HB GE252 GE253 GE259)⟩⟩
 case round =>
  clear H'
  obtain⟨x7_1,x254000_1,x254002_1,x260001_1,x260002_1,u260001,rfl,HA,HK1,HO_260001,BK252,BK253,BK259,HB⟩:=hrel
  cases gk with
  | zero=>exact absurd HA.out (by simp [cB.l0])
  | succ k1 =>
   have H:=HA.out
   clear HA
   simp only [cB.l0] at H
   by_cases c18:x7_1<(l0_1.length:Int)
   rotate_left
   ·rw [if_neg c18] at H
    have c18b0:=decide_eq_false c18
    clear c18
    replace H:=mo H
    obtain⟨rfl,rfl,rfl,rfl⟩:=H
    have hnb36:=NB252_253.out
    have hnc36:=NB253_252.out
    have hnb37:=NB252_259.out
    have hnc37:=NB259_252.out
    obtain⟨hcz38_0,hcz38_1,hcz38_2,hfz38_0,hfz38_1,hfz38_2⟩:=b3 BK252.out
    have hnb39:=NB259_253.out
    have hnc39:=NB253_259.out
    obtain⟨hcz40_0,hcz40_1,hcz40_2,hfz40_0,hfz40_1,hfz40_2⟩:=b3 BK259.out
    obtain⟨hcz41_0,hcz41_1,hcz41_2,hfz41_0,hfz41_1,hfz41_2⟩:=b3 BK253.out
    obtain⟨Ao42,co42,eo42,_⟩:=Kd.nM HO_260001.out
    subst eo42
    go_wp2
    refine bodyPost_ret (aM rfl _ _ gb253 36 #[.int .i64 t254,.slice Ao42 x260001_1.length co42,.int .i64 x260002_1] (0,0) _ rfl (by (repeat apply bX);refine bp_ (cs:=#[.int .i64 t254,.slice Ao42 x260001_1.length co42,.int .i64 x254002_1]) ?_ 2 _ rfl;(repeat apply bX);refine bp_ (cs:=#[.int .i64 t254,.slice none 0 0,.int .i64 x254002_1]) ?_ 1 _ rfl;(repeat apply bX);refine bp_ (cs:=#[.int .i64 x254000_1,.slice none 0 0,.int .i64 x254002_1]) ?_ 0 _ rfl;(repeat apply bX);exact BK253.out) Tryz.underlying36 rfl (by kernel_rfl)) rfl ?_
    exact⟨_,re_,by (with_reducible repeat (first|apply Kd.lN|apply Kd.lU|apply Kd.nz));exact Kd.kQ (Kd.lu (p:=⟨gb253,2,none⟩) (Kd.lu (p:=⟨gb253,1,none⟩) (Kd.lu (p:=⟨gb253,0,none⟩) (Kd.jb HO_260001.out BK253.out (by decide)) (fun _ hk=>hk.2) (.int .i64 t254)) (fun _ hk=>hk.2) (.slice Ao42 x260001_1.length co42)) (fun _ hk=>hk.2) (.int .i64 x260002_1)) (fun _ hk=>trivial),(zC_ HB GE252 GE253 GE259)⟩
   rw [if_pos c18] at H
   have c18b0:=decide_eq_true c18
   clear c18
   by_cases c19:0≤x7_1
   rotate_left
   ·rw [if_neg c19] at H
    exact absurd H (by simp)
   rw [if_pos c19] at H
   have c19b0:=decide_eq_true c19
   clear c19
   by_cases c20:((ay l0_1 x7_1).f0)=a1
   rotate_left
   ·rw [if_neg c20] at H
    have c20b0:=beq_eq_false_iff_ne.mpr c20
    have c20b1:=bne_iff_ne.mpr c20
    have H':=A_.mk H
    clear H
    have hnb33:=NB252_253.out
    have hnc33:=NB253_252.out
    have hnb34:=NB252_259.out
    have hnc34:=NB259_252.out
    obtain⟨hcz35_0,hcz35_1,hcz35_2,hfz35_0,hfz35_1,hfz35_2⟩:=b3 BK252.out
    have p261:0≤(x7_1:Int):=od_
    have q261:x7_1<(l0_1.length:Int):=od_
    obtain⟨ad261,A261_1,c261_1,e261,hx261_0,hx261_1,hl261_1,hi261_1⟩:=iq HR0_1.out x7_1 p261 q261
    cases e261
    replace hx261_0:=(HB.out.cell (wl_ w _ hx261_0)).trans hx261_0
    replace hx261_1:=(HB.out.cell (wl_ w _ hx261_1)).trans hx261_1
    have HR261_1:=A_.mk hi261_1
    have HC261_1:=A_.mk hl261_1
    clear hi261_1 hl261_1
    replace p261:=eq_true p261
    replace q261:=eq_true q261
    go_wp2
    go_roundg k1
    case measure=>have:=HK1.out;omega
    case rel=>exact ⟨(wrap64 (x7_1+1)),(x254000_1),(x254002_1),(x260001_1),(x260002_1),(u260001),rs_,H',⟨by have:=HK1.out;omega⟩,⟨by (with_reducible repeat (first|apply Kd.lN|apply Kd.lU|apply Kd.nz));exact HO_260001.out⟩,⟨by (repeat apply bX);exact BK252.out⟩,⟨by (repeat apply bX);exact BK253.out⟩,⟨by (repeat apply bX);exact BK259.out⟩,⟨(zC_ HB GE252 GE253 GE259)⟩⟩
   rw [if_pos c20] at H
   have c20b0:=beq_iff_eq.mpr c20
   have c20b1:=bne_eq_false_iff_eq.mpr c20
   clear c20
   obtain⟨ji21,hji21⟩:∃ j_:Int,(wrap64 (x7_1+1))=j_:=⟨_,rfl⟩
   replace H:(if 0≤(ji21) then (if (ji21)≤(x260001_1.length:Int) then (some (t254,(x260001_1.drop ((ji21):Int).toNat),mx 0 (wrap64 ((wrap64 (a0_2-x7_1))-1)),true)) else (none)) else (none))=some (r1,r2,r3,r4):=by first|(rw [hji21] at H;exact H)|(simp only [hji21] at H ⊢;exact H)
   have hji21w:(IntKind.i64.wrap (x7_1+1))=ji21:=(jg _).trans hji21
   by_cases c22:0≤(ji21)
   rotate_left
   ·rw [if_neg c22] at H
    exact absurd H (by simp)
   rw [if_pos c22] at H
   have c22b0:=eq_true c22
   have c22b1:=decide_eq_true c22
   clear c22
   by_cases c23:(ji21)≤(x260001_1.length:Int)
   rotate_left
   ·rw [if_neg c23] at H
    exact absurd H (by simp)
   rw [if_pos c23] at H
   have c23b0:=eq_true c23
   have c23b1:=decide_eq_true c23
   clear c23
   obtain⟨y262,hy262⟩:∃ y_:List (S68),y_=(x260001_1.drop ((ji21):Int).toNat):=⟨_,rfl⟩
   replace H:(some (t254,y262,mx 0 (wrap64 ((wrap64 (a0_2-x7_1))-1)),true))=some (r1,r2,r3,r4):=by first|(rw [hy262];with_reducible exact H)|(have H2_:=(Option.bind_some _ _).symm.trans H;rw [hy262];with_reducible exact H2_)|(have H2_:=(Option.bind_some _ _).symm.trans H;with_reducible exact H2_)|with_reducible exact H|(rw [hy262];exact H)|exact H
   have Ny262:=A_.mk hy262
   clear hy262
   obtain⟨ji24,hji24⟩:∃ j_:Int,(mx 0 (wrap64 ((wrap64 (a0_2-x7_1))-1)))=j_:=⟨_,rfl⟩
   replace H:(some (t254,y262,ji24,true))=some (r1,r2,r3,r4):=by first|(rw [hji24] at H;exact H)|(simp only [hji24] at H ⊢;exact H)
   have hji24_:(if 0<(wrap64 ((wrap64 (a0_2-x7_1))-1)) then (wrap64 ((wrap64 (a0_2-x7_1))-1)) else 0)=ji24:=hji24
   replace H:=mo H
   obtain⟨rfl,rfl,rfl,rfl⟩:=H
   have hnb25:=NB252_253.out
   have hnc25:=NB253_252.out
   have hnb26:=NB252_259.out
   have hnc26:=NB259_252.out
   obtain⟨hcz27_0,hcz27_1,hcz27_2,hfz27_0,hfz27_1,hfz27_2⟩:=b3 BK252.out
   have p261:0≤(x7_1:Int):=od_
   have q261:x7_1<(l0_1.length:Int):=od_
   obtain⟨ad261,A261_1,c261_1,e261,hx261_0,hx261_1,hl261_1,hi261_1⟩:=iq HR0_1.out x7_1 p261 q261
   cases e261
   replace hx261_0:=(HB.out.cell (wl_ w _ hx261_0)).trans hx261_0
   replace hx261_1:=(HB.out.cell (wl_ w _ hx261_1)).trans hx261_1
   have HR261_1:=A_.mk hi261_1
   have HC261_1:=A_.mk hl261_1
   clear hi261_1 hl261_1
   replace p261:=eq_true p261
   replace q261:=eq_true q261
   have hnb28:=NB259_253.out
   have hnc28:=NB253_259.out
   obtain⟨hcz29_0,hcz29_1,hcz29_2,hfz29_0,hfz29_1,hfz29_2⟩:=b3 BK259.out
   obtain⟨Ao30,co30,eo30,_⟩:=Kd.nM HO_260001.out
   subst eo30
   have q31:((ji21):Int)≤((x260001_1.length:Int):Int):=od_
   obtain⟨i031,hi031,_,hsz31,_⟩:=info_parts info68
   have hcut31:=qH (P:=Tryz.prog) 34 68 .i64 Tryz.underlying34 hi031 2 hsz31 Ao30 x260001_1.length co30 (ji21) (od_) q31
   have hr31:=Kd.vE (k:=((ji21):Int).toNat) HO_260001.out (by omega)
   obtain⟨A31,hA31⟩:∃ A1,A1=(if co30=((ji21):Int).toNat then Ao30 else (Ao30:Option Addr).map (·.add (((ji21):Int).toNat*2))):=⟨_,rfl⟩
   obtain⟨c31,hc31⟩:∃ c1,c1=co30-((ji21):Int).toNat:=⟨_,rfl⟩
   have hy31:y262.length=x260001_1.length-((ji21):Int).toNat:=(by rw [Ny262.out,List.length_drop])
   rw [←Ny262.out] at hr31
   rw [←hy31,←hA31,←hc31] at hcut31
   replace hr31:Kd.Q k68 68 wr w.heap.size (fun _=>True) (.slice A31 y262.length c31) y262:=(by rw [hA31,hc31,hy31];exact hr31)
   have HE31:A_ ((Value.slice A31 y262.length c31).ownBlock=(.slice Ao30 x260001_1.length co30:Value).ownBlock):=⟨by rw [hA31];split <;> (cases (Ao30:Option Addr) <;> first|rfl|exact congrArg some (add_block _ _))⟩
   clear hy31 hi031 hsz31 HO_260001 hA31 hc31
   have HO264:=A_.mk hr31
   clear hr31
   replace q31:=eq_true q31
   obtain⟨hcz32_0,hcz32_1,hcz32_2,hfz32_0,hfz32_1,hfz32_2⟩:=b3 BK253.out
   go_wp2
   refine bodyPost_ret (aM rfl _ _ gb253 36 #[.int .i64 t254,.slice A31 y262.length c31,.int .i64 ji24] (0,0) _ rfl (by (repeat apply bX);refine bp_ (cs:=#[.int .i64 t254,.slice A31 y262.length c31,.int .i64 x254002_1]) ?_ 2 _ rfl;(repeat apply bX);refine bp_ (cs:=#[.int .i64 t254,.slice none 0 0,.int .i64 x254002_1]) ?_ 1 _ rfl;(repeat apply bX);refine bp_ (cs:=#[.int .i64 x254000_1,.slice none 0 0,.int .i64 x254002_1]) ?_ 0 _ rfl;(repeat apply bX);refine bA ?_ NB253_259.out _;(repeat apply bX);refine bA ?_ NB253_259.out _;(repeat apply bX);exact BK253.out) Tryz.underlying36 rfl (by kernel_rfl)) rfl ?_
   exact⟨_,by first|rfl|(simp [dQ,dR] <;> rfl)|(simp only [←hji21,←hji24];first|rfl|(simp [dQ,dR] <;> rfl))|(simp [*,dQ,dR] <;> rfl),by (with_reducible repeat (first|apply Kd.lN|apply Kd.lU|apply Kd.nz));exact Kd.kQ (Kd.lu (p:=⟨gb253,2,none⟩) (Kd.lu (p:=⟨gb253,1,none⟩) (Kd.lu (p:=⟨gb253,0,none⟩) (Kd.lu (p:=⟨gb259,2,none⟩) (Kd.lu (p:=⟨gb259,1,none⟩) (Kd.jb (Kd.jb HO264.out BK259.out (by decide)) BK253.out (by decide)) (fun _ hk=>hk.1.2) (.slice A31 y262.length c31)) (fun _ hk=>hk.1.2) (.int .i64 ji24)) (fun _ hk=>hk.2) (.int .i64 t254)) (fun _ hk=>hk.2) (.slice A31 y262.length c31)) (fun _ hk=>hk.2) (.int .i64 ji24)) (fun _ hk=>trivial),(zC_ HB GE252 GE253 GE259)⟩
def gF.f(k:Nat)(a0_0:Int)(l0_1:List (S68))(a0_2:Int)(a0_3:Int)(l0_4:List (List Int))(l0_5:List (List Int))(l0_6:List Int):Option ((Int)×(List (S68))×(Int)×(Int)×(List (List Int))×(List (List Int))×(List Int)):=(if 0≤(0:Int) then (if (0:Int)<(l0_6.length:Int) then (if 0≤(0:Int) then (if (0:Int)<(l0_6.length:Int) then ((cB.f k a0_0 l0_1 a0_2 (Int.tmod (rd l0_6 (0:Int)) 100)).bind fun ⟨t2,t3,t4,t5⟩=>(if 100≤(rd l0_6 (0:Int)) then ((gY.f k t2 t3 t4).bind fun ⟨t6,t7,t8⟩=>(some (t6,t7,t8,a0_3,l0_4,l0_5,(l0_6.drop 1)))) else (some (t2,t3,t4,a0_3,l0_4,l0_5,(l0_6.drop 1))))) else none) else none) else none) else none)
theorem gF.calls(k:Nat)(f0_:Nat→Nat)(a0_0:Int)(A0_1:Option Addr)(c0_1:Nat)(l0_1:List (S68))(a0_2:Int)(a0_3:Int)(A0_4:Option Addr)(c0_4:Nat)(l0_4:List (List Int))(A0_5:Option Addr)(c0_5:Nat)(l0_5:List (List Int))(A0_6:Option Addr)(c0_6:Nat)(l0_6:List Int)(r1:Int)(r2:List (S68))(r3:Int)(r4:Int)(r5:List (List Int))(r6:List (List Int))(r7:List Int)(w w1:World)(hB:Below w.heap.size w w1)(hp0_1:Kd.S k68 68 w1 w.heap.size (fun k_=>(w.heap.size≤k_∧k_<w1.heap.size)∧f0_ k_=0) (.slice A0_1 l0_1.length c0_1) l0_1)(hp0_4:Kd.S (Kd.slice 3 (Kd.int .i64)) 28 w1 w.heap.size (fun k_=>(w.heap.size≤k_∧k_<w1.heap.size)∧f0_ k_=1) (.slice A0_4 l0_4.length c0_4) l0_4)(hp0_5:Kd.S (Kd.slice 3 (Kd.int .i64)) 28 w1 w.heap.size (fun k_=>(w.heap.size≤k_∧k_<w1.heap.size)∧f0_ k_=2) (.slice A0_5 l0_5.length c0_5) l0_5)(hp0_6:Kd.R (Kd.int .i64) 3 w1 w.heap.size (fun k_=>(w.heap.size≤k_∧k_<w1.heap.size)∧f0_ k_=3) (.slice A0_6 l0_6.length c0_6) l0_6)(h:gF.f k a0_0 l0_1 a0_2 a0_3 l0_4 l0_5 l0_6=some (r1,r2,r3,r4,r5,r6,r7)) :
  Calls Tryz.prog 34 #[.agg #[.int .i64 a0_0,.slice A0_1 l0_1.length c0_1,.int .i64 a0_2,.int .i64 a0_3,.slice A0_4 l0_4.length c0_4,.slice A0_5 l0_5.length c0_5,.slice A0_6 l0_6.length c0_6]] w1 fun e w'=>∃ f_:Nat→Nat,∃ v0_ v1_ v2_ v3_:Value,e=.returned (.agg #[.int .i64 r1,v0_,.int .i64 r3,.int .i64 r4,v1_,v2_,v3_])∧Kd.V k68 68 w' w.heap.size (fun k_=>(w.heap.size≤k_∧k_<w'.heap.size)∧f_ k_=0) v0_ r2∧Kd.V (Kd.slice 3 (Kd.int .i64)) 28 w' w.heap.size (fun k_=>(w.heap.size≤k_∧k_<w'.heap.size)∧f_ k_=1) v1_ r5∧Kd.V (Kd.slice 3 (Kd.int .i64)) 28 w' w.heap.size (fun k_=>(w.heap.size≤k_∧k_<w'.heap.size)∧f_ k_=2) v2_ r6∧Kd.V (Kd.int .i64) 3 w' w.heap.size (fun k_=>(w.heap.size≤k_∧k_<w'.heap.size)∧f_ k_=3) v3_ r7∧(∀ k_,k_<w1.heap.size→f_ k_<4→f0_ k_<4)∧Below w.heap.size w w'∧Kept w1 w' (fun k_=>((w.heap.size≤k_∧k_<w1.heap.size)∧f0_ k_<4)):=by
 have HO0_1:=A_.mk hp0_1
 clear hp0_1
 have HO0_4:=A_.mk hp0_4
 clear hp0_4
 have HO0_5:=A_.mk hp0_5
 clear hp0_5
 have HO0_6:=A_.mk hp0_6
 clear hp0_6
 have HS:=A_.mk hB.size
 have HK:=A_.mk (Kept.refl w1 (fun k_=>((w.heap.size≤k_∧k_<w1.heap.size)∧f0_ k_<4)))
 have HB:=A_.mk hB
 clear hB
 unfold gF.f at h
 have H:=h
 clear h
 replace H:=ky H
 obtain⟨hp3_,hq3_,H⟩:=H
 have EB3:=A_.mk (And.intro hp3_ hq3_)
 have hn3_:(0<l0_6.length)=True:=eq_true (by omega)
 replace hp3_:=eq_true hp3_
 replace hq3_:=eq_true hq3_
 replace H:=ky H
 obtain⟨hp4_,hq4_,H⟩:=H
 have EB4:=A_.mk (And.intro hp4_ hq4_)
 clear hp4_ hq4_
 obtain⟨y1,Ny1⟩:=le_ ((l0_6.drop 1))
 rw [←Ny1.out] at H
 replace H:=oa_ H
 obtain⟨⟨t2,t3,t4,t5⟩,A6,H⟩:=H
 try dsimp only at H
 by_cases hc1_:100≤(rd l0_6 (0:Int))
 case pos =>
  rw [if_pos hc1_] at H
  have hc1_b0:=decide_eq_true hc1_
  replace hc1_:=A_.mk hc1_
  replace H:=oa_ H
  obtain⟨⟨t6,t7,t8⟩,A8,H⟩:=H
  try dsimp only at H
  replace H:=qo H
  obtain⟨rfl,rfl,rfl,rfl,rfl,rfl,rfl⟩:=H
  have hu39:=Tryz.underlying39
  go_enter Tryz.func34,Tryz.ntmps34
  obtain⟨gHO0_6_,ed_⟩:=ry HO0_6.out (by have:=EB3.out;omega)
  subst ed_
  have QE3:=(show w1.cell? ⟨gHO0_6_,0,none⟩=some (.int .i64 (rd l0_6 (0:Int))) from nP HO0_6.out EB3.out)
  have QF3:=(show w1.frozen? ⟨gHO0_6_,0,none⟩=false from o6 HO0_6.out EB3.out)
  obtain⟨ax4_,hax4_⟩:∃ q_:Option Addr,(if c0_6=1 then (some ⟨gHO0_6_,0,none⟩:Option Addr) else some ⟨gHO0_6_,1,none⟩)=q_:=⟨_,rfl⟩
  have hnc_:=(jB HO0_6)
  have hz0_:1≤l0_6.length:=by have:=EB4.out;omega
  have hz1_:1≤c0_6:=by omega
  have hz2_:(1:Int)≤(l0_6.length:Int):=by omega
  go_wp2_with (first|((with_reducible refine gd_ (N:=1) rfl ?_);refine by_ 1 (cs:=#[.int .i64 a0_0,.slice A0_1 l0_1.length c0_1,.int .i64 a0_2,.int .i64 a0_3,.slice A0_4 l0_4.length c0_4,.slice A0_5 l0_5.length c0_5,.slice (some ⟨gHO0_6_,0,none⟩) l0_6.length c0_6]) (t:=39) ?_;intro gb1_ hg w1_ hbox hb;replace HS:=aHg HS hg hbox;replace HO0_1:=aSb HO0_1 hb;replace HO0_4:=aSb HO0_4 hb;replace HO0_5:=aSb HO0_5 hb;replace HO0_6:=aRb HO0_6 hb;replace HK:=aKb HK hb;replace HB:=aHB HB hb;have BK1:=A_.mk hbox;clear hbox hb hg QE3 QF3;have QE3:=(show w1_.cell? ⟨gHO0_6_,0,none⟩=some (.int .i64 (rd l0_6 (0:Int))) from nP HO0_6.out EB3.out);have QF3:=(show w1_.frozen? ⟨gHO0_6_,0,none⟩=false from o6 HO0_6.out EB3.out))|((with_reducible refine gd_ (N:=2) rfl ?_);refine by_ 2 (cs:=#[.int .i64 0,.slice none 0 0,.int .i64 0,.int .i64 0,.slice none 0 0,.slice none 0 0,.slice none 0 0]) (t:=39) ?_;intro gb2_ hg w2_ hbox hb;replace HS:=aHg HS hg hbox;revert HO0_1 HO0_4 HO0_5 HO0_6 HK HB BK1;refine aD hb ?_;intro HO0_1 HO0_4 HO0_5 HO0_6 HK HB BK1;have BK2:=A_.mk hbox;clear hbox hb hg QE3 QF3;have Q1:=aa BK1.out;have QE3:=(show w2_.cell? ⟨gHO0_6_,0,none⟩=some (.int .i64 (rd l0_6 (0:Int))) from nP HO0_6.out EB3.out);have QF3:=(show w2_.frozen? ⟨gHO0_6_,0,none⟩=false from o6 HO0_6.out EB3.out);have HO4:=A_.mk (show Kd.V (Kd.int .i64) 3 w2_ w.heap.size (fun k_=>((w.heap.size≤k_∧k_<w1.heap.size)∧f0_ k_=3)) (.slice ax4_ (l0_6.length-1) (c0_6-1)) y1 from by rw [Ny1.out];exact oC (Kd.R_V HO0_6.out) (by have:=EB4.out;omega) rfl hax4_))|((with_reducible refine ae (t:=28) (p:=11) rfl ?_);have qf0:=bf_ BK1.out 6;refine so_ (w1:=(w2_.setCell ⟨gb1_,6,none⟩ (.slice ax4_ (l0_6.length-1) (c0_6-1)))) ?_;intro w5_ hw;clear qf0;obtain⟨hbx,hkp,hbb⟩:=jD hw BK1 HB (ho_ HS);clear hw;replace HK:=kt_ HK hkp HS;revert HO0_1 HO0_4 HO0_5 BK2 HO4;refine bC hkp HS ?_;intro HO0_1 HO0_4 HO0_5 BK2 HO4;replace BK1:=A_.mk hbx;replace HB:=A_.mk hbb;replace HS:=aHs HS hkp.1;clear hkp hbb hbx Q1 QE3 QF3;have Q1:=aa BK1.out)|((with_reducible refine gc_ (f:=71) rfl ?_);refine gl_ (some 17) Tryz.func71 #[.agg #[.int .i64 a0_0,.slice A0_1 l0_1.length c0_1,.int .i64 a0_2],.int .i64 (Int.tmod (rd l0_6 (0:Int)) 100)] ?_;(with_reducible refine (cB.calls k a0_0 _ _ l0_1 a0_2 (Int.tmod (rd l0_6 (0:Int)) 100) t2 t3 t4 t5 _ (dV HO0_1) (dS HO0_1) A6.out).mono ?_);rintro e w6_ ⟨v1_,rfl,ho0_,hb⟩;refine⟨_,rfl,?_⟩;replace HS:=aHs HS hb.size;replace ho0_:=Kd.Q_V (base':=w.heap.size) (Kd.kG ho0_);obtain⟨Ao6_1,co6_1,ev_⟩:=Kd.gH ho0_;subst ev_;have HO6_1:=A_.mk (Kd.aW (ok':=(fun k_=>((w5_.heap.size≤k_∧k_<w6_.heap.size)))) (Kd.lg ho0_) (fun k_ hk_=>⟨hk_.1.2.1,hk_.2⟩));revert HK HO0_1 HO0_4 HO0_5 BK2 HO4 BK1 HB;refine aD hb ?_;intro HK HO0_1 HO0_4 HO0_5 BK2 HO4 BK1 HB;clear hb ho0_ Q1;have Q1:=aa BK1.out)|((with_reducible refine ae (t:=36) (p:=20) rfl ?_);obtain⟨qf0,qf1,qf2⟩:=eT BK1;refine so_ (w1:=(((w6_.setCell ⟨gb1_,0,none⟩ (.int .i64 t2)).setCell ⟨gb1_,1,none⟩ (.slice Ao6_1 t3.length co6_1)).setCell ⟨gb1_,2,none⟩ (.int .i64 t4))) ?_;intro w7_ hw;clear qf0 qf1 qf2;obtain⟨hbx,hkp,hbb⟩:=jd hw BK1 HB (ho_ HS);clear hw;replace HK:=kt_ HK hkp HS;revert HO6_1 HO0_4 HO0_5 BK2 HO4;refine bC hkp HS ?_;intro HO6_1 HO0_4 HO0_5 BK2 HO4;replace BK1:=A_.mk hbx;replace HB:=A_.mk hbb;replace HS:=aHs HS hkp.1;clear hkp hbb hbx Q1;have Q1:=aa BK1.out)|((with_reducible refine gc_ (f:=35) rfl ?_);refine gl_ (some 25) Tryz.func35 #[.agg #[.int .i64 t2,.slice Ao6_1 t3.length co6_1,.int .i64 t4]] ?_;(with_reducible refine (gY.calls k t2 _ _ t3 t4 t6 t7 t8 _ (lY HO6_1) (lX HO6_1) A8.out).mono ?_);rintro e w8_ ⟨v0_,rfl,ho0_,hb⟩;refine⟨_,rfl,?_⟩;replace HS:=aHs HS hb.size;obtain⟨Ao8_0,co8_0,rfl,HO8_0⟩:=sVm ho0_ HB.out.size;revert HK HO6_1 HO0_4 HO0_5 BK2 HO4 BK1 HB;refine aD hb ?_;intro HK HO6_1 HO0_4 HO0_5 BK2 HO4 BK1 HB;clear hb ho0_ Q1;have Q1:=aa BK1.out)|((with_reducible refine ae (t:=36) (p:=26) rfl ?_);obtain⟨qf0,qf1,qf2⟩:=eT BK1;refine so_ (w1:=(((w8_.setCell ⟨gb1_,0,none⟩ (.int .i64 t6)).setCell ⟨gb1_,1,none⟩ (.slice Ao8_0 t7.length co8_0)).setCell ⟨gb1_,2,none⟩ (.int .i64 t8))) ?_;intro w9_ hw;clear qf0 qf1 qf2;obtain⟨hbx,hkp,hbb⟩:=jd hw BK1 HB (ho_ HS);clear hw;replace HK:=kt_ HK hkp HS;revert HO8_0 HO0_4 HO0_5 BK2 HO4;refine bC hkp HS ?_;intro HO8_0 HO0_4 HO0_5 BK2 HO4;replace BK1:=A_.mk hbx;replace HB:=A_.mk hbb;replace HS:=aHs HS hkp.1;clear hkp hbb hbx Q1;have Q1:=aa BK1.out;have Q2:=aa BK2.out)|((with_reducible refine ae (t:=39) (p:=2) rfl ?_);obtain⟨qf0,qf1,qf2,qf3,qf4,qf5,qf6⟩:=gM BK2;refine so_ (w1:=(iR w9_ gb2_ (.int .i64 t6) (.slice Ao8_0 t7.length co8_0) (.int .i64 t8) (.int .i64 a0_3) (.slice A0_4 l0_4.length c0_4) (.slice A0_5 l0_5.length c0_5) (.slice ax4_ (l0_6.length-1) (c0_6-1)))) ?_;intro w10_ hw;clear qf0 qf1 qf2 qf3 qf4 qf5 qf6;obtain⟨hbx,hkp,hbb⟩:=iV hw BK2 HB (ho_ HS);clear hw;replace HK:=kt_ HK hkp HS;revert HO8_0 HO0_4 HO0_5 HO4;refine bC hkp HS ?_;intro HO8_0 HO0_4 HO0_5 HO4;replace BK2:=A_.mk hbx;replace HB:=A_.mk hbb;replace HS:=aHs HS hkp.1;clear hkp hbb hbx Q1 Q2))
  refine bodyPost_ret (results_cell_row rfl _ _ gb2_ 39 _ (0,0) _ rfl BK2.out Tryz.underlying39 rfl (by kernel_rfl)) rfl ?_
  obtain⟨f_,hf_⟩:=mV_ HO8_0 0 (mS_ HO0_4 1 (mS_ HO0_5 2 (mV_ HO4 3 (m0_ 4))))
  have hfk_:∀ k_,k_<w1.heap.size→f_ k_<4→f0_ k_<4:=fun k_ h1_ h2_=>by have:=HS.out;rw [hf_] at h2_;repeat' (first|omega|split at h2_)
  first|exact ⟨f_,_,_,_,_,rfl,cV_ HO8_0 HS hf_,lZ HO0_4 HS hf_,lZ HO0_5 HS hf_,cV_ HO4 HS hf_,hfk_,HB.out,HK.out⟩|exact ⟨rfl,f_,_,_,_,_,cV_ HO8_0 HS hf_,lZ HO0_4 HS hf_,lZ HO0_5 HS hf_,cV_ HO4 HS hf_,hfk_,HB.out,HK.out⟩
 rw [if_neg hc1_] at H
 have hc1_b0:=decide_eq_false hc1_
 replace hc1_:=A_.mk hc1_
 replace H:=qo H
 obtain⟨rfl,rfl,rfl,rfl,rfl,rfl,rfl⟩:=H
 have hu39:=Tryz.underlying39
 go_enter Tryz.func34,Tryz.ntmps34
 obtain⟨gHO0_6_,ed_⟩:=ry HO0_6.out (by have:=EB3.out;omega)
 subst ed_
 have QE3:=(show w1.cell? ⟨gHO0_6_,0,none⟩=some (.int .i64 (rd l0_6 (0:Int))) from nP HO0_6.out EB3.out)
 have QF3:=(show w1.frozen? ⟨gHO0_6_,0,none⟩=false from o6 HO0_6.out EB3.out)
 obtain⟨ax4_,hax4_⟩:∃ q_:Option Addr,(if c0_6=1 then (some ⟨gHO0_6_,0,none⟩:Option Addr) else some ⟨gHO0_6_,1,none⟩)=q_:=⟨_,rfl⟩
 have hnc_:=(jB HO0_6)
 have hz0_:1≤l0_6.length:=by have:=EB4.out;omega
 have hz1_:1≤c0_6:=by omega
 have hz2_:(1:Int)≤(l0_6.length:Int):=by omega
 go_wp2_with (first|((with_reducible refine gd_ (N:=1) rfl ?_);refine by_ 1 (cs:=#[.int .i64 a0_0,.slice A0_1 l0_1.length c0_1,.int .i64 a0_2,.int .i64 a0_3,.slice A0_4 l0_4.length c0_4,.slice A0_5 l0_5.length c0_5,.slice (some ⟨gHO0_6_,0,none⟩) l0_6.length c0_6]) (t:=39) ?_;intro gb1_ hg w1_ hbox hb;replace HS:=aHg HS hg hbox;replace HO0_1:=aSb HO0_1 hb;replace HO0_4:=aSb HO0_4 hb;replace HO0_5:=aSb HO0_5 hb;replace HO0_6:=aRb HO0_6 hb;replace HK:=aKb HK hb;replace HB:=aHB HB hb;have BK1:=A_.mk hbox;clear hbox hb hg QE3 QF3;have QE3:=(show w1_.cell? ⟨gHO0_6_,0,none⟩=some (.int .i64 (rd l0_6 (0:Int))) from nP HO0_6.out EB3.out);have QF3:=(show w1_.frozen? ⟨gHO0_6_,0,none⟩=false from o6 HO0_6.out EB3.out))|((with_reducible refine gd_ (N:=2) rfl ?_);refine by_ 2 (cs:=#[.int .i64 0,.slice none 0 0,.int .i64 0,.int .i64 0,.slice none 0 0,.slice none 0 0,.slice none 0 0]) (t:=39) ?_;intro gb2_ hg w2_ hbox hb;replace HS:=aHg HS hg hbox;revert HO0_1 HO0_4 HO0_5 HO0_6 HK HB BK1;refine aD hb ?_;intro HO0_1 HO0_4 HO0_5 HO0_6 HK HB BK1;have BK2:=A_.mk hbox;clear hbox hb hg QE3 QF3;have Q1:=aa BK1.out;have QE3:=(show w2_.cell? ⟨gHO0_6_,0,none⟩=some (.int .i64 (rd l0_6 (0:Int))) from nP HO0_6.out EB3.out);have QF3:=(show w2_.frozen? ⟨gHO0_6_,0,none⟩=false from o6 HO0_6.out EB3.out);have HO4:=A_.mk (show Kd.V (Kd.int .i64) 3 w2_ w.heap.size (fun k_=>((w.heap.size≤k_∧k_<w1.heap.size)∧f0_ k_=3)) (.slice ax4_ (l0_6.length-1) (c0_6-1)) y1 from by rw [Ny1.out];exact oC (Kd.R_V HO0_6.out) (by have:=EB4.out;omega) rfl hax4_))|((with_reducible refine ae (t:=28) (p:=11) rfl ?_);have qf0:=bf_ BK1.out 6;refine so_ (w1:=(w2_.setCell ⟨gb1_,6,none⟩ (.slice ax4_ (l0_6.length-1) (c0_6-1)))) ?_;intro w5_ hw;clear qf0;obtain⟨hbx,hkp,hbb⟩:=jD hw BK1 HB (ho_ HS);clear hw;replace HK:=kt_ HK hkp HS;revert HO0_1 HO0_4 HO0_5 BK2 HO4;refine bC hkp HS ?_;intro HO0_1 HO0_4 HO0_5 BK2 HO4;replace BK1:=A_.mk hbx;replace HB:=A_.mk hbb;replace HS:=aHs HS hkp.1;clear hkp hbb hbx Q1 QE3 QF3;have Q1:=aa BK1.out)|((with_reducible refine gc_ (f:=71) rfl ?_);refine gl_ (some 17) Tryz.func71 #[.agg #[.int .i64 a0_0,.slice A0_1 l0_1.length c0_1,.int .i64 a0_2],.int .i64 (Int.tmod (rd l0_6 (0:Int)) 100)] ?_;(with_reducible refine (cB.calls k a0_0 _ _ l0_1 a0_2 (Int.tmod (rd l0_6 (0:Int)) 100) t2 t3 t4 t5 _ (dV HO0_1) (dS HO0_1) A6.out).mono ?_);rintro e w6_ ⟨v1_,rfl,ho0_,hb⟩;refine⟨_,rfl,?_⟩;replace HS:=aHs HS hb.size;replace ho0_:=Kd.Q_V (base':=w.heap.size) (Kd.kG ho0_);obtain⟨Ao6_1,co6_1,ev_⟩:=Kd.gH ho0_;subst ev_;have HO6_1:=A_.mk (Kd.aW (ok':=(fun k_=>((w5_.heap.size≤k_∧k_<w6_.heap.size)))) (Kd.lg ho0_) (fun k_ hk_=>⟨hk_.1.2.1,hk_.2⟩));revert HK HO0_1 HO0_4 HO0_5 BK2 HO4 BK1 HB;refine aD hb ?_;intro HK HO0_1 HO0_4 HO0_5 BK2 HO4 BK1 HB;clear hb ho0_ Q1;have Q1:=aa BK1.out)|((with_reducible refine ae (t:=36) (p:=20) rfl ?_);obtain⟨qf0,qf1,qf2⟩:=eT BK1;refine so_ (w1:=(((w6_.setCell ⟨gb1_,0,none⟩ (.int .i64 t2)).setCell ⟨gb1_,1,none⟩ (.slice Ao6_1 t3.length co6_1)).setCell ⟨gb1_,2,none⟩ (.int .i64 t4))) ?_;intro w7_ hw;clear qf0 qf1 qf2;obtain⟨hbx,hkp,hbb⟩:=jd hw BK1 HB (ho_ HS);clear hw;replace HK:=kt_ HK hkp HS;revert HO6_1 HO0_4 HO0_5 BK2 HO4;refine bC hkp HS ?_;intro HO6_1 HO0_4 HO0_5 BK2 HO4;replace BK1:=A_.mk hbx;replace HB:=A_.mk hbb;replace HS:=aHs HS hkp.1;clear hkp hbb hbx Q1;have Q1:=aa BK1.out;have Q2:=aa BK2.out)|((with_reducible refine ae (t:=39) (p:=2) rfl ?_);obtain⟨qf0,qf1,qf2,qf3,qf4,qf5,qf6⟩:=gM BK2;refine so_ (w1:=(iR w7_ gb2_ (.int .i64 t2) (.slice Ao6_1 t3.length co6_1) (.int .i64 t4) (.int .i64 a0_3) (.slice A0_4 l0_4.length c0_4) (.slice A0_5 l0_5.length c0_5) (.slice ax4_ (l0_6.length-1) (c0_6-1)))) ?_;intro w11_ hw;clear qf0 qf1 qf2 qf3 qf4 qf5 qf6;obtain⟨hbx,hkp,hbb⟩:=iV hw BK2 HB (ho_ HS);clear hw;replace HK:=kt_ HK hkp HS;revert HO6_1 HO0_4 HO0_5 HO4;refine bC hkp HS ?_;intro HO6_1 HO0_4 HO0_5 HO4;replace BK2:=A_.mk hbx;replace HB:=A_.mk hbb;replace HS:=aHs HS hkp.1;clear hkp hbb hbx Q1 Q2))
 refine bodyPost_ret (results_cell_row rfl _ _ gb2_ 39 _ (0,0) _ rfl BK2.out Tryz.underlying39 rfl (by kernel_rfl)) rfl ?_
 obtain⟨f_,hf_⟩:=mV_ HO6_1 0 (mS_ HO0_4 1 (mS_ HO0_5 2 (mV_ HO4 3 (m0_ 4))))
 have hfk_:∀ k_,k_<w1.heap.size→f_ k_<4→f0_ k_<4:=fun k_ h1_ h2_=>by have:=HS.out;rw [hf_] at h2_;repeat' (first|omega|split at h2_)
 first|exact ⟨f_,_,_,_,_,rfl,cV_ HO6_1 HS hf_,lZ HO0_4 HS hf_,lZ HO0_5 HS hf_,cV_ HO4 HS hf_,hfk_,HB.out,HK.out⟩|exact ⟨rfl,f_,_,_,_,_,cV_ HO6_1 HS hf_,lZ HO0_4 HS hf_,lZ HO0_5 HS hf_,cV_ HO4 HS hf_,hfk_,HB.out,HK.out⟩
end Go.Proofs.YtmdehehgmnihpaaGreat.PFnExactLinkStep
