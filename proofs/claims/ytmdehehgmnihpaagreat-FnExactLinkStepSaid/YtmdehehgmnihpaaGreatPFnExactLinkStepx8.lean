import Derived.Test.YtmdehehgmnihpaaGreatPFnExactLinkStepx7
namespace Go.Proofs.YtmdehehgmnihpaaGreat.PFnExactLinkStep
open Go.RowKit Go.Proofs.YtmdehehgmnihpaaGreatW.PrintWords Go.Proofs.YtmdehehgmnihpaaGreatW.PrintLast Go.Proofs.YtmdehehgmnihpaaGreatW.PrintMore
attribute [local go_sem] dM dL eu ek dn dm dJ dK
set_option maxHeartbeats 8000000
set_option maxRecDepth 100000
set_option linter.unusedVariables false
set_option linter.unusedSimpArgs false
def gD.f(k:Nat)(a0_0:Int)(l0_1:List (S68))(a0_2:Int)(a0_3:Int)(l0_4:List (List Int))(l0_5:List (List Int))(l0_6:List Int)(a1_0:Int)(a1_1:Int):Option ((Bool)×(Int)×(List (S68))×(Int)×(Int)×(List (List Int))×(List (List Int))×(List Int)):=(if a1_0=7 then ((gz.f a1_1).bind fun t1=>(if t1=true then ((eH.f k a0_0 l0_1 a0_2 ([(wrap64 (Int.tdiv a1_1 256)),(Int.tmod a1_1 256)]:List Int)).bind fun ⟨t3,t4,t5,t6⟩=>(some (t6,t3,t4,t5,a0_3,l0_4,l0_5,l0_6))) else (some (false,a0_0,l0_1,a0_2,a0_3,l0_4,l0_5,l0_6)))) else (if a1_0=1 then ((g_.f k a0_0 l0_1 a0_2 a0_3 l0_4 l0_5 l0_6).bind fun ⟨t7,t8,t9,t10,t11,t12,t13,t14⟩=>(some (t7,t8,t9,t10,t11,t12,t13,t14))) else (if a1_0=2 then ((ed.f k a0_0 l0_1 a0_2 a0_3 l0_4 l0_5 l0_6).bind fun ⟨t15,t16,t17,t18,t19,t20,t21,t22⟩=>(some (t15,t16,t17,t18,t19,t20,t21,t22))) else (if a1_0=3 then ((bE.f a1_1 0 (wrap64 ((l0_5.length:Int)-1))).bind fun t23=>(if t23=true then (if 0≤a1_1 then (if a1_1<(l0_5.length:Int) then (some (true,a0_0,l0_1,a0_2,a0_3,l0_4,(l0_5.eraseIdx (a1_1).toNat),l0_6)) else none) else none) else (some (false,a0_0,l0_1,a0_2,a0_3,l0_4,l0_5,l0_6)))) else (if a1_0=4 then ((fZ.f k a0_0 l0_1 a0_2 a0_3 l0_4 l0_5 l0_6 a1_1).bind fun ⟨t25,t26,t27,t28,t29,t30,t31,t32⟩=>(some (t25,t26,t27,t28,t29,t30,t31,t32))) else (if a1_0=5 then ((eP.f k a0_0 l0_1 a0_2 a0_3 l0_4 l0_5 l0_6).bind fun ⟨t33,t34,t35,t36,t37,t38,t39,t40⟩=>(some (t33,t34,t35,t36,t37,t38,t39,t40))) else (if a1_0=6 then ((gX.f k a0_0 l0_1 a0_2).bind fun ⟨t41,t42,t43⟩=>(some (true,t41,t42,t43,a0_3,l0_4,l0_5,l0_6))) else (some (false,a0_0,l0_1,a0_2,a0_3,l0_4,l0_5,l0_6)))))))))
theorem gD.calls(k:Nat)(gb_:Nat)(f0_:Nat→Nat)(a0_0:Int)(A0_1:Option Addr)(c0_1:Nat)(l0_1:List (S68))(a0_2:Int)(a0_3:Int)(A0_4:Option Addr)(c0_4:Nat)(l0_4:List (List Int))(A0_5:Option Addr)(c0_5:Nat)(l0_5:List (List Int))(A0_6:Option Addr)(c0_6:Nat)(l0_6:List Int)(a1_0:Int)(a1_1:Int)(r1:Bool)(r2:Int)(r3:List (S68))(r4:Int)(r5:Int)(r6:List (List Int))(r7:List (List Int))(r8:List Int)(w w1:World)(hB:Below w.heap.size w w1)(hg:w.heap.size≤gb_)(hbx:w1.heap[gb_]?=some (.cells #[.int .i64 a0_0,.slice A0_1 l0_1.length c0_1,.int .i64 a0_2,.int .i64 a0_3,.slice A0_4 l0_4.length c0_4,.slice A0_5 l0_5.length c0_5,.slice A0_6 l0_6.length c0_6] 39 (0,0)))(hp0_1:Kd.S k68 68 w1 w.heap.size (fun k_=>(w.heap.size≤k_∧k_<w1.heap.size)∧k_≠gb_∧f0_ k_=0) (.slice A0_1 l0_1.length c0_1) l0_1)(hp0_4:Kd.S (Kd.slice 3 (Kd.int .i64)) 28 w1 w.heap.size (fun k_=>(w.heap.size≤k_∧k_<w1.heap.size)∧k_≠gb_∧f0_ k_=1) (.slice A0_4 l0_4.length c0_4) l0_4)(hp0_5:Kd.S (Kd.slice 3 (Kd.int .i64)) 28 w1 w.heap.size (fun k_=>(w.heap.size≤k_∧k_<w1.heap.size)∧k_≠gb_∧f0_ k_=2) (.slice A0_5 l0_5.length c0_5) l0_5)(hp0_6:Kd.R (Kd.int .i64) 3 w1 w.heap.size (fun k_=>(w.heap.size≤k_∧k_<w1.heap.size)∧k_≠gb_∧f0_ k_=3) (.slice A0_6 l0_6.length c0_6) l0_6)(h:gD.f k a0_0 l0_1 a0_2 a0_3 l0_4 l0_5 l0_6 a1_0 a1_1=some (r1,r2,r3,r4,r5,r6,r7,r8)) :
  Calls Tryz.prog 42 #[.pointer (some ⟨gb_,0,none⟩),.agg #[.int .i64 a1_0,.int .i64 a1_1]] w1 fun e w'=>∃ f_:Nat→Nat,∃ v0_ v1_ v2_ v3_:Value,e=.returned (.bool r1)∧w'.heap[gb_]?=some (.cells #[.int .i64 r2,v0_,.int .i64 r4,.int .i64 r5,v1_,v2_,v3_] 39 (0,0))∧Kd.S k68 68 w' w.heap.size (fun k_=>(w.heap.size≤k_∧k_<w'.heap.size)∧k_≠gb_∧f_ k_=0) v0_ r3∧Kd.S (Kd.slice 3 (Kd.int .i64)) 28 w' w.heap.size (fun k_=>(w.heap.size≤k_∧k_<w'.heap.size)∧k_≠gb_∧f_ k_=1) v1_ r6∧Kd.S (Kd.slice 3 (Kd.int .i64)) 28 w' w.heap.size (fun k_=>(w.heap.size≤k_∧k_<w'.heap.size)∧k_≠gb_∧f_ k_=2) v2_ r7∧Kd.R (Kd.int .i64) 3 w' w.heap.size (fun k_=>(w.heap.size≤k_∧k_<w'.heap.size)∧k_≠gb_∧f_ k_=3) v3_ r8∧(∀ k_,k_<w1.heap.size→f_ k_<4→k_=gb_∨f0_ k_<4)∧Below w.heap.size w w'∧Kept w1 w' (fun k_=>k_=gb_∨((w.heap.size≤k_∧k_<w1.heap.size)∧k_≠gb_∧f0_ k_<4)):=by
 obtain⟨gb1_,rfl⟩:∃ q_,q_=gb_:=⟨_,rfl⟩
 have HO0_1:=A_.mk hp0_1
 clear hp0_1
 have HO0_4:=A_.mk hp0_4
 clear hp0_4
 have HO0_5:=A_.mk hp0_5
 clear hp0_5
 have HO0_6:=A_.mk hp0_6
 clear hp0_6
 have BK1:=A_.mk hbx
 have HS:=A_.mk (And.intro hB.size (And.intro hg (aI hbx)))
 have HK:=A_.mk (Kept.refl w1 (fun k_=>k_=gb1_∨((w.heap.size≤k_∧k_<w1.heap.size)∧k_≠gb1_∧f0_ k_<4)))
 clear hbx hg
 have HB:=A_.mk hB
 clear hB
 unfold gD.f at h
 have H:=h
 clear h
 by_cases hc1_:a1_0=7
 case pos =>
  rw [if_pos hc1_] at H
  replace hc1_:=iF hc1_
  replace H:=oa_ H
  obtain⟨t1,A3,H⟩:=H
  replace H:=A_.mk H
  have hu36:=Tryz.underlying36
  have hu39:=Tryz.underlying39
  have hu43:=Tryz.underlying43
  go_enter Tryz.func42,Tryz.ntmps42
  go_wp2_with (first|((with_reducible refine gd_ (N:=3) rfl ?_);refine by_ 3 (cs:=#[.int .i64 a1_0,.int .i64 a1_1]) (t:=43) ?_;intro gb2_ hg w2_ hbox hb;replace HS:=aHg HS hg hbox;revert HO0_1 HO0_4 HO0_5 HO0_6 BK1 HK HB;refine aD hb ?_;intro HO0_1 HO0_4 HO0_5 HO0_6 BK1 HK HB;have BK2:=A_.mk hbox;clear hbox hb hg;have Q2:=ak BK2.out))
  refine(gz.calls a1_1 t1 _ A3.out).mono ?_
  rintro e w3_ ⟨rfl,hb⟩
  replace hb:=Drawn0.below hb
  revert HS HO0_1 HO0_4 HO0_5 HO0_6 BK1 HK HB BK2
  refine aD hb ?_
  intro HS HO0_1 HO0_4 HO0_5 HO0_6 BK1 HK HB BK2
  clear hb  Q2
  have Q1:=aa BK1.out
  have Q2:=ak BK2.out
  replace H:=H.out
  by_cases hc2_:t1=true
  case pos =>
   rw [if_pos hc2_] at H
   subst hc2_
   obtain⟨y2,Ny2⟩:=le_ (([(wrap64 (Int.tdiv a1_1 256)),(Int.tmod a1_1 256)]:List Int))
   rw [←Ny2.out] at H
   replace H:=oa_ H
   obtain⟨⟨t3,t4,t5,t6⟩,A5,H⟩:=H
   try dsimp only at H
   replace H:=il H
   obtain⟨rfl,rfl,rfl,rfl,rfl,rfl,rfl,rfl⟩:=H
   go_wp2_with (fail)
   refine dN (n:=18) (S:=fun w'=>(w'.cell? ⟨gb1_,0,none⟩=some (.int .i64 a0_0)∧w'.cell? ⟨gb1_,1,none⟩=some (.slice A0_1 l0_1.length c0_1)∧w'.cell? ⟨gb1_,2,none⟩=some (.int .i64 a0_2)∧w'.cell? ⟨gb1_,3,none⟩=some (.int .i64 a0_3)∧w'.cell? ⟨gb1_,4,none⟩=some (.slice A0_4 l0_4.length c0_4)∧w'.cell? ⟨gb1_,5,none⟩=some (.slice A0_5 l0_5.length c0_5)∧w'.cell? ⟨gb1_,6,none⟩=some (.slice A0_6 l0_6.length c0_6))∧(w'.cell? ⟨gb2_,0,none⟩=some (.int .i64 a1_0)∧w'.cell? ⟨gb2_,1,none⟩=some (.int .i64 a1_1))) (ds:=[16]) #[F,F,F,F,F,F,F,F,F,F,F,F,F,F,F,F,F,F] (by kernel_rfl) rfl rfl ⟨aa BK1.out,ak BK2.out⟩ (fun hHeld=>?_)
   clear Q1 Q2
   have hb:=aV (Below.refl w3_.heap.size w3_)
   replace HS:=aHs HS hb.size
   replace HO0_1:=aSb HO0_1 hb
   replace HO0_4:=aSb HO0_4 hb
   replace HO0_5:=aSb HO0_5 hb
   replace HO0_6:=aRb HO0_6 hb
   replace BK1:=aBb BK1 hb
   replace BK2:=aBb BK2 hb
   replace HK:=aKb HK hb
   replace HB:=aHB HB hb
   clear hb
   generalize w3_.drew=w18d_ at HO0_1 HO0_4 HO0_5 HO0_6 HK BK1 BK2 HB HS hHeld ⊢
   refine pd_ (i:=0) (N:=some 16) #[T,F,F,F,F,F,F,F,F,F,F,F,F,F,F,F,F,F] rfl ?_
   refine pd_ (i:=1) (N:=some 17) #[T,T,F,F,F,F,F,F,F,F,F,F,F,F,F,F,F,F] rfl ?_
   refine pd_ (i:=2) (N:=some 18) #[T,T,T,F,F,F,F,F,F,F,F,F,F,F,F,F,F,F] rfl ?_
   refine tl_ (i:=3) (N:=some 19) #[T,T,T,T,F,F,F,F,F,F,F,F,F,F,F,F,F,F] rfl hHeld ?_
   refine pd_ (i:=4) (N:=some 20) #[T,T,T,T,T,F,F,F,F,F,F,F,F,F,F,F,F,F] rfl ?_
   refine tl_ (i:=5) (N:=some 21) #[T,T,T,T,T,T,F,F,F,F,F,F,F,F,F,F,F,F] rfl hHeld ?_
   refine pd_ (i:=6) (N:=some 22) #[T,T,T,T,T,T,T,F,F,F,F,F,F,F,F,F,F,F] rfl ?_
   refine pd_ (i:=7) (N:=some 23) #[T,T,T,T,T,T,T,T,F,F,F,F,F,F,F,F,F,F] rfl ?_
   refine tl_ (i:=8) (N:=some 24) #[T,T,T,T,T,T,T,T,T,F,F,F,F,F,F,F,F,F] rfl hHeld ?_
   refine pd_ (i:=9) (N:=some 25) #[T,T,T,T,T,T,T,T,T,T,F,F,F,F,F,F,F,F] rfl ?_
   refine mR (σ:=Value×Value×Nat×Nat×Nat×(Nat→Nat)) 2 #[T,T,T,T,T,T,T,T,T,T,T,T,T,T,T,T,F,F] (fun s_=>[(26,s_.2.1),(27,.tuple #[.agg #[.int .i64 t3,s_.1,.int .i64 t5],.bool t6]),(15,.tuple #[.agg #[.int .i64 t3,s_.1,.int .i64 t5],.bool t6]),(28,.agg #[.int .i64 t3,s_.1,.int .i64 t5]),(29,.bool t6),(5,.pointer (some ⟨s_.2.2.1,0,none⟩))]) (fun s_ w'=>((w'.cell? ⟨gb1_,0,none⟩=some (.int .i64 a0_0)∧w'.cell? ⟨gb1_,1,none⟩=some (.slice A0_1 l0_1.length c0_1)∧w'.cell? ⟨gb1_,2,none⟩=some (.int .i64 a0_2)∧w'.cell? ⟨gb1_,3,none⟩=some (.int .i64 a0_3)∧w'.cell? ⟨gb1_,4,none⟩=some (.slice A0_4 l0_4.length c0_4)∧w'.cell? ⟨gb1_,5,none⟩=some (.slice A0_5 l0_5.length c0_5)∧w'.cell? ⟨gb1_,6,none⟩=some (.slice A0_6 l0_6.length c0_6))∧(w'.cell? ⟨gb2_,0,none⟩=some (.int .i64 a1_0)∧w'.cell? ⟨gb2_,1,none⟩=some (.int .i64 a1_1)))∧Kd.S (Kd.slice 3 (Kd.int .i64)) 28 w' w.heap.size (fun k_=>((w.heap.size≤k_∧k_<w1.heap.size)∧k_≠gb1_∧f0_ k_=1)) (.slice A0_4 l0_4.length c0_4) l0_4∧Kd.S (Kd.slice 3 (Kd.int .i64)) 28 w' w.heap.size (fun k_=>((w.heap.size≤k_∧k_<w1.heap.size)∧k_≠gb1_∧f0_ k_=2)) (.slice A0_5 l0_5.length c0_5) l0_5∧Kd.R (Kd.int .i64) 3 w' w.heap.size (fun k_=>((w.heap.size≤k_∧k_<w1.heap.size)∧k_≠gb1_∧f0_ k_=3)) (.slice A0_6 l0_6.length c0_6) l0_6∧w'.heap[gb1_]?=some (.cells #[.int .i64 a0_0,.slice A0_1 l0_1.length c0_1,.int .i64 a0_2,.int .i64 a0_3,.slice A0_4 l0_4.length c0_4,.slice A0_5 l0_5.length c0_5,.slice A0_6 l0_6.length c0_6] 39 (0,0))∧w'.heap[gb2_]?=some (.cells #[.int .i64 a1_0,.int .i64 a1_1] 43 (0,0))∧Kept w1 w' (fun k_=>k_=gb1_∨((w.heap.size≤k_∧k_<w1.heap.size)∧k_≠gb1_∧f0_ k_<4))∧Below w.heap.size w w'∧w18d_.heap.size≤w'.heap.size∧(w18d_.heap.size≤s_.2.2.2.1∧s_.2.2.2.1≤s_.2.2.2.2.1∧s_.2.2.2.2.1≤w'.heap.size)∧Kd.S k68 68 w' w.heap.size (fun k_=>(s_.2.2.2.1≤k_∧k_<s_.2.2.2.2.1)∧s_.2.2.2.2.2 k_=0) s_.1 t4∧w'.heap[s_.2.2.1]?=some (.cells #[.int .i64 0,.slice none 0 0,.int .i64 0] 36 (0,0))∧(w18d_.heap.size≤s_.2.2.1∧s_.2.2.1<w'.heap.size∧(s_.2.2.1<s_.2.2.2.1∨s_.2.2.2.2.1≤s_.2.2.1))) ?_ ?_
   rotate_left
   ·intro hCont
    refine jU (i:=10) (j:=15) (Ni:=some 26) (Nj:=some 5) #[T,T,T,T,T,T,T,T,T,T,T,F,F,F,F,F,F,F] #[T,T,T,T,T,T,T,T,T,T,F,F,F,F,F,T,F,F] rfl rfl rfl rfl (by kernel_rfl) (by decide) (by decide) (fun K hK=>?_) (fun K hK=>?_)
    ·skip
     refine Kd.fB (Kd.int .i64) (w0:=w) w.heap.size 3 (by rfl) (N:=26) rfl (xs:=[(wrap64 (Int.tdiv a1_1 256)),(Int.tmod a1_1 256)]) (inner:=[(.int .i64 (wrap64 (Int.tdiv a1_1 256))),(.int .i64 (Int.tmod a1_1 256))]) (ok:=fun k_=>w18d_.heap.size≤k_) (okp:=fun k_=>w18d_.heap.size≤k_) ?lR ?lP (fun _ hk=>hk) (Nat.le_refl _) HB.out HB.out.size (by simp) ?_
     case lR=>first|(go_simp;done)|(go_simp;rfl)
     case lP=>exact (Reps.one (show Kd.M (Kd.int .i64) _ _ _ (wrap64 (Int.tdiv a1_1 256)) [.int .i64 (wrap64 (Int.tdiv a1_1 256))] from rfl) (Reps.one (show Kd.M (Kd.int .i64) _ _ _ (Int.tmod a1_1 256) [.int .i64 (Int.tmod a1_1 256)] from rfl) (Reps.none _ _)))
     intro v_ w4_ ho hbb hg_ hn_
     clear hn_
     rw [←Ny2.out] at ho
     have hkp:Kept w18d_ w4_ (fun k_=>k_<0):=Kept.aZ hg_ (Kept.refl _ _) (fun k_ e_=>by cases e_)
     replace HK:=kt_ HK hkp HS
     revert HO0_1 HO0_4 HO0_5 HO0_6 BK1 BK2
     refine bC hkp HS ?_
     intro HO0_1 HO0_4 HO0_5 HO0_6 BK1 BK2
     replace HS:=aHs HS hkp.1
     obtain⟨Ao4,co4,ev_⟩:=Kd.aX ho
     subst ev_
     have HO4:=A_.mk (Kd.aC (ok':=(fun k_=>((w18d_.heap.size≤k_∧k_<w4_.heap.size)))) (Kd.bP ho) (fun k_ hk_=>⟨hk_.1,hk_.2.2.1⟩))
     replace HB:=A_.mk hbb
     clear hkp hbb hg_ ho
     refine hK.out _ _ ⟨aa BK1.out,ak BK2.out⟩ (fun hHeld=>?_)
     clear hK K
     refine nm_ ?_
     refine jU (i:=11) (j:=15) (Ni:=some 27) (Nj:=some 5) #[T,T,T,T,T,T,T,T,T,T,T,T,F,F,F,F,F,F] #[T,T,T,T,T,T,T,T,T,T,T,F,F,F,F,T,F,F] rfl rfl rfl rfl (by kernel_rfl) (by decide) (by decide) (fun K hK=>?_) (fun K hK=>?_)
     ·skip
      refine gz_ Tryz.func85 #[.agg #[.int .i64 a0_0,.slice A0_1 l0_1.length c0_1,.int .i64 a0_2],.slice Ao4 y2.length co4] ?_
      with_reducible refine (eH.calls k a0_0 _ _ l0_1 a0_2 _ _ y2 t3 t4 t5 t6 _ (dV HO0_1) (dS HO0_1) (je HO4) (jB HO4) A5.out).mono ?_
      rintro e w5_ ⟨f5_,v0_,rfl,ho0_,hb⟩
      refine⟨_,rfl,?_⟩
      replace HS:=aHs HS hb.size
      obtain⟨Ao5_0,co5_0,rfl,HO5_0⟩:=sSn ho0_ HB.out.size
      revert HK HO0_1 HO0_4 HO0_5 HO0_6 BK1 BK2 HO4 HB
      refine aD hb ?_
      intro HK HO0_1 HO0_4 HO0_5 HO0_6 BK1 BK2 HO4 HB
      clear hb ho0_
      refine hK.out _ _ ⟨aa BK1.out,ak BK2.out⟩ (fun hHeld=>?_)
      clear hK K
      refine nm_ ?_
      refine pd_ (i:=12) (N:=some 15) #[T,T,T,T,T,T,T,T,T,T,T,T,T,F,F,F,F,F] rfl ?_
      refine pd_ (i:=13) (N:=some 28) #[T,T,T,T,T,T,T,T,T,T,T,T,T,T,F,F,F,F] rfl ?_
      refine pd_ (i:=14) (N:=some 29) #[T,T,T,T,T,T,T,T,T,T,T,T,T,T,T,F,F,F] rfl ?_
      refine on_ (i:=15) (N:=some 5) #[T,T,T,T,T,T,T,T,T,T,T,T,T,T,T,T,F,F] rfl (fun K hK=>?_)
      refine bo_ (N:=5) (cs:=#[.int .i64 0,.slice none 0 0,.int .i64 0]) (t:=36) ?_
      intro gb6_ hg w6_ hbox hb
      replace HS:=aHg HS hg hbox
      revert HO5_0 HK HO0_1 HO0_4 HO0_5 HO0_6 BK1 BK2 HO4 HB
      refine aD hb ?_
      intro HO5_0 HK HO0_1 HO0_4 HO0_5 HO0_6 BK1 BK2 HO4 HB
      have BK6:=A_.mk hbox
      clear hbox hb hg
      refine hK.out _ _ ⟨aa BK1.out,ak BK2.out⟩ (fun hHeld=>?_)
      clear hK K
      refine nm_ ?_
      exact nj_ (hCont (.slice Ao5_0 t4.length co5_0,.slice Ao4 y2.length co4,gb6_,(w4_.heap.size),(w5_.heap.size),f5_) _ ⟨hHeld,HO0_4.out,HO0_5.out,HO0_6.out,BK1.out,BK2.out,HK.out,HB.out,(ho_ HS),(by have:=HS.out;(try dsimp only);omega),HO5_0.out,BK6.out,(by have:=HS.out;(try dsimp only);omega)⟩)
     ·skip
      refine bo_ (N:=5) (cs:=#[.int .i64 0,.slice none 0 0,.int .i64 0]) (t:=36) ?_
      intro gb6_ hg w6_ hbox hb
      replace HS:=aHg HS hg hbox
      revert HK HO0_1 HO0_4 HO0_5 HO0_6 BK1 BK2 HO4 HB
      refine aD hb ?_
      intro HK HO0_1 HO0_4 HO0_5 HO0_6 BK1 BK2 HO4 HB
      have BK6:=A_.mk hbox
      clear hbox hb hg
      refine hK.out _ _ ⟨aa BK1.out,ak BK2.out⟩ (fun hHeld=>?_)
      clear hK K
      refine nm_ ?_
      refine on_ (i:=11) (N:=some 27) #[T,T,T,T,T,T,T,T,T,T,T,T,F,F,F,T,F,F] rfl (fun K hK=>?_)
      refine gz_ Tryz.func85 #[.agg #[.int .i64 a0_0,.slice A0_1 l0_1.length c0_1,.int .i64 a0_2],.slice Ao4 y2.length co4] ?_
      with_reducible refine (eH.calls k a0_0 _ _ l0_1 a0_2 _ _ y2 t3 t4 t5 t6 _ (dV HO0_1) (dS HO0_1) (je HO4) (jB HO4) A5.out).mono ?_
      rintro e w5_ ⟨f5_,v0_,rfl,ho0_,hb⟩
      refine⟨_,rfl,?_⟩
      replace HS:=aHs HS hb.size
      obtain⟨Ao5_0,co5_0,rfl,HO5_0⟩:=sSn ho0_ HB.out.size
      revert HK HO0_1 HO0_4 HO0_5 HO0_6 BK1 BK2 HO4 HB BK6
      refine aD hb ?_
      intro HK HO0_1 HO0_4 HO0_5 HO0_6 BK1 BK2 HO4 HB BK6
      clear hb ho0_
      refine hK.out _ _ ⟨aa BK1.out,ak BK2.out⟩ (fun hHeld=>?_)
      clear hK K
      refine nm_ ?_
      refine pd_ (i:=12) (N:=some 15) #[T,T,T,T,T,T,T,T,T,T,T,T,T,F,F,T,F,F] rfl ?_
      refine pd_ (i:=13) (N:=some 28) #[T,T,T,T,T,T,T,T,T,T,T,T,T,T,F,T,F,F] rfl ?_
      refine pd_ (i:=14) (N:=some 29) #[T,T,T,T,T,T,T,T,T,T,T,T,T,T,T,T,F,F] rfl ?_
      exact nj_ (hCont (.slice Ao5_0 t4.length co5_0,.slice Ao4 y2.length co4,gb6_,(w6_.heap.size),(w5_.heap.size),f5_) _ ⟨hHeld,HO0_4.out,HO0_5.out,HO0_6.out,BK1.out,BK2.out,HK.out,HB.out,(ho_ HS),(by have:=HS.out;(try dsimp only);omega),HO5_0.out,BK6.out,(by have:=HS.out;(try dsimp only);omega)⟩)
    ·skip
     refine bo_ (N:=5) (cs:=#[.int .i64 0,.slice none 0 0,.int .i64 0]) (t:=36) ?_
     intro gb6_ hg w6_ hbox hb
     replace HS:=aHg HS hg hbox
     revert HO0_1 HO0_4 HO0_5 HO0_6 HK BK1 BK2 HB
     refine aD hb ?_
     intro HO0_1 HO0_4 HO0_5 HO0_6 HK BK1 BK2 HB
     have BK6:=A_.mk hbox
     clear hbox hb hg
     refine hK.out _ _ ⟨aa BK1.out,ak BK2.out⟩ (fun hHeld=>?_)
     clear hK K
     refine nm_ ?_
     refine on_ (i:=10) (N:=some 26) #[T,T,T,T,T,T,T,T,T,T,T,F,F,F,F,T,F,F] rfl (fun K hK=>?_)
     refine Kd.fB (Kd.int .i64) (w0:=w) w.heap.size 3 (by rfl) (N:=26) rfl (xs:=[(wrap64 (Int.tdiv a1_1 256)),(Int.tmod a1_1 256)]) (inner:=[(.int .i64 (wrap64 (Int.tdiv a1_1 256))),(.int .i64 (Int.tmod a1_1 256))]) (ok:=fun k_=>w6_.heap.size≤k_) (okp:=fun k_=>w6_.heap.size≤k_) ?lR ?lP (fun _ hk=>hk) (Nat.le_refl _) HB.out HB.out.size (by simp) ?_
     case lR=>first|(go_simp;done)|(go_simp;rfl)
     case lP=>exact (Reps.one (show Kd.M (Kd.int .i64) _ _ _ (wrap64 (Int.tdiv a1_1 256)) [.int .i64 (wrap64 (Int.tdiv a1_1 256))] from rfl) (Reps.one (show Kd.M (Kd.int .i64) _ _ _ (Int.tmod a1_1 256) [.int .i64 (Int.tmod a1_1 256)] from rfl) (Reps.none _ _)))
     intro v_ w4_ ho hbb hg_ hn_
     clear hn_
     rw [←Ny2.out] at ho
     have hkp:Kept w6_ w4_ (fun k_=>k_<0):=Kept.aZ hg_ (Kept.refl _ _) (fun k_ e_=>by cases e_)
     replace HK:=kt_ HK hkp HS
     revert HO0_1 HO0_4 HO0_5 HO0_6 BK1 BK2 BK6
     refine bC hkp HS ?_
     intro HO0_1 HO0_4 HO0_5 HO0_6 BK1 BK2 BK6
     replace HS:=aHs HS hkp.1
     obtain⟨Ao4,co4,ev_⟩:=Kd.aX ho
     subst ev_
     have HO4:=A_.mk (Kd.aC (ok':=(fun k_=>((w6_.heap.size≤k_∧k_<w4_.heap.size)))) (Kd.bP ho) (fun k_ hk_=>⟨hk_.1,hk_.2.2.1⟩))
     replace HB:=A_.mk hbb
     clear hkp hbb hg_ ho
     refine hK.out _ _ ⟨aa BK1.out,ak BK2.out⟩ (fun hHeld=>?_)
     clear hK K
     refine nm_ ?_
     refine on_ (i:=11) (N:=some 27) #[T,T,T,T,T,T,T,T,T,T,T,T,F,F,F,T,F,F] rfl (fun K hK=>?_)
     refine gz_ Tryz.func85 #[.agg #[.int .i64 a0_0,.slice A0_1 l0_1.length c0_1,.int .i64 a0_2],.slice Ao4 y2.length co4] ?_
     with_reducible refine (eH.calls k a0_0 _ _ l0_1 a0_2 _ _ y2 t3 t4 t5 t6 _ (dV HO0_1) (dS HO0_1) (je HO4) (jB HO4) A5.out).mono ?_
     rintro e w5_ ⟨f5_,v0_,rfl,ho0_,hb⟩
     refine⟨_,rfl,?_⟩
     replace HS:=aHs HS hb.size
     obtain⟨Ao5_0,co5_0,rfl,HO5_0⟩:=sSn ho0_ HB.out.size
     revert HK HO0_1 HO0_4 HO0_5 HO0_6 BK1 BK2 BK6 HO4 HB
     refine aD hb ?_
     intro HK HO0_1 HO0_4 HO0_5 HO0_6 BK1 BK2 BK6 HO4 HB
     clear hb ho0_
     refine hK.out _ _ ⟨aa BK1.out,ak BK2.out⟩ (fun hHeld=>?_)
     clear hK K
     refine nm_ ?_
     refine pd_ (i:=12) (N:=some 15) #[T,T,T,T,T,T,T,T,T,T,T,T,T,F,F,T,F,F] rfl ?_
     refine pd_ (i:=13) (N:=some 28) #[T,T,T,T,T,T,T,T,T,T,T,T,T,T,F,T,F,F] rfl ?_
     refine pd_ (i:=14) (N:=some 29) #[T,T,T,T,T,T,T,T,T,T,T,T,T,T,T,T,F,F] rfl ?_
     exact nj_ (hCont (.slice Ao5_0 t4.length co5_0,.slice Ao4 y2.length co4,gb6_,(w4_.heap.size),(w5_.heap.size),f5_) _ ⟨hHeld,HO0_4.out,HO0_5.out,HO0_6.out,BK1.out,BK2.out,HK.out,HB.out,(ho_ HS),(by have:=HS.out;(try dsimp only);omega),HO5_0.out,BK6.out,(by have:=HS.out;(try dsimp only);omega)⟩)
   rintro⟨z0_,z1_,gb6_,lo18j_,up18j_,f5_⟩ w18j_ ⟨hHeld,m0_,m1_,m2_,m3_,m4_,m5_,m6_,m7_,m8_,m9_,m10_,m11_⟩
   replace HO0_4:=A_.mk m0_
   replace HO0_5:=A_.mk m1_
   replace HO0_6:=A_.mk m2_
   replace BK1:=A_.mk m3_
   replace BK2:=A_.mk m4_
   replace HK:=A_.mk m5_
   replace HB:=A_.mk m6_
   replace HS:=A_.mk (And.intro HS.out m7_)
   replace HS:=A_.mk (And.intro HS.out (show w18d_.heap.size≤lo18j_∧lo18j_≤up18j_∧up18j_≤w18j_.heap.size from m8_))
   obtain⟨Ao5_0,co5_0,ev_⟩:=Kd.dx m9_
   replace ev_:z0_=_:=ev_
   subst ev_
   have HO5_0:=A_.mk (show Kd.S k68 68 w18j_ w.heap.size (fun k_=>((lo18j_≤k_∧k_<up18j_)∧f5_ k_=0)) (.slice Ao5_0 t4.length co5_0) t4 from m9_)
   have BK6:=A_.mk (show w18j_.heap[gb6_]?=some (.cells #[.int .i64 0,.slice none 0 0,.int .i64 0] 36 (0,0)) from m10_)
   replace HS:=A_.mk (And.intro HS.out (show w18d_.heap.size≤gb6_∧gb6_<w18j_.heap.size∧(gb6_<lo18j_∨up18j_≤gb6_) from m11_))
   clear m0_ m1_ m2_ m3_ m4_ m5_ m6_ m7_ m8_ m9_ m10_ m11_
   refine lD (a':=?_) ?_ ?_
   rotate_left
   ·simp only [putAll,Act.put,List.setIfInBounds_toArray,List.set_cons_zero,List.set_cons_succ]
    rfl
   refine gG (i:=16) (N:=none) #[T,T,T,T,T,T,T,T,T,T,T,T,T,T,T,T,T,F] rfl rfl (by kernel_rfl) (by decide) (fun K hK=>?_)
   have Q1:=aa BK1.out
   have Q2:=ak BK2.out
   have Q6:=av BK6.out
   obtain⟨qf0,qf1,qf2⟩:=eT BK6
   obtain⟨w7_,hw⟩:=lw_ ((iN w18j_ gb6_ (.int .i64 t3) (.slice Ao5_0 t4.length co5_0) (.int .i64 t5)))
   refine fT (w1:=w7_) (by rfl) rfl ?_ ?_
   ·rw [hw];go_simp;try rfl
   refine hK.out _ _ ?_
   clear hK K qf0 qf1 qf2 Q1 Q2 Q6
   obtain⟨hbx,hkp,hbb⟩:=iT hw BK6 HB (ho_ HS)
   clear hw
   replace HK:=kt_ HK hkp HS
   revert HO0_4 HO0_5 HO0_6 BK1 BK2 HO5_0
   refine bC hkp HS ?_
   intro HO0_4 HO0_5 HO0_6 BK1 BK2 HO5_0
   replace BK6:=A_.mk hbx
   replace HB:=A_.mk hbb
   replace HS:=aHs HS hkp.1
   clear hkp hbb hbx
   refine pd_ (i:=17) (N:=some 6) #[T,T,T,T,T,T,T,T,T,T,T,T,T,T,T,T,T,T] rfl ?_
   refine fA (by kernel_rfl) ?_
   have Q1:=aa BK1.out
   have Q6:=av BK6.out
   go_wp2_with (first|((with_reducible refine ae (t:=36) (p:=33) rfl ?_);obtain⟨qf0,qf1,qf2⟩:=eT BK1;refine so_ (w1:=(((w7_.setCell ⟨gb1_,0,none⟩ (.int .i64 t3)).setCell ⟨gb1_,1,none⟩ (.slice Ao5_0 t4.length co5_0)).setCell ⟨gb1_,2,none⟩ (.int .i64 t5))) ?_;intro w8_ hw;clear qf0 qf1 qf2;obtain⟨hbx,hkp,hbb⟩:=jd hw BK1 HB (ho_ HS);clear hw;replace HK:=kt_ HK hkp HS;revert HO0_4 HO0_5 HO0_6 HO5_0;refine bC hkp HS ?_;intro HO0_4 HO0_5 HO0_6 HO5_0;replace BK1:=A_.mk hbx;replace HB:=A_.mk hbb;replace HS:=aHs HS hkp.1;clear hkp hbb hbx Q1 Q6))
   go_ret
   obtain⟨f_,hf_⟩:=mS_ HO5_0 0 (mS_ HO0_4 1 (mS_ HO0_5 2 (mR_ HO0_6 3 (m0_ 4))))
   have hfk_:∀ k_,k_<w1.heap.size→f_ k_<4→k_=gb1_∨f0_ k_<4:=fun k_ h1_ h2_=>by have:=HS.out;rw [hf_] at h2_;repeat' (first|omega|split at h2_)
   first|exact ⟨f_,_,_,_,_,rfl,BK1.out,cS_ HO5_0 HS hf_,cS_ HO0_4 HS hf_,cS_ HO0_5 HS hf_,cR_ HO0_6 HS hf_,hfk_,HB.out,HK.out⟩|exact ⟨rfl,f_,_,_,_,_,BK1.out,cS_ HO5_0 HS hf_,cS_ HO0_4 HS hf_,cS_ HO0_5 HS hf_,cR_ HO0_6 HS hf_,hfk_,HB.out,HK.out⟩
  rw [if_neg hc2_] at H
  replace hc2_:=eq_false_of_ne_true hc2_
  subst hc2_
  replace H:=il H
  obtain⟨rfl,rfl,rfl,rfl,rfl,rfl,rfl,rfl⟩:=H
  go_wp2
  go_ret
  obtain⟨f_,hf_⟩:=mS_ HO0_1 0 (mS_ HO0_4 1 (mS_ HO0_5 2 (mR_ HO0_6 3 (m0_ 4))))
  have hfk_:∀ k_,k_<w1.heap.size→f_ k_<4→k_=gb1_∨f0_ k_<4:=fun k_ h1_ h2_=>by have:=HS.out;rw [hf_] at h2_;repeat' (first|omega|split at h2_)
  first|exact ⟨f_,_,_,_,_,rfl,BK1.out,cS_ HO0_1 HS hf_,cS_ HO0_4 HS hf_,cS_ HO0_5 HS hf_,cR_ HO0_6 HS hf_,hfk_,HB.out,HK.out⟩|exact ⟨rfl,f_,_,_,_,_,BK1.out,cS_ HO0_1 HS hf_,cS_ HO0_4 HS hf_,cS_ HO0_5 HS hf_,cR_ HO0_6 HS hf_,hfk_,HB.out,HK.out⟩
 rw [if_neg hc1_] at H
 have hc1_b:=iE hc1_
 by_cases hc3_:a1_0=1
 case pos =>
  rw [if_pos hc3_] at H
  replace hc3_:=iF hc3_
  replace H:=oa_ H
  obtain⟨⟨t7,t8,t9,t10,t11,t12,t13,t14⟩,A9,H⟩:=H
  try dsimp only at H
  replace H:=il H
  obtain⟨rfl,rfl,rfl,rfl,rfl,rfl,rfl,rfl⟩:=H
  have hu36:=Tryz.underlying36
  have hu39:=Tryz.underlying39
  have hu43:=Tryz.underlying43
  go_enter Tryz.func42,Tryz.ntmps42
  go_wp2_with (first|((with_reducible refine gd_ (N:=3) rfl ?_);refine by_ 3 (cs:=#[.int .i64 a1_0,.int .i64 a1_1]) (t:=43) ?_;intro gb2_ hg w2_ hbox hb;replace HS:=aHg HS hg hbox;revert HO0_1 HO0_4 HO0_5 HO0_6 BK1 HK HB;refine aD hb ?_;intro HO0_1 HO0_4 HO0_5 HO0_6 BK1 HK HB;have BK2:=A_.mk hbox;clear hbox hb hg;have Q2:=ak BK2.out))
  obtain⟨fp9_,hfp_⟩:=mS_ HO0_1 0 (mS_ HO0_4 1 (mS_ HO0_5 2 (mR_ HO0_6 3 (m0_ 4))))
  refine(g_.calls k gb1_ fp9_ a0_0 _ _ l0_1 a0_2 a0_3 _ _ l0_4 _ _ l0_5 _ _ l0_6 t7 t8 t9 t10 t11 t12 t13 t14 w _ HB.out (ho_ HS) BK1.out (cS_ HO0_1 HS hfp_) (cS_ HO0_4 HS hfp_) (cS_ HO0_5 HS hfp_) (cR_ HO0_6 HS hfp_) A9.out).mono ?_
  rintro e w9_ ⟨f9_,v0_,v1_,v2_,v3_,rfl,hbx_,ho1_,ho2_,ho3_,ho4_,hfk_,hbb,hkp⟩
  replace HK:=A_.mk (HK.out.jW hkp (fun k_ h_=>by have:=HS.out;have h3_:=hfp_ k_;(try dsimp only at h_ ⊢);repeat' (first|omega|split at h3_)))
  have HF9:=A_.mk hfk_
  have HFP9:=A_.mk hfp_
  replace BK1:=A_.mk hbx_
  replace HB:=A_.mk hbb
  replace HS:=aHs HS hkp.1
  clear hfk_ 
  obtain⟨Ao9_0,co9_0,rfl,HO9_0⟩:=sS_ ho1_
  obtain⟨Ao9_1,co9_1,rfl,HO9_1⟩:=sS_ ho2_
  obtain⟨Ao9_2,co9_2,rfl,HO9_2⟩:=sS_ ho3_
  obtain⟨Ao9_3,co9_3,rfl,HO9_3⟩:=sR_ ho4_
  clear hkp hbx_ hbb hfp_ ho1_ ho2_ ho3_ ho4_ Q2
  go_wp2
  go_ret
  obtain⟨f_,hf_⟩:=mS_ HO9_0 0 (mS_ HO9_1 1 (mS_ HO9_2 2 (mR_ HO9_3 3 (m0_ 4))))
  have hfk_:∀ k_,k_<w1.heap.size→f_ k_<4→k_=gb1_∨f0_ k_<4:=fun k_ h1_ h2_=>by have:=HS.out;rw [hf_] at h2_;have q9_:=HF9.out k_;have p9_:=HFP9.out k_;repeat' (first|omega|split at h2_|split at p9_)
  first|exact ⟨f_,_,_,_,_,rfl,BK1.out,cS_ HO9_0 HS hf_,cS_ HO9_1 HS hf_,cS_ HO9_2 HS hf_,cR_ HO9_3 HS hf_,hfk_,HB.out,HK.out⟩|exact ⟨rfl,f_,_,_,_,_,BK1.out,cS_ HO9_0 HS hf_,cS_ HO9_1 HS hf_,cS_ HO9_2 HS hf_,cR_ HO9_3 HS hf_,hfk_,HB.out,HK.out⟩
 rw [if_neg hc3_] at H
 have hc3_b:=iE hc3_
 by_cases hc4_:a1_0=2
 case pos =>
  rw [if_pos hc4_] at H
  replace hc4_:=iF hc4_
  replace H:=oa_ H
  obtain⟨⟨t15,t16,t17,t18,t19,t20,t21,t22⟩,A10,H⟩:=H
  try dsimp only at H
  replace H:=il H
  obtain⟨rfl,rfl,rfl,rfl,rfl,rfl,rfl,rfl⟩:=H
  have hu36:=Tryz.underlying36
  have hu39:=Tryz.underlying39
  have hu43:=Tryz.underlying43
  go_enter Tryz.func42,Tryz.ntmps42
  go_wp2_with (first|((with_reducible refine gd_ (N:=3) rfl ?_);refine by_ 3 (cs:=#[.int .i64 a1_0,.int .i64 a1_1]) (t:=43) ?_;intro gb2_ hg w2_ hbox hb;replace HS:=aHg HS hg hbox;revert HO0_1 HO0_4 HO0_5 HO0_6 BK1 HK HB;refine aD hb ?_;intro HO0_1 HO0_4 HO0_5 HO0_6 BK1 HK HB;have BK2:=A_.mk hbox;clear hbox hb hg;have Q2:=ak BK2.out))
  obtain⟨fp10_,hfp_⟩:=mS_ HO0_1 0 (mS_ HO0_4 1 (mS_ HO0_5 2 (mR_ HO0_6 3 (m0_ 4))))
  refine(ed.calls k gb1_ fp10_ a0_0 _ _ l0_1 a0_2 a0_3 _ _ l0_4 _ _ l0_5 _ _ l0_6 t15 t16 t17 t18 t19 t20 t21 t22 w _ HB.out (ho_ HS) BK1.out (cS_ HO0_1 HS hfp_) (cS_ HO0_4 HS hfp_) (cS_ HO0_5 HS hfp_) (cR_ HO0_6 HS hfp_) A10.out).mono ?_
  rintro e w10_ ⟨f10_,v0_,v1_,v2_,v3_,rfl,hbx_,ho1_,ho2_,ho3_,ho4_,hfk_,hbb,hkp⟩
  replace HK:=A_.mk (HK.out.jW hkp (fun k_ h_=>by have:=HS.out;have h3_:=hfp_ k_;(try dsimp only at h_ ⊢);repeat' (first|omega|split at h3_)))
  have HF10:=A_.mk hfk_
  have HFP10:=A_.mk hfp_
  replace BK1:=A_.mk hbx_
  replace HB:=A_.mk hbb
  replace HS:=aHs HS hkp.1
  clear hfk_ 
  obtain⟨Ao10_0,co10_0,rfl,HO10_0⟩:=sS_ ho1_
  obtain⟨Ao10_1,co10_1,rfl,HO10_1⟩:=sS_ ho2_
  obtain⟨Ao10_2,co10_2,rfl,HO10_2⟩:=sS_ ho3_
  obtain⟨Ao10_3,co10_3,rfl,HO10_3⟩:=sR_ ho4_
  clear hkp hbx_ hbb hfp_ ho1_ ho2_ ho3_ ho4_ Q2
  go_wp2
  go_ret
  obtain⟨f_,hf_⟩:=mS_ HO10_0 0 (mS_ HO10_1 1 (mS_ HO10_2 2 (mR_ HO10_3 3 (m0_ 4))))
  have hfk_:∀ k_,k_<w1.heap.size→f_ k_<4→k_=gb1_∨f0_ k_<4:=fun k_ h1_ h2_=>by have:=HS.out;rw [hf_] at h2_;have q10_:=HF10.out k_;have p10_:=HFP10.out k_;repeat' (first|omega|split at h2_|split at p10_)
  first|exact ⟨f_,_,_,_,_,rfl,BK1.out,cS_ HO10_0 HS hf_,cS_ HO10_1 HS hf_,cS_ HO10_2 HS hf_,cR_ HO10_3 HS hf_,hfk_,HB.out,HK.out⟩|exact ⟨rfl,f_,_,_,_,_,BK1.out,cS_ HO10_0 HS hf_,cS_ HO10_1 HS hf_,cS_ HO10_2 HS hf_,cR_ HO10_3 HS hf_,hfk_,HB.out,HK.out⟩
 rw [if_neg hc4_] at H
 have hc4_b:=iE hc4_
 by_cases hc5_:a1_0=3
 case pos =>
  rw [if_pos hc5_] at H
  replace hc5_:=iF hc5_
  replace H:=oa_ H
  obtain⟨t23,A11,H⟩:=H
  replace H:=A_.mk H
  have hu36:=Tryz.underlying36
  have hu39:=Tryz.underlying39
  have hu43:=Tryz.underlying43
  go_enter Tryz.func42,Tryz.ntmps42
  go_wp2_with (first|((with_reducible refine gd_ (N:=3) rfl ?_);refine by_ 3 (cs:=#[.int .i64 a1_0,.int .i64 a1_1]) (t:=43) ?_;intro gb2_ hg w2_ hbox hb;replace HS:=aHg HS hg hbox;revert HO0_1 HO0_4 HO0_5 HO0_6 BK1 HK HB;refine aD hb ?_;intro HO0_1 HO0_4 HO0_5 HO0_6 BK1 HK HB;have BK2:=A_.mk hbox;clear hbox hb hg;have Q2:=ak BK2.out))
  refine dN (n:=10) (S:=fun w'=>(w'.cell? ⟨gb1_,0,none⟩=some (.int .i64 a0_0)∧w'.cell? ⟨gb1_,1,none⟩=some (.slice A0_1 l0_1.length c0_1)∧w'.cell? ⟨gb1_,2,none⟩=some (.int .i64 a0_2)∧w'.cell? ⟨gb1_,3,none⟩=some (.int .i64 a0_3)∧w'.cell? ⟨gb1_,4,none⟩=some (.slice A0_4 l0_4.length c0_4)∧w'.cell? ⟨gb1_,5,none⟩=some (.slice A0_5 l0_5.length c0_5)∧w'.cell? ⟨gb1_,6,none⟩=some (.slice A0_6 l0_6.length c0_6))∧(w'.cell? ⟨gb2_,0,none⟩=some (.int .i64 a1_0)∧w'.cell? ⟨gb2_,1,none⟩=some (.int .i64 a1_1))) (ds:=[]) #[F,F,F,F,F,F,F,F,F,F] (by kernel_rfl) rfl rfl ⟨aa BK1.out,ak BK2.out⟩ (fun hHeld=>?_)
  clear Q2
  have hb:=aV (Below.refl w2_.heap.size w2_)
  revert HS HO0_1 HO0_4 HO0_5 HO0_6 BK1 HK HB BK2
  refine aD hb ?_
  intro HS HO0_1 HO0_4 HO0_5 HO0_6 BK1 HK HB BK2
  clear hb
  generalize w2_.drew=w19d_ at HO0_1 HO0_4 HO0_5 HO0_6 HK BK1 BK2 HB HS hHeld ⊢
  refine pd_ (i:=0) (N:=some 45) #[T,F,F,F,F,F,F,F,F,F] rfl ?_
  refine tl_ (i:=1) (N:=some 46) #[T,T,F,F,F,F,F,F,F,F] rfl hHeld ?_
  refine pd_ (i:=2) (N:=some 47) #[T,T,T,F,F,F,F,F,F,F] rfl ?_
  refine pd_ (i:=3) (N:=some 48) #[T,T,T,T,F,F,F,F,F,F] rfl ?_
  refine pd_ (i:=4) (N:=some 49) #[T,T,T,T,T,F,F,F,F,F] rfl ?_
  refine tl_ (i:=5) (N:=some 50) #[T,T,T,T,T,T,F,F,F,F] rfl hHeld ?_
  refine pd_ (i:=6) (N:=some 51) #[T,T,T,T,T,T,T,F,F,F] rfl ?_
  refine pd_ (i:=7) (N:=some 52) #[T,T,T,T,T,T,T,T,F,F] rfl ?_
  refine on_ (i:=8) (N:=some 53) #[T,T,T,T,T,T,T,T,T,F] rfl (fun K hK=>?_)
  refine gz_ Tryz.func83 #[.int .i64 a1_1,.int .i64 0,.int .i64 (wrap64 ((l0_5.length:Int)-1))] ?_
  with_reducible refine (bE.calls a1_1 0 (wrap64 ((l0_5.length:Int)-1)) t23 _ A11.out).mono ?_
  rintro e w11_ ⟨rfl,hb⟩
  refine⟨_,rfl,?_⟩
  replace hb:=Drawn0.below hb
  revert HO0_1 HO0_4 HO0_5 HO0_6 HK BK1 BK2 HB HS
  refine aD hb ?_
  intro HO0_1 HO0_4 HO0_5 HO0_6 HK BK1 BK2 HB HS
  clear hb 
  refine hK.out _ _ ⟨aa BK1.out,ak BK2.out⟩ (fun hHeld=>?_)
  clear hK K
  refine nm_ ?_
  refine pd_ (i:=9) (N:=some 54) #[T,T,T,T,T,T,T,T,T,T] rfl ?_
  refine fA (by kernel_rfl) ?_
  have Q1:=aa BK1.out
  have Q2:=ak BK2.out
  replace H:=H.out
  by_cases hc6_:t23=true
  case pos =>
   rw [if_pos hc6_] at H
   subst hc6_
   replace H:=ky H
   obtain⟨hp12_,hq12_,H⟩:=H
   have EB12:=A_.mk (And.intro hp12_ hq12_)
   clear hp12_ hq12_
   obtain⟨y24,Ny24⟩:=le_ ((l0_5.eraseIdx (a1_1).toNat))
   rw [←Ny24.out] at H
   replace H:=il H
   obtain⟨rfl,rfl,rfl,rfl,rfl,rfl,rfl,rfl⟩:=H
   go_wp2_with (fail)
   refine dN (n:=14) (S:=fun w'=>(w'.cell? ⟨gb1_,0,none⟩=some (.int .i64 a0_0)∧w'.cell? ⟨gb1_,1,none⟩=some (.slice A0_1 l0_1.length c0_1)∧w'.cell? ⟨gb1_,2,none⟩=some (.int .i64 a0_2)∧w'.cell? ⟨gb1_,3,none⟩=some (.int .i64 a0_3)∧w'.cell? ⟨gb1_,4,none⟩=some (.slice A0_4 l0_4.length c0_4)∧w'.cell? ⟨gb1_,5,none⟩=some (.slice A0_5 l0_5.length c0_5)∧w'.cell? ⟨gb1_,6,none⟩=some (.slice A0_6 l0_6.length c0_6))∧(w'.cell? ⟨gb2_,0,none⟩=some (.int .i64 a1_0)∧w'.cell? ⟨gb2_,1,none⟩=some (.int .i64 a1_1))) (ds:=[13]) #[F,F,F,F,F,F,F,F,F,F,F,F,F,F] (by kernel_rfl) rfl rfl ⟨aa BK1.out,ak BK2.out⟩ (fun hHeld=>?_)
   clear Q1 Q2
   have hb:=aV (Below.refl w11_.heap.size w11_)
   replace HS:=aHs HS hb.size
   replace HO0_1:=aSb HO0_1 hb
   replace HO0_4:=aSb HO0_4 hb
   replace HO0_5:=aSb HO0_5 hb
   replace HO0_6:=aRb HO0_6 hb
   replace BK1:=aBb BK1 hb
   replace BK2:=aBb BK2 hb
   replace HK:=aKb HK hb
   replace HB:=aHB HB hb
   clear hb
   generalize w11_.drew=w20d_ at HO0_1 HO0_4 HO0_5 HO0_6 HK BK1 BK2 HB HS hHeld ⊢
   refine pd_ (i:=0) (N:=some 55) #[T,F,F,F,F,F,F,F,F,F,F,F,F,F] rfl ?_
   refine pd_ (i:=1) (N:=some 56) #[T,T,F,F,F,F,F,F,F,F,F,F,F,F] rfl ?_
   refine pd_ (i:=2) (N:=some 57) #[T,T,T,F,F,F,F,F,F,F,F,F,F,F] rfl ?_
   refine pd_ (i:=3) (N:=some 58) #[T,T,T,T,F,F,F,F,F,F,F,F,F,F] rfl ?_
   refine tl_ (i:=4) (N:=some 59) #[T,T,T,T,T,F,F,F,F,F,F,F,F,F] rfl hHeld ?_
   refine pd_ (i:=5) (N:=some 60) #[T,T,T,T,T,T,F,F,F,F,F,F,F,F] rfl ?_
   refine tl_ (i:=6) (N:=some 61) #[T,T,T,T,T,T,T,F,F,F,F,F,F,F] rfl hHeld ?_
   refine pd_ (i:=7) (N:=some 62) #[T,T,T,T,T,T,T,T,F,F,F,F,F,F] rfl ?_
   refine tl_ (i:=8) (N:=some 63) #[T,T,T,T,T,T,T,T,T,F,F,F,F,F] rfl hHeld ?_
   refine pd_ (i:=9) (N:=some 64) #[T,T,T,T,T,T,T,T,T,T,F,F,F,F] rfl ?_
   refine on_ (i:=10) (N:=some 65) #[T,T,T,T,T,T,T,T,T,T,T,F,F,F] rfl (fun K hK=>?_)
   obtain⟨gd12_,ed_⟩:=mI HO0_5.out (by have:=EB12.out;omega)
   subst ed_
   refine gz_ Tryz.func86 #[.slice (some ⟨gd12_,0,none⟩) l0_5.length c0_5,.int .i64 a1_1,.int .i64 (wrap64 (a1_1+1))] ?_
   refine(jK.calls (fun k_=>((w.heap.size≤k_∧k_<w1.heap.size)∧k_≠gb1_∧f0_ k_=2)) _ _ _ l0_5 a1_1 w _ HB.out HO0_5.out EB12.out.1 EB12.out.2).mono ?_
   rintro e w12_ ⟨he_,ho,hb2,hkp⟩
   rw [←Ny24.out] at ho
   have hl_:=(Kd.eF ho).1
   rw [hl_] at he_ ho
   subst he_
   clear hl_
   refine⟨_,rfl,?_⟩
   replace hkp:=Kept.mono (S':=fun k_=>((w.heap.size≤k_∧k_<w1.heap.size)∧k_≠gb1_∧f0_ k_=2)) hkp (fun k_ e_=>by subst e_;exact(Kd.S_R HO0_5.out).1 _ rfl)
   replace HK:=kt_ HK hkp HS
   replace HO0_1:=aSk HO0_1 hkp HS
   replace HO0_4:=aSk HO0_4 hkp HS
   replace HO0_6:=aRk HO0_6 hkp HS
   replace BK1:=aBk BK1 hkp HS
   replace BK2:=aBk BK2 hkp HS
   replace HS:=aHs HS hkp.1
   have HO12:=A_.mk ho
   replace HB:=A_.mk hb2
   clear hkp hb2 ho HO0_5
   refine hK.out _ _ ⟨aa BK1.out,ak BK2.out⟩ (fun hHeld=>?_)
   clear hK K
   refine nm_ ?_
   refine pd_ (i:=11) (N:=some 66) #[T,T,T,T,T,T,T,T,T,T,T,T,F,F] rfl ?_
   refine pd_ (i:=12) (N:=some 67) #[T,T,T,T,T,T,T,T,T,T,T,T,T,F] rfl ?_
   refine gG (i:=13) (N:=none) #[T,T,T,T,T,T,T,T,T,T,T,T,T,T] rfl rfl (by kernel_rfl) (by decide) (fun K hK=>?_)
   have Q1:=aa BK1.out
   have Q2:=ak BK2.out
   have qf0:=bf_ BK1.out 5
   obtain⟨w13_,hw⟩:=lw_ ((w12_.setCell ⟨gb1_,5,none⟩ (.slice (some ⟨gd12_,0,none⟩) y24.length c0_5)))
   refine fT (w1:=w13_) (by rfl) rfl ?_ ?_
   ·rw [hw];go_simp;try rfl
   refine hK.out _ _ ?_
   clear hK K qf0 Q1 Q2
   obtain⟨hbx,hkp,hbb⟩:=j6 hw BK1 HB (ho_ HS)
   clear hw
   replace HK:=kt_ HK hkp HS
   revert HO0_1 HO0_4 HO0_6 BK2 HO12
   refine bC hkp HS ?_
   intro HO0_1 HO0_4 HO0_6 BK2 HO12
   replace BK1:=A_.mk hbx
   replace HB:=A_.mk hbb
   replace HS:=aHs HS hkp.1
   clear hkp hbb hbx
   refine fA (by kernel_rfl) ?_
   go_wp2
   go_ret
   obtain⟨f_,hf_⟩:=mS_ HO0_1 0 (mS_ HO0_4 1 (mS_ HO12 2 (mR_ HO0_6 3 (m0_ 4))))
   have hfk_:∀ k_,k_<w1.heap.size→f_ k_<4→k_=gb1_∨f0_ k_<4:=fun k_ h1_ h2_=>by have:=HS.out;rw [hf_] at h2_;repeat' (first|omega|split at h2_)
   first|exact ⟨f_,_,_,_,_,rfl,BK1.out,cS_ HO0_1 HS hf_,cS_ HO0_4 HS hf_,cS_ HO12 HS hf_,cR_ HO0_6 HS hf_,hfk_,HB.out,HK.out⟩|exact ⟨rfl,f_,_,_,_,_,BK1.out,cS_ HO0_1 HS hf_,cS_ HO0_4 HS hf_,cS_ HO12 HS hf_,cR_ HO0_6 HS hf_,hfk_,HB.out,HK.out⟩
  rw [if_neg hc6_] at H
  replace hc6_:=eq_false_of_ne_true hc6_
  subst hc6_
  replace H:=il H
  obtain⟨rfl,rfl,rfl,rfl,rfl,rfl,rfl,rfl⟩:=H
  go_wp2
  go_ret
  obtain⟨f_,hf_⟩:=mS_ HO0_1 0 (mS_ HO0_4 1 (mS_ HO0_5 2 (mR_ HO0_6 3 (m0_ 4))))
  have hfk_:∀ k_,k_<w1.heap.size→f_ k_<4→k_=gb1_∨f0_ k_<4:=fun k_ h1_ h2_=>by have:=HS.out;rw [hf_] at h2_;repeat' (first|omega|split at h2_)
  first|exact ⟨f_,_,_,_,_,rfl,BK1.out,cS_ HO0_1 HS hf_,cS_ HO0_4 HS hf_,cS_ HO0_5 HS hf_,cR_ HO0_6 HS hf_,hfk_,HB.out,HK.out⟩|exact ⟨rfl,f_,_,_,_,_,BK1.out,cS_ HO0_1 HS hf_,cS_ HO0_4 HS hf_,cS_ HO0_5 HS hf_,cR_ HO0_6 HS hf_,hfk_,HB.out,HK.out⟩
 rw [if_neg hc5_] at H
 have hc5_b:=iE hc5_
 by_cases hc7_:a1_0=4
 case pos =>
  rw [if_pos hc7_] at H
  replace hc7_:=iF hc7_
  replace H:=oa_ H
  obtain⟨⟨t25,t26,t27,t28,t29,t30,t31,t32⟩,A14,H⟩:=H
  try dsimp only at H
  replace H:=il H
  obtain⟨rfl,rfl,rfl,rfl,rfl,rfl,rfl,rfl⟩:=H
  have hu36:=Tryz.underlying36
  have hu39:=Tryz.underlying39
  have hu43:=Tryz.underlying43
  go_enter Tryz.func42,Tryz.ntmps42
  go_wp2_with (first|((with_reducible refine gd_ (N:=3) rfl ?_);refine by_ 3 (cs:=#[.int .i64 a1_0,.int .i64 a1_1]) (t:=43) ?_;intro gb2_ hg w2_ hbox hb;replace HS:=aHg HS hg hbox;revert HO0_1 HO0_4 HO0_5 HO0_6 BK1 HK HB;refine aD hb ?_;intro HO0_1 HO0_4 HO0_5 HO0_6 BK1 HK HB;have BK2:=A_.mk hbox;clear hbox hb hg;have Q2:=ak BK2.out))
  obtain⟨fp14_,hfp_⟩:=mS_ HO0_1 0 (mS_ HO0_4 1 (mS_ HO0_5 2 (mR_ HO0_6 3 (m0_ 4))))
  refine(fZ.calls k gb1_ fp14_ a0_0 _ _ l0_1 a0_2 a0_3 _ _ l0_4 _ _ l0_5 _ _ l0_6 a1_1 t25 t26 t27 t28 t29 t30 t31 t32 w _ HB.out (ho_ HS) BK1.out (cS_ HO0_1 HS hfp_) (cS_ HO0_4 HS hfp_) (cS_ HO0_5 HS hfp_) (cR_ HO0_6 HS hfp_) A14.out).mono ?_
  rintro e w14_ ⟨f14_,v0_,v1_,v2_,v3_,rfl,hbx_,ho1_,ho2_,ho3_,ho4_,hfk_,hbb,hkp⟩
  replace HK:=A_.mk (HK.out.jW hkp (fun k_ h_=>by have:=HS.out;have h3_:=hfp_ k_;(try dsimp only at h_ ⊢);repeat' (first|omega|split at h3_)))
  have HF14:=A_.mk hfk_
  have HFP14:=A_.mk hfp_
  replace BK1:=A_.mk hbx_
  replace HB:=A_.mk hbb
  replace HS:=aHs HS hkp.1
  clear hfk_ 
  obtain⟨Ao14_0,co14_0,rfl,HO14_0⟩:=sS_ ho1_
  obtain⟨Ao14_1,co14_1,rfl,HO14_1⟩:=sS_ ho2_
  obtain⟨Ao14_2,co14_2,rfl,HO14_2⟩:=sS_ ho3_
  obtain⟨Ao14_3,co14_3,rfl,HO14_3⟩:=sR_ ho4_
  clear hkp hbx_ hbb hfp_ ho1_ ho2_ ho3_ ho4_ Q2
  go_wp2
  go_ret
  obtain⟨f_,hf_⟩:=mS_ HO14_0 0 (mS_ HO14_1 1 (mS_ HO14_2 2 (mR_ HO14_3 3 (m0_ 4))))
  have hfk_:∀ k_,k_<w1.heap.size→f_ k_<4→k_=gb1_∨f0_ k_<4:=fun k_ h1_ h2_=>by have:=HS.out;rw [hf_] at h2_;have q14_:=HF14.out k_;have p14_:=HFP14.out k_;repeat' (first|omega|split at h2_|split at p14_)
  first|exact ⟨f_,_,_,_,_,rfl,BK1.out,cS_ HO14_0 HS hf_,cS_ HO14_1 HS hf_,cS_ HO14_2 HS hf_,cR_ HO14_3 HS hf_,hfk_,HB.out,HK.out⟩|exact ⟨rfl,f_,_,_,_,_,BK1.out,cS_ HO14_0 HS hf_,cS_ HO14_1 HS hf_,cS_ HO14_2 HS hf_,cR_ HO14_3 HS hf_,hfk_,HB.out,HK.out⟩
 rw [if_neg hc7_] at H
 have hc7_b:=iE hc7_
 by_cases hc8_:a1_0=5
 case pos =>
  rw [if_pos hc8_] at H
  replace hc8_:=iF hc8_
  replace H:=oa_ H
  obtain⟨⟨t33,t34,t35,t36,t37,t38,t39,t40⟩,A15,H⟩:=H
  try dsimp only at H
  replace H:=il H
  obtain⟨rfl,rfl,rfl,rfl,rfl,rfl,rfl,rfl⟩:=H
  have hu36:=Tryz.underlying36
  have hu39:=Tryz.underlying39
  have hu43:=Tryz.underlying43
  go_enter Tryz.func42,Tryz.ntmps42
  go_wp2_with (first|((with_reducible refine gd_ (N:=3) rfl ?_);refine by_ 3 (cs:=#[.int .i64 a1_0,.int .i64 a1_1]) (t:=43) ?_;intro gb2_ hg w2_ hbox hb;replace HS:=aHg HS hg hbox;revert HO0_1 HO0_4 HO0_5 HO0_6 BK1 HK HB;refine aD hb ?_;intro HO0_1 HO0_4 HO0_5 HO0_6 BK1 HK HB;have BK2:=A_.mk hbox;clear hbox hb hg;have Q2:=ak BK2.out))
  obtain⟨fp15_,hfp_⟩:=mS_ HO0_1 0 (mS_ HO0_4 1 (mS_ HO0_5 2 (mR_ HO0_6 3 (m0_ 4))))
  refine(eP.calls k gb1_ fp15_ a0_0 _ _ l0_1 a0_2 a0_3 _ _ l0_4 _ _ l0_5 _ _ l0_6 t33 t34 t35 t36 t37 t38 t39 t40 w _ HB.out (ho_ HS) BK1.out (cS_ HO0_1 HS hfp_) (cS_ HO0_4 HS hfp_) (cS_ HO0_5 HS hfp_) (cR_ HO0_6 HS hfp_) A15.out).mono ?_
  rintro e w15_ ⟨f15_,v0_,v1_,v2_,v3_,rfl,hbx_,ho1_,ho2_,ho3_,ho4_,hfk_,hbb,hkp⟩
  replace HK:=A_.mk (HK.out.jW hkp (fun k_ h_=>by have:=HS.out;have h3_:=hfp_ k_;(try dsimp only at h_ ⊢);repeat' (first|omega|split at h3_)))
  have HF15:=A_.mk hfk_
  have HFP15:=A_.mk hfp_
  replace BK1:=A_.mk hbx_
  replace HB:=A_.mk hbb
  replace HS:=aHs HS hkp.1
  clear hfk_ 
  obtain⟨Ao15_0,co15_0,rfl,HO15_0⟩:=sS_ ho1_
  obtain⟨Ao15_1,co15_1,rfl,HO15_1⟩:=sS_ ho2_
  obtain⟨Ao15_2,co15_2,rfl,HO15_2⟩:=sS_ ho3_
  obtain⟨Ao15_3,co15_3,rfl,HO15_3⟩:=sR_ ho4_
  clear hkp hbx_ hbb hfp_ ho1_ ho2_ ho3_ ho4_ Q2
  go_wp2
  go_ret
  obtain⟨f_,hf_⟩:=mS_ HO15_0 0 (mS_ HO15_1 1 (mS_ HO15_2 2 (mR_ HO15_3 3 (m0_ 4))))
  have hfk_:∀ k_,k_<w1.heap.size→f_ k_<4→k_=gb1_∨f0_ k_<4:=fun k_ h1_ h2_=>by have:=HS.out;rw [hf_] at h2_;have q15_:=HF15.out k_;have p15_:=HFP15.out k_;repeat' (first|omega|split at h2_|split at p15_)
  first|exact ⟨f_,_,_,_,_,rfl,BK1.out,cS_ HO15_0 HS hf_,cS_ HO15_1 HS hf_,cS_ HO15_2 HS hf_,cR_ HO15_3 HS hf_,hfk_,HB.out,HK.out⟩|exact ⟨rfl,f_,_,_,_,_,BK1.out,cS_ HO15_0 HS hf_,cS_ HO15_1 HS hf_,cS_ HO15_2 HS hf_,cR_ HO15_3 HS hf_,hfk_,HB.out,HK.out⟩
 rw [if_neg hc8_] at H
 have hc8_b:=iE hc8_
 by_cases hc9_:a1_0=6
 case pos =>
  rw [if_pos hc9_] at H
  replace hc9_:=iF hc9_
  replace H:=oa_ H
  obtain⟨⟨t41,t42,t43⟩,A16,H⟩:=H
  try dsimp only at H
  replace H:=il H
  obtain⟨rfl,rfl,rfl,rfl,rfl,rfl,rfl,rfl⟩:=H
  have hu36:=Tryz.underlying36
  have hu39:=Tryz.underlying39
  have hu43:=Tryz.underlying43
  go_enter Tryz.func42,Tryz.ntmps42
  go_wp2_with (first|((with_reducible refine gd_ (N:=3) rfl ?_);refine by_ 3 (cs:=#[.int .i64 a1_0,.int .i64 a1_1]) (t:=43) ?_;intro gb2_ hg w2_ hbox hb;replace HS:=aHg HS hg hbox;revert HO0_1 HO0_4 HO0_5 HO0_6 BK1 HK HB;refine aD hb ?_;intro HO0_1 HO0_4 HO0_5 HO0_6 BK1 HK HB;have BK2:=A_.mk hbox;clear hbox hb hg;have Q1:=aa BK1.out;have Q2:=ak BK2.out)|((with_reducible refine gc_ (f:=88) rfl ?_);refine gl_ (some 85) Tryz.func88 #[.agg #[.int .i64 a0_0,.slice A0_1 l0_1.length c0_1,.int .i64 a0_2]] ?_;(with_reducible refine (gX.calls k a0_0 _ _ l0_1 a0_2 t41 t42 t43 _ (dV HO0_1) (dS HO0_1) A16.out).mono ?_);rintro e w16_ ⟨f16_,v0_,rfl,ho0_,hb⟩;refine⟨_,rfl,?_⟩;replace HS:=aHs HS hb.size;obtain⟨Ao16_0,co16_0,rfl,HO16_0⟩:=sSn ho0_ HB.out.size;revert HO0_1 HO0_4 HO0_5 HO0_6 BK1 HK HB;refine aD hb ?_;intro HO0_1 HO0_4 HO0_5 HO0_6 BK1 HK HB;clear hb ho0_ Q1 Q2;have Q1:=aa BK1.out)|((with_reducible refine ae (t:=36) (p:=87) rfl ?_);obtain⟨qf0,qf1,qf2⟩:=eT BK1;refine so_ (w1:=(((w16_.setCell ⟨gb1_,0,none⟩ (.int .i64 t41)).setCell ⟨gb1_,1,none⟩ (.slice Ao16_0 t42.length co16_0)).setCell ⟨gb1_,2,none⟩ (.int .i64 t43))) ?_;intro w17_ hw;clear qf0 qf1 qf2;obtain⟨hbx,hkp,hbb⟩:=jd hw BK1 HB (ho_ HS);clear hw;replace HK:=kt_ HK hkp HS;revert HO16_0 HO0_4 HO0_5 HO0_6;refine bC hkp HS ?_;intro HO16_0 HO0_4 HO0_5 HO0_6;replace BK1:=A_.mk hbx;replace HB:=A_.mk hbb;replace HS:=aHs HS hkp.1;clear hkp hbb hbx Q1))
  go_ret
  obtain⟨f_,hf_⟩:=mS_ HO16_0 0 (mS_ HO0_4 1 (mS_ HO0_5 2 (mR_ HO0_6 3 (m0_ 4))))
  have hfk_:∀ k_,k_<w1.heap.size→f_ k_<4→k_=gb1_∨f0_ k_<4:=fun k_ h1_ h2_=>by have:=HS.out;rw [hf_] at h2_;repeat' (first|omega|split at h2_)
  first|exact ⟨f_,_,_,_,_,rfl,BK1.out,cS_ HO16_0 HS hf_,cS_ HO0_4 HS hf_,cS_ HO0_5 HS hf_,cR_ HO0_6 HS hf_,hfk_,HB.out,HK.out⟩|exact ⟨rfl,f_,_,_,_,_,BK1.out,cS_ HO16_0 HS hf_,cS_ HO0_4 HS hf_,cS_ HO0_5 HS hf_,cR_ HO0_6 HS hf_,hfk_,HB.out,HK.out⟩
 rw [if_neg hc9_] at H
 have hc9_b:=iE hc9_
 replace H:=il H
 obtain⟨rfl,rfl,rfl,rfl,rfl,rfl,rfl,rfl⟩:=H
 have hu36:=Tryz.underlying36
 have hu39:=Tryz.underlying39
 have hu43:=Tryz.underlying43
 go_enter Tryz.func42,Tryz.ntmps42
 go_wp2_with (first|((with_reducible refine gd_ (N:=3) rfl ?_);refine by_ 3 (cs:=#[.int .i64 a1_0,.int .i64 a1_1]) (t:=43) ?_;intro gb2_ hg w2_ hbox hb;replace HS:=aHg HS hg hbox;revert HO0_1 HO0_4 HO0_5 HO0_6 BK1 HK HB;refine aD hb ?_;intro HO0_1 HO0_4 HO0_5 HO0_6 BK1 HK HB;have BK2:=A_.mk hbox;clear hbox hb hg;have Q2:=ak BK2.out))
 go_ret
 obtain⟨f_,hf_⟩:=mS_ HO0_1 0 (mS_ HO0_4 1 (mS_ HO0_5 2 (mR_ HO0_6 3 (m0_ 4))))
 have hfk_:∀ k_,k_<w1.heap.size→f_ k_<4→k_=gb1_∨f0_ k_<4:=fun k_ h1_ h2_=>by have:=HS.out;rw [hf_] at h2_;repeat' (first|omega|split at h2_)
 first|exact ⟨f_,_,_,_,_,rfl,BK1.out,cS_ HO0_1 HS hf_,cS_ HO0_4 HS hf_,cS_ HO0_5 HS hf_,cR_ HO0_6 HS hf_,hfk_,HB.out,HK.out⟩|exact ⟨rfl,f_,_,_,_,_,BK1.out,cS_ HO0_1 HS hf_,cS_ HO0_4 HS hf_,cS_ HO0_5 HS hf_,cR_ HO0_6 HS hf_,hfk_,HB.out,HK.out⟩
def dC.f(k:Nat)(a0_0:Int)(l0_1:List (S68))(a0_2:Int)(a0_3:Int)(l0_4:List (List Int))(l0_5:List (List Int))(l0_6:List Int)(a1_0:Int)(a1_1:Int):Option ((Int)×(List (S68))×(Int)×(Int)×(List (List Int))×(List (List Int))×(List Int)×(Bool)):=((gW.f k a0_0 l0_1 a0_2 a0_3 l0_4 l0_5 l0_6).bind fun ⟨t1,t2,t3,t4,t5,t6,t7⟩=>((iG.f k a0_0 l0_1 a0_2 a0_3 l0_4 l0_5 l0_6).bind fun t8=>(if t8=true then ((gD.f k t1 t2 t3 t4 t5 t6 t7 a1_0 a1_1).bind fun ⟨t9,t10,t11,t12,t13,t14,t15,t16⟩=>(some (t10,t11,t12,t13,t14,t15,t16,t9))) else (some (t1,t2,t3,t4,t5,t6,t7,false)))))
theorem dC.calls(k:Nat)(a0_0:Int)(A0_1:Option Addr)(c0_1:Nat)(l0_1:List (S68))(a0_2:Int)(a0_3:Int)(A0_4:Option Addr)(c0_4:Nat)(l0_4:List (List Int))(A0_5:Option Addr)(c0_5:Nat)(l0_5:List (List Int))(A0_6:Option Addr)(c0_6:Nat)(l0_6:List Int)(a1_0:Int)(a1_1:Int)(r1:Int)(r2:List (S68))(r3:Int)(r4:Int)(r5:List (List Int))(r6:List (List Int))(r7:List Int)(r8:Bool)(w:World)(hr0_1:Kd.C k68 w A0_1 l0_1.length l0_1)(hc0_1:l0_1.length≤c0_1)(hr0_4:Kd.C (Kd.slice 3 (Kd.int .i64)) w A0_4 l0_4.length l0_4)(hc0_4:l0_4.length≤c0_4)(hr0_5:Kd.C (Kd.slice 3 (Kd.int .i64)) w A0_5 l0_5.length l0_5)(hc0_5:l0_5.length≤c0_5)(hr0_6:Kd.C (Kd.int .i64) w A0_6 l0_6.length l0_6)(hc0_6:l0_6.length≤c0_6)(h:dC.f k a0_0 l0_1 a0_2 a0_3 l0_4 l0_5 l0_6 a1_0 a1_1=some (r1,r2,r3,r4,r5,r6,r7,r8)) :
  Calls Tryz.prog 10 #[.agg #[.int .i64 a0_0,.slice A0_1 l0_1.length c0_1,.int .i64 a0_2,.int .i64 a0_3,.slice A0_4 l0_4.length c0_4,.slice A0_5 l0_5.length c0_5,.slice A0_6 l0_6.length c0_6],.agg #[.int .i64 a1_0,.int .i64 a1_1]] w fun e w'=>∃ f_:Nat→Nat,∃ v0_ v1_ v2_ v3_:Value,e=.returned (.tuple #[.agg #[.int .i64 r1,v0_,.int .i64 r3,.int .i64 r4,v1_,v2_,v3_],.bool r8])∧Kd.S k68 68 w' w.heap.size (fun k_=>f_ k_=0) v0_ r2∧Kd.S (Kd.slice 3 (Kd.int .i64)) 28 w' w.heap.size (fun k_=>f_ k_=1) v1_ r5∧Kd.S (Kd.slice 3 (Kd.int .i64)) 28 w' w.heap.size (fun k_=>f_ k_=2) v2_ r6∧Kd.R (Kd.int .i64) 3 w' w.heap.size (fun k_=>f_ k_=3) v3_ r7∧Below w.heap.size w w':=by
 have HR0_1:=A_.mk hr0_1
 have HC0_1:=A_.mk hc0_1
 clear hr0_1 hc0_1
 have HR0_4:=A_.mk hr0_4
 have HC0_4:=A_.mk hc0_4
 clear hr0_4 hc0_4
 have HR0_5:=A_.mk hr0_5
 have HC0_5:=A_.mk hc0_5
 clear hr0_5 hc0_5
 have HR0_6:=A_.mk hr0_6
 have HC0_6:=A_.mk hc0_6
 clear hr0_6 hc0_6
 have HB:=A_.mk (Below.refl w.heap.size w)
 unfold dC.f at h
 have H:=h
 clear h
 replace H:=oa_ H
 obtain⟨⟨t1,t2,t3,t4,t5,t6,t7⟩,A4,H⟩:=H
 try dsimp only at H
 replace H:=oa_ H
 obtain⟨t8,A7,H⟩:=H
 replace H:=A_.mk H
 have hu39:=Tryz.underlying39
 have hu43:=Tryz.underlying43
 go_enter Tryz.func10,Tryz.ntmps10
 have HS:=A_.mk (Nat.le_refl w.heap.size)
 go_wp2_with (first|((with_reducible refine gd_ (N:=2) rfl ?_);refine by_ 2 (cs:=#[.int .i64 a0_0,.slice A0_1 l0_1.length c0_1,.int .i64 a0_2,.int .i64 a0_3,.slice A0_4 l0_4.length c0_4,.slice A0_5 l0_5.length c0_5,.slice A0_6 l0_6.length c0_6]) (t:=39) ?_;intro gb1_ hg w1_ hbox hb;replace HS:=aHg HS hg hbox;replace HB:=aHB HB hb;have BK1:=A_.mk hbox;clear hbox hb hg)|((with_reducible refine gd_ (N:=3) rfl ?_);refine by_ 3 (cs:=#[.int .i64 a1_0,.int .i64 a1_1]) (t:=43) ?_;intro gb2_ hg w2_ hbox hb;replace HS:=aHg HS hg hbox;replace BK1:=aBb BK1 hb;replace HB:=aHB HB hb;have BK2:=A_.mk hbox;clear hbox hb hg)|((with_reducible refine gd_ (N:=4) rfl ?_);refine by_ 4 (cs:=#[.int .i64 0,.slice none 0 0,.int .i64 0,.int .i64 0,.slice none 0 0,.slice none 0 0,.slice none 0 0]) (t:=39) ?_;intro gb3_ hg w3_ hbox hb;replace HS:=aHg HS hg hbox;revert BK1 HB BK2;refine aD hb ?_;intro BK1 HB BK2;have BK3:=A_.mk hbox;clear hbox hb hg;have Q1:=aa BK1.out)|((with_reducible refine gc_ (f:=40) rfl ?_);refine gl_ (some 9) Tryz.func40 #[.agg #[.int .i64 a0_0,.slice A0_1 l0_1.length c0_1,.int .i64 a0_2,.int .i64 a0_3,.slice A0_4 l0_4.length c0_4,.slice A0_5 l0_5.length c0_5,.slice A0_6 l0_6.length c0_6]] ?_;(with_reducible refine (gW.calls k a0_0 _ _ l0_1 a0_2 a0_3 _ _ l0_4 _ _ l0_5 _ _ l0_6 t1 t2 t3 t4 t5 t6 t7 _ (cb_ HR0_1 HB) HC0_1.out (cb_ HR0_4 HB) HC0_4.out (cb_ HR0_5 HB) HC0_5.out (cb_ HR0_6 HB) HC0_6.out A4.out).mono ?_);rintro e w4_ ⟨f4_,v0_,v1_,v2_,v3_,rfl,ho0_,ho1_,ho2_,ho3_,hb⟩;refine⟨_,rfl,?_⟩;replace HS:=aHs HS hb.size;obtain⟨Ao4_0,co4_0,rfl,HO4_0⟩:=sSn ho0_ HB.out.size;obtain⟨Ao4_1,co4_1,rfl,HO4_1⟩:=sSn ho1_ HB.out.size;obtain⟨Ao4_2,co4_2,rfl,HO4_2⟩:=sSn ho2_ HB.out.size;obtain⟨Ao4_3,co4_3,rfl,HO4_3⟩:=sRn ho3_ HB.out.size;revert BK1 HB BK2 BK3;refine aD hb ?_;intro BK1 HB BK2 BK3;clear hb ho0_ ho1_ ho2_ ho3_ Q1)|((with_reducible refine gd_ (N:=6) rfl ?_);refine by_ 6 (cs:=#[.int .i64 0,.slice none 0 0,.int .i64 0,.int .i64 0,.slice none 0 0,.slice none 0 0,.slice none 0 0]) (t:=39) ?_;intro gb5_ hg w5_ hbox hb;replace HS:=aHg HS hg hbox;revert HO4_0 HO4_1 HO4_2 HO4_3 BK1 HB BK2 BK3;refine aD hb ?_;intro HO4_0 HO4_1 HO4_2 HO4_3 BK1 HB BK2 BK3;have BK5:=A_.mk hbox;clear hbox hb hg;have Q5:=aa BK5.out)|((with_reducible refine ae (t:=39) (p:=6) rfl ?_);obtain⟨qf0,qf1,qf2,qf3,qf4,qf5,qf6⟩:=gM BK5;refine so_ (w1:=(iR w5_ gb5_ (.int .i64 t1) (.slice Ao4_0 t2.length co4_0) (.int .i64 t3) (.int .i64 t4) (.slice Ao4_1 t5.length co4_1) (.slice Ao4_2 t6.length co4_2) (.slice Ao4_3 t7.length co4_3))) ?_;intro w6_ hw;clear qf0 qf1 qf2 qf3 qf4 qf5 qf6;obtain⟨hbx,hkp,hbb⟩:=iV hw BK5 HB (ho_ HS);clear hw;revert HO4_0 HO4_1 HO4_2 HO4_3 BK1 BK2 BK3;refine bC hkp HS ?_;intro HO4_0 HO4_1 HO4_2 HO4_3 BK1 BK2 BK3;replace BK5:=A_.mk hbx;replace HB:=A_.mk hbb;replace HS:=aHs HS hkp.1;clear hkp hbb hbx Q5;have Q1:=aa BK1.out))
 refine(iG.calls k a0_0 _ _ l0_1 a0_2 a0_3 _ _ l0_4 _ _ l0_5 _ _ l0_6 t8 _ (cb_ HR0_1 HB) HC0_1.out (cb_ HR0_4 HB) HC0_4.out (cb_ HR0_5 HB) HC0_5.out (cb_ HR0_6 HB) HC0_6.out A7.out).mono ?_
 rintro e w7_ ⟨rfl,hb⟩
 revert HO4_0 HO4_1 HO4_2 HO4_3 BK2 BK3 BK5 HB HS
 refine aD hb ?_
 intro HO4_0 HO4_1 HO4_2 HO4_3 BK2 BK3 BK5 HB HS
 clear hb  Q1
 have Q2:=ak BK2.out
 have Q3:=aa BK3.out
 have Q5:=aa BK5.out
 replace H:=H.out
 by_cases hc1_:t8=true
 case pos =>
  rw [if_pos hc1_] at H
  subst hc1_
  replace H:=oa_ H
  obtain⟨⟨t9,t10,t11,t12,t13,t14,t15,t16⟩,A8,H⟩:=H
  try dsimp only at H
  replace H:=il H
  obtain⟨rfl,rfl,rfl,rfl,rfl,rfl,rfl,rfl⟩:=H
  go_wp2_with (fail)
  obtain⟨fp8_,hfp_⟩:=mS_ HO4_0 0 (mS_ HO4_1 1 (mS_ HO4_2 2 (mR_ HO4_3 3 (m0_ 4))))
  have hfb3_:fp8_ gb3_=4:=fb_ HS hfp_
  refine(gD.calls k gb5_ fp8_ t1 _ _ t2 t3 t4 _ _ t5 _ _ t6 _ _ t7 a1_0 a1_1 t9 t10 t11 t12 t13 t14 t15 t16 w _ HB.out (ho_ HS) BK5.out (cS_ HO4_0 HS hfp_) (cS_ HO4_1 HS hfp_) (cS_ HO4_2 HS hfp_) (cR_ HO4_3 HS hfp_) A8.out).mono ?_
  rintro e w8_ ⟨f8_,v0_,v1_,v2_,v3_,rfl,hbx_,ho1_,ho2_,ho3_,ho4_,hfk_,hbb,hkp⟩
  have hge3_:4≤f8_ gb3_:=by have h1_:=hfk_ gb3_ (aI BK3.out);have:=hfb3_;have:=HS.out;omega
  replace BK3:=A_.mk ((hkp.2 _ (aI BK3.out) (fun _=>by have:=hfb3_;have:=HS.out;omega)).trans BK3.out)
  replace BK5:=A_.mk hbx_
  replace HB:=A_.mk hbb
  replace HS:=aHs HS hkp.1
  replace HS:=aHs HS hge3_
  clear hfk_ hge3_
  obtain⟨Ao8_0,co8_0,rfl,HO8_0⟩:=sS_ ho1_
  obtain⟨Ao8_1,co8_1,rfl,HO8_1⟩:=sS_ ho2_
  obtain⟨Ao8_2,co8_2,rfl,HO8_2⟩:=sS_ ho3_
  obtain⟨Ao8_3,co8_3,rfl,HO8_3⟩:=sR_ ho4_
  clear hkp hbx_ hbb hfp_ ho1_ ho2_ ho3_ ho4_ hfb3_ Q2 Q3 Q5
  have Q3:=aa BK3.out
  have Q5:=aa BK5.out
  go_wp2_with (first|((with_reducible refine ae (t:=39) (p:=4) rfl ?_);obtain⟨qf0,qf1,qf2,qf3,qf4,qf5,qf6⟩:=gM BK3;refine so_ (w1:=(iR w8_ gb3_ (.int .i64 t10) (.slice Ao8_0 t11.length co8_0) (.int .i64 t12) (.int .i64 t13) (.slice Ao8_1 t14.length co8_1) (.slice Ao8_2 t15.length co8_2) (.slice Ao8_3 t16.length co8_3))) ?_;intro w9_ hw;clear qf0 qf1 qf2 qf3 qf4 qf5 qf6;obtain⟨hbx,hkp,hbb⟩:=iV hw BK3 HB (ho_ HS);clear hw;revert HO8_0 HO8_1 HO8_2 HO8_3;refine bC hkp HS ?_;intro HO8_0 HO8_1 HO8_2 HO8_3;replace BK3:=A_.mk hbx;replace HB:=A_.mk hbb;replace HS:=aHs HS hkp.1;clear hkp hbb hbx Q3 Q5))
  refine bodyPost_ret (aM rfl _ _ gb3_ 39 _ (0,0) _ rfl BK3.out Tryz.underlying39 rfl (by kernel_rfl)) rfl ?_
  obtain⟨f_,hf_⟩:=mS_ HO8_0 0 (mS_ HO8_1 1 (mS_ HO8_2 2 (mR_ HO8_3 3 (m0_ 0))))
  exact⟨f_,_,_,_,_,rfl,cS_ HO8_0 HS hf_,cS_ HO8_1 HS hf_,cS_ HO8_2 HS hf_,cR_ HO8_3 HS hf_,HB.out⟩
 rw [if_neg hc1_] at H
 replace hc1_:=eq_false_of_ne_true hc1_
 subst hc1_
 replace H:=il H
 obtain⟨rfl,rfl,rfl,rfl,rfl,rfl,rfl,rfl⟩:=H
 go_wp2_with (first|((with_reducible refine ae (t:=39) (p:=4) rfl ?_);obtain⟨qf0,qf1,qf2,qf3,qf4,qf5,qf6⟩:=gM BK3;refine so_ (w1:=(iR w7_ gb3_ (.int .i64 t1) (.slice Ao4_0 t2.length co4_0) (.int .i64 t3) (.int .i64 t4) (.slice Ao4_1 t5.length co4_1) (.slice Ao4_2 t6.length co4_2) (.slice Ao4_3 t7.length co4_3))) ?_;intro w10_ hw;clear qf0 qf1 qf2 qf3 qf4 qf5 qf6;obtain⟨hbx,hkp,hbb⟩:=iV hw BK3 HB (ho_ HS);clear hw;replace HO4_0:=aSk HO4_0 hkp HS;replace HO4_1:=aSk HO4_1 hkp HS;replace HO4_2:=aSk HO4_2 hkp HS;replace HO4_3:=aRk HO4_3 hkp HS;replace BK3:=A_.mk hbx;replace HB:=A_.mk hbb;replace HS:=aHs HS hkp.1;clear hkp hbb hbx Q2 Q3 Q5))
 refine bodyPost_ret (aM rfl _ _ gb3_ 39 _ (0,0) _ rfl BK3.out Tryz.underlying39 rfl (by kernel_rfl)) rfl ?_
 obtain⟨f_,hf_⟩:=mS_ HO4_0 0 (mS_ HO4_1 1 (mS_ HO4_2 2 (mR_ HO4_3 3 (m0_ 0))))
 exact⟨f_,_,_,_,_,rfl,cS_ HO4_0 HS hf_,cS_ HO4_1 HS hf_,cS_ HO4_2 HS hf_,cR_ HO4_3 HS hf_,HB.out⟩
def bS.l0:Nat→List Int→List Int→Int→Option (Bool)
 | 0,_,_,_=>none
 | k+1,x0,x1,x5=>if x5<(x0.length:Int) then (if 0≤x5 then (if x5<(x1.length:Int) then (if (rd x0 x5)=(rd x1 x5) then (bS.l0 k x0 x1 (wrap64 (x5+1))) else (some false)) else (none)) else (none)) else (some true)
def bS.f(k:Nat)(l0:List Int)(l1:List Int):Option (Bool):=if (l0.length:Int)=(l1.length:Int) then (bS.l0 k l0 l1 0) else (some false)
theorem bS.calls(k:Nat)(A0:Option Addr)(c0:Nat)(l0:List Int)(A1:Option Addr)(c1:Nat)(l1:List Int)(r:Bool)(w:World)(hr0:Kd.C (Kd.int .i64) w A0 l0.length l0)(hc0:l0.length≤c0)(hr1:Kd.C (Kd.int .i64) w A1 l1.length l1)(hc1:l1.length≤c1)(h:bS.f k l0 l1=some r) :
  Calls Tryz.prog 46 #[.slice A0 l0.length c0,.slice A1 l1.length c1] w fun e w'=>e=.returned (.bool r)∧Drawn0 w w':=by
 have HR0:=A_.mk hr0
 have HC0:=A_.mk hc0
 clear hr0 hc0
 have HR1:=A_.mk hr1
 have HC1:=A_.mk hc1
 clear hr1 hc1
 have H:(if (l0.length:Int)=(l1.length:Int) then (bS.l0 k l0 l1 0) else (some false))=some r:=h
 clear h
 by_cases c3:(l0.length:Int)=(l1.length:Int)
 rotate_left
 ·rw [if_neg c3] at H
  have c3b0:=beq_eq_false_iff_ne.mpr c3
  have c3b1:=bne_iff_ne.mpr c3
  have c3b2:(l0.length==l1.length)=false:=by first|simpa using c3|(simp at c3 ⊢;omega)
  obtain rfl:=Option.some.inj H
  go_enter Tryz.func46,Tryz.ntmps46
  go_wp2
  repeat (go_quiet (fail);try go_wp2)
  go_ret
  exact dz_
 rw [if_pos c3] at H
 have c3b0:=beq_iff_eq.mpr c3
 have c3b1:=bne_eq_false_iff_eq.mpr c3
 have c3b2:(l0.length==l1.length)=true:=by first|simpa using c3|(simp at c3 ⊢;omega)
 clear c3
 have H':=A_.mk H
 clear H
 go_enter Tryz.func46,Tryz.ntmps46
 go_wp2
 repeat (go_quiet (fail);try go_wp2)
 go_loopg [5] k (fun kq v5 w'=>∃ (x5_1:Int),v5=.int .i64 x5_1∧A_ (bS.l0 kq l0 l1 x5_1=some r)∧A_ (kq≤k)∧Drawn0 w w')
 case atStart=>exact ⟨(0),rs_,H',⟨Nat.le_refl _⟩,by repeat (first|exact Drawn0.refl _|apply Drawn0.step)⟩
 case round =>
  clear H'
  obtain⟨x5_1,rfl,HA,HK1,⟨m1,rfl⟩⟩:=hrel
  cases gk with
  | zero=>exact absurd HA.out (by simp [bS.l0])
  | succ k1 =>
   have H:=HA.out
   clear HA
   simp only [bS.l0] at H
   by_cases c4:x5_1<(l0.length:Int)
   rotate_left
   ·rw [if_neg c4] at H
    have c4b0:=decide_eq_false c4
    clear c4
    obtain rfl:=Option.some.inj H
    go_wp2
    repeat (go_quiet (fail);try go_wp2)
    go_ret
    exact dz_
   rw [if_pos c4] at H
   have c4b0:=decide_eq_true c4
   clear c4
   by_cases c5:0≤x5_1
   rotate_left
   ·rw [if_neg c5] at H
    exact absurd H (by simp)
   rw [if_pos c5] at H
   have c5b0:=decide_eq_true c5
   clear c5
   by_cases c6:x5_1<(l1.length:Int)
   rotate_left
   ·rw [if_neg c6] at H
    exact absurd H (by simp)
   rw [if_pos c6] at H
   have c6b0:=decide_eq_true c6
   clear c6
   by_cases c7:(rd l0 x5_1)=(rd l1 x5_1)
   rotate_left
   ·rw [if_neg c7] at H
    have c7b0:=beq_eq_false_iff_ne.mpr c7
    have c7b1:=bne_iff_ne.mpr c7
    obtain rfl:=Option.some.inj H
    have p408:0≤(x5_1:Int):=od_
    have q408:x5_1<(l0.length:Int):=od_
    obtain⟨ad408,e408,hx408_0⟩:=Kd.d9 HR0.out x5_1 p408 q408
    cases e408
    replace p408:=eq_true p408
    replace q408:=eq_true q408
    have p409:0≤(x5_1:Int):=od_
    have q409:x5_1<(l1.length:Int):=od_
    obtain⟨ad409,e409,hx409_0⟩:=Kd.d9 HR1.out x5_1 p409 q409
    cases e409
    replace p409:=eq_true p409
    replace q409:=eq_true q409
    go_wp2
    repeat (go_quiet (fail);try go_wp2)
    go_ret
    exact dz_
   rw [if_pos c7] at H
   have c7b0:=beq_iff_eq.mpr c7
   have c7b1:=bne_eq_false_iff_eq.mpr c7
   clear c7
   have H':=A_.mk H
   clear H
   have p408:0≤(x5_1:Int):=od_
   have q408:x5_1<(l0.length:Int):=od_
   obtain⟨ad408,e408,hx408_0⟩:=Kd.d9 HR0.out x5_1 p408 q408
   cases e408
   replace p408:=eq_true p408
   replace q408:=eq_true q408
   have p409:0≤(x5_1:Int):=od_
   have q409:x5_1<(l1.length:Int):=od_
   obtain⟨ad409,e409,hx409_0⟩:=Kd.d9 HR1.out x5_1 p409 q409
   cases e409
   replace p409:=eq_true p409
   replace q409:=eq_true q409
   go_wp2
   repeat (go_quiet (fail);try go_wp2)
   go_roundg k1
   case measure=>have:=HK1.out;omega
   case rel=>exact ⟨(wrap64 (x5_1+1)),rs_,H',⟨by have:=HK1.out;omega⟩,by repeat (first|exact Drawn0.refl _|apply Drawn0.step)⟩
def gT.f(k:Nat)(a0_0:Int)(l0_1:List Int)(a1_0:Int)(l1_1:List Int):Option ((Bool)):=(if a0_0=a1_0 then ((bS.f k l0_1 l1_1).bind fun t1=>(if t1=true then (some (true)) else (some (false)))) else (some (false)))
theorem gT.calls(k:Nat)(a0_0:Int)(A0_1:Option Addr)(c0_1:Nat)(l0_1:List Int)(a1_0:Int)(A1_1:Option Addr)(c1_1:Nat)(l1_1:List Int)(r:Bool)(w:World)(hr0_1:Kd.C (Kd.int .i64) w A0_1 l0_1.length l0_1)(hc0_1:l0_1.length≤c0_1)(hr1_1:Kd.C (Kd.int .i64) w A1_1 l1_1.length l1_1)(hc1_1:l1_1.length≤c1_1)(h:gT.f k a0_0 l0_1 a1_0 l1_1=some r) :
  Calls Tryz.prog 112 #[.agg #[.int .i64 a0_0,.slice A0_1 l0_1.length c0_1],.agg #[.int .i64 a1_0,.slice A1_1 l1_1.length c1_1]] w fun e w'=>e=.returned (.bool r)∧Below w.heap.size w w':=by
 have HR0_1:=A_.mk hr0_1
 have HC0_1:=A_.mk hc0_1
 clear hr0_1 hc0_1
 have HR1_1:=A_.mk hr1_1
 have HC1_1:=A_.mk hc1_1
 clear hr1_1 hc1_1
 have HB:=A_.mk (Below.refl w.heap.size w)
 unfold gT.f at h
 have H:=h
 clear h
 by_cases hc1_:a0_0=a1_0
 case neg =>
  rw [if_neg hc1_] at H
  have hc1_b:=iE hc1_
  replace H:=Option.some.inj H
  subst H
  have hu68:=Tryz.underlying68
  go_enter Tryz.func112,Tryz.ntmps112
  have HS:=A_.mk (Nat.le_refl w.heap.size)
  go_wp2_with (first|((with_reducible refine gd_ (N:=2) rfl ?_);refine by_ 2 (cs:=#[.int .i64 a0_0,.slice A0_1 l0_1.length c0_1]) (t:=68) ?_;intro gb1_ hg w1_ hbox hb;replace HS:=aHg HS hg hbox;replace HB:=aHB HB hb;have BK1:=A_.mk hbox;clear hbox hb hg)|((with_reducible refine gd_ (N:=3) rfl ?_);refine by_ 3 (cs:=#[.int .i64 a1_0,.slice A1_1 l1_1.length c1_1]) (t:=68) ?_;intro gb2_ hg w2_ hbox hb;replace HS:=aHg HS hg hbox;replace BK1:=aBb BK1 hb;replace HB:=aHB HB hb;have BK2:=A_.mk hbox;clear hbox hb hg;have Q1:=ak BK1.out;have Q2:=ak BK2.out))
  go_ret
  exact⟨rfl,HB.out⟩
 rw [if_pos hc1_] at H
 replace hc1_:=iF hc1_
 replace H:=oa_ H
 obtain⟨t1,A3,H⟩:=H
 replace H:=A_.mk H
 have hu68:=Tryz.underlying68
 go_enter Tryz.func112,Tryz.ntmps112
 have HS:=A_.mk (Nat.le_refl w.heap.size)
 go_wp2_with (first|((with_reducible refine gd_ (N:=2) rfl ?_);refine by_ 2 (cs:=#[.int .i64 a0_0,.slice A0_1 l0_1.length c0_1]) (t:=68) ?_;intro gb1_ hg w1_ hbox hb;replace HS:=aHg HS hg hbox;replace HB:=aHB HB hb;have BK1:=A_.mk hbox;clear hbox hb hg)|((with_reducible refine gd_ (N:=3) rfl ?_);refine by_ 3 (cs:=#[.int .i64 a1_0,.slice A1_1 l1_1.length c1_1]) (t:=68) ?_;intro gb2_ hg w2_ hbox hb;replace HS:=aHg HS hg hbox;replace BK1:=aBb BK1 hb;replace HB:=aHB HB hb;have BK2:=A_.mk hbox;clear hbox hb hg;have Q1:=ak BK1.out;have Q2:=ak BK2.out))
 refine(bS.calls k _ _ l0_1 _ _ l1_1 t1 _ (cb_ HR0_1 HB) HC0_1.out (cb_ HR1_1 HB) HC1_1.out A3.out).mono ?_
 rintro e w3_ ⟨rfl,hb⟩
 replace hb:=Drawn0.below hb
 replace HS:=aHs HS hb.size
 replace HB:=aHB HB hb
 clear hb  Q1 Q2
 replace H:=H.out
 by_cases hc2_:t1=true
 case pos =>
  rw [if_pos hc2_] at H
  subst hc2_
  replace H:=Option.some.inj H
  subst H
  go_wp2
  go_ret
  exact⟨rfl,HB.out⟩
 rw [if_neg hc2_] at H
 replace hc2_:=eq_false_of_ne_true hc2_
 subst hc2_
 replace H:=Option.some.inj H
 subst H
 go_wp2
 go_ret
 exact⟨rfl,HB.out⟩
def bi.l0:Nat→List (S68)→List (S68)→Int→Option (Bool)
 | 0,_,_,_=>none
 | k+1,x0,x1,x5=>if x5<(x0.length:Int) then (if 0≤x5 then (if x5<(x1.length:Int) then ((gT.f k ((ay x0 x5).f0) ((ay x0 x5).f1) ((ay x1 x5).f0) ((ay x1 x5).f1)).bind fun t412=>(if t412=true then (bi.l0 k x0 x1 (wrap64 (x5+1))) else (some false))) else (none)) else (none)) else (some true)
def bi.f(k:Nat)(l0:List (S68))(l1:List (S68)):Option (Bool):=if (l0.length:Int)=(l1.length:Int) then (bi.l0 k l0 l1 0) else (some false)
def bi.T6:Bool×List (List Nat×List Nat):=(true,[([],[]),([],[]),([0,1],[0,1]),([2],[2]),([],[]),([],[]),([4,5],[4,5]),([6],[6]),([3,7],[3,7]),([8],[8])])
def bi.B6:List Nat:=[0,0,3,7,0,0,48,112,255,511]
theorem bi.tab6:rtab .any (opsOf Tryz.f89 6)=bi.T6:=by kernel_rfl
theorem bi.bits6:waitsOk bi.T6.2 bi.B6=true:=by kernel_rfl
theorem bi.calls(k:Nat)(A0:Option Addr)(c0:Nat)(l0:List (S68))(A1:Option Addr)(c1:Nat)(l1:List (S68))(r:Bool)(w:World)(hr0:Kd.C k68 w A0 l0.length l0)(hc0:l0.length≤c0)(hr1:Kd.C k68 w A1 l1.length l1)(hc1:l1.length≤c1)(h:bi.f k l0 l1=some r) :
  Calls Tryz.prog 89 #[.slice A0 l0.length c0,.slice A1 l1.length c1] w fun e w'=>e=.returned (.bool r)∧Below w.heap.size w w':=by
 have hu68:=Tryz.underlying68
 have HR0:=A_.mk hr0
 have HC0:=A_.mk hc0
 clear hr0 hc0
 have HR1:=A_.mk hr1
 have HC1:=A_.mk hc1
 clear hr1 hc1
 have HB:=A_.mk (Below.refl w.heap.size w)
 have H:(if (l0.length:Int)=(l1.length:Int) then (bi.l0 k l0 l1 0) else (some false))=some r:=h
 clear h
 by_cases c3:(l0.length:Int)=(l1.length:Int)
 rotate_left
 ·rw [if_neg c3] at H
  have c3b0:=beq_eq_false_iff_ne.mpr c3
  have c3b1:=bne_iff_ne.mpr c3
  have c3b2:(l0.length==l1.length)=false:=by first|simpa using c3|(simp at c3 ⊢;omega)
  obtain rfl:=Option.some.inj H
  go_enter Tryz.func89,Tryz.ntmps89
  go_wp2
  go_ret
  exact⟨re_,beY HB.out⟩
 rw [if_pos c3] at H
 have c3b0:=beq_iff_eq.mpr c3
 have c3b1:=bne_eq_false_iff_eq.mpr c3
 have c3b2:(l0.length==l1.length)=true:=by first|simpa using c3|(simp at c3 ⊢;omega)
 clear c3
 have H':=A_.mk H
 clear H
 go_enter Tryz.func89,Tryz.ntmps89
 go_wp2
 go_loopg [5] k (fun kq v5 w'=>∃ (x5_1:Int),v5=.int .i64 x5_1∧A_ (bi.l0 kq l0 l1 x5_1=some r)∧A_ (kq≤k)∧A_ (Below w.heap.size w w'))
 case atStart=>exact ⟨(0),rs_,H',⟨Nat.le_refl _⟩,⟨beY HB.out⟩⟩
 case round =>
  clear H'
  obtain⟨x5_1,rfl,HA,HK1,HB⟩:=hrel
  cases gk with
  | zero=>exact absurd HA.out (by simp [bi.l0])
  | succ k1 =>
   have H:=HA.out
   clear HA
   simp only [bi.l0] at H
   by_cases c4:x5_1<(l0.length:Int)
   rotate_left
   ·rw [if_neg c4] at H
    have c4b0:=decide_eq_false c4
    clear c4
    obtain rfl:=Option.some.inj H
    go_wp2
    go_ret
    exact⟨re_,beY HB.out⟩
   rw [if_pos c4] at H
   have c4b0:=decide_eq_true c4
   clear c4
   by_cases c5:0≤x5_1
   rotate_left
   ·rw [if_neg c5] at H
    exact absurd H (by simp)
   rw [if_pos c5] at H
   have c5b0:=decide_eq_true c5
   clear c5
   by_cases c6:x5_1<(l1.length:Int)
   rotate_left
   ·rw [if_neg c6] at H
    exact absurd H (by simp)
   rw [if_pos c6] at H
   have c6b0:=decide_eq_true c6
   clear c6
   replace H:=oa_ H
   obtain⟨t412,A7,H⟩:=H
   by_cases c8:t412=true
   rotate_left
   ·replace c8:=Bool.eq_false_iff.mpr c8
    subst c8
    have H1:(some false)=some r:=by rw [if_neg (show ¬ (false=true) by decide)] at H;exact H
    clear H
    have H:=H1
    clear H1
    obtain rfl:=Option.some.inj H
    try go_wp2
    have n0_:=A_.mk (be_ HB.out)
    clear HB
    have HB:=n0_
    clear n0_
    have p410:0≤(x5_1:Int):=od_
    have q410:x5_1<(l0.length:Int):=od_
    obtain⟨ad410,A410_1,c410_1,e410,hx410_0,hx410_1,hl410_1,hi410_1⟩:=iq HR0.out x5_1 p410 q410
    have hw410_1:=hx410_1
    have hw410_0:=hx410_0
    cases e410
    replace hx410_0:=(HB.out.cell (wl_ w _ hx410_0)).trans hx410_0
    replace hx410_1:=(HB.out.cell (wl_ w _ hx410_1)).trans hx410_1
    have HR410_1:=A_.mk hi410_1
    have HC410_1:=A_.mk hl410_1
    clear hi410_1 hl410_1
    replace p410:=eq_true p410
    replace q410:=eq_true q410
    have p411:0≤(x5_1:Int):=od_
    have q411:x5_1<(l1.length:Int):=od_
    obtain⟨ad411,A411_1,c411_1,e411,hx411_0,hx411_1,hl411_1,hi411_1⟩:=iq HR1.out x5_1 p411 q411
    have hw411_1:=hx411_1
    have hw411_0:=hx411_0
    cases e411
    replace hx411_0:=(HB.out.cell (wl_ w _ hx411_0)).trans hx411_0
    replace hx411_1:=(HB.out.cell (wl_ w _ hx411_1)).trans hx411_1
    have HR411_1:=A_.mk hi411_1
    have HC411_1:=A_.mk hl411_1
    clear hi411_1 hl411_1
    replace p411:=eq_true p411
    replace q411:=eq_true q411
    refine dN (n:=10) (S:=fun w'=>w'.cell? (ad410.add ((x5_1).toNat*2))=some (.int .i64 ((ay l0 x5_1).f0))∧w'.cell? ⟨(ad410.add ((x5_1).toNat*2)).block,(ad410.add ((x5_1).toNat*2)).off+1,none⟩=some (.slice A410_1 ((ay l0 x5_1).f1).length c410_1)∧w'.cell? (ad411.add ((x5_1).toNat*2))=some (.int .i64 ((ay l1 x5_1).f0))∧w'.cell? ⟨(ad411.add ((x5_1).toNat*2)).block,(ad411.add ((x5_1).toNat*2)).off+1,none⟩=some (.slice A411_1 ((ay l1 x5_1).f1).length c411_1)) (ds:=[]) #[F,F,F,F,F,F,F,F,F,F] (by kernel_rfl) rfl rfl ⟨((HB.out.cell (wl_ w _ hw410_0)).trans hw410_0),((HB.out.cell (wl_ w _ hw410_1)).trans hw410_1),((HB.out.cell (wl_ w _ hw411_0)).trans hw411_0),((HB.out.cell (wl_ w _ hw411_1)).trans hw411_1)⟩ (fun hHeld=>?_);refine jH bi.tab6 bi.bits6 (fun HT_ HW_=>?_)
    generalize wr.drew=w11 at HB HR410_1 HR411_1 hx410_0 hx410_1 hx411_0 hx411_1 hHeld ⊢
    refine pr_ (i:=0) (N:=some 17) #[T,F,F,F,F,F,F,F,F,F] rfl HT_.out ?_
    refine pr_ (i:=1) (N:=some 18) #[T,T,F,F,F,F,F,F,F,F] rfl HT_.out ?_
    refine pr_ (i:=2) (N:=some 19) #[T,T,T,F,F,F,F,F,F,F] rfl HT_.out ?_
    refine pr_ (i:=4) (N:=some 21) #[T,T,T,F,T,F,F,F,F,F] rfl HT_.out ?_
    refine pr_ (i:=5) (N:=some 22) #[T,T,T,F,T,T,F,F,F,F] rfl HT_.out ?_
    refine pr_ (i:=6) (N:=some 23) #[T,T,T,F,T,T,T,F,F,F] rfl HT_.out ?_
    refine tk_ (i:=3) (N:=some 20) #[T,T,T,T,T,T,T,F,F,F] rfl HT_.out HW_.out hHeld ?_
    refine tk_ (i:=7) (N:=some 24) #[T,T,T,T,T,T,T,T,F,F] rfl HT_.out HW_.out hHeld ?_
    refine ot_ (i:=8) (N:=some 25) #[T,T,T,T,T,T,T,T,T,F] rfl HT_.out (fun K hK=>?_)
    refine gz_ Tryz.func112 #[.agg #[.int .i64 ((ay l0 x5_1).f0),.slice A410_1 ((ay l0 x5_1).f1).length c410_1],.agg #[.int .i64 ((ay l1 x5_1).f0),.slice A411_1 ((ay l1 x5_1).f1).length c411_1]] ?_
    with_reducible refine (gT.calls k1 ((ay l0 x5_1).f0) _ _ ((ay l0 x5_1).f1) ((ay l1 x5_1).f0) _ _ ((ay l1 x5_1).f1) false _ ?side1 ?side2 ?side3 ?side4 A7.out).mono ?_
    (case side1=>exact cY ((cb_ HR410_1 HB)))
    (case side2=>exact HC410_1.out)
    (case side3=>exact cY ((cb_ HR411_1 HB)))
    (case side4=>exact HC411_1.out)
    rintro e w12 ⟨rfl,hb⟩
    refine⟨_,rfl,?_⟩
    have n0_:=A_.mk (bt_ (beY HB.out) hb)
    clear HB
    have HB:=n0_
    clear n0_
    refine hK.out _ _ ⟨((HB.out.cell (wl_ w _ hw410_0)).trans hw410_0),((HB.out.cell (wl_ w _ hw410_1)).trans hw410_1),((HB.out.cell (wl_ w _ hw411_0)).trans hw411_0),((HB.out.cell (wl_ w _ hw411_1)).trans hw411_1)⟩ (fun hHeld=>?_)
    clear hK K
    refine nm_ ?_
    refine pr_ (i:=9) (N:=some 26) #[T,T,T,T,T,T,T,T,T,T] rfl HT_.out ?_
    refine fA (lc HT_.out (by kernel_rfl)) ?_
    try go_wp2
    go_ret
    exact⟨re_,beY HB.out⟩
   subst c8
   have H1:(bi.l0 k1 l0 l1 (wrap64 (x5_1+1)))=some r:=by rw [if_pos rfl] at H;exact H
   clear H
   have H:=H1
   clear H1
   have H':=A_.mk H
   clear H
   try go_wp2
   have n0_:=A_.mk (be_ HB.out)
   clear HB
   have HB:=n0_
   clear n0_
   have p410:0≤(x5_1:Int):=od_
   have q410:x5_1<(l0.length:Int):=od_
   obtain⟨ad410,A410_1,c410_1,e410,hx410_0,hx410_1,hl410_1,hi410_1⟩:=iq HR0.out x5_1 p410 q410
   have hw410_1:=hx410_1
   have hw410_0:=hx410_0
   cases e410
   replace hx410_0:=(HB.out.cell (wl_ w _ hx410_0)).trans hx410_0
   replace hx410_1:=(HB.out.cell (wl_ w _ hx410_1)).trans hx410_1
   have HR410_1:=A_.mk hi410_1
   have HC410_1:=A_.mk hl410_1
   clear hi410_1 hl410_1
   replace p410:=eq_true p410
   replace q410:=eq_true q410
   have p411:0≤(x5_1:Int):=od_
   have q411:x5_1<(l1.length:Int):=od_
   obtain⟨ad411,A411_1,c411_1,e411,hx411_0,hx411_1,hl411_1,hi411_1⟩:=iq HR1.out x5_1 p411 q411
   have hw411_1:=hx411_1
   have hw411_0:=hx411_0
   cases e411
   replace hx411_0:=(HB.out.cell (wl_ w _ hx411_0)).trans hx411_0
   replace hx411_1:=(HB.out.cell (wl_ w _ hx411_1)).trans hx411_1
   have HR411_1:=A_.mk hi411_1
   have HC411_1:=A_.mk hl411_1
   clear hi411_1 hl411_1
   replace p411:=eq_true p411
   replace q411:=eq_true q411
   refine dN (n:=10) (S:=fun w'=>w'.cell? (ad410.add ((x5_1).toNat*2))=some (.int .i64 ((ay l0 x5_1).f0))∧w'.cell? ⟨(ad410.add ((x5_1).toNat*2)).block,(ad410.add ((x5_1).toNat*2)).off+1,none⟩=some (.slice A410_1 ((ay l0 x5_1).f1).length c410_1)∧w'.cell? (ad411.add ((x5_1).toNat*2))=some (.int .i64 ((ay l1 x5_1).f0))∧w'.cell? ⟨(ad411.add ((x5_1).toNat*2)).block,(ad411.add ((x5_1).toNat*2)).off+1,none⟩=some (.slice A411_1 ((ay l1 x5_1).f1).length c411_1)) (ds:=[]) #[F,F,F,F,F,F,F,F,F,F] (by kernel_rfl) rfl rfl ⟨((HB.out.cell (wl_ w _ hw410_0)).trans hw410_0),((HB.out.cell (wl_ w _ hw410_1)).trans hw410_1),((HB.out.cell (wl_ w _ hw411_0)).trans hw411_0),((HB.out.cell (wl_ w _ hw411_1)).trans hw411_1)⟩ (fun hHeld=>?_);refine jH bi.tab6 bi.bits6 (fun HT_ HW_=>?_)
   generalize wr.drew=w9 at HB HR410_1 HR411_1 hx410_0 hx410_1 hx411_0 hx411_1 hHeld ⊢
   refine pr_ (i:=0) (N:=some 17) #[T,F,F,F,F,F,F,F,F,F] rfl HT_.out ?_
   refine pr_ (i:=1) (N:=some 18) #[T,T,F,F,F,F,F,F,F,F] rfl HT_.out ?_
   refine pr_ (i:=2) (N:=some 19) #[T,T,T,F,F,F,F,F,F,F] rfl HT_.out ?_
   refine pr_ (i:=4) (N:=some 21) #[T,T,T,F,T,F,F,F,F,F] rfl HT_.out ?_
   refine pr_ (i:=5) (N:=some 22) #[T,T,T,F,T,T,F,F,F,F] rfl HT_.out ?_
   refine pr_ (i:=6) (N:=some 23) #[T,T,T,F,T,T,T,F,F,F] rfl HT_.out ?_
   refine tk_ (i:=3) (N:=some 20) #[T,T,T,T,T,T,T,F,F,F] rfl HT_.out HW_.out hHeld ?_
   refine tk_ (i:=7) (N:=some 24) #[T,T,T,T,T,T,T,T,F,F] rfl HT_.out HW_.out hHeld ?_
   refine ot_ (i:=8) (N:=some 25) #[T,T,T,T,T,T,T,T,T,F] rfl HT_.out (fun K hK=>?_)
   refine gz_ Tryz.func112 #[.agg #[.int .i64 ((ay l0 x5_1).f0),.slice A410_1 ((ay l0 x5_1).f1).length c410_1],.agg #[.int .i64 ((ay l1 x5_1).f0),.slice A411_1 ((ay l1 x5_1).f1).length c411_1]] ?_
   with_reducible refine (gT.calls k1 ((ay l0 x5_1).f0) _ _ ((ay l0 x5_1).f1) ((ay l1 x5_1).f0) _ _ ((ay l1 x5_1).f1) true _ ?side1 ?side2 ?side3 ?side4 A7.out).mono ?_
   (case side1=>exact cY ((cb_ HR410_1 HB)))
   (case side2=>exact HC410_1.out)
   (case side3=>exact cY ((cb_ HR411_1 HB)))
   (case side4=>exact HC411_1.out)
   rintro e w10 ⟨rfl,hb⟩
   refine⟨_,rfl,?_⟩
   have n0_:=A_.mk (bt_ (beY HB.out) hb)
   clear HB
   have HB:=n0_
   clear n0_
   refine hK.out _ _ ⟨((HB.out.cell (wl_ w _ hw410_0)).trans hw410_0),((HB.out.cell (wl_ w _ hw410_1)).trans hw410_1),((HB.out.cell (wl_ w _ hw411_0)).trans hw411_0),((HB.out.cell (wl_ w _ hw411_1)).trans hw411_1)⟩ (fun hHeld=>?_)
   clear hK K
   refine nm_ ?_
   refine pr_ (i:=9) (N:=some 26) #[T,T,T,T,T,T,T,T,T,T] rfl HT_.out ?_
   refine fA (lc HT_.out (by kernel_rfl)) ?_
   try go_wp2
   go_roundg k1
   case measure=>have:=HK1.out;omega
   case rel=>exact ⟨(wrap64 (x5_1+1)),rs_,H',⟨by have:=HK1.out;omega⟩,⟨beY HB.out⟩⟩
def iy.f(k:Nat)(a0_0:Int)(l0_1:List (S68))(a0_2:Int)(a1_0:Int)(l1_1:List (S68))(a1_2:Int):Option ((Bool)):=(if a0_0=a1_0 then ((bi.f k l0_1 l1_1).bind fun t1=>(if t1=true then (if a0_2=a1_2 then (some (true)) else (some (false))) else (some (false)))) else (some (false)))
theorem iy.calls(k:Nat)(a0_0:Int)(A0_1:Option Addr)(c0_1:Nat)(l0_1:List (S68))(a0_2:Int)(a1_0:Int)(A1_1:Option Addr)(c1_1:Nat)(l1_1:List (S68))(a1_2:Int)(r:Bool)(w:World)(hr0_1:Kd.C k68 w A0_1 l0_1.length l0_1)(hc0_1:l0_1.length≤c0_1)(hr1_1:Kd.C k68 w A1_1 l1_1.length l1_1)(hc1_1:l1_1.length≤c1_1)(h:iy.f k a0_0 l0_1 a0_2 a1_0 l1_1 a1_2=some r) :
  Calls Tryz.prog 43 #[.agg #[.int .i64 a0_0,.slice A0_1 l0_1.length c0_1,.int .i64 a0_2],.agg #[.int .i64 a1_0,.slice A1_1 l1_1.length c1_1,.int .i64 a1_2]] w fun e w'=>e=.returned (.bool r)∧Below w.heap.size w w':=by
 have HR0_1:=A_.mk hr0_1
 have HC0_1:=A_.mk hc0_1
 clear hr0_1 hc0_1
 have HR1_1:=A_.mk hr1_1
 have HC1_1:=A_.mk hc1_1
 clear hr1_1 hc1_1
 have HB:=A_.mk (Below.refl w.heap.size w)
 unfold iy.f at h
 have H:=h
 clear h
 by_cases hc1_:a0_0=a1_0
 case neg =>
  rw [if_neg hc1_] at H
  have hc1_b:=iE hc1_
  replace H:=Option.some.inj H
  subst H
  have hu36:=Tryz.underlying36
  go_enter Tryz.func43,Tryz.ntmps43
  have HS:=A_.mk (Nat.le_refl w.heap.size)
  go_wp2_with (first|((with_reducible refine gd_ (N:=2) rfl ?_);refine by_ 2 (cs:=#[.int .i64 a0_0,.slice A0_1 l0_1.length c0_1,.int .i64 a0_2]) (t:=36) ?_;intro gb1_ hg w1_ hbox hb;replace HS:=aHg HS hg hbox;replace HB:=aHB HB hb;have BK1:=A_.mk hbox;clear hbox hb hg)|((with_reducible refine gd_ (N:=3) rfl ?_);refine by_ 3 (cs:=#[.int .i64 a1_0,.slice A1_1 l1_1.length c1_1,.int .i64 a1_2]) (t:=36) ?_;intro gb2_ hg w2_ hbox hb;replace HS:=aHg HS hg hbox;replace BK1:=aBb BK1 hb;replace HB:=aHB HB hb;have BK2:=A_.mk hbox;clear hbox hb hg;have Q1:=av BK1.out;have Q2:=av BK2.out))
  go_ret
  exact⟨rfl,HB.out⟩
 rw [if_pos hc1_] at H
 replace hc1_:=iF hc1_
 replace H:=oa_ H
 obtain⟨t1,A3,H⟩:=H
 replace H:=A_.mk H
 have hu36:=Tryz.underlying36
 go_enter Tryz.func43,Tryz.ntmps43
 have HS:=A_.mk (Nat.le_refl w.heap.size)
 go_wp2_with (first|((with_reducible refine gd_ (N:=2) rfl ?_);refine by_ 2 (cs:=#[.int .i64 a0_0,.slice A0_1 l0_1.length c0_1,.int .i64 a0_2]) (t:=36) ?_;intro gb1_ hg w1_ hbox hb;replace HS:=aHg HS hg hbox;replace HB:=aHB HB hb;have BK1:=A_.mk hbox;clear hbox hb hg)|((with_reducible refine gd_ (N:=3) rfl ?_);refine by_ 3 (cs:=#[.int .i64 a1_0,.slice A1_1 l1_1.length c1_1,.int .i64 a1_2]) (t:=36) ?_;intro gb2_ hg w2_ hbox hb;replace HS:=aHg HS hg hbox;replace BK1:=aBb BK1 hb;replace HB:=aHB HB hb;have BK2:=A_.mk hbox;clear hbox hb hg;have Q1:=av BK1.out;have Q2:=av BK2.out))
 refine(bi.calls k _ _ l0_1 _ _ l1_1 t1 _ (cb_ HR0_1 HB) HC0_1.out (cb_ HR1_1 HB) HC1_1.out A3.out).mono ?_
 rintro e w3_ ⟨rfl,hb⟩
 revert HS BK1 HB BK2
 refine aD hb ?_
 intro HS BK1 HB BK2
 clear hb  Q1 Q2
 have Q1:=av BK1.out
 have Q2:=av BK2.out
 replace H:=H.out
 by_cases hc2_:t1=true
 case neg =>
  rw [if_neg hc2_] at H
  replace hc2_:=eq_false_of_ne_true hc2_
  subst hc2_
  replace H:=Option.some.inj H
  subst H
  go_wp2
  go_ret
  exact⟨rfl,HB.out⟩
 rw [if_pos hc2_] at H
 subst hc2_
 by_cases hc3_:a0_2=a1_2
 case pos =>
  rw [if_pos hc3_] at H
  replace hc3_:=iF hc3_
  replace H:=Option.some.inj H
  subst H
  go_wp2
  go_ret
  exact⟨rfl,HB.out⟩
 rw [if_neg hc3_] at H
 have hc3_b:=iE hc3_
 replace H:=Option.some.inj H
 subst H
 go_wp2
 go_ret
 exact⟨rfl,HB.out⟩
def cZ.l0:Nat→List (List Int)→List (List Int)→Int→Option (Bool)
 | 0,_,_,_=>none
 | k+1,x0,x1,x5=>if x5<(x0.length:Int) then (if 0≤x5 then (if x5<(x1.length:Int) then ((bS.f k (dD x0 x5) (dD x1 x5)).bind fun t415=>(if t415=true then (cZ.l0 k x0 x1 (wrap64 (x5+1))) else (some false))) else (none)) else (none)) else (some true)
def cZ.f(k:Nat)(l0:List (List Int))(l1:List (List Int)):Option (Bool):=if (l0.length:Int)=(l1.length:Int) then (cZ.l0 k l0 l1 0) else (some false)
theorem cZ.calls(k:Nat)(A0:Option Addr)(c0:Nat)(l0:List (List Int))(A1:Option Addr)(c1:Nat)(l1:List (List Int))(r:Bool)(w:World)(hr0:Kd.C (Kd.slice 3 (Kd.int .i64)) w A0 l0.length l0)(hc0:l0.length≤c0)(hr1:Kd.C (Kd.slice 3 (Kd.int .i64)) w A1 l1.length l1)(hc1:l1.length≤c1)(h:cZ.f k l0 l1=some r) :
  Calls Tryz.prog 45 #[.slice A0 l0.length c0,.slice A1 l1.length c1] w fun e w'=>e=.returned (.bool r)∧Drawn0 w w':=by
 have HR0:=A_.mk hr0
 have HC0:=A_.mk hc0
 clear hr0 hc0
 have HR1:=A_.mk hr1
 have HC1:=A_.mk hc1
 clear hr1 hc1
 have H:(if (l0.length:Int)=(l1.length:Int) then (cZ.l0 k l0 l1 0) else (some false))=some r:=h
 clear h
 by_cases c3:(l0.length:Int)=(l1.length:Int)
 rotate_left
 ·rw [if_neg c3] at H
  have c3b0:=beq_eq_false_iff_ne.mpr c3
  have c3b1:=bne_iff_ne.mpr c3
  have c3b2:(l0.length==l1.length)=false:=by first|simpa using c3|(simp at c3 ⊢;omega)
  obtain rfl:=Option.some.inj H
  go_enter Tryz.func45,Tryz.ntmps45
  go_wp2
  repeat (go_quiet (fail);try go_wp2)
  go_ret
  exact dz_
 rw [if_pos c3] at H
 have c3b0:=beq_iff_eq.mpr c3
 have c3b1:=bne_eq_false_iff_eq.mpr c3
 have c3b2:(l0.length==l1.length)=true:=by first|simpa using c3|(simp at c3 ⊢;omega)
 clear c3
 have H':=A_.mk H
 clear H
 go_enter Tryz.func45,Tryz.ntmps45
 go_wp2
 repeat (go_quiet (fail);try go_wp2)
 go_loopg [5] k (fun kq v5 w'=>∃ (x5_1:Int),v5=.int .i64 x5_1∧A_ (cZ.l0 kq l0 l1 x5_1=some r)∧A_ (kq≤k)∧Drawn0 w w')
 case atStart=>exact ⟨(0),rs_,H',⟨Nat.le_refl _⟩,by repeat (first|exact Drawn0.refl _|apply Drawn0.step)⟩
 case round =>
  clear H'
  obtain⟨x5_1,rfl,HA,HK1,⟨m1,rfl⟩⟩:=hrel
  cases gk with
  | zero=>exact absurd HA.out (by simp [cZ.l0])
  | succ k1 =>
   have H:=HA.out
   clear HA
   simp only [cZ.l0] at H
   by_cases c4:x5_1<(l0.length:Int)
   rotate_left
   ·rw [if_neg c4] at H
    have c4b0:=decide_eq_false c4
    clear c4
    obtain rfl:=Option.some.inj H
    go_wp2
    repeat (go_quiet (fail);try go_wp2)
    go_ret
    exact dz_
   rw [if_pos c4] at H
   have c4b0:=decide_eq_true c4
   clear c4
   by_cases c5:0≤x5_1
   rotate_left
   ·rw [if_neg c5] at H
    exact absurd H (by simp)
   rw [if_pos c5] at H
   have c5b0:=decide_eq_true c5
   clear c5
   by_cases c6:x5_1<(l1.length:Int)
   rotate_left
   ·rw [if_neg c6] at H
    exact absurd H (by simp)
   rw [if_pos c6] at H
   have c6b0:=decide_eq_true c6
   clear c6
   replace H:=oa_ H
   obtain⟨t415,A7,H⟩:=H
   by_cases c8:t415=true
   rotate_left
   ·replace c8:=Bool.eq_false_iff.mpr c8
    subst c8
    have H1:(some false)=some r:=by rw [if_neg (show ¬ (false=true) by decide)] at H;exact H
    clear H
    have H:=H1
    clear H1
    obtain rfl:=Option.some.inj H
    have p413:0≤(x5_1:Int):=od_
    have q413:x5_1<(l0.length:Int):=od_
    obtain⟨ad413,A413_0,c413_0,e413,hx413_0,hl413_0,hi413_0⟩:=ko HR0.out x5_1 p413 q413
    cases e413
    have HR413_0:=A_.mk hi413_0
    have HC413_0:=A_.mk hl413_0
    clear hi413_0 hl413_0
    replace p413:=eq_true p413
    replace q413:=eq_true q413
    have p414:0≤(x5_1:Int):=od_
    have q414:x5_1<(l1.length:Int):=od_
    obtain⟨ad414,A414_0,c414_0,e414,hx414_0,hl414_0,hi414_0⟩:=ko HR1.out x5_1 p414 q414
    cases e414
    have HR414_0:=A_.mk hi414_0
    have HC414_0:=A_.mk hl414_0
    clear hi414_0 hl414_0
    replace p414:=eq_true p414
    replace q414:=eq_true q414
    go_wp2_with (first|(go_at_call 46;(with_reducible refine (bS.calls k1 _ _ (dD l0 x5_1) _ _ (dD l1 x5_1) false _ ?side1 ?side2 ?side3 ?side4 A7.out).mono ?_);(case side1=>exact cY (HR413_0.out));(case side2=>exact HC413_0.out);(case side3=>exact cY (HR414_0.out));(case side4=>exact HC414_0.out);rintro e w' ⟨rfl,⟨nd,rfl⟩⟩;(try exact dw_)))
    repeat (go_quiet (first|(go_at_call 46;(with_reducible refine (bS.calls k1 _ _ (dD l0 x5_1) _ _ (dD l1 x5_1) false _ ?side1 ?side2 ?side3 ?side4 A7.out).mono ?_);(case side1=>exact cY (HR413_0.out));(case side2=>exact HC413_0.out);(case side3=>exact cY (HR414_0.out));(case side4=>exact HC414_0.out);rintro e w' ⟨rfl,⟨nd,rfl⟩⟩;(try exact dw_)));try go_wp2_with (first|(go_at_call 46;(with_reducible refine (bS.calls k1 _ _ (dD l0 x5_1) _ _ (dD l1 x5_1) false _ ?side1 ?side2 ?side3 ?side4 A7.out).mono ?_);(case side1=>exact cY (HR413_0.out));(case side2=>exact HC413_0.out);(case side3=>exact cY (HR414_0.out));(case side4=>exact HC414_0.out);rintro e w' ⟨rfl,⟨nd,rfl⟩⟩;(try exact dw_))))
    go_ret
    exact dz_
   subst c8
   have H1:(cZ.l0 k1 l0 l1 (wrap64 (x5_1+1)))=some r:=by rw [if_pos rfl] at H;exact H
   clear H
   have H:=H1
   clear H1
   have H':=A_.mk H
   clear H
   have p413:0≤(x5_1:Int):=od_
   have q413:x5_1<(l0.length:Int):=od_
   obtain⟨ad413,A413_0,c413_0,e413,hx413_0,hl413_0,hi413_0⟩:=ko HR0.out x5_1 p413 q413
   cases e413
   have HR413_0:=A_.mk hi413_0
   have HC413_0:=A_.mk hl413_0
   clear hi413_0 hl413_0
   replace p413:=eq_true p413
   replace q413:=eq_true q413
   have p414:0≤(x5_1:Int):=od_
   have q414:x5_1<(l1.length:Int):=od_
   obtain⟨ad414,A414_0,c414_0,e414,hx414_0,hl414_0,hi414_0⟩:=ko HR1.out x5_1 p414 q414
   cases e414
   have HR414_0:=A_.mk hi414_0
   have HC414_0:=A_.mk hl414_0
   clear hi414_0 hl414_0
   replace p414:=eq_true p414
   replace q414:=eq_true q414
   go_wp2_with (first|(go_at_call 46;(with_reducible refine (bS.calls k1 _ _ (dD l0 x5_1) _ _ (dD l1 x5_1) true _ ?side1 ?side2 ?side3 ?side4 A7.out).mono ?_);(case side1=>exact cY (HR413_0.out));(case side2=>exact HC413_0.out);(case side3=>exact cY (HR414_0.out));(case side4=>exact HC414_0.out);rintro e w' ⟨rfl,⟨nd,rfl⟩⟩;(try exact dw_)))
   repeat (go_quiet (first|(go_at_call 46;(with_reducible refine (bS.calls k1 _ _ (dD l0 x5_1) _ _ (dD l1 x5_1) true _ ?side1 ?side2 ?side3 ?side4 A7.out).mono ?_);(case side1=>exact cY (HR413_0.out));(case side2=>exact HC413_0.out);(case side3=>exact cY (HR414_0.out));(case side4=>exact HC414_0.out);rintro e w' ⟨rfl,⟨nd,rfl⟩⟩;(try exact dw_)));try go_wp2_with (first|(go_at_call 46;(with_reducible refine (bS.calls k1 _ _ (dD l0 x5_1) _ _ (dD l1 x5_1) true _ ?side1 ?side2 ?side3 ?side4 A7.out).mono ?_);(case side1=>exact cY (HR413_0.out));(case side2=>exact HC413_0.out);(case side3=>exact cY (HR414_0.out));(case side4=>exact HC414_0.out);rintro e w' ⟨rfl,⟨nd,rfl⟩⟩;(try exact dw_))))
   go_roundg k1
   case measure=>have:=HK1.out;omega
   case rel=>exact ⟨(wrap64 (x5_1+1)),rs_,H',⟨by have:=HK1.out;omega⟩,by repeat (first|exact Drawn0.refl _|apply Drawn0.step)⟩
def fP.f(k:Nat)(a0_0:Int)(l0_1:List (List Int))(a1_0:Int)(l1_1:List (List Int)):Option ((Bool)):=(if a0_0=a1_0 then ((cZ.f k l0_1 l1_1).bind fun t1=>(if t1=true then (some (true)) else (some (false)))) else (some (false)))
theorem fP.calls(k:Nat)(a0_0:Int)(A0_1:Option Addr)(c0_1:Nat)(l0_1:List (List Int))(a1_0:Int)(A1_1:Option Addr)(c1_1:Nat)(l1_1:List (List Int))(r:Bool)(w:World)(hr0_1:Kd.C (Kd.slice 3 (Kd.int .i64)) w A0_1 l0_1.length l0_1)(hc0_1:l0_1.length≤c0_1)(hr1_1:Kd.C (Kd.slice 3 (Kd.int .i64)) w A1_1 l1_1.length l1_1)(hc1_1:l1_1.length≤c1_1)(h:fP.f k a0_0 l0_1 a1_0 l1_1=some r) :
  Calls Tryz.prog 44 #[.agg #[.int .i64 a0_0,.slice A0_1 l0_1.length c0_1],.agg #[.int .i64 a1_0,.slice A1_1 l1_1.length c1_1]] w fun e w'=>e=.returned (.bool r)∧Below w.heap.size w w':=by
 have HR0_1:=A_.mk hr0_1
 have HC0_1:=A_.mk hc0_1
 clear hr0_1 hc0_1
 have HR1_1:=A_.mk hr1_1
 have HC1_1:=A_.mk hc1_1
 clear hr1_1 hc1_1
 have HB:=A_.mk (Below.refl w.heap.size w)
 unfold fP.f at h
 have H:=h
 clear h
 by_cases hc1_:a0_0=a1_0
 case neg =>
  rw [if_neg hc1_] at H
  have hc1_b:=iE hc1_
  replace H:=Option.some.inj H
  subst H
  have hu37:=Tryz.underlying37
  go_enter Tryz.func44,Tryz.ntmps44
  have HS:=A_.mk (Nat.le_refl w.heap.size)
  go_wp2_with (first|((with_reducible refine gd_ (N:=2) rfl ?_);refine by_ 2 (cs:=#[.int .i64 a0_0,.slice A0_1 l0_1.length c0_1]) (t:=37) ?_;intro gb1_ hg w1_ hbox hb;replace HS:=aHg HS hg hbox;replace HB:=aHB HB hb;have BK1:=A_.mk hbox;clear hbox hb hg)|((with_reducible refine gd_ (N:=3) rfl ?_);refine by_ 3 (cs:=#[.int .i64 a1_0,.slice A1_1 l1_1.length c1_1]) (t:=37) ?_;intro gb2_ hg w2_ hbox hb;replace HS:=aHg HS hg hbox;replace BK1:=aBb BK1 hb;replace HB:=aHB HB hb;have BK2:=A_.mk hbox;clear hbox hb hg;have Q1:=ak BK1.out;have Q2:=ak BK2.out))
  go_ret
  exact⟨rfl,HB.out⟩
 rw [if_pos hc1_] at H
 replace hc1_:=iF hc1_
 replace H:=oa_ H
 obtain⟨t1,A3,H⟩:=H
 replace H:=A_.mk H
 have hu37:=Tryz.underlying37
 go_enter Tryz.func44,Tryz.ntmps44
 have HS:=A_.mk (Nat.le_refl w.heap.size)
 go_wp2_with (first|((with_reducible refine gd_ (N:=2) rfl ?_);refine by_ 2 (cs:=#[.int .i64 a0_0,.slice A0_1 l0_1.length c0_1]) (t:=37) ?_;intro gb1_ hg w1_ hbox hb;replace HS:=aHg HS hg hbox;replace HB:=aHB HB hb;have BK1:=A_.mk hbox;clear hbox hb hg)|((with_reducible refine gd_ (N:=3) rfl ?_);refine by_ 3 (cs:=#[.int .i64 a1_0,.slice A1_1 l1_1.length c1_1]) (t:=37) ?_;intro gb2_ hg w2_ hbox hb;replace HS:=aHg HS hg hbox;replace BK1:=aBb BK1 hb;replace HB:=aHB HB hb;have BK2:=A_.mk hbox;clear hbox hb hg;have Q1:=ak BK1.out;have Q2:=ak BK2.out))
 refine(cZ.calls k _ _ l0_1 _ _ l1_1 t1 _ (cb_ HR0_1 HB) HC0_1.out (cb_ HR1_1 HB) HC1_1.out A3.out).mono ?_
 rintro e w3_ ⟨rfl,hb⟩
 replace hb:=Drawn0.below hb
 replace HS:=aHs HS hb.size
 replace HB:=aHB HB hb
 clear hb  Q1 Q2
 replace H:=H.out
 by_cases hc2_:t1=true
 case pos =>
  rw [if_pos hc2_] at H
  subst hc2_
  replace H:=Option.some.inj H
  subst H
  go_wp2
  go_ret
  exact⟨rfl,HB.out⟩
 rw [if_neg hc2_] at H
 replace hc2_:=eq_false_of_ne_true hc2_
 subst hc2_
 replace H:=Option.some.inj H
 subst H
 go_wp2
 go_ret
 exact⟨rfl,HB.out⟩
def eG.f(k:Nat)(a0_0:Int)(l0_1:List (S68))(a0_2:Int)(a0_3:Int)(l0_4:List (List Int))(l0_5:List (List Int))(l0_6:List Int)(a1_0:Int)(l1_1:List (S68))(a1_2:Int)(a1_3:Int)(l1_4:List (List Int))(l1_5:List (List Int))(l1_6:List Int):Option ((Bool)):=((iy.f k a0_0 l0_1 a0_2 a1_0 l1_1 a1_2).bind fun t1=>(if t1=true then ((fP.f k a0_3 l0_4 a1_3 l1_4).bind fun t2=>(if t2=true then ((cZ.f k l0_5 l1_5).bind fun t3=>(if t3=true then ((bS.f k l0_6 l1_6).bind fun t4=>(if t4=true then (some (true)) else (some (false)))) else (some (false)))) else (some (false)))) else (some (false))))
theorem eG.calls(k:Nat)(a0_0:Int)(A0_1:Option Addr)(c0_1:Nat)(l0_1:List (S68))(a0_2:Int)(a0_3:Int)(A0_4:Option Addr)(c0_4:Nat)(l0_4:List (List Int))(A0_5:Option Addr)(c0_5:Nat)(l0_5:List (List Int))(A0_6:Option Addr)(c0_6:Nat)(l0_6:List Int)(a1_0:Int)(A1_1:Option Addr)(c1_1:Nat)(l1_1:List (S68))(a1_2:Int)(a1_3:Int)(A1_4:Option Addr)(c1_4:Nat)(l1_4:List (List Int))(A1_5:Option Addr)(c1_5:Nat)(l1_5:List (List Int))(A1_6:Option Addr)(c1_6:Nat)(l1_6:List Int)(r:Bool)(w:World)(hr0_1:Kd.C k68 w A0_1 l0_1.length l0_1)(hc0_1:l0_1.length≤c0_1)(hr0_4:Kd.C (Kd.slice 3 (Kd.int .i64)) w A0_4 l0_4.length l0_4)(hc0_4:l0_4.length≤c0_4)(hr0_5:Kd.C (Kd.slice 3 (Kd.int .i64)) w A0_5 l0_5.length l0_5)(hc0_5:l0_5.length≤c0_5)(hr0_6:Kd.C (Kd.int .i64) w A0_6 l0_6.length l0_6)(hc0_6:l0_6.length≤c0_6)(hr1_1:Kd.C k68 w A1_1 l1_1.length l1_1)(hc1_1:l1_1.length≤c1_1)(hr1_4:Kd.C (Kd.slice 3 (Kd.int .i64)) w A1_4 l1_4.length l1_4)(hc1_4:l1_4.length≤c1_4)(hr1_5:Kd.C (Kd.slice 3 (Kd.int .i64)) w A1_5 l1_5.length l1_5)(hc1_5:l1_5.length≤c1_5)(hr1_6:Kd.C (Kd.int .i64) w A1_6 l1_6.length l1_6)(hc1_6:l1_6.length≤c1_6)(h:eG.f k a0_0 l0_1 a0_2 a0_3 l0_4 l0_5 l0_6 a1_0 l1_1 a1_2 a1_3 l1_4 l1_5 l1_6=some r) :
  Calls Tryz.prog 11 #[.agg #[.int .i64 a0_0,.slice A0_1 l0_1.length c0_1,.int .i64 a0_2,.int .i64 a0_3,.slice A0_4 l0_4.length c0_4,.slice A0_5 l0_5.length c0_5,.slice A0_6 l0_6.length c0_6],.agg #[.int .i64 a1_0,.slice A1_1 l1_1.length c1_1,.int .i64 a1_2,.int .i64 a1_3,.slice A1_4 l1_4.length c1_4,.slice A1_5 l1_5.length c1_5,.slice A1_6 l1_6.length c1_6]] w fun e w'=>e=.returned (.bool r)∧Below w.heap.size w w':=by
 have HR0_1:=A_.mk hr0_1
 have HC0_1:=A_.mk hc0_1
 clear hr0_1 hc0_1
 have HR0_4:=A_.mk hr0_4
 have HC0_4:=A_.mk hc0_4
 clear hr0_4 hc0_4
 have HR0_5:=A_.mk hr0_5
 have HC0_5:=A_.mk hc0_5
 clear hr0_5 hc0_5
 have HR0_6:=A_.mk hr0_6
 have HC0_6:=A_.mk hc0_6
 clear hr0_6 hc0_6
 have HR1_1:=A_.mk hr1_1
 have HC1_1:=A_.mk hc1_1
 clear hr1_1 hc1_1
 have HR1_4:=A_.mk hr1_4
 have HC1_4:=A_.mk hc1_4
 clear hr1_4 hc1_4
 have HR1_5:=A_.mk hr1_5
 have HC1_5:=A_.mk hc1_5
 clear hr1_5 hc1_5
 have HR1_6:=A_.mk hr1_6
 have HC1_6:=A_.mk hc1_6
 clear hr1_6 hc1_6
 have HB:=A_.mk (Below.refl w.heap.size w)
 unfold eG.f at h
 have H:=h
 clear h
 replace H:=oa_ H
 obtain⟨t1,A3,H⟩:=H
 replace H:=A_.mk H
 have hu39:=Tryz.underlying39
 go_enter Tryz.func11,Tryz.ntmps11
 have HS:=A_.mk (Nat.le_refl w.heap.size)
 go_wp2_with (first|((with_reducible refine gd_ (N:=2) rfl ?_);refine by_ 2 (cs:=#[.int .i64 a0_0,.slice A0_1 l0_1.length c0_1,.int .i64 a0_2,.int .i64 a0_3,.slice A0_4 l0_4.length c0_4,.slice A0_5 l0_5.length c0_5,.slice A0_6 l0_6.length c0_6]) (t:=39) ?_;intro gb1_ hg w1_ hbox hb;replace HS:=aHg HS hg hbox;replace HB:=aHB HB hb;have BK1:=A_.mk hbox;clear hbox hb hg)|((with_reducible refine gd_ (N:=3) rfl ?_);refine by_ 3 (cs:=#[.int .i64 a1_0,.slice A1_1 l1_1.length c1_1,.int .i64 a1_2,.int .i64 a1_3,.slice A1_4 l1_4.length c1_4,.slice A1_5 l1_5.length c1_5,.slice A1_6 l1_6.length c1_6]) (t:=39) ?_;intro gb2_ hg w2_ hbox hb;replace HS:=aHg HS hg hbox;replace BK1:=aBb BK1 hb;replace HB:=aHB HB hb;have BK2:=A_.mk hbox;clear hbox hb hg;have Q1:=aa BK1.out;have Q2:=aa BK2.out))
 refine(iy.calls k a0_0 _ _ l0_1 a0_2 a1_0 _ _ l1_1 a1_2 t1 _ (cb_ HR0_1 HB) HC0_1.out (cb_ HR1_1 HB) HC1_1.out A3.out).mono ?_
 rintro e w3_ ⟨rfl,hb⟩
 revert HS BK1 HB BK2
 refine aD hb ?_
 intro HS BK1 HB BK2
 clear hb  Q1 Q2
 have Q1:=aa BK1.out
 have Q2:=aa BK2.out
 replace H:=H.out
 by_cases hc1_:t1=true
 case neg =>
  rw [if_neg hc1_] at H
  replace hc1_:=eq_false_of_ne_true hc1_
  subst hc1_
  replace H:=Option.some.inj H
  subst H
  go_wp2
  go_ret
  exact⟨rfl,HB.out⟩
 rw [if_pos hc1_] at H
 subst hc1_
 replace H:=oa_ H
 obtain⟨t2,A4,H⟩:=H
 replace H:=A_.mk H
 go_wp2_with (fail)
 refine(fP.calls k a0_3 _ _ l0_4 a1_3 _ _ l1_4 t2 _ (cb_ HR0_4 HB) HC0_4.out (cb_ HR1_4 HB) HC1_4.out A4.out).mono ?_
 rintro e w4_ ⟨rfl,hb⟩
 replace HS:=aHs HS hb.size
 replace BK1:=aBb BK1 hb
 replace BK2:=aBb BK2 hb
 replace HB:=aHB HB hb
 clear hb  Q1 Q2
 have Q1:=aa BK1.out
 have Q2:=aa BK2.out
 replace H:=H.out
 by_cases hc2_:t2=true
 case neg =>
  rw [if_neg hc2_] at H
  replace hc2_:=eq_false_of_ne_true hc2_
  subst hc2_
  replace H:=Option.some.inj H
  subst H
  go_wp2
  go_ret
  exact⟨rfl,HB.out⟩
 rw [if_pos hc2_] at H
 subst hc2_
 replace H:=oa_ H
 obtain⟨t3,A5,H⟩:=H
 replace H:=A_.mk H
 go_wp2_with (fail)
 refine(cZ.calls k _ _ l0_5 _ _ l1_5 t3 _ (cb_ HR0_5 HB) HC0_5.out (cb_ HR1_5 HB) HC1_5.out A5.out).mono ?_
 rintro e w5_ ⟨rfl,hb⟩
 replace hb:=Drawn0.below hb
 replace HS:=aHs HS hb.size
 replace BK1:=aBb BK1 hb
 replace BK2:=aBb BK2 hb
 replace HB:=aHB HB hb
 clear hb  Q1 Q2
 have Q1:=aa BK1.out
 have Q2:=aa BK2.out
 replace H:=H.out
 by_cases hc3_:t3=true
 case neg =>
  rw [if_neg hc3_] at H
  replace hc3_:=eq_false_of_ne_true hc3_
  subst hc3_
  replace H:=Option.some.inj H
  subst H
  go_wp2
  go_ret
  exact⟨rfl,HB.out⟩
 rw [if_pos hc3_] at H
 subst hc3_
 replace H:=oa_ H
 obtain⟨t4,A6,H⟩:=H
 replace H:=A_.mk H
 go_wp2_with (fail)
 refine(bS.calls k _ _ l0_6 _ _ l1_6 t4 _ (cb_ HR0_6 HB) HC0_6.out (cb_ HR1_6 HB) HC1_6.out A6.out).mono ?_
 rintro e w6_ ⟨rfl,hb⟩
 replace hb:=Drawn0.below hb
 replace HS:=aHs HS hb.size
 replace HB:=aHB HB hb
 clear hb  Q1 Q2
 replace H:=H.out
 by_cases hc4_:t4=true
 case pos =>
  rw [if_pos hc4_] at H
  subst hc4_
  replace H:=Option.some.inj H
  subst H
  go_wp2
  go_ret
  exact⟨rfl,HB.out⟩
 rw [if_neg hc4_] at H
 replace hc4_:=eq_false_of_ne_true hc4_
 subst hc4_
 replace H:=Option.some.inj H
 subst H
 go_wp2
 go_ret
 exact⟨rfl,HB.out⟩
def bG.l0:Nat→List Int→Int→Int→Option (Int×List Int)
 | 0,_,_,_=>none
 | k+1,x0,x1,x5=>if x5<(x0.length:Int) then (if 0≤x5 then (bG.l0 k (x0.set (x5:Int).toNat x1) (wrap64 (x1+1)) (wrap64 (x5+1))) else (none)) else (some (x1,x0))
def bG.f(k:Nat)(l0:List Int)(a1:Int):Option (Int×List Int):=bG.l0 k l0 a1 0
theorem bG.calls(k:Nat)(P0_:Nat→Prop)(u9000_:Value)(l0:List Int)(a1:Int)(r1:Int)(r2:List Int)(w0 w:World)(hB:Below w0.heap.size w0 w)(ho0:Kd.R (Kd.int .i64) 3 w w0.heap.size P0_ u9000_ l0)(h:bG.f k l0 a1=some (r1,r2)) :
  Calls Tryz.prog 50 #[u9000_,.int .i64 a1] w fun e w'=>e=.returned (.int .i64 r1)∧Kd.R (Kd.int .i64) 3 w' w0.heap.size (fun k_=>(P0_ k_∨w.heap.size≤k_)) u9000_ r2∧Below w0.heap.size w0 w'∧Kept w w' (fun k_=>P0_ k_):=by
 have HO0:=A_.mk (show Kd.R (Kd.int .i64) 3 w w0.heap.size (fun k_=>(P0_ k_∨w.heap.size≤k_)) u9000_ l0 from Kd.aC ho0 (fun k_ hk=>(.inl hk)))
 have HK:=A_.mk (Kept.refl w (fun k_=>P0_ k_))
 have HW0:=A_.mk hB.size
 have HB:=A_.mk hB
 clear hB
 have H:(bG.l0 k l0 a1 0)=some (r1,r2):=h
 clear h
 have H':=A_.mk H
 clear H
 go_enter Tryz.func50,Tryz.ntmps50
 go_wp2
 go_loopg [1,5] k (fun kq v1 v5 w'=>∃ (x0_1:List Int) (x1_1:Int) (x5_1:Int),v1=.int .i64 x1_1∧v5=.int .i64 x5_1∧A_ (bG.l0 kq x0_1 x1_1 x5_1=some (r1,r2))∧A_ (kq≤k)∧A_ (Kd.R (Kd.int .i64) 3 w' w0.heap.size (fun k_=>(P0_ k_∨w.heap.size≤k_)) u9000_ x0_1)∧A_ (Kept w w' (fun k_=>P0_ k_))∧A_ (Below w0.heap.size w0 w'))
 case atStart=>exact ⟨(l0),(a1),(0),rs_,rs_,H',⟨Nat.le_refl _⟩,⟨by (repeat apply rX);exact HO0.out⟩,⟨(zE_ HK)⟩,⟨beY HB.out⟩⟩
 case round =>
  clear H'
  obtain⟨x0_1,x1_1,x5_1,rfl,rfl,HA,HK1,HO_0,HK,HB⟩:=hrel
  cases gk with
  | zero=>exact absurd HA.out (by simp [bG.l0])
  | succ k1 =>
   have H:=HA.out
   clear HA
   simp only [bG.l0] at H
   by_cases c3:x5_1<(x0_1.length:Int)
   rotate_left
   ·rw [if_neg c3] at H
    have c3b0:=decide_eq_false c3
    clear c3
    replace H:=lh H
    obtain⟨rfl,rfl⟩:=H
    obtain⟨Ao9,co9,eo9⟩:=Kd.aX HO_0.out
    subst eo9
    go_wp2
    go_ret
    exact⟨re_,by (repeat apply rX);exact HO_0.out,(zF_ HB),(zE_ HK)⟩
   rw [if_pos c3] at H
   have c3b0:=decide_eq_true c3
   clear c3
   by_cases c4:0≤x5_1
   rotate_left
   ·rw [if_neg c4] at H
    exact absurd H (by simp)
   rw [if_pos c4] at H
   have c4b0:=decide_eq_true c4
   clear c4
   obtain⟨y416,hy416⟩:∃ y_:List Int,y_=(x0_1.set (x5_1:Int).toNat x1_1):=⟨_,rfl⟩
   replace H:(bG.l0 k1 y416 (wrap64 (x1_1+1)) (wrap64 (x5_1+1)))=some (r1,r2):=by first|(rw [hy416];with_reducible exact H)|(have H2_:=(Option.bind_some _ _).symm.trans H;rw [hy416];with_reducible exact H2_)|(have H2_:=(Option.bind_some _ _).symm.trans H;with_reducible exact H2_)|with_reducible exact H|(rw [hy416];exact H)|exact H
   have Ny416:=A_.mk hy416
   clear hy416
   have H':=A_.mk H
   clear H
   obtain⟨Ao6,co6,eo6⟩:=Kd.aX HO_0.out
   subst eo6
   have p5:0≤(x5_1:Int):=od_
   have q5:(x5_1:Int)<((x0_1.length:Int):Int):=od_
   obtain⟨go5,co5,eo5,gb5,gl5,cl5,HG5⟩:=Kd.nS HO_0.out (by omega)
   (first|cases eo5|(injection eo5 with ea_ en_ ec_;(first|subst ea_|(injection ea_ with ea_;subst ea_));subst ec_;clear en_))
   have GB5:=A_.mk gb5
   have GG5:=A_.mk HG5
   clear gb5 gl5 HG5
   have HMgo5:=A_.mk (show (P0_ go5∨w.heap.size≤go5) from (HO_0.out.1 _ rfl))
   obtain⟨hx5_0,hf5_0⟩:=Kd.ll 0 HO_0.out (x5_1:Int) p5 q5
   replace p5:=eq_true p5
   replace q5:=eq_true q5
   have HP7:=Kd.si HO_0.out (x5_1:Int) x1_1
   go_wp2_with (first|((with_reducible refine ae (t:=3) (p:=15) rfl ?_);refine so_ (w1:=(wr.setCell ⟨go5,(x5_1:Int).toNat,none⟩ (.int .i64 x1_1))) ?_;intro w8 hw;have hg:wr.grownBy w8 (some go5):=(by rw [hw];exact HP7.2);have hp_:Kd.R (Kd.int .i64) 3 w8 w0.heap.size (fun k_=>(P0_ k_∨w.heap.size≤k_)) (.slice (some ⟨go5,0,none⟩) x0_1.length co6) y416:=(by rw [hw,Ny416.out];exact HP7.1);clear HP7;have n0_:=A_.mk (hp_);have n1_:=A_.mk ((by rw [hw];exact bs_ (HB.out) GB5.out:Below w0.heap.size w0 w8));have n2_:=A_.mk (Kept.aZ (S:=(fun k_=>P0_ k_)) hg ((zE_ HK)) (fun k_ e_=>(HO_0.out.1 k_ e_)));clear HO_0 HB HK;have HO_0:=n0_;have HB:=n1_;have HK:=n2_;clear n0_ n1_ n2_ hg hw hp_))
   go_roundg k1
   case measure=>have:=HK1.out;omega
   case rel=>exact ⟨(y416),(wrap64 (x1_1+1)),(wrap64 (x5_1+1)),rs_,rs_,H',⟨by have:=HK1.out;omega⟩,⟨by (repeat apply rX);exact HO_0.out⟩,⟨(zE_ HK)⟩,⟨beY HB.out⟩⟩
theorem xQ{W:World}{base g n cap:Nat}{ok:Nat→Prop}{xs:List S68}{i:Int}{y:S68}(h:Kd.S k68 68 W base ok (.slice (some ⟨g,0,none⟩) n cap) (xs.set i.toNat y))(h0:0≤i)(h1:i<(n:Int))(j:Nat)(k q:Int)(y':S68)(hj:j+1≤2)
  (hq:∀ v:Value,([.int .i64 y.f0,v]:List Value)[j]?=some (.int .i64 q)) (hy:∀ v:Value,([.int .i64 y.f0,v]:List Value).take j++[.int .i64 k]++([.int .i64 y.f0,v]:List Value).drop (j+1)=[.int .i64 y'.f0,v]) (h7:y'.f1=y.f1) :
  Kd.S k68 68 (W.setCell ⟨g,i.toNat*2+j,none⟩ (.int .i64 k)) base ok (.slice (some ⟨g,0,none⟩) n cap) (xs.set i.toNat y')∧W.grownBy (W.setCell ⟨g,i.toNat*2+j,none⟩ (.int .i64 k)) (some g)∧W.cell? ⟨g,i.toNat*2+j,none⟩=some (.int .i64 q)∧W.frozen? ⟨g,i.toNat*2+j,none⟩=false∧base≤g∧ok g:=by
 have hn:i.toNat<xs.length:=by have hn:=(Kd.eF h).1;rw [List.length_set] at hn;omega
 obtain⟨go,co,eo,gb,gl,_⟩:=Kd.nQ h (by rw [List.length_set];omega)
 cases eo
 obtain⟨oki,c,hcl,hM,hcc,hfr,hoki,hH⟩:=Kd.nR h z68 i h0 h1
 have hg:(xs.set i.toNat y).getD i.toNat z68=y:=by
  rw [List.getD_eq_getElem?_getD,List.getElem?_set_self (by omega)]
  rfl
 rw [hg] at hM
 obtain⟨v7,rfl,hR⟩:=lT hM
 have hP:=Kd.xK hH h0 h1 (seg:=[.int .i64 k]) (j:=j) hj (x':=y') (okp:=oki) (by
  have e:=hy v7
  rw [show j+([.int .i64 k]:List Value).length=j+1 from rfl,e]
  refine kJ _ _ _ y' ?_
  rw [h7]
  exact hR) (fun _ hk=>hk)
 rw [List.set_set] at hP
 refine⟨hP.1,hP.2,hcc j _ (hq v7),hfr j,gb,(Kd.S_R h).1 g rfl⟩
theorem vB{W:World}{base g n cap:Nat}{ok:Nat→Prop}{xs:List S68}{i:Int}{y:S68}(h:Kd.S k68 68 W base ok (.slice (some ⟨g,0,none⟩) n cap) (xs.set i.toNat y))(h0:0≤i)(h1:i<(n:Int)) :
  ∃ (oki:Nat→Prop) (A:Option Addr) (c:Nat),W.cell? ⟨g,i.toNat*2+1,none⟩=some (.slice A y.f1.length c)∧(Kd.int .i64).R 3 W base oki (.slice A y.f1.length c) y.f1∧Kd.H k68 68 W base ok (.slice (some ⟨g,0,none⟩) n cap) (xs.set i.toNat y) i oki [.int .i64 y.f0,(.slice A y.f1.length c)]:=by
 have hn:i.toNat<xs.length:=by have hn:=(Kd.eF h).1;rw [List.length_set] at hn;omega
 obtain⟨oki,c,hcl,hM,hcc,hoki,hH⟩:=Kd.sD h z68 i h0 h1
 have hg:(xs.set i.toNat y).getD i.toNat z68=y:=by
  rw [List.getD_eq_getElem?_getD,List.getElem?_set_self (by omega)]
  rfl
 rw [hg] at hM
 obtain⟨v7,rfl,hR⟩:=lT hM
 obtain⟨A,cc,rfl⟩:=Kd.aX hR
 exact⟨oki,A,cc,hcc 1 _ rfl,hR,hH⟩
theorem xh{W:World}{base g n cap:Nat}{ok:Nat→Prop}{xs:List S68}{i:Int}{a0:Int}{a1:List Int}(h:Kd.S k68 68 W base ok (.slice (some ⟨g,0,none⟩) n cap) (xs.set i.toNat (⟨a0,a1⟩:S68)))(h0:0≤i)(h1:i<(n:Int)) :
  ∃ (oki:Nat→Prop) (A:Option Addr) (c:Nat),W.cell? ⟨g,i.toNat*2+1,none⟩=some (.slice A a1.length c)∧(Kd.int .i64).R 3 W base oki (.slice A a1.length c) a1∧Kd.H k68 68 W base ok (.slice (some ⟨g,0,none⟩) n cap) (xs.set i.toNat (⟨a0,a1⟩:S68)) i oki [.int .i64 a0,.slice A a1.length c]:=vB h h0 h1
theorem xg{W w8:World}{base g n cap:Nat}{ok oki okp:Nat→Prop}{xs:List S68}{i:Int}{a0:Int}{a1 r7:List Int}{v:Value}(hR:(Kd.int .i64).R 3 W base oki v a1)(hH:Kd.H k68 68 W base ok (.slice (some ⟨g,0,none⟩) n cap) (xs.set i.toNat (⟨a0,a1⟩:S68)) i oki [.int .i64 a0,v])
  (hy:(Kd.int .i64).R 3 w8 base okp v r7) (hk:Kept W w8 (fun k_=>some k_=v.ownBlock)):Kd.S k68 68 w8 base ok (.slice (some ⟨g,0,none⟩) n cap) (xs.set i.toNat (⟨a0,r7⟩:S68))∧(∀ k_,some k_=v.ownBlock→ok k_):=by
 have h:=Kd.rJ (Kd.vI hH (fun k_ _ hn hlt=>hk.2 k_ hlt (fun hs=>hn (hR.1 k_ hs.symm)))) (kJ w8 base oki (⟨a0,r7⟩:S68) (Kd.oF rfl hy (fun k_ e_=>hR.1 k_ e_))) (fun _ hk=>hk)
 rw [List.set_set] at h
 exact⟨h,fun k_ hs=>hH.1 k_ (hR.1 k_ hs.symm)⟩
theorem wO{W:World}{base g n cap:Nat}{ok:Nat→Prop}{xs:List S68}{i:Int}{a0:Int}{a1:List Int}(k:Int)(h:Kd.S k68 68 W base ok (.slice (some ⟨g,0,none⟩) n cap) (xs.set i.toNat (⟨a0,a1⟩:S68)))(h0:0≤i)(h1:i<(n:Int)) :
  Kd.S k68 68 (W.setCell ⟨g,i.toNat*2,none⟩ (.int .i64 k)) base ok (.slice (some ⟨g,0,none⟩) n cap) (xs.set i.toNat (⟨k,a1⟩:S68))∧W.grownBy (W.setCell ⟨g,i.toNat*2,none⟩ (.int .i64 k)) (some g)∧W.cell? ⟨g,i.toNat*2,none⟩=some (.int .i64 a0)∧W.frozen? ⟨g,i.toNat*2,none⟩=false∧base≤g∧ok g :=
 xQ h h0 h1 0 k a0 (⟨k,a1⟩:S68) (by decide) (fun _=>rfl) (fun _=>rfl) rfl
theorem tQ{P:Program}{ops:Array Oper}{rest:List Oper}{o:Oper}{a:Act}{Q:Exit→Act→World→Prop}{W:World}{t:TypeId}{p:Tmp}{v:Operand}(pa:Addr)(u:Value)(hgd:o.guard=none)(ho:o.op=.store t (.tmp p) v)(hN:o.dst=none)
  (hrun:(execOp a.eval o).run P W=.ok .skip (W.setCell pa u)) (h:∀ w',w'=W.setCell pa u→wpList P ops Q rest a w'):wpList P ops Q (o :: rest) a W:=se_ hgd ho hN hrun h
theorem vM(xs:List S68)(i:Int)(h0:0≤i)(h1:i<(xs.length:Int)):xs.set i.toNat (⟨(ay xs i).f0,(ay xs i).f1⟩:S68)=xs:=by
 have h2:i.toNat<xs.length:=by omega
 refine(congrArg (xs.set i.toNat) (show (⟨(ay xs i).f0,(ay xs i).f1⟩:S68)=xs[i.toNat] from ?_)).trans (List.set_getElem_self h2)
 have:ay xs i=xs[i.toNat]:=by unfold ay;rw [List.getD_eq_getElem?_getD,List.getElem?_eq_getElem h2];rfl
 rw [this]
def bV.l0:Nat→List S68→Int→Int→Option (Int×(List S68))
 | 0,_,_,_=>none
 | k+1,x0_1,x1_1,x5_1=>if x5_1<(x0_1.length:Int) then (if 0≤x5_1 then ((bG.f k (ay x0_1 x5_1).f1 (wrap64 (x1_1+1))).bind fun bt=>(bV.l0 k (x0_1.set x5_1.toNat (⟨x1_1,bt.2⟩:S68)) bt.1 (wrap64 (x5_1+1)))) else (none)) else (some (x1_1,x0_1))
def bV.f(k:Nat)(l0:List S68)(a1:Int):Option (Int×(List S68)):=bV.l0 k l0 a1 0
theorem bV.calls(k:Nat)(P0_:Nat→Prop)(u9000_:Value)(l0:List S68)(a1:Int)(r1:Int)(r2:List S68)(w0 w:World)(hB:Below w0.heap.size w0 w)(ho0:Kd.S k68 68 w w0.heap.size P0_ u9000_ l0)(h:bV.f k l0 a1=some (r1,r2)) :
  Calls Tryz.prog 90 #[u9000_,.int .i64 a1] w fun e w'=>e=.returned (.int .i64 r1)∧Kd.S k68 68 w' w0.heap.size P0_ u9000_ r2∧Below w0.heap.size w0 w'∧Kept w w' P0_:=by
 have HO0:=A_.mk ho0
 have HK:=A_.mk (Kept.refl w P0_)
 have HB:=A_.mk hB
 clear ho0 hB
 have H:(bV.l0 k l0 a1 0)=some (r1,r2):=h
 clear h
 have H':=A_.mk H
 clear H
 go_enter Tryz.func90,Tryz.ntmps90
 go_wp2
 go_loopg [1,5] k (fun kq v1 v5 w'=>∃ (x0_1:List S68) (x1_1:Int) (x5_1:Int),v1=.int .i64 x1_1∧v5=.int .i64 x5_1∧A_ (bV.l0 kq x0_1 x1_1 x5_1=some (r1,r2))∧A_ (kq≤k)∧A_ (Kd.S k68 68 w' w0.heap.size P0_ u9000_ x0_1)∧A_ (Kept w w' P0_)∧A_ (Below w0.heap.size w0 w'))
 case atStart=>exact ⟨(l0),(a1),(0),rs_,rs_,H',⟨Nat.le_refl _⟩,⟨by (with_reducible repeat (first|apply Kd.dI|apply Kd.dH|apply Kd.d_));exact HO0.out⟩,⟨(zE_ HK)⟩,⟨beY HB.out⟩⟩
 case round =>
  clear H' HO0 HK HB
  obtain⟨x0_1,x1_1,x5_1,rfl,rfl,HA,HK1,HO_0,HK,HB⟩:=hrel
  cases gk with
  | zero=>exact absurd HA.out (by simp [bV.l0])
  | succ k1 =>
   have H:=HA.out
   clear HA
   simp only [bV.l0] at H
   by_cases c3:x5_1<(x0_1.length:Int)
   rotate_left
   ·rw [if_neg c3] at H
    have c3b0:=decide_eq_false c3
    clear c3
    replace H:=lh H
    obtain⟨rfl,rfl⟩:=H
    obtain⟨Ao9,co9,eo9⟩:=Kd.dx HO_0.out
    subst eo9
    go_wp2
    go_ret
    exact⟨rfl,HO_0.out,HB.out,HK.out⟩
   rw [if_pos c3] at H
   have c3b0:=decide_eq_true c3
   by_cases c4:0≤x5_1
   rotate_left
   ·rw [if_neg c4] at H
    exact absurd H (by simp)
   rw [if_pos c4] at H
   have c4b0:=decide_eq_true c4
   obtain⟨⟨t1,t2⟩,A50,H⟩:=ob_ H
   have A5:=A_.mk A50
   clear A50
   have H':=A_.mk H
   clear H
   obtain⟨go5,co5,eo5,gb5,gl5,HG5⟩:=Kd.nQ HO_0.out (by omega)
   cases eo5
   clear gb5 gl5 HG5
   have n_:=A_.mk (show Kd.S k68 68 _ w0.heap.size P0_ (.slice (some ⟨go5,0,none⟩) x0_1.length co5) (x0_1.set x5_1.toNat (⟨(ay x0_1 x5_1).f0,(ay x0_1 x5_1).f1⟩:S68)) from by rw [vM x0_1 x5_1 c4 c3];exact HO_0.out)
   clear HO_0
   have HO_0:=n_
   clear n_
   have p5:=eq_true c4
   have q5:=eq_true c3
   clear c3 c4
   go_wp2_with (first|((with_reducible refine ae (t:=3) (p:=16) rfl ?_);have HP:=wO x1_1 HO_0.out (of_eq_true p5) (of_eq_true q5);have hx_:=HP.2.2.1;have hf_:=HP.2.2.2.1;refine tQ (t:=3) (p:=16) (v:=?vo_16) ⟨go5,x5_1.toNat*2,none⟩ (.int .i64 x1_1) ?hg ?ho ?hn ?hr ?_;(case ho=>rfl);(case hg=>rfl);(case hn=>rfl);(case hr=>first|(go_simp;done)|(go_simp;rfl));intro w' hw;have n0_:=A_.mk (show Kd.S k68 68 w' w0.heap.size P0_ _ _ from (by rw [hw];exact HP.1));have n1_:=A_.mk (show Below w0.heap.size w0 w' from (by rw [hw];exact bs_ HB.out HP.2.2.2.2.1));have n2_:=A_.mk (show Kept _ w' P0_ from (by rw [hw];exact HK.out.setCell (.inl HP.2.2.2.2.2) _));clear HO_0 HB HK hw HP hx_ hf_;have HO_0:=n0_;have HB:=n1_;have HK:=n2_;clear n0_ n1_ n2_;obtain⟨oki,A15,c15,hc15,hR,hH⟩:=xh HO_0.out (of_eq_true p5) (of_eq_true q5);have HR:=A_.mk hR;have HH:=A_.mk hH;clear hR hH HO_0))
   refine(bG.calls k1 (fun k_=>some k_=(.slice A15 (ay x0_1 x5_1).f1.length c15:Value).ownBlock) (.slice A15 (ay x0_1 x5_1).f1.length c15) (ay x0_1 x5_1).f1 (wrap64 (x1_1+1)) t1 t2 w0 _ HB.out (Kd.jQ rfl HR.out) A5.out).mono ?_
   rintro e w8 ⟨rfl,hy0,hb,hkp⟩
   obtain⟨HO_1,hok_⟩:=xg HR.out HH.out hy0 hkp
   have HO_0:=A_.mk HO_1
   have HB':=A_.mk hb
   have HK':=A_.mk (HK.out.jW hkp (fun k_ hs=>.inl (hok_ k_ hs)))
   clear HB HK HR HH hy0 hb hkp hc15 HO_1 hok_
   have HB:=HB'
   have HK:=HK'
   clear HB' HK'
   go_wp2
   go_roundg k1
   case measure=>have:=HK1.out;omega
   case rel=>exact ⟨_,(t1),(wrap64 (x5_1+1)),rs_,rs_,H',⟨by have:=HK1.out;omega⟩,HO_0,HK,HB⟩
def fM.f(k:Nat)(a0_0:Int)(l0_1:List S68)(a0_2:Int)(a1:Int):Option (Int×(List S68)):=(bV.f k l0_1 a1).bind fun bt=>(some (bt.1,bt.2))
theorem fM.calls(k:Nat)(a0_0:Int)(a0_2:Int)(P0_:Nat→Prop)(u9000_:Value)(l0_1:List S68)(a1:Int)(r1:Int)(r2:List S68)(w0 w:World)(hB:Below w0.heap.size w0 w)(ho0_1:Kd.S k68 68 w w0.heap.size P0_ u9000_ l0_1)(h:fM.f k a0_0 l0_1 a0_2 a1=some (r1,r2)) :
  Calls Tryz.prog 47 #[.agg #[.int .i64 a0_0,u9000_,.int .i64 a0_2],.int .i64 a1] w fun e w'=>e=.returned (.int .i64 r1)∧Kd.S k68 68 w' w0.heap.size P0_ u9000_ r2∧Below w0.heap.size w0 w'∧Kept w w' P0_:=by
 have hu36:=Tryz.underlying36
 have HO:=A_.mk ho0_1
 have HB:=A_.mk hB
 unfold fM.f at h
 obtain⟨⟨t1,t2⟩,A0,h2⟩:=ob_ h
 simp only [Option.some.injEq,Prod.mk.injEq] at h2
 obtain⟨rfl,rfl⟩:=h2
 have A1:=A_.mk A0
 clear h A0 hB
 obtain⟨Ao,co,eo⟩:=Kd.dx HO.out
 subst eo
 clear ho0_1
 go_enter Tryz.func47,Tryz.ntmps47
 go_wp2_with ((with_reducible refine gd_ (N:=2) rfl ?_);refine by_ 2 (cs:=#[.int .i64 a0_0,.slice Ao l0_1.length co,.int .i64 a0_2]) (t:=36) ?_;intro gb hg w1 hbox hb;have HO1:=A_.mk (Kd.iY HO.out hb);have HB1:=A_.mk (bt_ HB.out hb);have HK1:=A_.mk (Kept.of_below hb P0_);have hcz0:w1.cell? ⟨gb,0,none⟩=some (.int .i64 a0_0):=(bc_ hbox 0).trans rfl;have hcz1:w1.cell? ⟨gb,1,none⟩=some (.slice Ao l0_1.length co):=(bc_ hbox 1).trans rfl;have hcz2:w1.cell? ⟨gb,2,none⟩=some (.int .i64 a0_2):=(bc_ hbox 2).trans rfl;clear hbox hb hg HO HB)
 refine(bV.calls k P0_ (.slice Ao l0_1.length co) l0_1 a1 t1 t2 w0 _ HB1.out HO1.out A1.out).mono ?_
 rintro e w2 ⟨rfl,ho,hb2,hk⟩
 have HK:=A_.mk (HK1.out.jW hk (fun k_ hs=>.inl hs))
 have HO2:=A_.mk ho
 have HB2:=A_.mk hb2
 clear ho hb2 hk HK1 hcz0 hcz1 hcz2
 go_wp2
 go_ret
 exact⟨rfl,HO2.out,HB2.out,HK.out⟩
def bO.l0:Nat→List (List Int)→Int→Int→Option (Int×(List (List Int)))
 | 0,_,_,_=>none
 | k+1,x0,x1,x5=>if x5<(x0.length:Int) then (if 0≤x5 then ((bG.f k (dD x0 x5) x1).bind fun bt=>(bO.l0 k (x0.set x5.toNat bt.2) bt.1 (wrap64 (x5+1)))) else (none)) else (some (x1,x0))
def bO.f(k:Nat)(l0:List (List Int))(a1:Int):Option (Int×(List (List Int))):=bO.l0 k l0 a1 0
theorem bO.calls(k:Nat)(P0_:Nat→Prop)(u9000_:Value)(l0:List (List Int))(a1:Int)(r1:Int)(r2:List (List Int))(w0 w:World)(hB:Below w0.heap.size w0 w)(ho0:Kd.S (Kd.slice 3 (Kd.int .i64)) 28 w w0.heap.size P0_ u9000_ l0)(h:bO.f k l0 a1=some (r1,r2)) :
  Calls Tryz.prog 49 #[u9000_,.int .i64 a1] w fun e w'=>e=.returned (.int .i64 r1)∧Kd.S (Kd.slice 3 (Kd.int .i64)) 28 w' w0.heap.size P0_ u9000_ r2∧Below w0.heap.size w0 w'∧Kept w w' P0_:=by
 have HO0:=A_.mk ho0
 have HK:=A_.mk (Kept.refl w P0_)
 have HB:=A_.mk hB
 clear ho0 hB
 have H:(bO.l0 k l0 a1 0)=some (r1,r2):=h
 clear h
 have H':=A_.mk H
 clear H
 go_enter Tryz.func49,Tryz.ntmps49
 go_wp2
 go_loopg [1,5] k (fun kq v1 v5 w'=>∃ (x0_1:List (List Int)) (x1_1:Int) (x5_1:Int),v1=.int .i64 x1_1∧v5=.int .i64 x5_1∧A_ (bO.l0 kq x0_1 x1_1 x5_1=some (r1,r2))∧A_ (kq≤k)∧A_ (Kd.S (Kd.slice 3 (Kd.int .i64)) 28 w' w0.heap.size P0_ u9000_ x0_1)∧A_ (Kept w w' P0_)∧A_ (Below w0.heap.size w0 w'))
 case atStart=>exact ⟨(l0),(a1),(0),rs_,rs_,H',⟨Nat.le_refl _⟩,⟨by (with_reducible repeat (first|apply Kd.dI|apply Kd.dH|apply Kd.d_));exact HO0.out⟩,⟨(zE_ HK)⟩,⟨beY HB.out⟩⟩
 case round =>
  clear H' HO0 HK HB
  obtain⟨x0_1,x1_1,x5_1,rfl,rfl,HA,HK1,HO_0,HK,HB⟩:=hrel
  cases gk with
  | zero=>exact absurd HA.out (by simp [bO.l0])
  | succ k1 =>
   have H:=HA.out
   clear HA
   simp only [bO.l0] at H
   by_cases c3:x5_1<(x0_1.length:Int)
   rotate_left
   ·rw [if_neg c3] at H
    have c3b0:=decide_eq_false c3
    clear c3
    replace H:=lh H
    obtain⟨rfl,rfl⟩:=H
    obtain⟨Ao9,co9,eo9⟩:=Kd.dx HO_0.out
    subst eo9
    go_wp2
    go_ret
    exact⟨rfl,HO_0.out,HB.out,HK.out⟩
   rw [if_pos c3] at H
   have c3b0:=decide_eq_true c3
   by_cases c4:0≤x5_1
   rotate_left
   ·rw [if_neg c4] at H
    exact absurd H (by simp)
   rw [if_pos c4] at H
   have c4b0:=decide_eq_true c4
   obtain⟨⟨t1,t2⟩,A50,H⟩:=ob_ H
   have A5:=A_.mk A50
   clear A50
   have H':=A_.mk H
   clear H
   obtain⟨go5,co5,eo5,gb5,gl5,HG5⟩:=Kd.nQ HO_0.out (by omega)
   cases eo5
   clear gb5 gl5 HG5
   obtain⟨oki,cs,hcl,hM,hcc,hoki,hH⟩:=Kd.sD HO_0.out [] x5_1 c4 c3
   have hM':(Kd.slice 3 (Kd.int .i64)).M wr w0.heap.size oki (dD x0_1 x5_1) cs:=hM
   clear hM
   obtain⟨v5,ecs,hR⟩:=hM'
   subst ecs
   obtain⟨A15,c15,ev⟩:=Kd.aX hR
   subst ev
   have hc15:=hcc 0 _ rfl
   simp only [show (Kd.slice 3 (Kd.int .i64)).sz=1 from rfl,Nat.mul_one,Nat.add_zero] at hc15
   have HR:=A_.mk hR
   have HH:=A_.mk hH
   have p5:=eq_true c4
   have q5:=eq_true c3
   clear hR hH hcc hcl hoki c3 c4 HO_0
   go_wp2_with ((with_reducible refine gc_ (f:=50) rfl ?_);refine gl_ (some 17) Tryz.func50 #[.slice A15 (dD x0_1 x5_1).length c15,.int .i64 x1_1] ?_;(with_reducible refine (bG.calls k1 (fun k_=>some k_=(.slice A15 (dD x0_1 x5_1).length c15:Value).ownBlock) (.slice A15 (dD x0_1 x5_1).length c15) (dD x0_1 x5_1) x1_1 t1 t2 w0 _ ?side1 ?side2 A5.out).mono ?_);(case side1=>exact HB.out);(case side2=>exact Kd.jQ rfl HR.out);rintro e w8 ⟨rfl,hy0,hb,hkp⟩;refine⟨_,rfl,?_⟩;have HO_0:=A_.mk (Kd.rJ (Kd.vI HH.out (fun k_ _ hn hlt=>hkp.2 k_ hlt (fun hs=>hn (HR.out.1 k_ hs.symm)))) (Kd.mO (Kd.oF rfl hy0 (fun k_ e_=>HR.out.1 k_ e_))) (fun _ hk=>hk));have HB':=A_.mk hb;have HK':=A_.mk (HK.out.jW hkp (fun k_ hs=>.inl ((HH.out.1 k_ (HR.out.1 k_ hs.symm)))));clear HB HK HR HH hy0 hb hkp hc15;have HB:=HB';have HK:=HK';clear HB' HK')
   go_roundg k1
   case measure=>have:=HK1.out;omega
   case rel=>exact ⟨_,(t1),(wrap64 (x5_1+1)),rs_,rs_,H',⟨by have:=HK1.out;omega⟩,HO_0,HK,HB⟩
def eU.f(k:Nat)(a0_0:Int)(l0_1:List (List Int))(a1:Int):Option (Int×(List (List Int))):=(bO.f k l0_1 a1).bind fun bt=>(some (bt.1,bt.2))
theorem eU.calls(k:Nat)(a0_0:Int)(P0_1_:Nat→Prop)(u9000_:Value)(l0_1:List (List Int))(a1:Int)(r1:Int)(r2:List (List Int))(w0 w:World)(hB:Below w0.heap.size w0 w)(ho0_1:Kd.S (Kd.slice 3 (Kd.int .i64)) 28 w w0.heap.size P0_1_ u9000_ l0_1)(h:eU.f k a0_0 l0_1 a1=some (r1,r2)) :
  Calls Tryz.prog 48 #[.agg #[.int .i64 a0_0,u9000_],.int .i64 a1] w fun e w'=>e=.returned (.int .i64 r1)∧Kd.S (Kd.slice 3 (Kd.int .i64)) 28 w' w0.heap.size P0_1_ u9000_ r2∧Below w0.heap.size w0 w'∧Kept w w' P0_1_:=by
 have hu37:=Tryz.underlying37
 have HO:=A_.mk ho0_1
 have HB:=A_.mk hB
 unfold eU.f at h
 obtain⟨⟨t1,t2⟩,A0,h2⟩:=ob_ h
 simp only [Option.some.injEq,Prod.mk.injEq] at h2
 obtain⟨rfl,rfl⟩:=h2
 have A1:=A_.mk A0
 clear h A0 hB
 obtain⟨Ao,co,eo⟩:=Kd.dx HO.out
 subst eo
 clear ho0_1
 go_enter Tryz.func48,Tryz.ntmps48
 go_wp2_with ((with_reducible refine gd_ (N:=2) rfl ?_);refine by_ 2 (cs:=#[.int .i64 a0_0,.slice Ao l0_1.length co]) (t:=37) ?_;intro gb hg w1 hbox hb;have HO1:=A_.mk (Kd.iY HO.out hb);have HB1:=A_.mk (bt_ HB.out hb);have HK1:=A_.mk (Kept.of_below hb P0_1_);have hcz0:w1.cell? ⟨gb,0,none⟩=some (.int .i64 a0_0):=(bc_ hbox 0).trans rfl;have hcz1:w1.cell? ⟨gb,1,none⟩=some (.slice Ao l0_1.length co):=(bc_ hbox 1).trans rfl;have hfz0:=bf_ hbox 0;have hfz1:=bf_ hbox 1;clear hbox hb hg HO HB)
 refine(bO.calls k P0_1_ (.slice Ao l0_1.length co) l0_1 a1 t1 t2 w0 _ HB1.out HO1.out A1.out).mono ?_
 rintro e w2 ⟨rfl,ho,hb2,hk⟩
 have HK:=A_.mk (HK1.out.jW hk (fun k_ hs=>.inl hs))
 have HO2:=A_.mk ho
 have HB2:=A_.mk hb2
 clear ho hb2 hk HK1 hcz0 hcz1 hfz0 hfz1
 go_wp2
 go_ret
 exact⟨rfl,HO2.out,HB2.out,HK.out⟩
def gy.f(k:Nat)(a0_0:Int)(l0_1:List (S68))(a0_2:Int)(a0_3:Int)(l0_4:List (List Int))(l0_5:List (List Int))(l0_6:List Int)(a1:Int):Option ((Int)×(List (S68))×(List (List Int))×(List (List Int))×(List Int)):=((fM.f k a0_0 l0_1 a0_2 a1).bind fun ⟨t1,t2⟩=>((eU.f k a0_3 l0_4 t1).bind fun ⟨t3,t4⟩=>((bO.f k l0_5 t3).bind fun ⟨t5,t6⟩=>((bG.f k l0_6 t5).bind fun ⟨t7,t8⟩=>some (t7,t2,t4,t6,t8)))))
theorem gy.calls(k:Nat)(P0_:Nat→Prop)(f_:Nat→Nat)(a0_0:Int)(u9000_:Value)(l0_1:List (S68))(a0_2:Int)(a0_3:Int)(u9001_:Value)(l0_4:List (List Int))(u9002_:Value)(l0_5:List (List Int))(u9003_:Value)(l0_6:List Int)(a1:Int)(r1:Int)(r2:List (S68))(r3:List (List Int))(r4:List (List Int))(r5:List Int)(w0 w:World)(hB:Below w0.heap.size w0 w)(ho0_1:Kd.S k68 68 w w0.heap.size (fun k_=>P0_ k_∧f_ k_=0) u9000_ l0_1)(ho0_4:Kd.S (Kd.slice 3 (Kd.int .i64)) 28 w w0.heap.size (fun k_=>P0_ k_∧f_ k_=1) u9001_ l0_4)(ho0_5:Kd.S (Kd.slice 3 (Kd.int .i64)) 28 w w0.heap.size (fun k_=>P0_ k_∧f_ k_=2) u9002_ l0_5)(ho0_6:Kd.R (Kd.int .i64) 3 w w0.heap.size (fun k_=>P0_ k_∧f_ k_=3) u9003_ l0_6)(h:gy.f k a0_0 l0_1 a0_2 a0_3 l0_4 l0_5 l0_6 a1=some (r1,r2,r3,r4,r5)) :
  Calls Tryz.prog 12 #[.agg #[.int .i64 a0_0,u9000_,.int .i64 a0_2,.int .i64 a0_3,u9001_,u9002_,u9003_],.int .i64 a1] w fun e w'=>e=.returned (.int .i64 r1)∧Kd.S k68 68 w' w0.heap.size (fun k_=>P0_ k_∧f_ k_=0) u9000_ r2∧Kd.S (Kd.slice 3 (Kd.int .i64)) 28 w' w0.heap.size (fun k_=>P0_ k_∧f_ k_=1) u9001_ r3∧Kd.S (Kd.slice 3 (Kd.int .i64)) 28 w' w0.heap.size (fun k_=>P0_ k_∧f_ k_=2) u9002_ r4∧Kd.R (Kd.int .i64) 3 w' w0.heap.size (fun k_=>P0_ k_∧f_ k_=3) u9003_ r5∧Below w0.heap.size w0 w'∧Kept w w' P0_:=by
 have hu39:=Tryz.underlying39
 have HB:=A_.mk hB
 have H:((fM.f k a0_0 l0_1 a0_2 a1).bind fun ⟨t1,t2⟩=>((eU.f k a0_3 l0_4 t1).bind fun ⟨t3,t4⟩=>((bO.f k l0_5 t3).bind fun ⟨t5,t6⟩=>((bG.f k l0_6 t5).bind fun ⟨t7,t8⟩=>some (t7,t2,t4,t6,t8)))))=some (r1,r2,r3,r4,r5):=h
 clear h hB
 replace H:=oa_ H
 obtain⟨⟨t1,t2⟩,A0,H⟩:=H
 replace H:=oa_ H
 obtain⟨⟨t3,t4⟩,A1,H⟩:=H
 replace H:=oa_ H
 obtain⟨⟨t5,t6⟩,A2,H⟩:=H
 replace H:=oa_ H
 obtain⟨⟨t7,t8⟩,A3,H⟩:=H
 replace H:=yE H
 obtain⟨rfl,rfl,rfl,rfl,rfl⟩:=H
 have HO1:=A_.mk (Kd.dw (ok':=(fun k_=>(P0_ k_∧k_<w.heap.size)∧f_ k_=0)) (Kd.ik ho0_1) (fun _ hk_=>⟨⟨hk_.1.1,hk_.2.2.1⟩,hk_.1.2⟩))
 obtain⟨Ao1,co1,eo_⟩:=Kd.dx ho0_1
 subst eo_
 clear ho0_1
 have HO4:=A_.mk (Kd.dw (ok':=(fun k_=>(P0_ k_∧k_<w.heap.size)∧f_ k_=1)) (Kd.ik ho0_4) (fun _ hk_=>⟨⟨hk_.1.1,hk_.2.2.1⟩,hk_.1.2⟩))
 obtain⟨Ao4,co4,eo_⟩:=Kd.dx ho0_4
 subst eo_
 clear ho0_4
 have HO5:=A_.mk (Kd.dw (ok':=(fun k_=>(P0_ k_∧k_<w.heap.size)∧f_ k_=2)) (Kd.ik ho0_5) (fun _ hk_=>⟨⟨hk_.1.1,hk_.2.2.1⟩,hk_.1.2⟩))
 obtain⟨Ao5,co5,eo_⟩:=Kd.dx ho0_5
 subst eo_
 clear ho0_5
 have HO6:=A_.mk (Kd.aC (ok':=(fun k_=>(P0_ k_∧k_<w.heap.size)∧f_ k_=3)) (Kd.bP ho0_6) (fun _ hk_=>⟨⟨hk_.1.1,hk_.2.2.1⟩,hk_.1.2⟩))
 obtain⟨Ao6,co6,eo_⟩:=Kd.aX ho0_6
 subst eo_
 clear ho0_6
 go_enter Tryz.func12,Tryz.ntmps12
 go_wp2_with ((with_reducible refine gd_ (N:=2) rfl ?_);refine by_ 2 (cs:=#[.int .i64 a0_0,.slice Ao1 l0_1.length co1,.int .i64 a0_2,.int .i64 a0_3,.slice Ao4 l0_4.length co4,.slice Ao5 l0_5.length co5,.slice Ao6 l0_6.length co6]) (t:=39) ?_;intro gb hg w1 hbox hb;replace HO1:=A_.mk (Kd.iY HO1.out hb);replace HO4:=A_.mk (Kd.iY HO4.out hb);replace HO5:=A_.mk (Kd.iY HO5.out hb);replace HO6:=A_.mk (Kd.mQ HO6.out hb);have BK:=A_.mk hbox;have GE:=A_.mk hg;have HK:=A_.mk (Kept.of_below hb (fun k_=>(P0_ k_∧k_<w.heap.size)));have HB1:=A_.mk (bt_ HB.out hb);clear hbox hb hg HB;have hc0:w1.cell? ⟨gb,0,none⟩=some (.int .i64 a0_0):=(bc_ BK.out 0).trans rfl;have hc1:w1.cell? ⟨gb,1,none⟩=some (.slice Ao1 l0_1.length co1):=(bc_ BK.out 1).trans rfl;have hc2:w1.cell? ⟨gb,2,none⟩=some (.int .i64 a0_2):=(bc_ BK.out 2).trans rfl;have hc3:w1.cell? ⟨gb,3,none⟩=some (.int .i64 a0_3):=(bc_ BK.out 3).trans rfl;have hc4:w1.cell? ⟨gb,4,none⟩=some (.slice Ao4 l0_4.length co4):=(bc_ BK.out 4).trans rfl;have hc5:w1.cell? ⟨gb,5,none⟩=some (.slice Ao5 l0_5.length co5):=(bc_ BK.out 5).trans rfl;have hc6:w1.cell? ⟨gb,6,none⟩=some (.slice Ao6 l0_6.length co6):=(bc_ BK.out 6).trans rfl)
 have HB:=HB1
 clear HB1
 refine(fM.calls k a0_0 a0_2 (fun k_=>(P0_ k_∧k_<w.heap.size)∧f_ k_=0) (.slice Ao1 l0_1.length co1) l0_1 a1 t1 t2 w0 _ HB.out HO1.out A0.out).mono ?_
 rintro e w2 ⟨rfl,n_,hb_,hk_⟩
 replace hk_:=hk_.mono (S':=fun k_=>(P0_ k_∧k_<w.heap.size)∧f_ k_=0) (fun _ z_=>z_)
 replace HO1:=A_.mk (n_)
 replace HO4:=A_.mk (Kd.ku HO4.out hk_ (fun k_ a_ b_=>by have:=a_.2;have:=b_.2;omega))
 replace HO5:=A_.mk (Kd.ku HO5.out hk_ (fun k_ a_ b_=>by have:=a_.2;have:=b_.2;omega))
 replace HO6:=A_.mk (Kd.oL HO6.out hk_ (fun k_ a_ b_=>by have:=a_.2;have:=b_.2;omega))
 replace BK:=A_.mk ((hk_.2 gb (aI BK.out) (fun b_=>by have:=GE.out;have:=b_.1.2;omega)).trans BK.out)
 replace HK:=A_.mk (HK.out.jW hk_ (fun k_ b_=>.inl b_.1))
 replace HB:=A_.mk hb_
 clear hb_ hk_ n_ hc0 hc1 hc2 hc3 hc4 hc5 hc6
 have hc0:w2.cell? ⟨gb,0,none⟩=some (.int .i64 a0_0):=(bc_ BK.out 0).trans rfl
 have hc1:w2.cell? ⟨gb,1,none⟩=some (.slice Ao1 l0_1.length co1):=(bc_ BK.out 1).trans rfl
 have hc2:w2.cell? ⟨gb,2,none⟩=some (.int .i64 a0_2):=(bc_ BK.out 2).trans rfl
 have hc3:w2.cell? ⟨gb,3,none⟩=some (.int .i64 a0_3):=(bc_ BK.out 3).trans rfl
 have hc4:w2.cell? ⟨gb,4,none⟩=some (.slice Ao4 l0_4.length co4):=(bc_ BK.out 4).trans rfl
 have hc5:w2.cell? ⟨gb,5,none⟩=some (.slice Ao5 l0_5.length co5):=(bc_ BK.out 5).trans rfl
 have hc6:w2.cell? ⟨gb,6,none⟩=some (.slice Ao6 l0_6.length co6):=(bc_ BK.out 6).trans rfl
 go_wp2_with fail
 refine(eU.calls k a0_3 (fun k_=>(P0_ k_∧k_<w.heap.size)∧f_ k_=1) (.slice Ao4 l0_4.length co4) l0_4 t1 t3 t4 w0 _ HB.out HO4.out A1.out).mono ?_
 rintro e w3 ⟨rfl,n_,hb_,hk_⟩
 replace hk_:=hk_.mono (S':=fun k_=>(P0_ k_∧k_<w.heap.size)∧f_ k_=1) (fun _ z_=>z_)
 replace HO1:=A_.mk (Kd.ku HO1.out hk_ (fun k_ a_ b_=>by have:=a_.2;have:=b_.2;omega))
 replace HO4:=A_.mk (n_)
 replace HO5:=A_.mk (Kd.ku HO5.out hk_ (fun k_ a_ b_=>by have:=a_.2;have:=b_.2;omega))
 replace HO6:=A_.mk (Kd.oL HO6.out hk_ (fun k_ a_ b_=>by have:=a_.2;have:=b_.2;omega))
 replace BK:=A_.mk ((hk_.2 gb (aI BK.out) (fun b_=>by have:=GE.out;have:=b_.1.2;omega)).trans BK.out)
 replace HK:=A_.mk (HK.out.jW hk_ (fun k_ b_=>.inl b_.1))
 replace HB:=A_.mk hb_
 clear hb_ hk_ n_ hc0 hc1 hc2 hc3 hc4 hc5 hc6
 have hc0:w3.cell? ⟨gb,0,none⟩=some (.int .i64 a0_0):=(bc_ BK.out 0).trans rfl
 have hc1:w3.cell? ⟨gb,1,none⟩=some (.slice Ao1 l0_1.length co1):=(bc_ BK.out 1).trans rfl
 have hc2:w3.cell? ⟨gb,2,none⟩=some (.int .i64 a0_2):=(bc_ BK.out 2).trans rfl
 have hc3:w3.cell? ⟨gb,3,none⟩=some (.int .i64 a0_3):=(bc_ BK.out 3).trans rfl
 have hc4:w3.cell? ⟨gb,4,none⟩=some (.slice Ao4 l0_4.length co4):=(bc_ BK.out 4).trans rfl
 have hc5:w3.cell? ⟨gb,5,none⟩=some (.slice Ao5 l0_5.length co5):=(bc_ BK.out 5).trans rfl
 have hc6:w3.cell? ⟨gb,6,none⟩=some (.slice Ao6 l0_6.length co6):=(bc_ BK.out 6).trans rfl
 go_wp2_with fail
 refine(bO.calls k (fun k_=>(P0_ k_∧k_<w.heap.size)∧f_ k_=2) (.slice Ao5 l0_5.length co5) l0_5 t3 t5 t6 w0 _ HB.out HO5.out A2.out).mono ?_
 rintro e w4 ⟨rfl,n_,hb_,hk_⟩
 replace hk_:=hk_.mono (S':=fun k_=>(P0_ k_∧k_<w.heap.size)∧f_ k_=2) (fun _ z_=>z_)
 replace HO1:=A_.mk (Kd.ku HO1.out hk_ (fun k_ a_ b_=>by have:=a_.2;have:=b_.2;omega))
 replace HO4:=A_.mk (Kd.ku HO4.out hk_ (fun k_ a_ b_=>by have:=a_.2;have:=b_.2;omega))
 replace HO5:=A_.mk (n_)
 replace HO6:=A_.mk (Kd.oL HO6.out hk_ (fun k_ a_ b_=>by have:=a_.2;have:=b_.2;omega))
 replace BK:=A_.mk ((hk_.2 gb (aI BK.out) (fun b_=>by have:=GE.out;have:=b_.1.2;omega)).trans BK.out)
 replace HK:=A_.mk (HK.out.jW hk_ (fun k_ b_=>.inl b_.1))
 replace HB:=A_.mk hb_
 clear hb_ hk_ n_ hc0 hc1 hc2 hc3 hc4 hc5 hc6
 have hc0:w4.cell? ⟨gb,0,none⟩=some (.int .i64 a0_0):=(bc_ BK.out 0).trans rfl
 have hc1:w4.cell? ⟨gb,1,none⟩=some (.slice Ao1 l0_1.length co1):=(bc_ BK.out 1).trans rfl
 have hc2:w4.cell? ⟨gb,2,none⟩=some (.int .i64 a0_2):=(bc_ BK.out 2).trans rfl
 have hc3:w4.cell? ⟨gb,3,none⟩=some (.int .i64 a0_3):=(bc_ BK.out 3).trans rfl
 have hc4:w4.cell? ⟨gb,4,none⟩=some (.slice Ao4 l0_4.length co4):=(bc_ BK.out 4).trans rfl
 have hc5:w4.cell? ⟨gb,5,none⟩=some (.slice Ao5 l0_5.length co5):=(bc_ BK.out 5).trans rfl
 have hc6:w4.cell? ⟨gb,6,none⟩=some (.slice Ao6 l0_6.length co6):=(bc_ BK.out 6).trans rfl
 go_wp2_with fail
 refine(bG.calls k (fun k_=>some k_=(.slice Ao6 l0_6.length co6:Value).ownBlock) (.slice Ao6 l0_6.length co6) l0_6 t5 t7 t8 w0 _ HB.out (Kd.jQ rfl HO6.out) A3.out).mono ?_
 rintro e w5 ⟨rfl,n_,hb_,hk_⟩
 replace hk_:=hk_.mono (S':=fun k_=>(P0_ k_∧k_<w.heap.size)∧f_ k_=3) (fun k_ e_=>HO6.out.1 k_ e_.symm)
 replace HO1:=A_.mk (Kd.ku HO1.out hk_ (fun k_ a_ b_=>by have:=a_.2;have:=b_.2;omega))
 replace HO4:=A_.mk (Kd.ku HO4.out hk_ (fun k_ a_ b_=>by have:=a_.2;have:=b_.2;omega))
 replace HO5:=A_.mk (Kd.ku HO5.out hk_ (fun k_ a_ b_=>by have:=a_.2;have:=b_.2;omega))
 replace HO6:=A_.mk (Kd.oF rfl n_ (fun k_ e_=>HO6.out.1 k_ e_))
 replace BK:=A_.mk ((hk_.2 gb (aI BK.out) (fun b_=>by have:=GE.out;have:=b_.1.2;omega)).trans BK.out)
 replace HK:=A_.mk (HK.out.jW hk_ (fun k_ b_=>.inl b_.1))
 replace HB:=A_.mk hb_
 clear hb_ hk_ n_ hc0 hc1 hc2 hc3 hc4 hc5 hc6
 have hc0:w5.cell? ⟨gb,0,none⟩=some (.int .i64 a0_0):=(bc_ BK.out 0).trans rfl
 have hc1:w5.cell? ⟨gb,1,none⟩=some (.slice Ao1 l0_1.length co1):=(bc_ BK.out 1).trans rfl
 have hc2:w5.cell? ⟨gb,2,none⟩=some (.int .i64 a0_2):=(bc_ BK.out 2).trans rfl
 have hc3:w5.cell? ⟨gb,3,none⟩=some (.int .i64 a0_3):=(bc_ BK.out 3).trans rfl
 have hc4:w5.cell? ⟨gb,4,none⟩=some (.slice Ao4 l0_4.length co4):=(bc_ BK.out 4).trans rfl
 have hc5:w5.cell? ⟨gb,5,none⟩=some (.slice Ao5 l0_5.length co5):=(bc_ BK.out 5).trans rfl
 have hc6:w5.cell? ⟨gb,6,none⟩=some (.slice Ao6 l0_6.length co6):=(bc_ BK.out 6).trans rfl
 go_wp2
 go_ret
 exact⟨rfl,Kd.dw HO1.out (fun _ z_=>⟨z_.1.1,z_.2⟩),Kd.dw HO4.out (fun _ z_=>⟨z_.1.1,z_.2⟩),Kd.dw HO5.out (fun _ z_=>⟨z_.1.1,z_.2⟩),Kd.aC HO6.out (fun _ z_=>⟨z_.1.1,z_.2⟩),HB.out,HK.out.mono (fun _ z_=>z_.1)⟩
def bJ.l0:Nat→List Int→Int→Int→Option (Int)
 | 0,_,_,_=>none
 | k+1,x0,x1,x5=>if x5<(x0.length:Int) then (if 0≤x5 then (if (rd x0 x5)=x1 then (bJ.l0 k x0 (wrap64 (x1+1)) (wrap64 (x5+1))) else (some (-1))) else (none)) else (some x1)
def bJ.f(k:Nat)(l0:List Int)(a1:Int):Option (Int):=bJ.l0 k l0 a1 0
theorem bJ.calls(k:Nat)(A0:Option Addr)(c0:Nat)(l0:List Int)(a1:Int)(r:Int)(w:World)(hr0:Kd.C (Kd.int .i64) w A0 l0.length l0)(hc0:l0.length≤c0)(h:bJ.f k l0 a1=some r) :
  Calls Tryz.prog 54 #[.slice A0 l0.length c0,.int .i64 a1] w fun e w'=>e=.returned (.int .i64 r)∧Drawn0 w w':=by
 have HR0:=A_.mk hr0
 have HC0:=A_.mk hc0
 clear hr0 hc0
 have H:(bJ.l0 k l0 a1 0)=some r:=h
 clear h
 have H':=A_.mk H
 clear H
 go_enter Tryz.func54,Tryz.ntmps54
 go_wp2
 go_loopg [1,5] k (fun kq v1 v5 w'=>∃ (x1_1:Int) (x5_1:Int),v1=.int .i64 x1_1∧v5=.int .i64 x5_1∧A_ (bJ.l0 kq l0 x1_1 x5_1=some r)∧A_ (kq≤k)∧Drawn0 w w')
 case atStart=>exact ⟨(a1),(0),rs_,rs_,H',⟨Nat.le_refl _⟩,by repeat (first|exact Drawn0.refl _|apply Drawn0.step)⟩
 case round =>
  clear H'
  obtain⟨x1_1,x5_1,rfl,rfl,HA,HK1,⟨m1,rfl⟩⟩:=hrel
  cases gk with
  | zero=>exact absurd HA.out (by simp [bJ.l0])
  | succ k1 =>
   have H:=HA.out
   clear HA
   simp only [bJ.l0] at H
   by_cases c3:x5_1<(l0.length:Int)
   rotate_left
   ·rw [if_neg c3] at H
    have c3b0:=decide_eq_false c3
    clear c3
    obtain rfl:=Option.some.inj H
    go_wp2
    go_ret
    exact dz_
   rw [if_pos c3] at H
   have c3b0:=decide_eq_true c3
   clear c3
   by_cases c4:0≤x5_1
   rotate_left
   ·rw [if_neg c4] at H
    exact absurd H (by simp)
   rw [if_pos c4] at H
   have c4b0:=decide_eq_true c4
   clear c4
   by_cases c5:(rd l0 x5_1)=x1_1
   rotate_left
   ·rw [if_neg c5] at H
    have c5b0:=beq_eq_false_iff_ne.mpr c5
    have c5b1:=bne_iff_ne.mpr c5
    obtain rfl:=Option.some.inj H
    have p417:0≤(x5_1:Int):=od_
    have q417:x5_1<(l0.length:Int):=od_
    obtain⟨ad417,e417,hx417_0⟩:=Kd.d9 HR0.out x5_1 p417 q417
    cases e417
    replace p417:=eq_true p417
    replace q417:=eq_true q417
    go_wp2
    go_ret
    exact dz_
   rw [if_pos c5] at H
   have c5b0:=beq_iff_eq.mpr c5
   have c5b1:=bne_eq_false_iff_eq.mpr c5
   clear c5
   have H':=A_.mk H
   clear H
   have p417:0≤(x5_1:Int):=od_
   have q417:x5_1<(l0.length:Int):=od_
   obtain⟨ad417,e417,hx417_0⟩:=Kd.d9 HR0.out x5_1 p417 q417
   cases e417
   replace p417:=eq_true p417
   replace q417:=eq_true q417
   go_wp2
   go_roundg k1
   case measure=>have:=HK1.out;omega
   case rel=>exact ⟨(wrap64 (x1_1+1)),(wrap64 (x5_1+1)),rs_,rs_,H',⟨by have:=HK1.out;omega⟩,by repeat (first|exact Drawn0.refl _|apply Drawn0.step)⟩
def bQ.l0:Nat→List (S68)→Int→Int→Option (Int)
 | 0,_,_,_=>none
 | k+1,x0,x1,x5=>if x5<(x0.length:Int) then (if 0≤x5 then (if ((ay x0 x5).f0)=x1 then ((bJ.f k ((ay x0 x5).f1) (wrap64 (x1+1))).bind fun t420=>(if t420<0 then (some (-1)) else (bQ.l0 k x0 t420 (wrap64 (x5+1))))) else (some (-1))) else (none)) else (some x1)
def bQ.f(k:Nat)(l0:List (S68))(a1:Int):Option (Int):=bQ.l0 k l0 a1 0
theorem bQ.calls(k:Nat)(A0:Option Addr)(c0:Nat)(l0:List (S68))(a1:Int)(r:Int)(w:World)(hr0:Kd.C k68 w A0 l0.length l0)(hc0:l0.length≤c0)(h:bQ.f k l0 a1=some r) :
  Calls Tryz.prog 91 #[.slice A0 l0.length c0,.int .i64 a1] w fun e w'=>e=.returned (.int .i64 r)∧Drawn0 w w':=by
 have HR0:=A_.mk hr0
 have HC0:=A_.mk hc0
 clear hr0 hc0
 have H:(bQ.l0 k l0 a1 0)=some r:=h
 clear h
 have H':=A_.mk H
 clear H
 go_enter Tryz.func91,Tryz.ntmps91
 go_wp2
 go_loopg [1,5] k (fun kq v1 v5 w'=>∃ (x1_1:Int) (x5_1:Int),v1=.int .i64 x1_1∧v5=.int .i64 x5_1∧A_ (bQ.l0 kq l0 x1_1 x5_1=some r)∧A_ (kq≤k)∧Drawn0 w w')
 case atStart=>exact ⟨(a1),(0),rs_,rs_,H',⟨Nat.le_refl _⟩,by repeat (first|exact Drawn0.refl _|apply Drawn0.step)⟩
 case round =>
  clear H'
  obtain⟨x1_1,x5_1,rfl,rfl,HA,HK1,⟨m1,rfl⟩⟩:=hrel
  cases gk with
  | zero=>exact absurd HA.out (by simp [bQ.l0])
  | succ k1 =>
   have H:=HA.out
   clear HA
   simp only [bQ.l0] at H
   by_cases c3:x5_1<(l0.length:Int)
   rotate_left
   ·rw [if_neg c3] at H
    have c3b0:=decide_eq_false c3
    clear c3
    obtain rfl:=Option.some.inj H
    go_wp2
    go_ret
    exact dz_
   rw [if_pos c3] at H
   have c3b0:=decide_eq_true c3
   clear c3
   by_cases c4:0≤x5_1
   rotate_left
   ·rw [if_neg c4] at H
    exact absurd H (by simp)
   rw [if_pos c4] at H
   have c4b0:=decide_eq_true c4
   clear c4
   by_cases c5:((ay l0 x5_1).f0)=x1_1
   rotate_left
   ·rw [if_neg c5] at H
    have c5b0:=beq_eq_false_iff_ne.mpr c5
    have c5b1:=bne_iff_ne.mpr c5
    obtain rfl:=Option.some.inj H
    have p418:0≤(x5_1:Int):=od_
    have q418:x5_1<(l0.length:Int):=od_
    obtain⟨ad418,A418_1,c418_1,e418,hx418_0,hx418_1,hl418_1,hi418_1⟩:=iq HR0.out x5_1 p418 q418
    cases e418
    have HR418_1:=A_.mk hi418_1
    have HC418_1:=A_.mk hl418_1
    clear hi418_1 hl418_1
    replace p418:=eq_true p418
    replace q418:=eq_true q418
    go_wp2
    go_ret
    exact dz_
   rw [if_pos c5] at H
   have c5b0:=beq_iff_eq.mpr c5
   have c5b1:=bne_eq_false_iff_eq.mpr c5
   clear c5
   replace H:=oa_ H
   obtain⟨t420,A6,H⟩:=H
   by_cases c7:t420<0
   ·rw [if_pos c7] at H
    have c7b0:=decide_eq_true c7
    clear c7
    obtain rfl:=Option.some.inj H
    have p418:0≤(x5_1:Int):=od_
    have q418:x5_1<(l0.length:Int):=od_
    obtain⟨ad418,A418_1,c418_1,e418,hx418_0,hx418_1,hl418_1,hi418_1⟩:=iq HR0.out x5_1 p418 q418
    cases e418
    have HR418_1:=A_.mk hi418_1
    have HC418_1:=A_.mk hl418_1
    clear hi418_1 hl418_1
    replace p418:=eq_true p418
    replace q418:=eq_true q418
    have p419:0≤(x5_1:Int):=od_
    have q419:x5_1<(l0.length:Int):=od_
    obtain⟨ad419,A419_1,c419_1,e419,hx419_0,hx419_1,hl419_1,hi419_1⟩:=iq HR0.out x5_1 p419 q419
    obtain rfl:ad418=ad419:=(by injection e419)
    have HR419_1:=A_.mk hi419_1
    have HC419_1:=A_.mk hl419_1
    clear hi419_1 hl419_1
    replace p419:=eq_true p419
    replace q419:=eq_true q419
    have ea_:=Option.some.inj (hx418_1.symm.trans hx419_1)
    injection ea_ with ea_ en_ ec_
    subst ea_
    subst ec_
    clear en_
    go_wp2_with (first|((with_reducible refine gc_ (f:=54) rfl ?_);refine gl_ (some 27) Tryz.func54 #[.slice A418_1 ((ay l0 x5_1).f1).length c418_1,.int .i64 (wrap64 (x1_1+1))] ?_;(with_reducible refine (bJ.calls k1 _ _ ((ay l0 x5_1).f1) (wrap64 (x1_1+1)) t420 _ ?side1 ?side2 A6.out).mono ?_);(case side1=>exact cY (HR419_1.out));(case side2=>exact HC419_1.out);rintro e w' ⟨rfl,⟨nd,rfl⟩⟩;refine⟨_,rfl,?_⟩))
    go_ret
    exact dz_
   rw [if_neg c7] at H
   have c7b0:=decide_eq_false c7
   clear c7
   have H':=A_.mk H
   clear H
   have p418:0≤(x5_1:Int):=od_
   have q418:x5_1<(l0.length:Int):=od_
   obtain⟨ad418,A418_1,c418_1,e418,hx418_0,hx418_1,hl418_1,hi418_1⟩:=iq HR0.out x5_1 p418 q418
   cases e418
   have HR418_1:=A_.mk hi418_1
   have HC418_1:=A_.mk hl418_1
   clear hi418_1 hl418_1
   replace p418:=eq_true p418
   replace q418:=eq_true q418
   have p419:0≤(x5_1:Int):=od_
   have q419:x5_1<(l0.length:Int):=od_
   obtain⟨ad419,A419_1,c419_1,e419,hx419_0,hx419_1,hl419_1,hi419_1⟩:=iq HR0.out x5_1 p419 q419
   obtain rfl:ad418=ad419:=(by injection e419)
   have HR419_1:=A_.mk hi419_1
   have HC419_1:=A_.mk hl419_1
   clear hi419_1 hl419_1
   replace p419:=eq_true p419
   replace q419:=eq_true q419
   have ea_:=Option.some.inj (hx418_1.symm.trans hx419_1)
   injection ea_ with ea_ en_ ec_
   subst ea_
   subst ec_
   clear en_
   go_wp2_with (first|((with_reducible refine gc_ (f:=54) rfl ?_);refine gl_ (some 27) Tryz.func54 #[.slice A418_1 ((ay l0 x5_1).f1).length c418_1,.int .i64 (wrap64 (x1_1+1))] ?_;(with_reducible refine (bJ.calls k1 _ _ ((ay l0 x5_1).f1) (wrap64 (x1_1+1)) t420 _ ?side1 ?side2 A6.out).mono ?_);(case side1=>exact cY (HR419_1.out));(case side2=>exact HC419_1.out);rintro e w' ⟨rfl,⟨nd,rfl⟩⟩;refine⟨_,rfl,?_⟩))
   go_roundg k1
   case measure=>have:=HK1.out;omega
   case rel=>exact ⟨(t420),(wrap64 (x5_1+1)),rs_,rs_,H',⟨by have:=HK1.out;omega⟩,by repeat (first|exact Drawn0.refl _|apply Drawn0.step)⟩
def gK.f(k:Nat)(a0_0:Int)(l0_1:List (S68))(a0_2:Int)(a1:Int):Option ((Int)):=((bQ.f k l0_1 a1).bind fun t1=>(if t1<0 then (some (-1)) else (some (t1))))
theorem gK.calls(k:Nat)(a0_0:Int)(A0_1:Option Addr)(c0_1:Nat)(l0_1:List (S68))(a0_2:Int)(a1:Int)(r:Int)(w:World)(hr0_1:Kd.C k68 w A0_1 l0_1.length l0_1)(hc0_1:l0_1.length≤c0_1)(h:gK.f k a0_0 l0_1 a0_2 a1=some r) :
  Calls Tryz.prog 51 #[.agg #[.int .i64 a0_0,.slice A0_1 l0_1.length c0_1,.int .i64 a0_2],.int .i64 a1] w fun e w'=>e=.returned (.int .i64 r)∧Below w.heap.size w w':=by
 have HR0_1:=A_.mk hr0_1
 have HC0_1:=A_.mk hc0_1
 clear hr0_1 hc0_1
 have HB:=A_.mk (Below.refl w.heap.size w)
 unfold gK.f at h
 have H:=h
 clear h
 replace H:=oa_ H
 obtain⟨t1,A2,H⟩:=H
 replace H:=A_.mk H
 have hu36:=Tryz.underlying36
 go_enter Tryz.func51,Tryz.ntmps51
 have HS:=A_.mk (Nat.le_refl w.heap.size)
 go_wp2_with (first|((with_reducible refine gd_ (N:=2) rfl ?_);refine by_ 2 (cs:=#[.int .i64 a0_0,.slice A0_1 l0_1.length c0_1,.int .i64 a0_2]) (t:=36) ?_;intro gb1_ hg w1_ hbox hb;replace HS:=aHg HS hg hbox;replace HB:=aHB HB hb;have BK1:=A_.mk hbox;clear hbox hb hg;have Q1:=av BK1.out))
 refine(bQ.calls k _ _ l0_1 a1 t1 _ (cb_ HR0_1 HB) HC0_1.out A2.out).mono ?_
 rintro e w2_ ⟨rfl,hb⟩
 replace hb:=Drawn0.below hb
 replace HS:=aHs HS hb.size
 replace HB:=aHB HB hb
 clear hb  Q1
 replace H:=H.out
 by_cases hc1_:t1<0
 case pos =>
  rw [if_pos hc1_] at H
  have hc1_b0:=decide_eq_true hc1_
  replace hc1_:=A_.mk hc1_
  replace H:=Option.some.inj H
  subst H
  go_wp2
  go_ret
  exact⟨rfl,HB.out⟩
 rw [if_neg hc1_] at H
 have hc1_b0:=decide_eq_false hc1_
 replace hc1_:=A_.mk hc1_
 replace H:=Option.some.inj H
 subst H
 go_wp2
 go_ret
 exact⟨rfl,HB.out⟩
def bM.l0:Nat→List (List Int)→Int→Int→Option (Int)
 | 0,_,_,_=>none
 | k+1,x0,x1,x5=>if x5<(x0.length:Int) then (if 0≤x5 then ((bJ.f k (dD x0 x5) x1).bind fun t422=>(if t422<0 then (some (-1)) else (bM.l0 k x0 t422 (wrap64 (x5+1))))) else (none)) else (some x1)
def bM.f(k:Nat)(l0:List (List Int))(a1:Int):Option (Int):=bM.l0 k l0 a1 0
theorem bM.calls(k:Nat)(A0:Option Addr)(c0:Nat)(l0:List (List Int))(a1:Int)(r:Int)(w:World)(hr0:Kd.C (Kd.slice 3 (Kd.int .i64)) w A0 l0.length l0)(hc0:l0.length≤c0)(h:bM.f k l0 a1=some r) :
  Calls Tryz.prog 53 #[.slice A0 l0.length c0,.int .i64 a1] w fun e w'=>e=.returned (.int .i64 r)∧Drawn0 w w':=by
 have HR0:=A_.mk hr0
 have HC0:=A_.mk hc0
 clear hr0 hc0
 have H:(bM.l0 k l0 a1 0)=some r:=h
 clear h
 have H':=A_.mk H
 clear H
 go_enter Tryz.func53,Tryz.ntmps53
 go_wp2
 go_loopg [1,5] k (fun kq v1 v5 w'=>∃ (x1_1:Int) (x5_1:Int),v1=.int .i64 x1_1∧v5=.int .i64 x5_1∧A_ (bM.l0 kq l0 x1_1 x5_1=some r)∧A_ (kq≤k)∧Drawn0 w w')
 case atStart=>exact ⟨(a1),(0),rs_,rs_,H',⟨Nat.le_refl _⟩,by repeat (first|exact Drawn0.refl _|apply Drawn0.step)⟩
 case round =>
  clear H'
  obtain⟨x1_1,x5_1,rfl,rfl,HA,HK1,⟨m1,rfl⟩⟩:=hrel
  cases gk with
  | zero=>exact absurd HA.out (by simp [bM.l0])
  | succ k1 =>
   have H:=HA.out
   clear HA
   simp only [bM.l0] at H
   by_cases c3:x5_1<(l0.length:Int)
   rotate_left
   ·rw [if_neg c3] at H
    have c3b0:=decide_eq_false c3
    clear c3
    obtain rfl:=Option.some.inj H
    go_wp2
    go_ret
    exact dz_
   rw [if_pos c3] at H
   have c3b0:=decide_eq_true c3
   clear c3
   by_cases c4:0≤x5_1
   rotate_left
   ·rw [if_neg c4] at H
    exact absurd H (by simp)
   rw [if_pos c4] at H
   have c4b0:=decide_eq_true c4
   clear c4
   replace H:=oa_ H
   obtain⟨t422,A5,H⟩:=H
   by_cases c6:t422<0
   ·rw [if_pos c6] at H
    have c6b0:=decide_eq_true c6
    clear c6
    obtain rfl:=Option.some.inj H
    have p421:0≤(x5_1:Int):=od_
    have q421:x5_1<(l0.length:Int):=od_
    obtain⟨ad421,A421_0,c421_0,e421,hx421_0,hl421_0,hi421_0⟩:=ko HR0.out x5_1 p421 q421
    cases e421
    have HR421_0:=A_.mk hi421_0
    have HC421_0:=A_.mk hl421_0
    clear hi421_0 hl421_0
    replace p421:=eq_true p421
    replace q421:=eq_true q421
    go_wp2_with (first|((with_reducible refine gc_ (f:=54) rfl ?_);refine gl_ (some 17) Tryz.func54 #[.slice A421_0 (dD l0 x5_1).length c421_0,.int .i64 x1_1] ?_;(with_reducible refine (bJ.calls k1 _ _ (dD l0 x5_1) x1_1 t422 _ ?side1 ?side2 A5.out).mono ?_);(case side1=>exact cY (HR421_0.out));(case side2=>exact HC421_0.out);rintro e w' ⟨rfl,⟨nd,rfl⟩⟩;refine⟨_,rfl,?_⟩))
    go_ret
    exact dz_
   rw [if_neg c6] at H
   have c6b0:=decide_eq_false c6
   clear c6
   have H':=A_.mk H
   clear H
   have p421:0≤(x5_1:Int):=od_
   have q421:x5_1<(l0.length:Int):=od_
   obtain⟨ad421,A421_0,c421_0,e421,hx421_0,hl421_0,hi421_0⟩:=ko HR0.out x5_1 p421 q421
   cases e421
   have HR421_0:=A_.mk hi421_0
   have HC421_0:=A_.mk hl421_0
   clear hi421_0 hl421_0
   replace p421:=eq_true p421
   replace q421:=eq_true q421
   go_wp2_with (first|((with_reducible refine gc_ (f:=54) rfl ?_);refine gl_ (some 17) Tryz.func54 #[.slice A421_0 (dD l0 x5_1).length c421_0,.int .i64 x1_1] ?_;(with_reducible refine (bJ.calls k1 _ _ (dD l0 x5_1) x1_1 t422 _ ?side1 ?side2 A5.out).mono ?_);(case side1=>exact cY (HR421_0.out));(case side2=>exact HC421_0.out);rintro e w' ⟨rfl,⟨nd,rfl⟩⟩;refine⟨_,rfl,?_⟩))
   go_roundg k1
   case measure=>have:=HK1.out;omega
   case rel=>exact ⟨(t422),(wrap64 (x5_1+1)),rs_,rs_,H',⟨by have:=HK1.out;omega⟩,by repeat (first|exact Drawn0.refl _|apply Drawn0.step)⟩
def fH.f(k:Nat)(a0_0:Int)(l0_1:List (List Int))(a1:Int):Option ((Int)):=((bM.f k l0_1 a1).bind fun t1=>(if t1<0 then (some (-1)) else (some (t1))))
theorem fH.calls(k:Nat)(a0_0:Int)(A0_1:Option Addr)(c0_1:Nat)(l0_1:List (List Int))(a1:Int)(r:Int)(w:World)(hr0_1:Kd.C (Kd.slice 3 (Kd.int .i64)) w A0_1 l0_1.length l0_1)(hc0_1:l0_1.length≤c0_1)(h:fH.f k a0_0 l0_1 a1=some r) :
  Calls Tryz.prog 52 #[.agg #[.int .i64 a0_0,.slice A0_1 l0_1.length c0_1],.int .i64 a1] w fun e w'=>e=.returned (.int .i64 r)∧Below w.heap.size w w':=by
 have HR0_1:=A_.mk hr0_1
 have HC0_1:=A_.mk hc0_1
 clear hr0_1 hc0_1
 have HB:=A_.mk (Below.refl w.heap.size w)
 unfold fH.f at h
 have H:=h
 clear h
 replace H:=oa_ H
 obtain⟨t1,A2,H⟩:=H
 replace H:=A_.mk H
 have hu37:=Tryz.underlying37
 go_enter Tryz.func52,Tryz.ntmps52
 have HS:=A_.mk (Nat.le_refl w.heap.size)
 go_wp2_with (first|((with_reducible refine gd_ (N:=2) rfl ?_);refine by_ 2 (cs:=#[.int .i64 a0_0,.slice A0_1 l0_1.length c0_1]) (t:=37) ?_;intro gb1_ hg w1_ hbox hb;replace HS:=aHg HS hg hbox;replace HB:=aHB HB hb;have BK1:=A_.mk hbox;clear hbox hb hg;have Q1:=ak BK1.out))
 refine(bM.calls k _ _ l0_1 a1 t1 _ (cb_ HR0_1 HB) HC0_1.out A2.out).mono ?_
 rintro e w2_ ⟨rfl,hb⟩
 replace hb:=Drawn0.below hb
 replace HS:=aHs HS hb.size
 replace HB:=aHB HB hb
 clear hb  Q1
 replace H:=H.out
 by_cases hc1_:t1<0
 case pos =>
  rw [if_pos hc1_] at H
  have hc1_b0:=decide_eq_true hc1_
  replace hc1_:=A_.mk hc1_
  replace H:=Option.some.inj H
  subst H
  go_wp2
  go_ret
  exact⟨rfl,HB.out⟩
 rw [if_neg hc1_] at H
 have hc1_b0:=decide_eq_false hc1_
 replace hc1_:=A_.mk hc1_
 replace H:=Option.some.inj H
 subst H
 go_wp2
 go_ret
 exact⟨rfl,HB.out⟩
def fE.f(k:Nat)(a0_0:Int)(l0_1:List (S68))(a0_2:Int)(a0_3:Int)(l0_4:List (List Int))(l0_5:List (List Int))(l0_6:List Int)(a1:Int):Option ((Int)):=((gK.f k a0_0 l0_1 a0_2 a1).bind fun t1=>(if t1<0 then (some (-1)) else ((fH.f k a0_3 l0_4 t1).bind fun t2=>(if t2<0 then (some (-1)) else ((bM.f k l0_5 t2).bind fun t3=>(if t3<0 then (some (-1)) else ((bJ.f k l0_6 t3).bind fun t4=>(if t4<0 then (some (-1)) else (some (t4))))))))))
theorem fE.calls(k:Nat)(a0_0:Int)(A0_1:Option Addr)(c0_1:Nat)(l0_1:List (S68))(a0_2:Int)(a0_3:Int)(A0_4:Option Addr)(c0_4:Nat)(l0_4:List (List Int))(A0_5:Option Addr)(c0_5:Nat)(l0_5:List (List Int))(A0_6:Option Addr)(c0_6:Nat)(l0_6:List Int)(a1:Int)(r:Int)(w:World)(hr0_1:Kd.C k68 w A0_1 l0_1.length l0_1)(hc0_1:l0_1.length≤c0_1)(hr0_4:Kd.C (Kd.slice 3 (Kd.int .i64)) w A0_4 l0_4.length l0_4)(hc0_4:l0_4.length≤c0_4)(hr0_5:Kd.C (Kd.slice 3 (Kd.int .i64)) w A0_5 l0_5.length l0_5)(hc0_5:l0_5.length≤c0_5)(hr0_6:Kd.C (Kd.int .i64) w A0_6 l0_6.length l0_6)(hc0_6:l0_6.length≤c0_6)(h:fE.f k a0_0 l0_1 a0_2 a0_3 l0_4 l0_5 l0_6 a1=some r) :
  Calls Tryz.prog 13 #[.agg #[.int .i64 a0_0,.slice A0_1 l0_1.length c0_1,.int .i64 a0_2,.int .i64 a0_3,.slice A0_4 l0_4.length c0_4,.slice A0_5 l0_5.length c0_5,.slice A0_6 l0_6.length c0_6],.int .i64 a1] w fun e w'=>e=.returned (.int .i64 r)∧Below w.heap.size w w':=by
 have HR0_1:=A_.mk hr0_1
 have HC0_1:=A_.mk hc0_1
 clear hr0_1 hc0_1
 have HR0_4:=A_.mk hr0_4
 have HC0_4:=A_.mk hc0_4
 clear hr0_4 hc0_4
 have HR0_5:=A_.mk hr0_5
 have HC0_5:=A_.mk hc0_5
 clear hr0_5 hc0_5
 have HR0_6:=A_.mk hr0_6
 have HC0_6:=A_.mk hc0_6
 clear hr0_6 hc0_6
 have HB:=A_.mk (Below.refl w.heap.size w)
 unfold fE.f at h
 have H:=h
 clear h
 replace H:=oa_ H
 obtain⟨t1,A2,H⟩:=H
 replace H:=A_.mk H
 have hu39:=Tryz.underlying39
 go_enter Tryz.func13,Tryz.ntmps13
 have HS:=A_.mk (Nat.le_refl w.heap.size)
 go_wp2_with (first|((with_reducible refine gd_ (N:=2) rfl ?_);refine by_ 2 (cs:=#[.int .i64 a0_0,.slice A0_1 l0_1.length c0_1,.int .i64 a0_2,.int .i64 a0_3,.slice A0_4 l0_4.length c0_4,.slice A0_5 l0_5.length c0_5,.slice A0_6 l0_6.length c0_6]) (t:=39) ?_;intro gb1_ hg w1_ hbox hb;replace HS:=aHg HS hg hbox;replace HB:=aHB HB hb;have BK1:=A_.mk hbox;clear hbox hb hg;have Q1:=aa BK1.out))
 refine(gK.calls k a0_0 _ _ l0_1 a0_2 a1 t1 _ (cb_ HR0_1 HB) HC0_1.out A2.out).mono ?_
 rintro e w2_ ⟨rfl,hb⟩
 replace HS:=aHs HS hb.size
 replace BK1:=aBb BK1 hb
 replace HB:=aHB HB hb
 clear hb  Q1
 have Q1:=aa BK1.out
 replace H:=H.out
 by_cases hc1_:t1<0
 case pos =>
  rw [if_pos hc1_] at H
  have hc1_b0:=decide_eq_true hc1_
  replace hc1_:=A_.mk hc1_
  replace H:=Option.some.inj H
  subst H
  go_wp2
  go_ret
  exact⟨rfl,HB.out⟩
 rw [if_neg hc1_] at H
 have hc1_b0:=decide_eq_false hc1_
 replace hc1_:=A_.mk hc1_
 replace H:=oa_ H
 obtain⟨t2,A3,H⟩:=H
 replace H:=A_.mk H
 go_wp2_with (fail)
 refine(fH.calls k a0_3 _ _ l0_4 t1 t2 _ (cb_ HR0_4 HB) HC0_4.out A3.out).mono ?_
 rintro e w3_ ⟨rfl,hb⟩
 replace HS:=aHs HS hb.size
 replace BK1:=aBb BK1 hb
 replace HB:=aHB HB hb
 clear hb  Q1
 have Q1:=aa BK1.out
 replace H:=H.out
 by_cases hc2_:t2<0
 case pos =>
  rw [if_pos hc2_] at H
  have hc2_b0:=decide_eq_true hc2_
  replace hc2_:=A_.mk hc2_
  replace H:=Option.some.inj H
  subst H
  go_wp2
  go_ret
  exact⟨rfl,HB.out⟩
 rw [if_neg hc2_] at H
 have hc2_b0:=decide_eq_false hc2_
 replace hc2_:=A_.mk hc2_
 replace H:=oa_ H
 obtain⟨t3,A4,H⟩:=H
 replace H:=A_.mk H
 go_wp2_with (fail)
 refine(bM.calls k _ _ l0_5 t2 t3 _ (cb_ HR0_5 HB) HC0_5.out A4.out).mono ?_
 rintro e w4_ ⟨rfl,hb⟩
 replace hb:=Drawn0.below hb
 replace HS:=aHs HS hb.size
 replace BK1:=aBb BK1 hb
 replace HB:=aHB HB hb
 clear hb  Q1
 have Q1:=aa BK1.out
 replace H:=H.out
 by_cases hc3_:t3<0
 case pos =>
  rw [if_pos hc3_] at H
  have hc3_b0:=decide_eq_true hc3_
  replace hc3_:=A_.mk hc3_
  replace H:=Option.some.inj H
  subst H
  go_wp2
  go_ret
  exact⟨rfl,HB.out⟩
 rw [if_neg hc3_] at H
 have hc3_b0:=decide_eq_false hc3_
 replace hc3_:=A_.mk hc3_
 replace H:=oa_ H
 obtain⟨t4,A5,H⟩:=H
 replace H:=A_.mk H
 go_wp2_with (fail)
 refine(bJ.calls k _ _ l0_6 t3 t4 _ (cb_ HR0_6 HB) HC0_6.out A5.out).mono ?_
 rintro e w5_ ⟨rfl,hb⟩
 replace hb:=Drawn0.below hb
 replace HS:=aHs HS hb.size
 replace HB:=aHB HB hb
 clear hb  Q1
 replace H:=H.out
 by_cases hc4_:t4<0
 case pos =>
  rw [if_pos hc4_] at H
  have hc4_b0:=decide_eq_true hc4_
  replace hc4_:=A_.mk hc4_
  replace H:=Option.some.inj H
  subst H
  go_wp2
  go_ret
  exact⟨rfl,HB.out⟩
 rw [if_neg hc4_] at H
 have hc4_b0:=decide_eq_false hc4_
 replace hc4_:=A_.mk hc4_
 replace H:=Option.some.inj H
 subst H
 go_wp2
 go_ret
 exact⟨rfl,HB.out⟩
end Go.Proofs.YtmdehehgmnihpaaGreat.PFnExactLinkStep
