import Derived.Test.YtmdehehgmnihpaaGreatPFnExactLinkStepx4
namespace Go.Proofs.YtmdehehgmnihpaaGreat.PFnExactLinkStep
open Go.RowKit Go.Proofs.YtmdehehgmnihpaaGreatW.PrintWords Go.Proofs.YtmdehehgmnihpaaGreatW.PrintLast Go.Proofs.YtmdehehgmnihpaaGreatW.PrintMore
attribute [local go_sem] dM dL eu ek dn dm dJ dK
set_option maxHeartbeats 8000000
set_option maxRecDepth 100000
set_option linter.unusedVariables false
set_option linter.unusedSimpArgs false
def dX.f(k:Nat)(a0_0:Int)(l0_1:List (S68))(a0_2:Int)(a0_3:Int)(l0_4:List (List Int))(l0_5:List (List Int))(l0_6:List Int)(a1_0:Int)(a1_1:Int):Option ((Int)×(List (S68))×(Int)×(Int)×(List (List Int))×(List (List Int))×(List Int)×(Bool)):=((dB.f k a0_0 l0_1 a0_2 a0_3 l0_4 l0_5 l0_6).bind fun ⟨t1,t2,t3,t4,t5,t6,t7⟩=>((bK.f k a0_0 l0_1 a0_2 a0_3 l0_4 l0_5 l0_6).bind fun t8=>(if t8=true then (if a1_0=7 then ((bI.f a1_1 0 65535).bind fun t9=>(if t9=true then ((fO.f k t1 t2 t3 ([(wrap64 (Int.tdiv a1_1 256)),(Int.tmod a1_1 256)]:List Int)).bind fun ⟨t11,t12,t13,t14⟩=>(some (t11,t12,t13,t4,t5,t6,t7,t14))) else (some (t1,t2,t3,t4,t5,t6,t7,false)))) else (if a1_0=1 then (if (l0_5.length:Int)=8 then (some (t1,t2,t3,t4,t5,t6,t7,false)) else ((eZ.f k t1 t2 t3).bind fun ⟨t15,t16,t17,t18,t19,t20⟩=>(if t20=true then ((ig.f k t18 t19).bind fun t21=>(if (t6.length+1)*24≤140737488355328 then (some (t15,t16,t17,t4,t5,(t6++[t21]),t7,true)) else none)) else (some (t1,t2,t3,t4,t5,t6,t7,false))))) else (if a1_0=2 then (if (l0_5.length:Int)=0 then (some (t1,t2,t3,t4,t5,t6,t7,false)) else ((fU.f k t1 t2 t3 t4 t5 t6 t7).bind fun ⟨t23,t24,t25,t26,t27,t28,t29⟩=>(some (t23,t24,t25,t26,t27,t28,t29,true)))) else (if a1_0=3 then ((bI.f a1_1 0 (wrap64 ((l0_5.length:Int)-1))).bind fun t30=>(if t30=true then (if 0≤a1_1 then (if a1_1<(t6.length:Int) then (some (t1,t2,t3,t4,t5,(t6.eraseIdx (a1_1).toNat),t7,true)) else none) else none) else (some (t1,t2,t3,t4,t5,t6,t7,false)))) else (if a1_0=4 then (if a1_1<0 then (some (t1,t2,t3,t4,t5,t6,t7,false)) else (if (l0_5.length:Int)≤(Int.tmod a1_1 8) then (some (t1,t2,t3,t4,t5,t6,t7,false)) else (if 0≤(Int.tmod a1_1 8) then (if (Int.tmod a1_1 8)<(l0_5.length:Int) then (if (wrap64 (8*((fG l0_5 (Int.tmod a1_1 8)).length:Int)))≤(wrap64 (Int.tdiv a1_1 8)) then (some (t1,t2,t3,t4,t5,t6,t7,false)) else ((dP.f k (fG l0_5 (Int.tmod a1_1 8)) (wrap64 (Int.tdiv a1_1 8))).bind fun t32=>(if 0≤(Int.tmod a1_1 8) then (if (Int.tmod a1_1 8)<(t6.length:Int) then (some (t1,t2,t3,t4,t5,(t6.set ((Int.tmod a1_1 8)).toNat t32),t7,true)) else none) else none))) else none) else none))) else (if a1_0=5 then (if (l0_6.length:Int)=0 then (some (t1,t2,t3,t4,t5,t6,t7,false)) else ((gF.f k t1 t2 t3 t4 t5 t6 t7).bind fun ⟨t34,t35,t36,t37,t38,t39,t40⟩=>(some (t34,t35,t36,t37,t38,t39,t40,true)))) else (if a1_0=6 then ((gY.f k t1 t2 t3).bind fun ⟨t41,t42,t43⟩=>(some (t41,t42,t43,t4,t5,t6,t7,true))) else (some (t1,t2,t3,t4,t5,t6,t7,false))))))))) else (some (t1,t2,t3,t4,t5,t6,t7,false)))))
theorem dX.calls(k:Nat)(a0_0:Int)(A0_1:Option Addr)(c0_1:Nat)(l0_1:List (S68))(a0_2:Int)(a0_3:Int)(A0_4:Option Addr)(c0_4:Nat)(l0_4:List (List Int))(A0_5:Option Addr)(c0_5:Nat)(l0_5:List (List Int))(A0_6:Option Addr)(c0_6:Nat)(l0_6:List Int)(a1_0:Int)(a1_1:Int)(r1:Int)(r2:List (S68))(r3:Int)(r4:Int)(r5:List (List Int))(r6:List (List Int))(r7:List Int)(r8:Bool)(w:World)(hr0_1:Kd.C k68 w A0_1 l0_1.length l0_1)(hc0_1:l0_1.length≤c0_1)(hr0_4:Kd.C (Kd.slice 3 (Kd.int .i64)) w A0_4 l0_4.length l0_4)(hc0_4:l0_4.length≤c0_4)(hr0_5:Kd.C (Kd.slice 3 (Kd.int .i64)) w A0_5 l0_5.length l0_5)(hc0_5:l0_5.length≤c0_5)(hr0_6:Kd.C (Kd.int .i64) w A0_6 l0_6.length l0_6)(hc0_6:l0_6.length≤c0_6)(h:dX.f k a0_0 l0_1 a0_2 a0_3 l0_4 l0_5 l0_6 a1_0 a1_1=some (r1,r2,r3,r4,r5,r6,r7,r8)) :
  Calls Tryz.prog 7 #[.agg #[.int .i64 a0_0,.slice A0_1 l0_1.length c0_1,.int .i64 a0_2,.int .i64 a0_3,.slice A0_4 l0_4.length c0_4,.slice A0_5 l0_5.length c0_5,.slice A0_6 l0_6.length c0_6],.agg #[.int .i64 a1_0,.int .i64 a1_1]] w fun e w'=>∃ v0_ v1_ v2_ v3_:Value,e=.returned (.tuple #[.agg #[.int .i64 r1,v0_,.int .i64 r3,.int .i64 r4,v1_,v2_,v3_],.bool r8])∧Kd.V k68 68 w' w.heap.size (fun k_=>w.heap.size≤k_) v0_ r2∧Kd.V (Kd.slice 3 (Kd.int .i64)) 28 w' w.heap.size (fun k_=>w.heap.size≤k_) v1_ r5∧Kd.V (Kd.slice 3 (Kd.int .i64)) 28 w' w.heap.size (fun k_=>w.heap.size≤k_) v2_ r6∧Kd.V (Kd.int .i64) 3 w' w.heap.size (fun k_=>w.heap.size≤k_) v3_ r7∧Below w.heap.size w w':=by
 have HR0_1:=A_.mk hr0_1
 have HC0_1:=A_.mk hc0_1
 clear hr0_1 hc0_1
 have HR0_4:=A_.mk hr0_4
 have HC0_4:=A_.mk hc0_4
 clear hr0_4 hc0_4
 have HR0_5:=A_.mk hr0_5
 have HC0_5:=A_.mk hc0_5
 have HW0_5:=A_.mk hr0_5
 clear hr0_5 hc0_5
 have HR0_6:=A_.mk hr0_6
 have HC0_6:=A_.mk hc0_6
 clear hr0_6 hc0_6
 have HB:=A_.mk (Below.refl w.heap.size w)
 unfold dX.f at h
 have H:=h
 clear h
 replace H:=oa_ H
 obtain⟨⟨t1,t2,t3,t4,t5,t6,t7⟩,A4,H⟩:=H
 try dsimp only at H
 replace H:=oa_ H
 obtain⟨t8,A7,H⟩:=H
 replace H:=A_.mk H
 have hu36:=Tryz.underlying36
 have hu39:=Tryz.underlying39
 have hu43:=Tryz.underlying43
 have hu68:=Tryz.underlying68
 go_enter Tryz.func7,Tryz.ntmps7
 have HS:=A_.mk (Nat.le_refl w.heap.size)
 go_wp2_with (first|((with_reducible refine gd_ (N:=2) rfl ?_);refine by_ 2 (cs:=#[.int .i64 a0_0,.slice A0_1 l0_1.length c0_1,.int .i64 a0_2,.int .i64 a0_3,.slice A0_4 l0_4.length c0_4,.slice A0_5 l0_5.length c0_5,.slice A0_6 l0_6.length c0_6]) (t:=39) ?_;intro gb1_ hg w1_ hbox hb;replace HS:=aHg HS hg hbox;replace HB:=aHB HB hb;have BK1:=A_.mk hbox;clear hbox hb hg)|((with_reducible refine gd_ (N:=3) rfl ?_);refine by_ 3 (cs:=#[.int .i64 a1_0,.int .i64 a1_1]) (t:=43) ?_;intro gb2_ hg w2_ hbox hb;replace HS:=aHg HS hg hbox;replace BK1:=aBb BK1 hb;replace HB:=aHB HB hb;have BK2:=A_.mk hbox;clear hbox hb hg)|((with_reducible refine gd_ (N:=4) rfl ?_);refine by_ 4 (cs:=#[.int .i64 0,.slice none 0 0,.int .i64 0,.int .i64 0,.slice none 0 0,.slice none 0 0,.slice none 0 0]) (t:=39) ?_;intro gb3_ hg w3_ hbox hb;replace HS:=aHg HS hg hbox;revert BK1 HB BK2;refine aD hb ?_;intro BK1 HB BK2;have BK3:=A_.mk hbox;clear hbox hb hg;have Q1:=aa BK1.out)|((with_reducible refine gc_ (f:=26) rfl ?_);refine gl_ (some 14) Tryz.func26 #[.agg #[.int .i64 a0_0,.slice A0_1 l0_1.length c0_1,.int .i64 a0_2,.int .i64 a0_3,.slice A0_4 l0_4.length c0_4,.slice A0_5 l0_5.length c0_5,.slice A0_6 l0_6.length c0_6]] ?_;(with_reducible refine (dB.calls k a0_0 _ _ l0_1 a0_2 a0_3 _ _ l0_4 _ _ l0_5 _ _ l0_6 t1 t2 t3 t4 t5 t6 t7 _ (cb_ HR0_1 HB) HC0_1.out (cb_ HR0_4 HB) HC0_4.out (cb_ HR0_5 HB) HC0_5.out (cb_ HR0_6 HB) HC0_6.out A4.out).mono ?_);rintro e w4_ ⟨f4_,v0_,v1_,v2_,v3_,rfl,ho0_,ho1_,ho2_,ho3_,hb⟩;refine⟨_,rfl,?_⟩;replace HS:=aHs HS hb.size;obtain⟨Ao4_0,co4_0,rfl,HO4_0⟩:=sSn ho0_ HB.out.size;obtain⟨Ao4_1,co4_1,rfl,HO4_1⟩:=sSn ho1_ HB.out.size;obtain⟨Ao4_2,co4_2,rfl,HO4_2⟩:=sSn ho2_ HB.out.size;obtain⟨Ao4_3,co4_3,rfl,HO4_3⟩:=sRn ho3_ HB.out.size;revert BK1 HB BK2 BK3;refine aD hb ?_;intro BK1 HB BK2 BK3;clear hb ho0_ ho1_ ho2_ ho3_ Q1)|((with_reducible refine gd_ (N:=6) rfl ?_);refine by_ 6 (cs:=#[.int .i64 0,.slice none 0 0,.int .i64 0,.int .i64 0,.slice none 0 0,.slice none 0 0,.slice none 0 0]) (t:=39) ?_;intro gb5_ hg w5_ hbox hb;replace HS:=aHg HS hg hbox;revert HO4_0 HO4_1 HO4_2 HO4_3 BK1 HB BK2 BK3;refine aD hb ?_;intro HO4_0 HO4_1 HO4_2 HO4_3 BK1 HB BK2 BK3;have BK5:=A_.mk hbox;clear hbox hb hg;have Q5:=aa BK5.out)|((with_reducible refine ae (t:=39) (p:=6) rfl ?_);obtain⟨qf0,qf1,qf2,qf3,qf4,qf5,qf6⟩:=gM BK5;refine so_ (w1:=(iR w5_ gb5_ (.int .i64 t1) (.slice Ao4_0 t2.length co4_0) (.int .i64 t3) (.int .i64 t4) (.slice Ao4_1 t5.length co4_1) (.slice Ao4_2 t6.length co4_2) (.slice Ao4_3 t7.length co4_3))) ?_;intro w6_ hw;clear qf0 qf1 qf2 qf3 qf4 qf5 qf6;obtain⟨hbx,hkp,hbb⟩:=iV hw BK5 HB (ho_ HS);clear hw;revert HO4_0 HO4_1 HO4_2 HO4_3 BK1 BK2 BK3;refine bC hkp HS ?_;intro HO4_0 HO4_1 HO4_2 HO4_3 BK1 BK2 BK3;replace BK5:=A_.mk hbx;replace HB:=A_.mk hbb;replace HS:=aHs HS hkp.1;clear hkp hbb hbx Q5;have Q1:=aa BK1.out))
 refine(bK.calls k a0_0 _ _ l0_1 a0_2 a0_3 _ _ l0_4 _ _ l0_5 _ _ l0_6 t8 _ (cb_ HR0_1 HB) HC0_1.out (cb_ HR0_4 HB) HC0_4.out (cb_ HR0_5 HB) HC0_5.out (cb_ HR0_6 HB) HC0_6.out A7.out).mono ?_
 rintro e w7_ ⟨rfl,hb⟩
 revert HO4_0 HO4_1 HO4_2 HO4_3 BK1 BK2 BK3 BK5 HB HS
 refine aD hb ?_
 intro HO4_0 HO4_1 HO4_2 HO4_3 BK1 BK2 BK3 BK5 HB HS
 clear hb  Q1
 have Q1:=aa BK1.out
 have Q2:=ak BK2.out
 have Q3:=aa BK3.out
 have Q5:=aa BK5.out
 replace H:=H.out
 by_cases hc1_:t8=true
 case neg =>
  rw [if_neg hc1_] at H
  replace hc1_:=eq_false_of_ne_true hc1_
  subst hc1_
  replace H:=il H
  obtain⟨rfl,rfl,rfl,rfl,rfl,rfl,rfl,rfl⟩:=H
  go_wp2_with (first|((with_reducible refine ae (t:=39) (p:=4) rfl ?_);obtain⟨qf0,qf1,qf2,qf3,qf4,qf5,qf6⟩:=gM BK3;refine so_ (w1:=(iR w7_ gb3_ (.int .i64 t1) (.slice Ao4_0 t2.length co4_0) (.int .i64 t3) (.int .i64 t4) (.slice Ao4_1 t5.length co4_1) (.slice Ao4_2 t6.length co4_2) (.slice Ao4_3 t7.length co4_3))) ?_;intro w51_ hw;clear qf0 qf1 qf2 qf3 qf4 qf5 qf6;obtain⟨hbx,hkp,hbb⟩:=iV hw BK3 HB (ho_ HS);clear hw;replace HO4_0:=aSk HO4_0 hkp HS;replace HO4_1:=aSk HO4_1 hkp HS;replace HO4_2:=aSk HO4_2 hkp HS;replace HO4_3:=aRk HO4_3 hkp HS;replace BK3:=A_.mk hbx;replace HB:=A_.mk hbb;replace HS:=aHs HS hkp.1;clear hkp hbb hbx Q1 Q2 Q3 Q5))
  refine bodyPost_ret (aM rfl _ _ gb3_ 39 _ (0,0) _ rfl BK3.out Tryz.underlying39 rfl (by kernel_rfl)) rfl ?_
  exact⟨_,_,_,_,rfl,Kd.aW (Kd.S_V HO4_0.out) (hk_ HS),Kd.aW (Kd.S_V HO4_1.out) (hk_ HS),Kd.aW (Kd.S_V HO4_2.out) (hk_ HS),Kd.aW (Kd.R_V HO4_3.out) (hk_ HS),HB.out⟩
 rw [if_pos hc1_] at H
 subst hc1_
 by_cases hc2_:a1_0=7
 case pos =>
  rw [if_pos hc2_] at H
  replace hc2_:=iF hc2_
  replace H:=oa_ H
  obtain⟨t9,A8,H⟩:=H
  replace H:=A_.mk H
  go_wp2_with (fail)
  refine(bI.calls a1_1 0 65535 t9 _ A8.out).mono ?_
  rintro e w8_ ⟨rfl,hb⟩
  replace hb:=Drawn0.below hb
  replace HS:=aHs HS hb.size
  replace HO4_0:=aSb HO4_0 hb
  replace HO4_1:=aSb HO4_1 hb
  replace HO4_2:=aSb HO4_2 hb
  replace HO4_3:=aRb HO4_3 hb
  replace BK2:=aBb BK2 hb
  replace BK3:=aBb BK3 hb
  replace BK5:=aBb BK5 hb
  replace HB:=aHB HB hb
  clear hb  Q1 Q2 Q3 Q5
  have Q2:=ak BK2.out
  have Q3:=aa BK3.out
  have Q5:=aa BK5.out
  replace H:=H.out
  by_cases hc3_:t9=true
  case pos =>
   rw [if_pos hc3_] at H
   subst hc3_
   obtain⟨y10,Ny10⟩:=le_ (([(wrap64 (Int.tdiv a1_1 256)),(Int.tmod a1_1 256)]:List Int))
   rw [←Ny10.out] at H
   replace H:=oa_ H
   obtain⟨⟨t11,t12,t13,t14⟩,A10,H⟩:=H
   try dsimp only at H
   replace H:=il H
   obtain⟨rfl,rfl,rfl,rfl,rfl,rfl,rfl,rfl⟩:=H
   go_wp2_with (first|((with_reducible refine gd_ (N:=37) rfl ?_);refine Kd.iM (Kd.int .i64) (w0:=w) w.heap.size 3 ?hg (N:=37) ?hd (xs:=[(wrap64 (Int.tdiv a1_1 256)),(Int.tmod a1_1 256)]) (inner:=[(.int .i64 (wrap64 (Int.tdiv a1_1 256))),(.int .i64 (Int.tmod a1_1 256))]) (ok:=fun k_=>w8_.heap.size≤k_) (okp:=fun k_=>w8_.heap.size≤k_) ?hr ?hp (fun _ hk=>hk) (Nat.le_refl _) HB.out HB.out.size (by simp) ?_;(case hd=>rfl);(case hg=>rfl);(case hr=>first|(go_simp;done)|(go_simp;rfl));(case hp=>exact (Reps.one (show Kd.M (Kd.int .i64) _ _ _ (wrap64 (Int.tdiv a1_1 256)) [.int .i64 (wrap64 (Int.tdiv a1_1 256))] from rfl) (Reps.one (show Kd.M (Kd.int .i64) _ _ _ (Int.tmod a1_1 256) [.int .i64 (Int.tmod a1_1 256)] from rfl) (Reps.none _ _))));intro v_ w9_ ho hbb hg_ hn_;clear hn_;rw [←Ny10.out] at ho;have hkp:Kept w8_ w9_ (fun k_=>k_<0):=Kept.aZ hg_ (Kept.refl _ _) (fun k_ e_=>by cases e_);replace HO4_0:=aSk HO4_0 hkp HS;replace HO4_1:=aSk HO4_1 hkp HS;replace HO4_2:=aSk HO4_2 hkp HS;replace HO4_3:=aRk HO4_3 hkp HS;replace BK3:=aBk BK3 hkp HS;replace BK5:=aBk BK5 hkp HS;replace HS:=aHs HS hkp.1;obtain⟨Ao9,co9,ev_⟩:=Kd.aX ho;subst ev_;have HO9:=A_.mk (Kd.aC (ok':=(fun k_=>((w8_.heap.size≤k_∧k_<w9_.heap.size)))) (Kd.bP ho) (fun k_ hk_=>⟨hk_.1,hk_.2.2.1⟩));replace HB:=A_.mk hbb;clear hkp hbb hg_ ho Q2 Q3 Q5)|((with_reducible refine gc_ (f:=29) rfl ?_);refine gl_ (some 38) Tryz.func29 #[.agg #[.int .i64 t1,.slice Ao4_0 t2.length co4_0,.int .i64 t3],.slice Ao9 y10.length co9] ?_;(with_reducible refine (fO.calls k t1 _ _ t2 t3 _ _ y10 t11 t12 t13 t14 _ (dV HO4_0) (dS HO4_0) (je HO9) (jB HO9) A10.out).mono ?_);rintro e w10_ ⟨v0_,rfl,ho0_,hb⟩;refine⟨_,rfl,?_⟩;replace HS:=aHs HS hb.size;obtain⟨Ao10_0,co10_0,rfl,HO10_0⟩:=sVm ho0_ HB.out.size;revert HO4_0 HO4_1 HO4_2 HO4_3 BK3 BK5 HO9 HB;refine aD hb ?_;intro HO4_0 HO4_1 HO4_2 HO4_3 BK3 BK5 HO9 HB;clear hb ho0_)|((with_reducible refine gd_ (N:=7) rfl ?_);refine by_ 7 (cs:=#[.int .i64 0,.slice none 0 0,.int .i64 0]) (t:=36) ?_;intro gb11_ hg w11_ hbox hb;replace HS:=aHg HS hg hbox;revert HO10_0 HO4_1 HO4_2 HO4_3 BK3 BK5 HB;refine aD hb ?_;intro HO10_0 HO4_1 HO4_2 HO4_3 BK3 BK5 HB;have BK11:=A_.mk hbox;clear hbox hb hg;have Q11:=av BK11.out)|((with_reducible refine ae (t:=36) (p:=7) rfl ?_);obtain⟨qf0,qf1,qf2⟩:=eT BK11;refine so_ (w1:=(iN w11_ gb11_ (.int .i64 t11) (.slice Ao10_0 t12.length co10_0) (.int .i64 t13))) ?_;intro w12_ hw;clear qf0 qf1 qf2;obtain⟨hbx,hkp,hbb⟩:=iT hw BK11 HB (ho_ HS);clear hw;revert HO10_0 HO4_1 HO4_2 HO4_3 BK3 BK5;refine bC hkp HS ?_;intro HO10_0 HO4_1 HO4_2 HO4_3 BK3 BK5;replace BK11:=A_.mk hbx;replace HB:=A_.mk hbb;replace HS:=aHs HS hkp.1;clear hkp hbb hbx Q11;have Q5:=aa BK5.out;have Q11:=av BK11.out)|((with_reducible refine ae (t:=36) (p:=42) rfl ?_);obtain⟨qf0,qf1,qf2⟩:=eT BK5;refine so_ (w1:=(((w12_.setCell ⟨gb5_,0,none⟩ (.int .i64 t11)).setCell ⟨gb5_,1,none⟩ (.slice Ao10_0 t12.length co10_0)).setCell ⟨gb5_,2,none⟩ (.int .i64 t13))) ?_;intro w13_ hw;clear qf0 qf1 qf2;obtain⟨hbx,hkp,hbb⟩:=jd hw BK5 HB (ho_ HS);clear hw;revert HO10_0 HO4_1 HO4_2 HO4_3 BK3;refine bC hkp HS ?_;intro HO10_0 HO4_1 HO4_2 HO4_3 BK3;replace BK5:=A_.mk hbx;replace HB:=A_.mk hbb;replace HS:=aHs HS hkp.1;clear hkp hbb hbx Q5 Q11;have Q3:=aa BK3.out;have Q5:=aa BK5.out)|((with_reducible refine ae (t:=39) (p:=4) rfl ?_);obtain⟨qf0,qf1,qf2,qf3,qf4,qf5,qf6⟩:=gM BK3;refine so_ (w1:=(iR w13_ gb3_ (.int .i64 t11) (.slice Ao10_0 t12.length co10_0) (.int .i64 t13) (.int .i64 t4) (.slice Ao4_1 t5.length co4_1) (.slice Ao4_2 t6.length co4_2) (.slice Ao4_3 t7.length co4_3))) ?_;intro w14_ hw;clear qf0 qf1 qf2 qf3 qf4 qf5 qf6;obtain⟨hbx,hkp,hbb⟩:=iV hw BK3 HB (ho_ HS);clear hw;revert HO10_0 HO4_1 HO4_2 HO4_3;refine bC hkp HS ?_;intro HO10_0 HO4_1 HO4_2 HO4_3;replace BK3:=A_.mk hbx;replace HB:=A_.mk hbb;replace HS:=aHs HS hkp.1;clear hkp hbb hbx Q3 Q5))
   refine bodyPost_ret (aM rfl _ _ gb3_ 39 _ (0,0) _ rfl BK3.out Tryz.underlying39 rfl (by kernel_rfl)) rfl ?_
   exact⟨_,_,_,_,rfl,Kd.aW (HO10_0.out) (hk_ HS),Kd.aW (Kd.S_V HO4_1.out) (hk_ HS),Kd.aW (Kd.S_V HO4_2.out) (hk_ HS),Kd.aW (Kd.R_V HO4_3.out) (hk_ HS),HB.out⟩
  rw [if_neg hc3_] at H
  replace hc3_:=eq_false_of_ne_true hc3_
  subst hc3_
  replace H:=il H
  obtain⟨rfl,rfl,rfl,rfl,rfl,rfl,rfl,rfl⟩:=H
  go_wp2_with (first|((with_reducible refine ae (t:=39) (p:=4) rfl ?_);obtain⟨qf0,qf1,qf2,qf3,qf4,qf5,qf6⟩:=gM BK3;refine so_ (w1:=(iR w8_ gb3_ (.int .i64 t1) (.slice Ao4_0 t2.length co4_0) (.int .i64 t3) (.int .i64 t4) (.slice Ao4_1 t5.length co4_1) (.slice Ao4_2 t6.length co4_2) (.slice Ao4_3 t7.length co4_3))) ?_;intro w15_ hw;clear qf0 qf1 qf2 qf3 qf4 qf5 qf6;obtain⟨hbx,hkp,hbb⟩:=iV hw BK3 HB (ho_ HS);clear hw;replace HO4_0:=aSk HO4_0 hkp HS;replace HO4_1:=aSk HO4_1 hkp HS;replace HO4_2:=aSk HO4_2 hkp HS;replace HO4_3:=aRk HO4_3 hkp HS;replace BK3:=A_.mk hbx;replace HB:=A_.mk hbb;replace HS:=aHs HS hkp.1;clear hkp hbb hbx Q2 Q3 Q5))
  refine bodyPost_ret (aM rfl _ _ gb3_ 39 _ (0,0) _ rfl BK3.out Tryz.underlying39 rfl (by kernel_rfl)) rfl ?_
  exact⟨_,_,_,_,rfl,Kd.aW (Kd.S_V HO4_0.out) (hk_ HS),Kd.aW (Kd.S_V HO4_1.out) (hk_ HS),Kd.aW (Kd.S_V HO4_2.out) (hk_ HS),Kd.aW (Kd.R_V HO4_3.out) (hk_ HS),HB.out⟩
 rw [if_neg hc2_] at H
 have hc2_b:=iE hc2_
 by_cases hc4_:a1_0=1
 case pos =>
  rw [if_pos hc4_] at H
  replace hc4_:=iF hc4_
  by_cases hc5_:(l0_5.length:Int)=8
  case pos =>
   rw [if_pos hc5_] at H
   have hc5_b1:(l0_5.length==8)=true:=by first|simpa using hc5_|(simp at hc5_ ⊢;omega)
   replace hc5_:=iF hc5_
   replace H:=il H
   obtain⟨rfl,rfl,rfl,rfl,rfl,rfl,rfl,rfl⟩:=H
   go_wp2_with (first|((with_reducible refine ae (t:=39) (p:=4) rfl ?_);obtain⟨qf0,qf1,qf2,qf3,qf4,qf5,qf6⟩:=gM BK3;refine so_ (w1:=(iR w7_ gb3_ (.int .i64 t1) (.slice Ao4_0 t2.length co4_0) (.int .i64 t3) (.int .i64 t4) (.slice Ao4_1 t5.length co4_1) (.slice Ao4_2 t6.length co4_2) (.slice Ao4_3 t7.length co4_3))) ?_;intro w16_ hw;clear qf0 qf1 qf2 qf3 qf4 qf5 qf6;obtain⟨hbx,hkp,hbb⟩:=iV hw BK3 HB (ho_ HS);clear hw;replace HO4_0:=aSk HO4_0 hkp HS;replace HO4_1:=aSk HO4_1 hkp HS;replace HO4_2:=aSk HO4_2 hkp HS;replace HO4_3:=aRk HO4_3 hkp HS;replace BK3:=A_.mk hbx;replace HB:=A_.mk hbb;replace HS:=aHs HS hkp.1;clear hkp hbb hbx Q1 Q2 Q3 Q5))
   refine bodyPost_ret (aM rfl _ _ gb3_ 39 _ (0,0) _ rfl BK3.out Tryz.underlying39 rfl (by kernel_rfl)) rfl ?_
   exact⟨_,_,_,_,rfl,Kd.aW (Kd.S_V HO4_0.out) (hk_ HS),Kd.aW (Kd.S_V HO4_1.out) (hk_ HS),Kd.aW (Kd.S_V HO4_2.out) (hk_ HS),Kd.aW (Kd.R_V HO4_3.out) (hk_ HS),HB.out⟩
  rw [if_neg hc5_] at H
  have hc5_b:=iE hc5_
  have hc5_b1:(l0_5.length==8)=false:=by first|simpa using hc5_|(simp at hc5_ ⊢;omega)
  replace H:=oa_ H
  obtain⟨⟨t15,t16,t17,t18,t19,t20⟩,A17,H⟩:=H
  try dsimp only at H
  by_cases hc6_:t20=true
  case pos =>
   rw [if_pos hc6_] at H
   subst hc6_
   replace H:=oa_ H
   obtain⟨t21,A23,H⟩:=H
   replace H:=lM H
   obtain⟨LM24,H⟩:=H
   obtain⟨y22,Ny22⟩:=le_ ((t6++[t21]))
   rw [←Ny22.out] at H
   replace H:=il H
   obtain⟨rfl,rfl,rfl,rfl,rfl,rfl,rfl,rfl⟩:=H
   go_wp2_with (first|((with_reducible refine gc_ (f:=30) rfl ?_);refine gl_ (some 55) Tryz.func30 #[.agg #[.int .i64 t1,.slice Ao4_0 t2.length co4_0,.int .i64 t3]] ?_;(with_reducible refine (eZ.calls k t1 _ _ t2 t3 t15 t16 t17 t18 t19 true _ (dV HO4_0) (dS HO4_0) A17.out).mono ?_);rintro e w17_ ⟨v0_,v1_,rfl,ho0_,ho1_,hb⟩;refine⟨_,rfl,?_⟩;replace HS:=aHs HS hb.size;obtain⟨Ao17_0,co17_0,rfl,HO17_0⟩:=sVm ho0_ HB.out.size;obtain⟨Ao17_1,co17_1,rfl,HO17_1⟩:=sVm ho1_ HB.out.size;replace HO4_0:=aSb HO4_0 hb;replace HO4_1:=aSb HO4_1 hb;replace HO4_2:=aSb HO4_2 hb;replace HO4_3:=aRb HO4_3 hb;replace BK3:=aBb BK3 hb;replace BK5:=aBb BK5 hb;replace HB:=aHB HB hb;clear hb ho0_ ho1_ Q1 Q2 Q3 Q5)|((with_reducible refine gd_ (N:=9) rfl ?_);refine by_ 9 (cs:=#[.int .i64 0,.slice none 0 0,.int .i64 0]) (t:=36) ?_;intro gb18_ hg w18_ hbox hb;replace HS:=aHg HS hg hbox;revert HO17_0 HO17_1 HO4_1 HO4_2 HO4_3 BK3 BK5 HB;refine aD hb ?_;intro HO17_0 HO17_1 HO4_1 HO4_2 HO4_3 BK3 BK5 HB;have BK18:=A_.mk hbox;clear hbox hb hg)|((with_reducible refine gd_ (N:=10) rfl ?_);refine by_ 10 (cs:=#[.int .i64 0,.slice none 0 0]) (t:=68) ?_;intro gb19_ hg w19_ hbox hb;replace HS:=aHg HS hg hbox;revert HO17_0 HO17_1 HO4_1 HO4_2 HO4_3 BK3 BK5 HB BK18;refine aD hb ?_;intro HO17_0 HO17_1 HO4_1 HO4_2 HO4_3 BK3 BK5 HB BK18;have BK19:=A_.mk hbox;clear hbox hb hg;have Q18:=av BK18.out)|((with_reducible refine ae (t:=36) (p:=9) rfl ?_);obtain⟨qf0,qf1,qf2⟩:=eT BK18;refine so_ (w1:=(iN w19_ gb18_ (.int .i64 t15) (.slice Ao17_0 t16.length co17_0) (.int .i64 t17))) ?_;intro w20_ hw;clear qf0 qf1 qf2;obtain⟨hbx,hkp,hbb⟩:=iT hw BK18 HB (ho_ HS);clear hw;revert HO17_0 HO17_1 HO4_1 HO4_2 HO4_3 BK3 BK5 BK19;refine bC hkp HS ?_;intro HO17_0 HO17_1 HO4_1 HO4_2 HO4_3 BK3 BK5 BK19;replace BK18:=A_.mk hbx;replace HB:=A_.mk hbb;replace HS:=aHs HS hkp.1;clear hkp hbb hbx Q18;have Q19:=ak BK19.out)|((with_reducible refine ae (t:=68) (p:=10) rfl ?_);obtain⟨qf0,qf1⟩:=dO BK19;refine so_ (w1:=(jv w20_ gb19_ (.int .i64 t18) (.slice Ao17_1 t19.length co17_1))) ?_;intro w21_ hw;clear qf0 qf1;obtain⟨hbx,hkp,hbb⟩:=jA hw BK19 HB (ho_ HS);clear hw;revert HO17_0 HO17_1 HO4_1 HO4_2 HO4_3 BK3 BK5 BK18;refine bC hkp HS ?_;intro HO17_0 HO17_1 HO4_1 HO4_2 HO4_3 BK3 BK5 BK18;replace BK19:=A_.mk hbx;replace HB:=A_.mk hbb;replace HS:=aHs HS hkp.1;clear hkp hbb hbx Q19;have Q5:=aa BK5.out;have Q18:=av BK18.out)|((with_reducible refine ae (t:=36) (p:=61) rfl ?_);obtain⟨qf0,qf1,qf2⟩:=eT BK5;refine so_ (w1:=(((w21_.setCell ⟨gb5_,0,none⟩ (.int .i64 t15)).setCell ⟨gb5_,1,none⟩ (.slice Ao17_0 t16.length co17_0)).setCell ⟨gb5_,2,none⟩ (.int .i64 t17))) ?_;intro w22_ hw;clear qf0 qf1 qf2;obtain⟨hbx,hkp,hbb⟩:=jd hw BK5 HB (ho_ HS);clear hw;revert HO17_0 HO17_1 HO4_1 HO4_2 HO4_3 BK3 BK19;refine bC hkp HS ?_;intro HO17_0 HO17_1 HO4_1 HO4_2 HO4_3 BK3 BK19;replace BK5:=A_.mk hbx;replace HB:=A_.mk hbb;replace HS:=aHs HS hkp.1;clear hkp hbb hbx Q5 Q18))
   refine dN (n:=8) (S:=fun w'=>(w'.cell? ⟨gb5_,0,none⟩=some (.int .i64 t15)∧w'.cell? ⟨gb5_,1,none⟩=some (.slice Ao17_0 t16.length co17_0)∧w'.cell? ⟨gb5_,2,none⟩=some (.int .i64 t17)∧w'.cell? ⟨gb5_,3,none⟩=some (.int .i64 t4)∧w'.cell? ⟨gb5_,4,none⟩=some (.slice Ao4_1 t5.length co4_1)∧w'.cell? ⟨gb5_,5,none⟩=some (.slice Ao4_2 t6.length co4_2)∧w'.cell? ⟨gb5_,6,none⟩=some (.slice Ao4_3 t7.length co4_3))∧(w'.cell? ⟨gb19_,0,none⟩=some (.int .i64 t18)∧w'.cell? ⟨gb19_,1,none⟩=some (.slice Ao17_1 t19.length co17_1))) (ds:=[7]) #[F,F,F,F,F,F,F,F] (by kernel_rfl) rfl rfl ⟨aa BK5.out,ak BK19.out⟩ (fun hHeld=>?_)
   have hb:=aV (Below.refl w22_.heap.size w22_)
   revert HO17_0 HO17_1 HO4_1 HO4_2 HO4_3 BK3 BK19 BK5 HB HS
   refine aD hb ?_
   intro HO17_0 HO17_1 HO4_1 HO4_2 HO4_3 BK3 BK19 BK5 HB HS
   clear hb
   generalize w22_.drew=w52d_ at HO4_1 HO4_2 HO4_3 HO17_0 HO17_1 BK3 BK5 BK19 HB HS hHeld ⊢
   refine pd_ (i:=0) (N:=some 62) #[T,F,F,F,F,F,F,F] rfl ?_
   refine tl_ (i:=1) (N:=some 63) #[T,T,F,F,F,F,F,F] rfl hHeld ?_
   refine tl_ (i:=2) (N:=some 64) #[T,T,T,F,F,F,F,F] rfl hHeld ?_
   refine on_ (i:=3) (N:=some 65) #[T,T,T,T,F,F,F,F] rfl (fun K hK=>?_)
   refine gz_ Tryz.func31 #[.agg #[.int .i64 t18,.slice Ao17_1 t19.length co17_1]] ?_
   with_reducible refine (ig.calls k t18 _ _ t19 t21 _ (lY HO17_1) (lX HO17_1) A23.out).mono ?_
   rintro e w23_ ⟨v0_,rfl,ho0_,hb⟩
   refine⟨_,rfl,?_⟩
   replace HS:=aHs HS hb.size
   obtain⟨Ao23_0,co23_0,rfl,HO23_0⟩:=sRm ho0_ HB.out.size
   revert HO4_1 HO4_2 HO4_3 HO17_0 HO17_1 BK3 BK5 BK19 HB
   refine aD hb ?_
   intro HO4_1 HO4_2 HO4_3 HO17_0 HO17_1 BK3 BK5 BK19 HB
   clear hb ho0_
   refine hK.out _ _ ⟨aa BK5.out,ak BK19.out⟩ (fun hHeld=>?_)
   clear hK K
   refine nm_ ?_
   refine on_ (i:=4) (N:=some 66) #[T,T,T,T,T,F,F,F] rfl (fun K hK=>?_)
   refine kN (w1:=?_) (v:=?_) (by rfl) rfl ?_ ?_
   rotate_left 2
   ·go_simp
    constructor
    ·rfl
    ·rfl
   refine hK.out _ _ ⟨aa (bl_ BK5.out _),ak (bl_ BK19.out _)⟩ (fun hHeld=>?_)
   clear hK K
   refine nm_ ?_
   refine on_ (i:=5) (N:=some 67) #[T,T,T,T,T,T,F,F] rfl (fun K hK=>?_)
   refine Kd.gu (Kd.slice 3 (Kd.int .i64)) (w0:=w) w.heap.size (by rfl) (.tmp 63) (.tmp 66) 25 28 ((.slice none 0 0)) 24 rfl Tryz.underlying25 info28 rfl (by decide) (by omega) (.slice Ao4_2 t6.length co4_2) t6 t21 [.slice Ao23_0 t21.length co23_0] (fun k_=>(((w3_.heap.size≤k_∧k_<w4_.heap.size)∧f4_ k_=2))∨(((w52d_.heap.size≤k_∧k_<w23_.heap.size)))∨w23_.heap.size≤k_) (fun k_=>((w52d_.heap.size≤k_∧k_<w23_.heap.size))) rfl rfl ?aP ?aQ ?aF ?aO HB.out HB.out.size ?aL ?_
   case aP=>exact Kd.mO HO23_0.out
   case aQ=>exact fun k_ hk_=>⟨.inr (.inl hk_),fun e_=>by have:=(Kd.S_R HO4_2.out).1 k_ e_.symm;clear e_;have:=HS.out;omega⟩
   case aF=>exact fun k_ hk_=>.inr (.inr hk_)
   case aO=>exact Kd.dw HO4_2.out (fun k_ hk_=>⟨.inl hk_,fun e_=>by have:=HS.out;omega⟩)
   case aL=>have:=LM24.out;omega
   intro v_ w24_ ho hbb hg hat
   clear hat
   rw [←Ny22.out] at ho
   have hkp:Kept w23_ w24_ (fun k_=>((w3_.heap.size≤k_∧k_<w4_.heap.size)∧f4_ k_=2)):=Kept.aZ hg (Kept.refl _ _) (fun k_ e_=>.inl ((Kd.S_R HO4_2.out).1 k_ e_))
   revert HO4_1 HO4_3 HO17_0 HO17_1 BK3 BK5 BK19
   refine bC hkp HS ?_
   intro HO4_1 HO4_3 HO17_0 HO17_1 BK3 BK5 BK19
   replace HS:=aHs HS hkp.1
   obtain⟨Ao24,co24,ev_⟩:=Kd.dx ho
   subst ev_
   have HO24:=A_.mk (Kd.dw (ok':=(fun k_=>((w3_.heap.size≤k_∧k_<w4_.heap.size)∧f4_ k_=2)∨((w52d_.heap.size≤k_∧k_<w23_.heap.size))∨((w23_.heap.size≤k_∧k_<w24_.heap.size)))) (Kd.ik ho) (fun k_ hk_=>by have:=hk_.1;have:=hk_.2.2.1;have:=hk_.2.1;clear hk_;have:=HS.out;omega))
   replace HB:=A_.mk hbb
   clear hkp hbb hg ho HO4_2 HO23_0
   refine hK.out _ _ ⟨aa BK5.out,ak BK19.out⟩ (fun hHeld=>?_)
   clear hK K
   refine nm_ ?_
   refine pd_ (i:=6) (N:=some 68) #[T,T,T,T,T,T,T,F] rfl ?_
   refine gG (i:=7) (N:=none) #[T,T,T,T,T,T,T,T] rfl rfl (by kernel_rfl) (by decide) (fun K hK=>?_)
   have Q3:=aa BK3.out
   have Q5:=aa BK5.out
   have Q19:=ak BK19.out
   have qf0:=bf_ BK5.out 5
   obtain⟨w25_,hw⟩:=lw_ ((w24_.setCell ⟨gb5_,5,none⟩ (.slice Ao24 y22.length co24)))
   refine fT (w1:=w25_) (by rfl) rfl ?_ ?_
   ·rw [hw];go_simp;try rfl
   refine hK.out _ _ ?_
   clear hK K qf0 Q3 Q5 Q19
   obtain⟨hbx,hkp,hbb⟩:=j6 hw BK5 HB (ho_ HS)
   clear hw
   revert HO4_1 HO4_3 HO17_0 HO17_1 BK3 BK19 HO24
   refine bC hkp HS ?_
   intro HO4_1 HO4_3 HO17_0 HO17_1 BK3 BK19 HO24
   replace BK5:=A_.mk hbx
   replace HB:=A_.mk hbb
   replace HS:=aHs HS hkp.1
   clear hkp hbb hbx
   refine fA (by kernel_rfl) ?_
   have Q3:=aa BK3.out
   have Q5:=aa BK5.out
   go_wp2_with (first|((with_reducible refine ae (t:=39) (p:=4) rfl ?_);obtain⟨qf0,qf1,qf2,qf3,qf4,qf5,qf6⟩:=gM BK3;refine so_ (w1:=(iR w25_ gb3_ (.int .i64 t15) (.slice Ao17_0 t16.length co17_0) (.int .i64 t17) (.int .i64 t4) (.slice Ao4_1 t5.length co4_1) (.slice Ao24 y22.length co24) (.slice Ao4_3 t7.length co4_3))) ?_;intro w26_ hw;clear qf0 qf1 qf2 qf3 qf4 qf5 qf6;obtain⟨hbx,hkp,hbb⟩:=iV hw BK3 HB (ho_ HS);clear hw;revert HO4_1 HO4_3 HO17_0 HO24;refine bC hkp HS ?_;intro HO4_1 HO4_3 HO17_0 HO24;replace BK3:=A_.mk hbx;replace HB:=A_.mk hbb;replace HS:=aHs HS hkp.1;clear hkp hbb hbx Q3 Q5))
   refine bodyPost_ret (aM rfl _ _ gb3_ 39 _ (0,0) _ rfl BK3.out Tryz.underlying39 rfl (by kernel_rfl)) rfl ?_
   exact⟨_,_,_,_,rfl,Kd.aW (HO17_0.out) (hk_ HS),Kd.aW (Kd.S_V HO4_1.out) (hk_ HS),Kd.aW (Kd.S_V HO24.out) (hk_ HS),Kd.aW (Kd.R_V HO4_3.out) (hk_ HS),HB.out⟩
  rw [if_neg hc6_] at H
  replace hc6_:=eq_false_of_ne_true hc6_
  subst hc6_
  replace H:=il H
  obtain⟨rfl,rfl,rfl,rfl,rfl,rfl,rfl,rfl⟩:=H
  go_wp2_with (first|((with_reducible refine gc_ (f:=30) rfl ?_);refine gl_ (some 55) Tryz.func30 #[.agg #[.int .i64 t1,.slice Ao4_0 t2.length co4_0,.int .i64 t3]] ?_;(with_reducible refine (eZ.calls k t1 _ _ t2 t3 t15 t16 t17 t18 t19 false _ (dV HO4_0) (dS HO4_0) A17.out).mono ?_);rintro e w17_ ⟨v0_,v1_,rfl,ho0_,ho1_,hb⟩;refine⟨_,rfl,?_⟩;replace HS:=aHs HS hb.size;obtain⟨Ao17_0,co17_0,ev_⟩:=Kd.gH ho0_;subst ev_;obtain⟨Ao17_1,co17_1,ev_⟩:=Kd.gH ho1_;subst ev_;replace HO4_0:=aSb HO4_0 hb;replace HO4_1:=aSb HO4_1 hb;replace HO4_2:=aSb HO4_2 hb;replace HO4_3:=aRb HO4_3 hb;replace BK3:=aBb BK3 hb;replace BK5:=aBb BK5 hb;replace HB:=aHB HB hb;clear hb ho0_ ho1_ Q1 Q2 Q3 Q5)|((with_reducible refine gd_ (N:=9) rfl ?_);refine by_ 9 (cs:=#[.int .i64 0,.slice none 0 0,.int .i64 0]) (t:=36) ?_;intro gb18_ hg w18_ hbox hb;replace HS:=aHg HS hg hbox;revert HO4_0 HO4_1 HO4_2 HO4_3 BK3 BK5 HB;refine aD hb ?_;intro HO4_0 HO4_1 HO4_2 HO4_3 BK3 BK5 HB;have BK18:=A_.mk hbox;clear hbox hb hg)|((with_reducible refine gd_ (N:=10) rfl ?_);refine by_ 10 (cs:=#[.int .i64 0,.slice none 0 0]) (t:=68) ?_;intro gb19_ hg w19_ hbox hb;replace HS:=aHg HS hg hbox;revert HO4_0 HO4_1 HO4_2 HO4_3 BK3 BK5 HB BK18;refine aD hb ?_;intro HO4_0 HO4_1 HO4_2 HO4_3 BK3 BK5 HB BK18;have BK19:=A_.mk hbox;clear hbox hb hg;have Q18:=av BK18.out)|((with_reducible refine ae (t:=36) (p:=9) rfl ?_);obtain⟨qf0,qf1,qf2⟩:=eT BK18;refine so_ (w1:=(iN w19_ gb18_ (.int .i64 t15) (.slice Ao17_0 t16.length co17_0) (.int .i64 t17))) ?_;intro w20_ hw;clear qf0 qf1 qf2;obtain⟨hbx,hkp,hbb⟩:=iT hw BK18 HB (ho_ HS);clear hw;revert HO4_0 HO4_1 HO4_2 HO4_3 BK3 BK5 BK19;refine bC hkp HS ?_;intro HO4_0 HO4_1 HO4_2 HO4_3 BK3 BK5 BK19;replace BK18:=A_.mk hbx;replace HB:=A_.mk hbb;replace HS:=aHs HS hkp.1;clear hkp hbb hbx Q18;have Q19:=ak BK19.out)|((with_reducible refine ae (t:=68) (p:=10) rfl ?_);obtain⟨qf0,qf1⟩:=dO BK19;refine so_ (w1:=(jv w20_ gb19_ (.int .i64 t18) (.slice Ao17_1 t19.length co17_1))) ?_;intro w21_ hw;clear qf0 qf1;obtain⟨hbx,hkp,hbb⟩:=jA hw BK19 HB (ho_ HS);clear hw;revert HO4_0 HO4_1 HO4_2 HO4_3 BK3 BK5;refine bC hkp HS ?_;intro HO4_0 HO4_1 HO4_2 HO4_3 BK3 BK5;replace BK19:=A_.mk hbx;replace HB:=A_.mk hbb;replace HS:=aHs HS hkp.1;clear hkp hbb hbx Q19;have Q3:=aa BK3.out;have Q5:=aa BK5.out)|((with_reducible refine ae (t:=39) (p:=4) rfl ?_);obtain⟨qf0,qf1,qf2,qf3,qf4,qf5,qf6⟩:=gM BK3;refine so_ (w1:=(iR w21_ gb3_ (.int .i64 t1) (.slice Ao4_0 t2.length co4_0) (.int .i64 t3) (.int .i64 t4) (.slice Ao4_1 t5.length co4_1) (.slice Ao4_2 t6.length co4_2) (.slice Ao4_3 t7.length co4_3))) ?_;intro w27_ hw;clear qf0 qf1 qf2 qf3 qf4 qf5 qf6;obtain⟨hbx,hkp,hbb⟩:=iV hw BK3 HB (ho_ HS);clear hw;revert HO4_0 HO4_1 HO4_2 HO4_3;refine bC hkp HS ?_;intro HO4_0 HO4_1 HO4_2 HO4_3;replace BK3:=A_.mk hbx;replace HB:=A_.mk hbb;replace HS:=aHs HS hkp.1;clear hkp hbb hbx Q3 Q5))
  refine bodyPost_ret (aM rfl _ _ gb3_ 39 _ (0,0) _ rfl BK3.out Tryz.underlying39 rfl (by kernel_rfl)) rfl ?_
  exact⟨_,_,_,_,rfl,Kd.aW (Kd.S_V HO4_0.out) (hk_ HS),Kd.aW (Kd.S_V HO4_1.out) (hk_ HS),Kd.aW (Kd.S_V HO4_2.out) (hk_ HS),Kd.aW (Kd.R_V HO4_3.out) (hk_ HS),HB.out⟩
 rw [if_neg hc4_] at H
 have hc4_b:=iE hc4_
 by_cases hc8_:a1_0=2
 case pos =>
  rw [if_pos hc8_] at H
  replace hc8_:=iF hc8_
  by_cases hc9_:(l0_5.length:Int)=0
  case pos =>
   rw [if_pos hc9_] at H
   have hc9_b1:(l0_5.length==0)=true:=by first|simpa using hc9_|(simp at hc9_ ⊢;omega)
   replace hc9_:=iF hc9_
   replace H:=il H
   obtain⟨rfl,rfl,rfl,rfl,rfl,rfl,rfl,rfl⟩:=H
   go_wp2_with (first|((with_reducible refine ae (t:=39) (p:=4) rfl ?_);obtain⟨qf0,qf1,qf2,qf3,qf4,qf5,qf6⟩:=gM BK3;refine so_ (w1:=(iR w7_ gb3_ (.int .i64 t1) (.slice Ao4_0 t2.length co4_0) (.int .i64 t3) (.int .i64 t4) (.slice Ao4_1 t5.length co4_1) (.slice Ao4_2 t6.length co4_2) (.slice Ao4_3 t7.length co4_3))) ?_;intro w28_ hw;clear qf0 qf1 qf2 qf3 qf4 qf5 qf6;obtain⟨hbx,hkp,hbb⟩:=iV hw BK3 HB (ho_ HS);clear hw;replace HO4_0:=aSk HO4_0 hkp HS;replace HO4_1:=aSk HO4_1 hkp HS;replace HO4_2:=aSk HO4_2 hkp HS;replace HO4_3:=aRk HO4_3 hkp HS;replace BK3:=A_.mk hbx;replace HB:=A_.mk hbb;replace HS:=aHs HS hkp.1;clear hkp hbb hbx Q1 Q2 Q3 Q5))
   refine bodyPost_ret (aM rfl _ _ gb3_ 39 _ (0,0) _ rfl BK3.out Tryz.underlying39 rfl (by kernel_rfl)) rfl ?_
   exact⟨_,_,_,_,rfl,Kd.aW (Kd.S_V HO4_0.out) (hk_ HS),Kd.aW (Kd.S_V HO4_1.out) (hk_ HS),Kd.aW (Kd.S_V HO4_2.out) (hk_ HS),Kd.aW (Kd.R_V HO4_3.out) (hk_ HS),HB.out⟩
  rw [if_neg hc9_] at H
  have hc9_b:=iE hc9_
  have hc9_b1:(l0_5.length==0)=false:=by first|simpa using hc9_|(simp at hc9_ ⊢;omega)
  replace H:=oa_ H
  obtain⟨⟨t23,t24,t25,t26,t27,t28,t29⟩,A29,H⟩:=H
  try dsimp only at H
  replace H:=il H
  obtain⟨rfl,rfl,rfl,rfl,rfl,rfl,rfl,rfl⟩:=H
  go_wp2_with (first|((with_reducible refine gc_ (f:=32) rfl ?_);obtain⟨fp29_,hfp_⟩:=mS_ HO4_0 0 (mS_ HO4_1 1 (mS_ HO4_2 2 (mR_ HO4_3 3 (m0_ 4))));have hfb3_:fp29_ gb3_=4:=fb_ HS hfp_;refine gl_ (some 79) Tryz.func32 #[.agg #[.int .i64 t1,.slice Ao4_0 t2.length co4_0,.int .i64 t3,.int .i64 t4,.slice Ao4_1 t5.length co4_1,.slice Ao4_2 t6.length co4_2,.slice Ao4_3 t7.length co4_3]] ?_;(with_reducible refine (fU.calls k fp29_ t1 _ _ t2 t3 t4 _ _ t5 _ _ t6 _ _ t7 t23 t24 t25 t26 t27 t28 t29 w _ HB.out (cS_ HO4_0 HS hfp_) (cS_ HO4_1 HS hfp_) (cS_ HO4_2 HS hfp_) (cR_ HO4_3 HS hfp_) A29.out).mono ?_);rintro e w29_ ⟨f29_,v0_,v1_,v2_,v3_,rfl,ho0_,ho1_,ho2_,ho3_,hfk_,hbb,hkp⟩;refine⟨_,rfl,?_⟩;have hge3_:4≤f29_ gb3_:=(by have h1_:=hfk_ gb3_ (aI BK3.out);have:=hfb3_;have:=HS.out;omega);replace BK3:=A_.mk ((hkp.2 _ (aI BK3.out) (fun _=>by have:=hfb3_;have:=HS.out;omega)).trans BK3.out);replace HB:=A_.mk hbb;replace HS:=aHs HS hkp.1;replace HS:=aHs HS hge3_;obtain⟨Ao29_0,co29_0,rfl,HO29_0⟩:=sV_ ho0_;obtain⟨Ao29_1,co29_1,rfl,HO29_1⟩:=sV_ ho1_;obtain⟨Ao29_2,co29_2,rfl,HO29_2⟩:=sV_ ho2_;obtain⟨Ao29_3,co29_3,rfl,HO29_3⟩:=sV_ ho3_;clear hkp hbb hfp_ hfk_ ho0_ ho1_ ho2_ ho3_ hfb3_ hge3_ Q1 Q2 Q3 Q5;have Q3:=aa BK3.out)|((with_reducible refine ae (t:=39) (p:=4) rfl ?_);obtain⟨qf0,qf1,qf2,qf3,qf4,qf5,qf6⟩:=gM BK3;refine so_ (w1:=(iR w29_ gb3_ (.int .i64 t23) (.slice Ao29_0 t24.length co29_0) (.int .i64 t25) (.int .i64 t26) (.slice Ao29_1 t27.length co29_1) (.slice Ao29_2 t28.length co29_2) (.slice Ao29_3 t29.length co29_3))) ?_;intro w30_ hw;clear qf0 qf1 qf2 qf3 qf4 qf5 qf6;obtain⟨hbx,hkp,hbb⟩:=iV hw BK3 HB (ho_ HS);clear hw;revert HO29_0 HO29_1 HO29_2 HO29_3;refine bC hkp HS ?_;intro HO29_0 HO29_1 HO29_2 HO29_3;replace BK3:=A_.mk hbx;replace HB:=A_.mk hbb;replace HS:=aHs HS hkp.1;clear hkp hbb hbx Q3))
  refine bodyPost_ret (aM rfl _ _ gb3_ 39 _ (0,0) _ rfl BK3.out Tryz.underlying39 rfl (by kernel_rfl)) rfl ?_
  exact⟨_,_,_,_,rfl,Kd.aW (HO29_0.out) (hk_ HS),Kd.aW (HO29_1.out) (hk_ HS),Kd.aW (HO29_2.out) (hk_ HS),Kd.aW (HO29_3.out) (hk_ HS),HB.out⟩
 rw [if_neg hc8_] at H
 have hc8_b:=iE hc8_
 by_cases hc10_:a1_0=3
 case pos =>
  rw [if_pos hc10_] at H
  replace hc10_:=iF hc10_
  replace H:=oa_ H
  obtain⟨t30,A31,H⟩:=H
  replace H:=A_.mk H
  go_wp2_with (fail)
  refine(bI.calls a1_1 0 (wrap64 ((l0_5.length:Int)-1)) t30 _ A31.out).mono ?_
  rintro e w31_ ⟨rfl,hb⟩
  replace hb:=Drawn0.below hb
  replace HS:=aHs HS hb.size
  replace HO4_0:=aSb HO4_0 hb
  replace HO4_1:=aSb HO4_1 hb
  replace HO4_2:=aSb HO4_2 hb
  replace HO4_3:=aRb HO4_3 hb
  replace BK2:=aBb BK2 hb
  replace BK3:=aBb BK3 hb
  replace BK5:=aBb BK5 hb
  replace HB:=aHB HB hb
  clear hb  Q1 Q2 Q3 Q5
  have Q2:=ak BK2.out
  have Q3:=aa BK3.out
  have Q5:=aa BK5.out
  replace H:=H.out
  by_cases hc11_:t30=true
  case pos =>
   rw [if_pos hc11_] at H
   subst hc11_
   replace H:=ky H
   obtain⟨hp32_,hq32_,H⟩:=H
   have EB32:=A_.mk (And.intro hp32_ hq32_)
   clear hp32_ hq32_
   obtain⟨y31,Ny31⟩:=le_ ((t6.eraseIdx (a1_1).toNat))
   rw [←Ny31.out] at H
   replace H:=il H
   obtain⟨rfl,rfl,rfl,rfl,rfl,rfl,rfl,rfl⟩:=H
   go_wp2_with (fail)
   obtain⟨m32_,hm_⟩:∃ m_:Nat,a1_1=(m_:Int):=⟨(a1_1).toNat,by have:=EB32.out;omega⟩
   subst hm_
   obtain⟨gd32_,ed_⟩:=mI HO4_2.out (by have:=EB32.out;omega)
   subst ed_
   have hnc_:=(dS HO4_2)
   have hm1_:m32_<t6.length:=by have:=EB32.out.2;omega
   have hz0_:m32_+1≤t6.length:=by omega
   have hz1_:m32_≤co4_2:=by omega
   have hz2_:m32_+1≤co4_2:=by omega
   have hz3_:m32_≤m32_+1:=by omega
   have hz4_:m32_≤t6.length:=by omega
   have hz5_:(0:Int)≤(m32_:Int)+1:=by omega
   have hz6_:(m32_:Int)+1≤((t6.length:Nat):Int):=by omega
   have hz7_:¬ m32_=m32_+1:=by omega
   have hcm_:=xy HO4_2.out
   have hw_:wrap64 ((m32_:Int)+1)=(m32_:Int)+1:=by unfold wrap64;omega
   clear hm1_ hnc_ hcm_
   refine dN (n:=14) (S:=fun w'=>(w'.cell? ⟨gb2_,0,none⟩=some (.int .i64 a1_0)∧w'.cell? ⟨gb2_,1,none⟩=some (.int .i64 (m32_:Int)))∧(w'.cell? ⟨gb5_,0,none⟩=some (.int .i64 t1)∧w'.cell? ⟨gb5_,1,none⟩=some (.slice Ao4_0 t2.length co4_0)∧w'.cell? ⟨gb5_,2,none⟩=some (.int .i64 t3)∧w'.cell? ⟨gb5_,3,none⟩=some (.int .i64 t4)∧w'.cell? ⟨gb5_,4,none⟩=some (.slice Ao4_1 t5.length co4_1)∧w'.cell? ⟨gb5_,5,none⟩=some (.slice (some ⟨gd32_,0,none⟩) t6.length co4_2)∧w'.cell? ⟨gb5_,6,none⟩=some (.slice Ao4_3 t7.length co4_3))) (ds:=[13]) #[F,F,F,F,F,F,F,F,F,F,F,F,F,F] (by kernel_rfl) rfl rfl ⟨ak BK2.out,aa BK5.out⟩ (fun hHeld=>?_)
   clear Q2 Q3 Q5
   have hb:=aV (Below.refl w31_.heap.size w31_)
   replace HS:=aHs HS hb.size
   replace HO4_0:=aSb HO4_0 hb
   replace HO4_1:=aSb HO4_1 hb
   replace HO4_2:=aSb HO4_2 hb
   replace HO4_3:=aRb HO4_3 hb
   replace BK2:=aBb BK2 hb
   replace BK3:=aBb BK3 hb
   replace BK5:=aBb BK5 hb
   replace HB:=aHB HB hb
   clear hb
   generalize w31_.drew=w53d_ at HO4_0 HO4_1 HO4_2 HO4_3 BK2 BK3 BK5 HB HS hHeld ⊢
   refine pd_ (i:=0) (N:=some 91) #[T,F,F,F,F,F,F,F,F,F,F,F,F,F] rfl ?_
   refine tl_ (i:=1) (N:=some 92) #[T,T,F,F,F,F,F,F,F,F,F,F,F,F] rfl hHeld ?_
   refine pd_ (i:=2) (N:=some 93) #[T,T,T,F,F,F,F,F,F,F,F,F,F,F] rfl ?_
   refine tl_ (i:=3) (N:=some 94) #[T,T,T,T,F,F,F,F,F,F,F,F,F,F] rfl hHeld ?_
   refine pd_ (i:=4) (N:=some 95) #[T,T,T,T,T,F,F,F,F,F,F,F,F,F] rfl ?_
   refine pd_ (i:=5) (N:=some 96) #[T,T,T,T,T,T,F,F,F,F,F,F,F,F] rfl ?_
   refine tl_ (i:=6) (N:=some 97) #[T,T,T,T,T,T,T,F,F,F,F,F,F,F] rfl hHeld ?_
   refine pd_ (i:=7) (N:=some 98) #[T,T,T,T,T,T,T,T,F,F,F,F,F,F] rfl ?_
   refine tl_ (i:=8) (N:=some 99) #[T,T,T,T,T,T,T,T,T,F,F,F,F,F] rfl hHeld ?_
   refine pd_ (i:=9) (N:=some 100) #[T,T,T,T,T,T,T,T,T,T,F,F,F,F] rfl ?_
   refine pd_ (i:=10) (N:=some 101) #[T,T,T,T,T,T,T,T,T,T,T,F,F,F] rfl ?_
   refine on_ (i:=11) (N:=some 102) #[T,T,T,T,T,T,T,T,T,T,T,T,F,F] rfl (fun K hK=>?_)
   refine Kd.mg (Kd.slice 3 (Kd.int .i64)) w.heap.size (by rfl) (.tmp 95) (.tmp 101) 25 28 rfl Tryz.underlying25 (by kernel_rfl) (g:=gd32_) (n:=t6.length) (c:=co4_2) (k:=m32_) rfl rfl ?hA ?hm HO4_2.out hz0_ HB.out HB.out.size ?_
   case hA =>
    by_cases hz:co4_2=m32_+1
    ·(try rw [if_pos hz]);rw [if_pos hz]
    (try rw [if_neg hz]);rw [if_neg hz];show _=some (Addr.add ⟨gd32_,0,none⟩ ((m32_+1)*1));(try rw [kL,Nat.zero_add]);(try rw [Nat.mul_one])
   case hm=>first|rfl|omega
   intro w32_ ho hb2 hg2
   have hkp:Kept w53d_ w32_ (fun k_=>((w3_.heap.size≤k_∧k_<w4_.heap.size)∧f4_ k_=2)):=Kept.aZ hg2 (Kept.refl _ _) (fun k_ e_=>.inl ((Kd.S_R HO4_2.out).1 k_ e_))
   replace ho:Kd.S (Kd.slice 3 (Kd.int .i64)) 28 w32_ w.heap.size (fun k_=>((w3_.heap.size≤k_∧k_<w4_.heap.size)∧f4_ k_=2)) (.slice (some ⟨gd32_,0,none⟩) (t6.length-1) co4_2) y31:=by rw [Ny31.out];exact ho
   have hl_:=(Kd.eF ho).1
   rw [hl_] at ho ⊢
   clear hl_ hz0_ hz1_ hz2_ hz3_ hz4_ hz5_ hz6_ hz7_ hw_
   revert HO4_0 HO4_1 HO4_3 BK2 BK3 BK5
   refine bC hkp HS ?_
   intro HO4_0 HO4_1 HO4_3 BK2 BK3 BK5
   replace HS:=aHs HS hkp.1
   have HO32:=A_.mk ho
   replace HB:=A_.mk hb2
   clear hkp hb2 hg2 ho HO4_2
   refine hK.out _ _ ⟨ak BK2.out,aa BK5.out⟩ (fun hHeld=>?_)
   clear hK K
   refine nm_ ?_
   refine pd_ (i:=12) (N:=some 103) #[T,T,T,T,T,T,T,T,T,T,T,T,T,F] rfl ?_
   refine gG (i:=13) (N:=none) #[T,T,T,T,T,T,T,T,T,T,T,T,T,T] rfl rfl (by kernel_rfl) (by decide) (fun K hK=>?_)
   have Q2:=ak BK2.out
   have Q3:=aa BK3.out
   have Q5:=aa BK5.out
   have qf0:=bf_ BK5.out 5
   obtain⟨w33_,hw⟩:=lw_ ((w32_.setCell ⟨gb5_,5,none⟩ (.slice (some ⟨gd32_,0,none⟩) y31.length co4_2)))
   refine fT (w1:=w33_) (by rfl) rfl ?_ ?_
   ·rw [hw];go_simp;try rfl
   refine hK.out _ _ ?_
   clear hK K qf0 Q2 Q3 Q5
   obtain⟨hbx,hkp,hbb⟩:=j6 hw BK5 HB (ho_ HS)
   clear hw
   revert HO4_0 HO4_1 HO4_3 BK2 BK3 HO32
   refine bC hkp HS ?_
   intro HO4_0 HO4_1 HO4_3 BK2 BK3 HO32
   replace BK5:=A_.mk hbx
   replace HB:=A_.mk hbb
   replace HS:=aHs HS hkp.1
   clear hkp hbb hbx
   refine fA (by kernel_rfl) ?_
   generalize (if co4_2=m32_+1 then (some ⟨gd32_,0,none⟩:Option Addr) else some ⟨gd32_,m32_+1,none⟩)=ax32_
   have Q3:=aa BK3.out
   have Q5:=aa BK5.out
   go_wp2_with (first|((with_reducible refine ae (t:=39) (p:=4) rfl ?_);obtain⟨qf0,qf1,qf2,qf3,qf4,qf5,qf6⟩:=gM BK3;refine so_ (w1:=(iR w33_ gb3_ (.int .i64 t1) (.slice Ao4_0 t2.length co4_0) (.int .i64 t3) (.int .i64 t4) (.slice Ao4_1 t5.length co4_1) (.slice (some ⟨gd32_,0,none⟩) y31.length co4_2) (.slice Ao4_3 t7.length co4_3))) ?_;intro w34_ hw;clear qf0 qf1 qf2 qf3 qf4 qf5 qf6;obtain⟨hbx,hkp,hbb⟩:=iV hw BK3 HB (ho_ HS);clear hw;revert HO4_0 HO4_1 HO4_3 HO32;refine bC hkp HS ?_;intro HO4_0 HO4_1 HO4_3 HO32;replace BK3:=A_.mk hbx;replace HB:=A_.mk hbb;replace HS:=aHs HS hkp.1;clear hkp hbb hbx Q3 Q5))
   refine bodyPost_ret (aM rfl _ _ gb3_ 39 _ (0,0) _ rfl BK3.out Tryz.underlying39 rfl (by kernel_rfl)) rfl ?_
   exact⟨_,_,_,_,rfl,Kd.aW (Kd.S_V HO4_0.out) (hk_ HS),Kd.aW (Kd.S_V HO4_1.out) (hk_ HS),Kd.aW (Kd.S_V HO32.out) (hk_ HS),Kd.aW (Kd.R_V HO4_3.out) (hk_ HS),HB.out⟩
  rw [if_neg hc11_] at H
  replace hc11_:=eq_false_of_ne_true hc11_
  subst hc11_
  replace H:=il H
  obtain⟨rfl,rfl,rfl,rfl,rfl,rfl,rfl,rfl⟩:=H
  go_wp2_with (first|((with_reducible refine ae (t:=39) (p:=4) rfl ?_);obtain⟨qf0,qf1,qf2,qf3,qf4,qf5,qf6⟩:=gM BK3;refine so_ (w1:=(iR w31_ gb3_ (.int .i64 t1) (.slice Ao4_0 t2.length co4_0) (.int .i64 t3) (.int .i64 t4) (.slice Ao4_1 t5.length co4_1) (.slice Ao4_2 t6.length co4_2) (.slice Ao4_3 t7.length co4_3))) ?_;intro w35_ hw;clear qf0 qf1 qf2 qf3 qf4 qf5 qf6;obtain⟨hbx,hkp,hbb⟩:=iV hw BK3 HB (ho_ HS);clear hw;replace HO4_0:=aSk HO4_0 hkp HS;replace HO4_1:=aSk HO4_1 hkp HS;replace HO4_2:=aSk HO4_2 hkp HS;replace HO4_3:=aRk HO4_3 hkp HS;replace BK3:=A_.mk hbx;replace HB:=A_.mk hbb;replace HS:=aHs HS hkp.1;clear hkp hbb hbx Q2 Q3 Q5))
  refine bodyPost_ret (aM rfl _ _ gb3_ 39 _ (0,0) _ rfl BK3.out Tryz.underlying39 rfl (by kernel_rfl)) rfl ?_
  exact⟨_,_,_,_,rfl,Kd.aW (Kd.S_V HO4_0.out) (hk_ HS),Kd.aW (Kd.S_V HO4_1.out) (hk_ HS),Kd.aW (Kd.S_V HO4_2.out) (hk_ HS),Kd.aW (Kd.R_V HO4_3.out) (hk_ HS),HB.out⟩
 rw [if_neg hc10_] at H
 have hc10_b:=iE hc10_
 by_cases hc12_:a1_0=4
 case pos =>
  rw [if_pos hc12_] at H
  replace hc12_:=iF hc12_
  by_cases hc13_:a1_1<0
  case pos =>
   rw [if_pos hc13_] at H
   have hc13_b0:=decide_eq_true hc13_
   replace hc13_:=A_.mk hc13_
   replace H:=il H
   obtain⟨rfl,rfl,rfl,rfl,rfl,rfl,rfl,rfl⟩:=H
   go_wp2_with (fail)
   refine dN (n:=23) (S:=fun w'=>(w'.cell? ⟨gb2_,0,none⟩=some (.int .i64 a1_0)∧w'.cell? ⟨gb2_,1,none⟩=some (.int .i64 a1_1))) (ds:=[]) #[F,F,F,F,F,F,F,F,F,F,F,F,F,F,F,F,F,F,F,F,F,F,F] (by kernel_rfl) rfl rfl (ak BK2.out) (fun hHeld=>?_)
   clear Q1 Q2 Q3 Q5
   have hb:=aV (Below.refl w7_.heap.size w7_)
   replace HS:=aHs HS hb.size
   replace HO4_0:=aSb HO4_0 hb
   replace HO4_1:=aSb HO4_1 hb
   replace HO4_2:=aSb HO4_2 hb
   replace HO4_3:=aRb HO4_3 hb
   replace BK2:=aBb BK2 hb
   replace BK3:=aBb BK3 hb
   replace BK5:=aBb BK5 hb
   replace HB:=aHB HB hb
   clear hb
   generalize w7_.drew=w54d_ at HO4_0 HO4_1 HO4_2 HO4_3 BK2 BK3 BK5 HB HS hHeld ⊢
   refine pd_ (i:=0) (N:=some 110) #[T,F,F,F,F,F,F,F,F,F,F,F,F,F,F,F,F,F,F,F,F,F,F] rfl ?_
   refine tl_ (i:=1) (N:=some 111) #[T,T,F,F,F,F,F,F,F,F,F,F,F,F,F,F,F,F,F,F,F,F,F] rfl hHeld ?_
   refine pd_ (i:=2) (N:=some 112) #[T,T,T,F,F,F,F,F,F,F,F,F,F,F,F,F,F,F,F,F,F,F,F] rfl ?_
   refine pd_ (i:=3) (N:=some 113) #[T,T,T,T,F,F,F,F,F,F,F,F,F,F,F,F,F,F,F,F,F,F,F] rfl ?_
   refine pw_ (i:=4) (N:=some 114) #[T,T,T,T,T,F,F,F,F,F,F,F,F,F,F,F,F,F,F,F,F,F,F] rfl ?_
   refine pw_ (i:=5) (N:=some 115) #[T,T,T,T,T,T,F,F,F,F,F,F,F,F,F,F,F,F,F,F,F,F,F] rfl ?_
   refine pw_ (i:=6) (N:=some 116) #[T,T,T,T,T,T,T,F,F,F,F,F,F,F,F,F,F,F,F,F,F,F,F] rfl ?_
   refine pw_ (i:=7) (N:=some 117) #[T,T,T,T,T,T,T,T,F,F,F,F,F,F,F,F,F,F,F,F,F,F,F] rfl ?_
   refine pw_ (i:=8) (N:=some 118) #[T,T,T,T,T,T,T,T,T,F,F,F,F,F,F,F,F,F,F,F,F,F,F] rfl ?_
   refine pd_ (i:=9) (N:=some 119) #[T,T,T,T,T,T,T,T,T,T,F,F,F,F,F,F,F,F,F,F,F,F,F] rfl ?_
   refine pd_ (i:=10) (N:=some 120) #[T,T,T,T,T,T,T,T,T,T,T,F,F,F,F,F,F,F,F,F,F,F,F] rfl ?_
   refine pw_ (i:=11) (N:=some 121) #[T,T,T,T,T,T,T,T,T,T,T,T,F,F,F,F,F,F,F,F,F,F,F] rfl ?_
   refine pw_ (i:=12) (N:=some 122) #[T,T,T,T,T,T,T,T,T,T,T,T,T,F,F,F,F,F,F,F,F,F,F] rfl ?_
   refine pw_ (i:=13) (N:=some 123) #[T,T,T,T,T,T,T,T,T,T,T,T,T,T,F,F,F,F,F,F,F,F,F] rfl ?_
   refine pw_ (i:=14) (N:=some 124) #[T,T,T,T,T,T,T,T,T,T,T,T,T,T,T,F,F,F,F,F,F,F,F] rfl ?_
   refine pw_ (i:=15) (N:=some 125) #[T,T,T,T,T,T,T,T,T,T,T,T,T,T,T,T,F,F,F,F,F,F,F] rfl ?_
   refine pw_ (i:=16) (N:=some 126) #[T,T,T,T,T,T,T,T,T,T,T,T,T,T,T,T,T,F,F,F,F,F,F] rfl ?_
   refine pw_ (i:=17) (N:=some 127) #[T,T,T,T,T,T,T,T,T,T,T,T,T,T,T,T,T,T,F,F,F,F,F] rfl ?_
   refine pw_ (i:=18) (N:=some 128) #[T,T,T,T,T,T,T,T,T,T,T,T,T,T,T,T,T,T,T,F,F,F,F] rfl ?_
   refine pw_ (i:=19) (N:=some 129) #[T,T,T,T,T,T,T,T,T,T,T,T,T,T,T,T,T,T,T,T,F,F,F] rfl ?_
   refine pw_ (i:=20) (N:=some 130) #[T,T,T,T,T,T,T,T,T,T,T,T,T,T,T,T,T,T,T,T,T,F,F] rfl ?_
   refine pw_ (i:=21) (N:=some 131) #[T,T,T,T,T,T,T,T,T,T,T,T,T,T,T,T,T,T,T,T,T,T,F] rfl ?_
   refine pd_ (i:=22) (N:=some 132) #[T,T,T,T,T,T,T,T,T,T,T,T,T,T,T,T,T,T,T,T,T,T,T] rfl ?_
   refine fA (by kernel_rfl) ?_
   have Q3:=aa BK3.out
   have Q5:=aa BK5.out
   go_wp2_with (first|((with_reducible refine ae (t:=39) (p:=4) rfl ?_);obtain⟨qf0,qf1,qf2,qf3,qf4,qf5,qf6⟩:=gM BK3;refine so_ (w1:=(iR w54d_ gb3_ (.int .i64 t1) (.slice Ao4_0 t2.length co4_0) (.int .i64 t3) (.int .i64 t4) (.slice Ao4_1 t5.length co4_1) (.slice Ao4_2 t6.length co4_2) (.slice Ao4_3 t7.length co4_3))) ?_;intro w36_ hw;clear qf0 qf1 qf2 qf3 qf4 qf5 qf6;obtain⟨hbx,hkp,hbb⟩:=iV hw BK3 HB (ho_ HS);clear hw;revert HO4_0 HO4_1 HO4_2 HO4_3;refine bC hkp HS ?_;intro HO4_0 HO4_1 HO4_2 HO4_3;replace BK3:=A_.mk hbx;replace HB:=A_.mk hbb;replace HS:=aHs HS hkp.1;clear hkp hbb hbx Q3 Q5))
   refine bodyPost_ret (aM rfl _ _ gb3_ 39 _ (0,0) _ rfl BK3.out Tryz.underlying39 rfl (by kernel_rfl)) rfl ?_
   exact⟨_,_,_,_,rfl,Kd.aW (Kd.S_V HO4_0.out) (hk_ HS),Kd.aW (Kd.S_V HO4_1.out) (hk_ HS),Kd.aW (Kd.S_V HO4_2.out) (hk_ HS),Kd.aW (Kd.R_V HO4_3.out) (hk_ HS),HB.out⟩
  rw [if_neg hc13_] at H
  have hc13_b0:=decide_eq_false hc13_
  replace hc13_:=A_.mk hc13_
  by_cases hc14_:(l0_5.length:Int)≤(Int.tmod a1_1 8)
  case pos =>
   rw [if_pos hc14_] at H
   have hc14_b0:=decide_eq_true hc14_
   have hc14_b1:decide (l0_5.length≤(Int.tmod a1_1 8))=true:=decide_eq_true (by omega)
   replace H:=il H
   obtain⟨rfl,rfl,rfl,rfl,rfl,rfl,rfl,rfl⟩:=H
   go_wp2_with (fail)
   refine dN (n:=23) (S:=fun w'=>(w'.cell? ⟨gb1_,0,none⟩=some (.int .i64 a0_0)∧w'.cell? ⟨gb1_,1,none⟩=some (.slice A0_1 l0_1.length c0_1)∧w'.cell? ⟨gb1_,2,none⟩=some (.int .i64 a0_2)∧w'.cell? ⟨gb1_,3,none⟩=some (.int .i64 a0_3)∧w'.cell? ⟨gb1_,4,none⟩=some (.slice A0_4 l0_4.length c0_4)∧w'.cell? ⟨gb1_,5,none⟩=some (.slice A0_5 l0_5.length c0_5)∧w'.cell? ⟨gb1_,6,none⟩=some (.slice A0_6 l0_6.length c0_6))∧(w'.cell? ⟨gb2_,0,none⟩=some (.int .i64 a1_0)∧w'.cell? ⟨gb2_,1,none⟩=some (.int .i64 a1_1))) (ds:=[]) #[F,F,F,F,F,F,F,F,F,F,F,F,F,F,F,F,F,F,F,F,F,F,F] (by kernel_rfl) rfl rfl ⟨aa BK1.out,ak BK2.out⟩ (fun hHeld=>?_)
   clear Q1 Q2 Q3 Q5
   have hb:=aV (Below.refl w7_.heap.size w7_)
   replace HS:=aHs HS hb.size
   replace HO4_0:=aSb HO4_0 hb
   replace HO4_1:=aSb HO4_1 hb
   replace HO4_2:=aSb HO4_2 hb
   replace HO4_3:=aRb HO4_3 hb
   replace BK1:=aBb BK1 hb
   replace BK2:=aBb BK2 hb
   replace BK3:=aBb BK3 hb
   replace BK5:=aBb BK5 hb
   replace HB:=aHB HB hb
   clear hb
   generalize w7_.drew=w55d_ at HO4_0 HO4_1 HO4_2 HO4_3 BK1 BK2 BK3 BK5 HB HS hHeld ⊢
   refine pd_ (i:=0) (N:=some 110) #[T,F,F,F,F,F,F,F,F,F,F,F,F,F,F,F,F,F,F,F,F,F,F] rfl ?_
   refine tl_ (i:=1) (N:=some 111) #[T,T,F,F,F,F,F,F,F,F,F,F,F,F,F,F,F,F,F,F,F,F,F] rfl hHeld ?_
   refine pd_ (i:=2) (N:=some 112) #[T,T,T,F,F,F,F,F,F,F,F,F,F,F,F,F,F,F,F,F,F,F,F] rfl ?_
   refine pd_ (i:=3) (N:=some 113) #[T,T,T,T,F,F,F,F,F,F,F,F,F,F,F,F,F,F,F,F,F,F,F] rfl ?_
   refine pd_ (i:=4) (N:=some 114) #[T,T,T,T,T,F,F,F,F,F,F,F,F,F,F,F,F,F,F,F,F,F,F] rfl ?_
   refine pd_ (i:=5) (N:=some 115) #[T,T,T,T,T,T,F,F,F,F,F,F,F,F,F,F,F,F,F,F,F,F,F] rfl ?_
   refine tl_ (i:=6) (N:=some 116) #[T,T,T,T,T,T,T,F,F,F,F,F,F,F,F,F,F,F,F,F,F,F,F] rfl hHeld ?_
   refine pd_ (i:=7) (N:=some 117) #[T,T,T,T,T,T,T,T,F,F,F,F,F,F,F,F,F,F,F,F,F,F,F] rfl ?_
   refine pd_ (i:=8) (N:=some 118) #[T,T,T,T,T,T,T,T,T,F,F,F,F,F,F,F,F,F,F,F,F,F,F] rfl ?_
   refine pd_ (i:=9) (N:=some 119) #[T,T,T,T,T,T,T,T,T,T,F,F,F,F,F,F,F,F,F,F,F,F,F] rfl ?_
   refine pd_ (i:=10) (N:=some 120) #[T,T,T,T,T,T,T,T,T,T,T,F,F,F,F,F,F,F,F,F,F,F,F] rfl ?_
   refine pw_ (i:=11) (N:=some 121) #[T,T,T,T,T,T,T,T,T,T,T,T,F,F,F,F,F,F,F,F,F,F,F] rfl ?_
   refine pw_ (i:=12) (N:=some 122) #[T,T,T,T,T,T,T,T,T,T,T,T,T,F,F,F,F,F,F,F,F,F,F] rfl ?_
   refine pw_ (i:=13) (N:=some 123) #[T,T,T,T,T,T,T,T,T,T,T,T,T,T,F,F,F,F,F,F,F,F,F] rfl ?_
   refine pw_ (i:=14) (N:=some 124) #[T,T,T,T,T,T,T,T,T,T,T,T,T,T,T,F,F,F,F,F,F,F,F] rfl ?_
   refine pw_ (i:=15) (N:=some 125) #[T,T,T,T,T,T,T,T,T,T,T,T,T,T,T,T,F,F,F,F,F,F,F] rfl ?_
   refine pw_ (i:=16) (N:=some 126) #[T,T,T,T,T,T,T,T,T,T,T,T,T,T,T,T,T,F,F,F,F,F,F] rfl ?_
   refine pw_ (i:=17) (N:=some 127) #[T,T,T,T,T,T,T,T,T,T,T,T,T,T,T,T,T,T,F,F,F,F,F] rfl ?_
   refine pw_ (i:=18) (N:=some 128) #[T,T,T,T,T,T,T,T,T,T,T,T,T,T,T,T,T,T,T,F,F,F,F] rfl ?_
   refine pw_ (i:=19) (N:=some 129) #[T,T,T,T,T,T,T,T,T,T,T,T,T,T,T,T,T,T,T,T,F,F,F] rfl ?_
   refine pw_ (i:=20) (N:=some 130) #[T,T,T,T,T,T,T,T,T,T,T,T,T,T,T,T,T,T,T,T,T,F,F] rfl ?_
   refine pw_ (i:=21) (N:=some 131) #[T,T,T,T,T,T,T,T,T,T,T,T,T,T,T,T,T,T,T,T,T,T,F] rfl ?_
   refine pd_ (i:=22) (N:=some 132) #[T,T,T,T,T,T,T,T,T,T,T,T,T,T,T,T,T,T,T,T,T,T,T] rfl ?_
   refine fA (by kernel_rfl) ?_
   have Q3:=aa BK3.out
   have Q5:=aa BK5.out
   go_wp2_with (first|((with_reducible refine ae (t:=39) (p:=4) rfl ?_);obtain⟨qf0,qf1,qf2,qf3,qf4,qf5,qf6⟩:=gM BK3;refine so_ (w1:=(iR w55d_ gb3_ (.int .i64 t1) (.slice Ao4_0 t2.length co4_0) (.int .i64 t3) (.int .i64 t4) (.slice Ao4_1 t5.length co4_1) (.slice Ao4_2 t6.length co4_2) (.slice Ao4_3 t7.length co4_3))) ?_;intro w37_ hw;clear qf0 qf1 qf2 qf3 qf4 qf5 qf6;obtain⟨hbx,hkp,hbb⟩:=iV hw BK3 HB (ho_ HS);clear hw;revert HO4_0 HO4_1 HO4_2 HO4_3;refine bC hkp HS ?_;intro HO4_0 HO4_1 HO4_2 HO4_3;replace BK3:=A_.mk hbx;replace HB:=A_.mk hbb;replace HS:=aHs HS hkp.1;clear hkp hbb hbx Q3 Q5))
   refine bodyPost_ret (aM rfl _ _ gb3_ 39 _ (0,0) _ rfl BK3.out Tryz.underlying39 rfl (by kernel_rfl)) rfl ?_
   exact⟨_,_,_,_,rfl,Kd.aW (Kd.S_V HO4_0.out) (hk_ HS),Kd.aW (Kd.S_V HO4_1.out) (hk_ HS),Kd.aW (Kd.S_V HO4_2.out) (hk_ HS),Kd.aW (Kd.R_V HO4_3.out) (hk_ HS),HB.out⟩
  rw [if_neg hc14_] at H
  have hc14_b0:=decide_eq_false hc14_
  have hc14_b1:decide (l0_5.length≤(Int.tmod a1_1 8))=false:=decide_eq_false (by omega)
  replace H:=ky H
  obtain⟨hp38_,hq38_,H⟩:=H
  have EB38:=A_.mk (And.intro hp38_ hq38_)
  obtain⟨ad38_,A38_0,c38_0,eA_,hx0_,hl0_,hi0_⟩:=xL HW0_5.out (Int.tmod a1_1 8) hp38_ hq38_
  subst eA_
  have HX38:=A_.mk hx0_
  have HE38_0:=A_.mk hi0_
  have HD38_0:=A_.mk hl0_
  clear hx0_ hl0_ hi0_
  replace hp38_:=eq_true hp38_
  replace hq38_:=eq_true hq38_
  replace H:=A_.mk H
  go_wp2_with (fail)
  refine dN (n:=23) (S:=fun w'=>(w'.cell? ⟨gb1_,0,none⟩=some (.int .i64 a0_0)∧w'.cell? ⟨gb1_,1,none⟩=some (.slice A0_1 l0_1.length c0_1)∧w'.cell? ⟨gb1_,2,none⟩=some (.int .i64 a0_2)∧w'.cell? ⟨gb1_,3,none⟩=some (.int .i64 a0_3)∧w'.cell? ⟨gb1_,4,none⟩=some (.slice A0_4 l0_4.length c0_4)∧w'.cell? ⟨gb1_,5,none⟩=some (.slice (some ad38_) l0_5.length c0_5)∧w'.cell? ⟨gb1_,6,none⟩=some (.slice A0_6 l0_6.length c0_6))∧(w'.cell? ⟨gb2_,0,none⟩=some (.int .i64 a1_0)∧w'.cell? ⟨gb2_,1,none⟩=some (.int .i64 a1_1))∧(w'.cell? (ad38_.add ((Int.tmod a1_1 8)).toNat)=some (.slice A38_0 (fG l0_5 (Int.tmod a1_1 8)).length c38_0))) (ds:=[]) #[F,F,F,F,F,F,F,F,F,F,F,F,F,F,F,F,F,F,F,F,F,F,F] (by kernel_rfl) rfl rfl ⟨aa BK1.out,ak BK2.out,mE (aV HB.out) HX38.out⟩ (fun hHeld=>?_)
  clear Q1 Q2 Q3 Q5
  have hb:=aV (Below.refl w7_.heap.size w7_)
  replace HS:=aHs HS hb.size
  replace HO4_0:=aSb HO4_0 hb
  replace HO4_1:=aSb HO4_1 hb
  replace HO4_2:=aSb HO4_2 hb
  replace HO4_3:=aRb HO4_3 hb
  replace BK1:=aBb BK1 hb
  replace BK2:=aBb BK2 hb
  replace BK3:=aBb BK3 hb
  replace BK5:=aBb BK5 hb
  replace HB:=aHB HB hb
  clear hb
  generalize w7_.drew=w56d_ at HO4_0 HO4_1 HO4_2 HO4_3 BK1 BK2 BK3 BK5 HB HS hHeld ⊢
  refine pd_ (i:=0) (N:=some 110) #[T,F,F,F,F,F,F,F,F,F,F,F,F,F,F,F,F,F,F,F,F,F,F] rfl ?_
  refine tl_ (i:=1) (N:=some 111) #[T,T,F,F,F,F,F,F,F,F,F,F,F,F,F,F,F,F,F,F,F,F,F] rfl hHeld ?_
  refine pd_ (i:=2) (N:=some 112) #[T,T,T,F,F,F,F,F,F,F,F,F,F,F,F,F,F,F,F,F,F,F,F] rfl ?_
  refine pd_ (i:=3) (N:=some 113) #[T,T,T,T,F,F,F,F,F,F,F,F,F,F,F,F,F,F,F,F,F,F,F] rfl ?_
  refine pd_ (i:=4) (N:=some 114) #[T,T,T,T,T,F,F,F,F,F,F,F,F,F,F,F,F,F,F,F,F,F,F] rfl ?_
  refine pd_ (i:=5) (N:=some 115) #[T,T,T,T,T,T,F,F,F,F,F,F,F,F,F,F,F,F,F,F,F,F,F] rfl ?_
  refine tl_ (i:=6) (N:=some 116) #[T,T,T,T,T,T,T,F,F,F,F,F,F,F,F,F,F,F,F,F,F,F,F] rfl hHeld ?_
  refine pd_ (i:=7) (N:=some 117) #[T,T,T,T,T,T,T,T,F,F,F,F,F,F,F,F,F,F,F,F,F,F,F] rfl ?_
  refine pd_ (i:=8) (N:=some 118) #[T,T,T,T,T,T,T,T,T,F,F,F,F,F,F,F,F,F,F,F,F,F,F] rfl ?_
  refine pd_ (i:=9) (N:=some 119) #[T,T,T,T,T,T,T,T,T,T,F,F,F,F,F,F,F,F,F,F,F,F,F] rfl ?_
  refine pd_ (i:=10) (N:=some 120) #[T,T,T,T,T,T,T,T,T,T,T,F,F,F,F,F,F,F,F,F,F,F,F] rfl ?_
  refine pd_ (i:=11) (N:=some 121) #[T,T,T,T,T,T,T,T,T,T,T,T,F,F,F,F,F,F,F,F,F,F,F] rfl ?_
  refine tl_ (i:=12) (N:=some 122) #[T,T,T,T,T,T,T,T,T,T,T,T,T,F,F,F,F,F,F,F,F,F,F] rfl hHeld ?_
  refine pd_ (i:=13) (N:=some 123) #[T,T,T,T,T,T,T,T,T,T,T,T,T,T,F,F,F,F,F,F,F,F,F] rfl ?_
  refine pd_ (i:=14) (N:=some 124) #[T,T,T,T,T,T,T,T,T,T,T,T,T,T,T,F,F,F,F,F,F,F,F] rfl ?_
  refine tl_ (i:=15) (N:=some 125) #[T,T,T,T,T,T,T,T,T,T,T,T,T,T,T,T,F,F,F,F,F,F,F] rfl hHeld ?_
  refine pd_ (i:=16) (N:=some 126) #[T,T,T,T,T,T,T,T,T,T,T,T,T,T,T,T,T,F,F,F,F,F,F] rfl ?_
  refine pd_ (i:=17) (N:=some 127) #[T,T,T,T,T,T,T,T,T,T,T,T,T,T,T,T,T,T,F,F,F,F,F] rfl ?_
  refine tl_ (i:=18) (N:=some 128) #[T,T,T,T,T,T,T,T,T,T,T,T,T,T,T,T,T,T,T,F,F,F,F] rfl hHeld ?_
  refine pd_ (i:=19) (N:=some 129) #[T,T,T,T,T,T,T,T,T,T,T,T,T,T,T,T,T,T,T,T,F,F,F] rfl ?_
  refine pd_ (i:=20) (N:=some 130) #[T,T,T,T,T,T,T,T,T,T,T,T,T,T,T,T,T,T,T,T,T,F,F] rfl ?_
  refine pd_ (i:=21) (N:=some 131) #[T,T,T,T,T,T,T,T,T,T,T,T,T,T,T,T,T,T,T,T,T,T,F] rfl ?_
  refine pd_ (i:=22) (N:=some 132) #[T,T,T,T,T,T,T,T,T,T,T,T,T,T,T,T,T,T,T,T,T,T,T] rfl ?_
  refine fA (by kernel_rfl) ?_
  have Q1:=aa BK1.out
  have Q2:=ak BK2.out
  have Q3:=aa BK3.out
  have Q5:=aa BK5.out
  replace H:=H.out
  by_cases hc15_:(wrap64 (8*((fG l0_5 (Int.tmod a1_1 8)).length:Int)))≤(wrap64 (Int.tdiv a1_1 8))
  case pos =>
   rw [if_pos hc15_] at H
   have hc15_b0:=decide_eq_true hc15_
   replace H:=il H
   obtain⟨rfl,rfl,rfl,rfl,rfl,rfl,rfl,rfl⟩:=H
   go_wp2_with (first|((with_reducible refine ae (t:=39) (p:=4) rfl ?_);obtain⟨qf0,qf1,qf2,qf3,qf4,qf5,qf6⟩:=gM BK3;refine so_ (w1:=(iR w56d_ gb3_ (.int .i64 t1) (.slice Ao4_0 t2.length co4_0) (.int .i64 t3) (.int .i64 t4) (.slice Ao4_1 t5.length co4_1) (.slice Ao4_2 t6.length co4_2) (.slice Ao4_3 t7.length co4_3))) ?_;intro w39_ hw;clear qf0 qf1 qf2 qf3 qf4 qf5 qf6;obtain⟨hbx,hkp,hbb⟩:=iV hw BK3 HB (ho_ HS);clear hw;revert HO4_0 HO4_1 HO4_2 HO4_3;refine bC hkp HS ?_;intro HO4_0 HO4_1 HO4_2 HO4_3;replace BK3:=A_.mk hbx;replace HB:=A_.mk hbb;replace HS:=aHs HS hkp.1;clear hkp hbb hbx Q1 Q2 Q3 Q5))
   refine bodyPost_ret (aM rfl _ _ gb3_ 39 _ (0,0) _ rfl BK3.out Tryz.underlying39 rfl (by kernel_rfl)) rfl ?_
   exact⟨_,_,_,_,rfl,Kd.aW (Kd.S_V HO4_0.out) (hk_ HS),Kd.aW (Kd.S_V HO4_1.out) (hk_ HS),Kd.aW (Kd.S_V HO4_2.out) (hk_ HS),Kd.aW (Kd.R_V HO4_3.out) (hk_ HS),HB.out⟩
  rw [if_neg hc15_] at H
  have hc15_b0:=decide_eq_false hc15_
  replace H:=oa_ H
  obtain⟨t32,A40,H⟩:=H
  replace H:=ky H
  obtain⟨hp41_,hq41_,H⟩:=H
  have EB41:=A_.mk (And.intro hp41_ hq41_)
  replace hp41_:=eq_true hp41_
  replace hq41_:=eq_true hq41_
  obtain⟨y33,Ny33⟩:=le_ ((t6.set ((Int.tmod a1_1 8)).toNat t32))
  rw [←Ny33.out] at H
  replace H:=il H
  obtain⟨rfl,rfl,rfl,rfl,rfl,rfl,rfl,rfl⟩:=H
  go_wp2_with (fail)
  obtain⟨gHO4_2_,ed_⟩:=mI HO4_2.out (by have:=EB41.out;omega)
  subst ed_
  obtain⟨A41_0,c41_0,hx_,hl_,hi_⟩:=oh HO4_2.out EB41.out
  have HX41:=A_.mk hx_
  have HD41:=A_.mk hl_
  have HE41:=A_.mk hi_
  clear hx_ hl_ hi_
  refine dN (n:=14) (S:=fun w'=>(w'.cell? ⟨gb1_,0,none⟩=some (.int .i64 a0_0)∧w'.cell? ⟨gb1_,1,none⟩=some (.slice A0_1 l0_1.length c0_1)∧w'.cell? ⟨gb1_,2,none⟩=some (.int .i64 a0_2)∧w'.cell? ⟨gb1_,3,none⟩=some (.int .i64 a0_3)∧w'.cell? ⟨gb1_,4,none⟩=some (.slice A0_4 l0_4.length c0_4)∧w'.cell? ⟨gb1_,5,none⟩=some (.slice (some ad38_) l0_5.length c0_5)∧w'.cell? ⟨gb1_,6,none⟩=some (.slice A0_6 l0_6.length c0_6))∧(w'.cell? ⟨gb2_,0,none⟩=some (.int .i64 a1_0)∧w'.cell? ⟨gb2_,1,none⟩=some (.int .i64 a1_1))∧(w'.cell? ⟨gb5_,0,none⟩=some (.int .i64 t1)∧w'.cell? ⟨gb5_,1,none⟩=some (.slice Ao4_0 t2.length co4_0)∧w'.cell? ⟨gb5_,2,none⟩=some (.int .i64 t3)∧w'.cell? ⟨gb5_,3,none⟩=some (.int .i64 t4)∧w'.cell? ⟨gb5_,4,none⟩=some (.slice Ao4_1 t5.length co4_1)∧w'.cell? ⟨gb5_,5,none⟩=some (.slice (some ⟨gHO4_2_,0,none⟩) t6.length co4_2)∧w'.cell? ⟨gb5_,6,none⟩=some (.slice Ao4_3 t7.length co4_3))∧(w'.cell? (ad38_.add ((Int.tmod a1_1 8)).toNat)=some (.slice A38_0 (fG l0_5 (Int.tmod a1_1 8)).length c38_0))) (ds:=[13]) #[F,F,F,F,F,F,F,F,F,F,F,F,F,F] (by kernel_rfl) rfl rfl ⟨aa BK1.out,ak BK2.out,aa BK5.out,mE (aV HB.out) HX38.out⟩ (fun hHeld=>?_)
  clear Q1 Q2 Q3 Q5
  have hb:=aV (Below.refl w56d_.heap.size w56d_)
  replace HS:=aHs HS hb.size
  replace HO4_0:=aSb HO4_0 hb
  replace HO4_1:=aSb HO4_1 hb
  replace HO4_2:=aSb HO4_2 hb
  replace HO4_3:=aRb HO4_3 hb
  replace BK1:=aBb BK1 hb
  replace BK2:=aBb BK2 hb
  replace BK3:=aBb BK3 hb
  replace BK5:=aBb BK5 hb
  replace HE41:=A_.mk (Kd.cu HE41.out hb)
  replace HX41:=A_.mk ((hb.cell (wl_ _ _ HX41.out)).trans HX41.out)
  replace HB:=aHB HB hb
  clear hb
  generalize w56d_.drew=w57d_ at HO4_0 HO4_1 HO4_2 HO4_3 HE41 HX41 BK1 BK2 BK3 BK5 HB HS hHeld ⊢
  refine pd_ (i:=0) (N:=some 134) #[T,F,F,F,F,F,F,F,F,F,F,F,F,F] rfl ?_
  refine tl_ (i:=1) (N:=some 135) #[T,T,F,F,F,F,F,F,F,F,F,F,F,F] rfl hHeld ?_
  refine pd_ (i:=2) (N:=some 136) #[T,T,T,F,F,F,F,F,F,F,F,F,F,F] rfl ?_
  refine pd_ (i:=3) (N:=some 137) #[T,T,T,T,F,F,F,F,F,F,F,F,F,F] rfl ?_
  refine tl_ (i:=4) (N:=some 138) #[T,T,T,T,T,F,F,F,F,F,F,F,F,F] rfl hHeld ?_
  refine pd_ (i:=5) (N:=some 139) #[T,T,T,T,T,T,F,F,F,F,F,F,F,F] rfl ?_
  refine pd_ (i:=6) (N:=some 140) #[T,T,T,T,T,T,T,F,F,F,F,F,F,F] rfl ?_
  refine tl_ (i:=7) (N:=some 141) #[T,T,T,T,T,T,T,T,F,F,F,F,F,F] rfl hHeld ?_
  refine pd_ (i:=8) (N:=some 142) #[T,T,T,T,T,T,T,T,T,F,F,F,F,F] rfl ?_
  refine tl_ (i:=9) (N:=some 143) #[T,T,T,T,T,T,T,T,T,T,F,F,F,F] rfl hHeld ?_
  refine pd_ (i:=10) (N:=some 144) #[T,T,T,T,T,T,T,T,T,T,T,F,F,F] rfl ?_
  refine on_ (i:=11) (N:=some 145) #[T,T,T,T,T,T,T,T,T,T,T,T,F,F] rfl (fun K hK=>?_)
  refine gz_ Tryz.func33 #[.slice A38_0 (fG l0_5 (Int.tmod a1_1 8)).length c38_0,.int .i64 (wrap64 (Int.tdiv a1_1 8))] ?_
  with_reducible refine (dP.calls k _ _ (fG l0_5 (Int.tmod a1_1 8)) (wrap64 (Int.tdiv a1_1 8)) t32 _ (cb_ HE38_0 HB) HD38_0.out A40.out).mono ?_
  rintro e w40_ ⟨v0_,rfl,ho0_,hb⟩
  refine⟨_,rfl,?_⟩
  replace HS:=aHs HS hb.size
  obtain⟨Ao40_0,co40_0,rfl,HO40_0⟩:=sRm ho0_ HB.out.size
  revert HO4_0 HO4_1 HO4_2 HO4_3 BK1 BK2 BK3 BK5
  refine aD hb ?_
  intro HO4_0 HO4_1 HO4_2 HO4_3 BK1 BK2 BK3 BK5
  replace HE41:=A_.mk (Kd.cu HE41.out hb)
  replace HX41:=A_.mk ((hb.cell (wl_ _ _ HX41.out)).trans HX41.out)
  replace HB:=aHB HB hb
  clear hb ho0_
  refine hK.out _ _ ⟨aa BK1.out,ak BK2.out,aa BK5.out,mE HB.out HX38.out⟩ (fun hHeld=>?_)
  clear hK K
  refine nm_ ?_
  refine pd_ (i:=12) (N:=some 146) #[T,T,T,T,T,T,T,T,T,T,T,T,T,F] rfl ?_
  refine gG (i:=13) (N:=none) #[T,T,T,T,T,T,T,T,T,T,T,T,T,T] rfl rfl (by kernel_rfl) (by decide) (fun K hK=>?_)
  have Q1:=aa BK1.out
  have Q2:=ak BK2.out
  have Q3:=aa BK3.out
  have Q5:=aa BK5.out
  have QE41:=HX41.out
  have QF_:=yf HO4_2.out EB41.out
  obtain⟨w42_,hw⟩:=lw_ (w40_.setCell ⟨gHO4_2_,((Int.tmod a1_1 8)).toNat,none⟩ (.slice Ao40_0 t32.length co40_0))
  refine fT (w1:=w42_) (by rfl) rfl ?_ ?_
  ·rw [hw];go_simp;try rfl
  refine hK.out _ _ ?_
  clear hK K Q1 Q2 Q3 Q5 QE41 QF_
  obtain⟨ho,hkp,hbb⟩:=ym hw HO4_2 HO40_0 HB EB41.out (fun k_ h1_ h2_=>by have:=HS.out;(try dsimp only at h1_ h2_);omega)
  clear hw
  rw [←Ny33.out] at ho
  revert HO4_0 HO4_1 HO4_3 BK1 BK2 BK3 BK5
  refine bC hkp HS ?_
  intro HO4_0 HO4_1 HO4_3 BK1 BK2 BK3 BK5
  replace HS:=aHs HS hkp.1
  have LQHO42:=A_.mk (Kd.eF ho).1.symm
  have HO42:=A_.mk (Kd.dw (ok':=(fun k_=>((w3_.heap.size≤k_∧k_<w4_.heap.size)∧f4_ k_=2)∨((w57d_.heap.size≤k_∧k_<w40_.heap.size)))) ho (fun k_ hk_=>by (try dsimp only at hk_);omega))
  replace HB:=A_.mk hbb
  clear hkp hbb ho HO4_2 HO40_0
  refine fA (by kernel_rfl) ?_
  have Q3:=aa BK3.out
  have Q5:=aa BK5.out
  go_wp2_with (first|((with_reducible refine ae (t:=39) (p:=4) rfl ?_);obtain⟨qf0,qf1,qf2,qf3,qf4,qf5,qf6⟩:=gM BK3;refine so_ (w1:=(iR w42_ gb3_ (.int .i64 t1) (.slice Ao4_0 t2.length co4_0) (.int .i64 t3) (.int .i64 t4) (.slice Ao4_1 t5.length co4_1) (.slice (some ⟨gHO4_2_,0,none⟩) t6.length co4_2) (.slice Ao4_3 t7.length co4_3))) ?_;intro w43_ hw;clear qf0 qf1 qf2 qf3 qf4 qf5 qf6;obtain⟨hbx,hkp,hbb⟩:=iV hw BK3 HB (ho_ HS);clear hw;revert HO4_0 HO4_1 HO4_3 HO42;refine bC hkp HS ?_;intro HO4_0 HO4_1 HO4_3 HO42;replace BK3:=A_.mk hbx;replace HB:=A_.mk hbb;replace HS:=aHs HS hkp.1;clear hkp hbb hbx Q3 Q5))
  refine bodyPost_ret (aM rfl _ _ gb3_ 39 _ (0,0) _ rfl BK3.out Tryz.underlying39 rfl (by kernel_rfl)) rfl ?_
  exact⟨_,_,_,_,rfl,Kd.aW (Kd.S_V HO4_0.out) (hk_ HS),Kd.aW (Kd.S_V HO4_1.out) (hk_ HS),Kd.aW (Kd.S_V HO42.out) (hk_ HS),Kd.aW (Kd.R_V HO4_3.out) (hk_ HS),HB.out⟩
 rw [if_neg hc12_] at H
 have hc12_b:=iE hc12_
 by_cases hc16_:a1_0=5
 case pos =>
  rw [if_pos hc16_] at H
  replace hc16_:=iF hc16_
  by_cases hc17_:(l0_6.length:Int)=0
  case pos =>
   rw [if_pos hc17_] at H
   have hc17_b1:(l0_6.length==0)=true:=by first|simpa using hc17_|(simp at hc17_ ⊢;omega)
   replace hc17_:=iF hc17_
   replace H:=il H
   obtain⟨rfl,rfl,rfl,rfl,rfl,rfl,rfl,rfl⟩:=H
   go_wp2_with (first|((with_reducible refine ae (t:=39) (p:=4) rfl ?_);obtain⟨qf0,qf1,qf2,qf3,qf4,qf5,qf6⟩:=gM BK3;refine so_ (w1:=(iR w7_ gb3_ (.int .i64 t1) (.slice Ao4_0 t2.length co4_0) (.int .i64 t3) (.int .i64 t4) (.slice Ao4_1 t5.length co4_1) (.slice Ao4_2 t6.length co4_2) (.slice Ao4_3 t7.length co4_3))) ?_;intro w44_ hw;clear qf0 qf1 qf2 qf3 qf4 qf5 qf6;obtain⟨hbx,hkp,hbb⟩:=iV hw BK3 HB (ho_ HS);clear hw;replace HO4_0:=aSk HO4_0 hkp HS;replace HO4_1:=aSk HO4_1 hkp HS;replace HO4_2:=aSk HO4_2 hkp HS;replace HO4_3:=aRk HO4_3 hkp HS;replace BK3:=A_.mk hbx;replace HB:=A_.mk hbb;replace HS:=aHs HS hkp.1;clear hkp hbb hbx Q1 Q2 Q3 Q5))
   refine bodyPost_ret (aM rfl _ _ gb3_ 39 _ (0,0) _ rfl BK3.out Tryz.underlying39 rfl (by kernel_rfl)) rfl ?_
   exact⟨_,_,_,_,rfl,Kd.aW (Kd.S_V HO4_0.out) (hk_ HS),Kd.aW (Kd.S_V HO4_1.out) (hk_ HS),Kd.aW (Kd.S_V HO4_2.out) (hk_ HS),Kd.aW (Kd.R_V HO4_3.out) (hk_ HS),HB.out⟩
  rw [if_neg hc17_] at H
  have hc17_b:=iE hc17_
  have hc17_b1:(l0_6.length==0)=false:=by first|simpa using hc17_|(simp at hc17_ ⊢;omega)
  replace H:=oa_ H
  obtain⟨⟨t34,t35,t36,t37,t38,t39,t40⟩,A45,H⟩:=H
  try dsimp only at H
  replace H:=il H
  obtain⟨rfl,rfl,rfl,rfl,rfl,rfl,rfl,rfl⟩:=H
  go_wp2_with (first|((with_reducible refine gc_ (f:=34) rfl ?_);obtain⟨fp45_,hfp_⟩:=mS_ HO4_0 0 (mS_ HO4_1 1 (mS_ HO4_2 2 (mR_ HO4_3 3 (m0_ 4))));have hfb3_:fp45_ gb3_=4:=fb_ HS hfp_;refine gl_ (some 156) Tryz.func34 #[.agg #[.int .i64 t1,.slice Ao4_0 t2.length co4_0,.int .i64 t3,.int .i64 t4,.slice Ao4_1 t5.length co4_1,.slice Ao4_2 t6.length co4_2,.slice Ao4_3 t7.length co4_3]] ?_;(with_reducible refine (gF.calls k fp45_ t1 _ _ t2 t3 t4 _ _ t5 _ _ t6 _ _ t7 t34 t35 t36 t37 t38 t39 t40 w _ HB.out (cS_ HO4_0 HS hfp_) (cS_ HO4_1 HS hfp_) (cS_ HO4_2 HS hfp_) (cR_ HO4_3 HS hfp_) A45.out).mono ?_);rintro e w45_ ⟨f45_,v0_,v1_,v2_,v3_,rfl,ho0_,ho1_,ho2_,ho3_,hfk_,hbb,hkp⟩;refine⟨_,rfl,?_⟩;have hge3_:4≤f45_ gb3_:=(by have h1_:=hfk_ gb3_ (aI BK3.out);have:=hfb3_;have:=HS.out;omega);replace BK3:=A_.mk ((hkp.2 _ (aI BK3.out) (fun _=>by have:=hfb3_;have:=HS.out;omega)).trans BK3.out);replace HB:=A_.mk hbb;replace HS:=aHs HS hkp.1;replace HS:=aHs HS hge3_;obtain⟨Ao45_0,co45_0,rfl,HO45_0⟩:=sV_ ho0_;obtain⟨Ao45_1,co45_1,rfl,HO45_1⟩:=sV_ ho1_;obtain⟨Ao45_2,co45_2,rfl,HO45_2⟩:=sV_ ho2_;obtain⟨Ao45_3,co45_3,rfl,HO45_3⟩:=sV_ ho3_;clear hkp hbb hfp_ hfk_ ho0_ ho1_ ho2_ ho3_ hfb3_ hge3_ Q1 Q2 Q3 Q5;have Q3:=aa BK3.out)|((with_reducible refine ae (t:=39) (p:=4) rfl ?_);obtain⟨qf0,qf1,qf2,qf3,qf4,qf5,qf6⟩:=gM BK3;refine so_ (w1:=(iR w45_ gb3_ (.int .i64 t34) (.slice Ao45_0 t35.length co45_0) (.int .i64 t36) (.int .i64 t37) (.slice Ao45_1 t38.length co45_1) (.slice Ao45_2 t39.length co45_2) (.slice Ao45_3 t40.length co45_3))) ?_;intro w46_ hw;clear qf0 qf1 qf2 qf3 qf4 qf5 qf6;obtain⟨hbx,hkp,hbb⟩:=iV hw BK3 HB (ho_ HS);clear hw;revert HO45_0 HO45_1 HO45_2 HO45_3;refine bC hkp HS ?_;intro HO45_0 HO45_1 HO45_2 HO45_3;replace BK3:=A_.mk hbx;replace HB:=A_.mk hbb;replace HS:=aHs HS hkp.1;clear hkp hbb hbx Q3))
  refine bodyPost_ret (aM rfl _ _ gb3_ 39 _ (0,0) _ rfl BK3.out Tryz.underlying39 rfl (by kernel_rfl)) rfl ?_
  exact⟨_,_,_,_,rfl,Kd.aW (HO45_0.out) (hk_ HS),Kd.aW (HO45_1.out) (hk_ HS),Kd.aW (HO45_2.out) (hk_ HS),Kd.aW (HO45_3.out) (hk_ HS),HB.out⟩
 rw [if_neg hc16_] at H
 have hc16_b:=iE hc16_
 by_cases hc18_:a1_0=6
 case pos =>
  rw [if_pos hc18_] at H
  replace hc18_:=iF hc18_
  replace H:=oa_ H
  obtain⟨⟨t41,t42,t43⟩,A47,H⟩:=H
  try dsimp only at H
  replace H:=il H
  obtain⟨rfl,rfl,rfl,rfl,rfl,rfl,rfl,rfl⟩:=H
  go_wp2_with (first|((with_reducible refine gc_ (f:=35) rfl ?_);refine gl_ (some 161) Tryz.func35 #[.agg #[.int .i64 t1,.slice Ao4_0 t2.length co4_0,.int .i64 t3]] ?_;(with_reducible refine (gY.calls k t1 _ _ t2 t3 t41 t42 t43 _ (dV HO4_0) (dS HO4_0) A47.out).mono ?_);rintro e w47_ ⟨v0_,rfl,ho0_,hb⟩;refine⟨_,rfl,?_⟩;replace HS:=aHs HS hb.size;obtain⟨Ao47_0,co47_0,rfl,HO47_0⟩:=sVm ho0_ HB.out.size;replace HO4_0:=aSb HO4_0 hb;replace HO4_1:=aSb HO4_1 hb;replace HO4_2:=aSb HO4_2 hb;replace HO4_3:=aRb HO4_3 hb;replace BK3:=aBb BK3 hb;replace BK5:=aBb BK5 hb;replace HB:=aHB HB hb;clear hb ho0_ Q1 Q2 Q3 Q5;have Q5:=aa BK5.out)|((with_reducible refine ae (t:=36) (p:=162) rfl ?_);obtain⟨qf0,qf1,qf2⟩:=eT BK5;refine so_ (w1:=(((w47_.setCell ⟨gb5_,0,none⟩ (.int .i64 t41)).setCell ⟨gb5_,1,none⟩ (.slice Ao47_0 t42.length co47_0)).setCell ⟨gb5_,2,none⟩ (.int .i64 t43))) ?_;intro w48_ hw;clear qf0 qf1 qf2;obtain⟨hbx,hkp,hbb⟩:=jd hw BK5 HB (ho_ HS);clear hw;revert HO47_0 HO4_1 HO4_2 HO4_3 BK3;refine bC hkp HS ?_;intro HO47_0 HO4_1 HO4_2 HO4_3 BK3;replace BK5:=A_.mk hbx;replace HB:=A_.mk hbb;replace HS:=aHs HS hkp.1;clear hkp hbb hbx Q5;have Q3:=aa BK3.out;have Q5:=aa BK5.out)|((with_reducible refine ae (t:=39) (p:=4) rfl ?_);obtain⟨qf0,qf1,qf2,qf3,qf4,qf5,qf6⟩:=gM BK3;refine so_ (w1:=(iR w48_ gb3_ (.int .i64 t41) (.slice Ao47_0 t42.length co47_0) (.int .i64 t43) (.int .i64 t4) (.slice Ao4_1 t5.length co4_1) (.slice Ao4_2 t6.length co4_2) (.slice Ao4_3 t7.length co4_3))) ?_;intro w49_ hw;clear qf0 qf1 qf2 qf3 qf4 qf5 qf6;obtain⟨hbx,hkp,hbb⟩:=iV hw BK3 HB (ho_ HS);clear hw;revert HO47_0 HO4_1 HO4_2 HO4_3;refine bC hkp HS ?_;intro HO47_0 HO4_1 HO4_2 HO4_3;replace BK3:=A_.mk hbx;replace HB:=A_.mk hbb;replace HS:=aHs HS hkp.1;clear hkp hbb hbx Q3 Q5))
  refine bodyPost_ret (aM rfl _ _ gb3_ 39 _ (0,0) _ rfl BK3.out Tryz.underlying39 rfl (by kernel_rfl)) rfl ?_
  exact⟨_,_,_,_,rfl,Kd.aW (HO47_0.out) (hk_ HS),Kd.aW (Kd.S_V HO4_1.out) (hk_ HS),Kd.aW (Kd.S_V HO4_2.out) (hk_ HS),Kd.aW (Kd.R_V HO4_3.out) (hk_ HS),HB.out⟩
 rw [if_neg hc18_] at H
 have hc18_b:=iE hc18_
 replace H:=il H
 obtain⟨rfl,rfl,rfl,rfl,rfl,rfl,rfl,rfl⟩:=H
 go_wp2_with (first|((with_reducible refine ae (t:=39) (p:=4) rfl ?_);obtain⟨qf0,qf1,qf2,qf3,qf4,qf5,qf6⟩:=gM BK3;refine so_ (w1:=(iR w7_ gb3_ (.int .i64 t1) (.slice Ao4_0 t2.length co4_0) (.int .i64 t3) (.int .i64 t4) (.slice Ao4_1 t5.length co4_1) (.slice Ao4_2 t6.length co4_2) (.slice Ao4_3 t7.length co4_3))) ?_;intro w50_ hw;clear qf0 qf1 qf2 qf3 qf4 qf5 qf6;obtain⟨hbx,hkp,hbb⟩:=iV hw BK3 HB (ho_ HS);clear hw;replace HO4_0:=aSk HO4_0 hkp HS;replace HO4_1:=aSk HO4_1 hkp HS;replace HO4_2:=aSk HO4_2 hkp HS;replace HO4_3:=aRk HO4_3 hkp HS;replace BK3:=A_.mk hbx;replace HB:=A_.mk hbb;replace HS:=aHs HS hkp.1;clear hkp hbb hbx Q1 Q2 Q3 Q5))
 refine bodyPost_ret (aM rfl _ _ gb3_ 39 _ (0,0) _ rfl BK3.out Tryz.underlying39 rfl (by kernel_rfl)) rfl ?_
 exact⟨_,_,_,_,rfl,Kd.aW (Kd.S_V HO4_0.out) (hk_ HS),Kd.aW (Kd.S_V HO4_1.out) (hk_ HS),Kd.aW (Kd.S_V HO4_2.out) (hk_ HS),Kd.aW (Kd.R_V HO4_3.out) (hk_ HS),HB.out⟩
def bZ.l0:Nat→List Int→List Int→Int→Option (List Int)
 | 0,_,_,_=>none
 | k+1,x0,x3,x4=>if x4<(x0.length:Int) then (if 0≤x4 then (if x4<(x3.length:Int) then (bZ.l0 k x0 (x3.set (x4:Int).toNat (rd x0 x4)) (wrap64 (x4+1))) else (none)) else (none)) else (some x3)
def bZ.f(k:Nat)(l0:List Int):Option (List Int):=if 0≤(l0.length:Int) then (if ((l0.length:Int):Int).toNat≤35184372088832 then (bZ.l0 k l0 (List.replicate ((l0.length:Int):Int).toNat 0) 0) else (none)) else (none)
theorem bZ.calls(k:Nat)(A0:Option Addr)(c0:Nat)(l0:List Int)(r:List Int)(w:World)(hr0:Kd.C (Kd.int .i64) w A0 l0.length l0)(hc0:l0.length≤c0)(h:bZ.f k l0=some r) :
  Calls Tryz.prog 39 #[.slice A0 l0.length c0] w fun e w'=>∃ v0_:Value,e=.returned (v0_)∧Kd.R (Kd.int .i64) 3 w' w.heap.size (fun _=>True) v0_ r∧Below w.heap.size w w':=by
 have HR0:=A_.mk hr0
 have HC0:=A_.mk hc0
 clear hr0 hc0
 have HB:=A_.mk (Below.refl w.heap.size w)
 have H:(if 0≤(l0.length:Int) then (if ((l0.length:Int):Int).toNat≤35184372088832 then (bZ.l0 k l0 (List.replicate ((l0.length:Int):Int).toNat 0) 0) else (none)) else (none))=some r:=h
 clear h
 by_cases c2:0≤(l0.length:Int)
 rotate_left
 ·rw [if_neg c2] at H
  exact absurd H (by simp)
 rw [if_pos c2] at H
 have c2b0:=eq_true c2
 have c2b1:=decide_eq_true c2
 clear c2
 by_cases c3:((l0.length:Int):Int).toNat≤35184372088832
 rotate_left
 ·rw [if_neg c3] at H
  exact absurd H (by simp)
 rw [if_pos c3] at H
 have c3b0:=eq_true c3
 have c3b1:=decide_eq_true c3
 clear c3
 obtain⟨y265,hy265⟩:∃ y_:List Int,y_=(List.replicate ((l0.length:Int):Int).toNat 0):=⟨_,rfl⟩
 replace H:(bZ.l0 k l0 y265 0)=some r:=by first|(rw [hy265];with_reducible exact H)|(have H2_:=(Option.bind_some _ _).symm.trans H;rw [hy265];with_reducible exact H2_)|(have H2_:=(Option.bind_some _ _).symm.trans H;with_reducible exact H2_)|with_reducible exact H|(rw [hy265];exact H)|exact H
 have Ny265:=A_.mk hy265
 clear hy265
 have H':=A_.mk H
 clear H
 go_enter Tryz.func39,Tryz.ntmps39
 go_wp2_with (first|((with_reducible refine gd_ (N:=7) rfl ?_);refine Kd.vY (Kd.int .i64) _ 3 rfl (N:=7) rfl 28 _ _ rfl (l0.length:Int) rfl rfl Tryz.underlying28 (.int .i64 0) 8 info3 rfl (by decide) (by omega) 0 (ok:=fun _=>True) (okp:=fun _=>True) rfl (fun _ hk=>hk) trivial (od_) (Nat.le_trans (Nat.mul_le_mul_right _ (od_:(l0.length:Int).toNat≤35184372088832)) (by omega)) (Below.refl _ _) (Nat.le_refl _) ?_;intro v266 w4 ho5 hb hg_ hnew_;clear hg_ hnew_;(first|rw [←Ny265.out] at ho5|(simp only [Int.reduceToNat] at ho5;rw [←Ny265.out] at ho5));have n0_:=A_.mk (Kd.bR ho5 (bz_ (beY HB.out)));have n1_:=A_.mk (bt_ (beY HB.out) hb);clear HB;have HO267:=n0_;have HB:=n1_;clear n0_ n1_ hb ho5))
 go_loopg [4] k (fun kq v4 w'=>∃ (x3_1:List Int) (x4_1:Int),v4=.int .i64 x4_1∧A_ (bZ.l0 kq l0 x3_1 x4_1=some r)∧A_ (kq≤k)∧A_ (Kd.R (Kd.int .i64) 3 w' w.heap.size (fun _=>True) v266 x3_1)∧A_ (Below w.heap.size w w'))
 case atStart=>exact ⟨(y265),(0),rs_,H',⟨Nat.le_refl _⟩,⟨by (repeat apply rX);exact HO267.out⟩,⟨beY HB.out⟩⟩
 case round =>
  clear H'
  obtain⟨x3_1,x4_1,rfl,HA,HK1,HO_3,HB⟩:=hrel
  cases gk with
  | zero=>exact absurd HA.out (by simp [bZ.l0])
  | succ k1 =>
   have H:=HA.out
   clear HA
   simp only [bZ.l0] at H
   by_cases c6:x4_1<(l0.length:Int)
   rotate_left
   ·rw [if_neg c6] at H
    have c6b0:=decide_eq_false c6
    clear c6
    obtain rfl:=Option.some.inj H
    go_wp2
    go_ret
    exact⟨_,re_,by (repeat apply rX);exact HO_3.out,beY HB.out⟩
   rw [if_pos c6] at H
   have c6b0:=decide_eq_true c6
   clear c6
   by_cases c7:0≤x4_1
   rotate_left
   ·rw [if_neg c7] at H
    exact absurd H (by simp)
   rw [if_pos c7] at H
   have c7b0:=decide_eq_true c7
   clear c7
   by_cases c8:x4_1<(x3_1.length:Int)
   rotate_left
   ·rw [if_neg c8] at H
    exact absurd H (by simp)
   rw [if_pos c8] at H
   have c8b0:=decide_eq_true c8
   clear c8
   obtain⟨y269,hy269⟩:∃ y_:List Int,y_=(x3_1.set (x4_1:Int).toNat (rd l0 x4_1)):=⟨_,rfl⟩
   replace H:(bZ.l0 k1 l0 y269 (wrap64 (x4_1+1)))=some r:=by first|(rw [hy269];with_reducible exact H)|(have H2_:=(Option.bind_some _ _).symm.trans H;rw [hy269];with_reducible exact H2_)|(have H2_:=(Option.bind_some _ _).symm.trans H;with_reducible exact H2_)|with_reducible exact H|(rw [hy269];exact H)|exact H
   have Ny269:=A_.mk hy269
   clear hy269
   have H':=A_.mk H
   clear H
   have p268:0≤(x4_1:Int):=od_
   have q268:x4_1<(l0.length:Int):=od_
   obtain⟨ad268,e268,hx268_0⟩:=Kd.d9 HR0.out x4_1 p268 q268
   cases e268
   replace hx268_0:=(HB.out.cell (wl_ w _ hx268_0)).trans hx268_0
   replace p268:=eq_true p268
   replace q268:=eq_true q268
   have p9:0≤(x4_1:Int):=od_
   have q9:(x4_1:Int)<((x3_1.length:Int):Int):=od_
   obtain⟨go9,co9,eo9,gb9,gl9,cl9,HG9⟩:=Kd.nS HO_3.out (by omega)
   (first|cases eo9|(injection eo9 with ea_ en_ ec_;(first|subst ea_|(injection ea_ with ea_;subst ea_));subst ec_;clear en_))
   have GB9:=A_.mk gb9
   have GG9:=A_.mk HG9
   clear gb9 gl9 HG9
   obtain⟨hx9_0,hf9_0⟩:=Kd.ll 0 HO_3.out (x4_1:Int) p9 q9
   replace p9:=eq_true p9
   replace q9:=eq_true q9
   have HP10:=Kd.si HO_3.out (x4_1:Int) (rd l0 x4_1)
   go_wp2_with (first|((with_reducible refine ae (t:=3) (p:=20) rfl ?_);refine so_ (w1:=(wr.setCell ⟨go9,(x4_1:Int).toNat,none⟩ (.int .i64 (rd l0 x4_1)))) ?_;intro w11 hw;have hg:wr.grownBy w11 (some go9):=(by rw [hw];exact HP10.2);have hp_:Kd.R (Kd.int .i64) 3 w11 w.heap.size (fun _=>True) (.slice (some ⟨go9,0,none⟩) x3_1.length co9) y269:=(by rw [hw,Ny269.out];exact HP10.1);clear HP10;have n0_:=A_.mk (hp_);have n1_:=A_.mk ((by rw [hw];exact bs_ (HB.out) GB9.out:Below w.heap.size w w11));clear HO_3 HB;have HO_3:=n0_;have HB:=n1_;clear n0_ n1_ hg hw hp_))
   go_roundg k1
   case measure=>have:=HK1.out;omega
   case rel=>exact ⟨(y269),(wrap64 (x4_1+1)),rs_,H',⟨by have:=HK1.out;omega⟩,⟨by (repeat apply rX);exact HO_3.out⟩,⟨beY HB.out⟩⟩
def iJ.f(k:Nat)(a0_0:Int)(l0_1:List Int):Option (Int×List Int):=(bZ.f k l0_1).bind fun t273=>(some (a0_0,t273))
theorem iJ.calls(k:Nat)(a0_0:Int)(A0_1:Option Addr)(c0_1:Nat)(l0_1:List Int)(r1:Int)(r2:List Int)(w:World)(hr0_1:Kd.C (Kd.int .i64) w A0_1 l0_1.length l0_1)(hc0_1:l0_1.length≤c0_1)(h:iJ.f k a0_0 l0_1=some (r1,r2)) :
  Calls Tryz.prog 103 #[.agg #[.int .i64 a0_0,.slice A0_1 l0_1.length c0_1]] w fun e w'=>∃ v1_:Value,e=.returned (.agg #[.int .i64 r1,v1_])∧Kd.R (Kd.int .i64) 3 w' w.heap.size (fun _=>True) v1_ r2∧Below w.heap.size w w':=by
 have hu108:=Tryz.underlying108
 have hu68:=Tryz.underlying68
 have HR0_1:=A_.mk hr0_1
 have HC0_1:=A_.mk hc0_1
 clear hr0_1 hc0_1
 have HB:=A_.mk (Below.refl w.heap.size w)
 have H:((bZ.f k l0_1).bind fun t273=>(some (a0_0,t273)))=some (r1,r2):=h
 clear h
 replace H:=oa_ H
 obtain⟨t273,A2,H⟩:=H
 replace H:=lh H
 obtain⟨rfl,rfl⟩:=H
 go_enter Tryz.func103,Tryz.ntmps103
 go_wp2_with (first|((with_reducible refine gd_ (N:=1) rfl ?_);refine by_ 1 (cs:=#[.int .i64 a0_0,.slice A0_1 l0_1.length c0_1]) (t:=108) ?_;intro gb270 hg w3 hbox hb;have n0_:=A_.mk (bt_ (beY HB.out) hb);have n1_:=A_.mk (hbox);have n2_:=A_.mk ((by rw [hg];exact(bz_ (beY HB.out)):w.heap.size≤gb270));have n3_:=A_.mk ((by rw [hg];exact(bz_ (beY HB.out)):w.heap.size≤gb270));clear HB;have HB:=n0_;have BK270:=n1_;have GW270:=n2_;have GE270:=n3_;clear n0_ n1_ n2_ n3_ hb hbox hg)|((with_reducible refine gd_ (N:=2) rfl ?_);refine by_ 2 (cs:=#[.int .i64 0,.slice none 0 0]) (t:=68) ?_;intro gb271 hg w4 hbox hb;have n0_:=A_.mk (bb_ (bY BK270.out) hb);have n1_:=A_.mk (bt_ ((zA_ HB GE270)) hb);have n2_:=A_.mk (hbox);have n3_:=A_.mk ((by rw [hg];exact(bz_ ((zA_ HB GE270))):w.heap.size≤gb271));have n4_:=A_.mk ((by rw [hg];exact(bz_ ((zA_ HB GE270))):w.heap.size≤gb271));have n5_:=A_.mk ((by rw [hg];exact Nat.ne_of_lt (aI (bY BK270.out)):gb270≠gb271));have n6_:=A_.mk ((by rw [hg];exact Nat.ne_of_gt (aI (bY BK270.out)):gb271≠gb270));clear BK270 HB;have BK270:=n0_;have HB:=n1_;have BK271:=n2_;have GW271:=n3_;have GE271:=n4_;have NB270_271:=n5_;have NB271_270:=n6_;clear n0_ n1_ n2_ n3_ n4_ n5_ n6_ hb hbox hg)|((with_reducible refine gd_ (N:=3) rfl ?_);refine by_ 3 (cs:=#[.int .i64 0,.slice none 0 0]) (t:=68) ?_;intro gb272 hg w5 hbox hb;have n0_:=A_.mk (bb_ (bY BK270.out) hb);have n1_:=A_.mk (bb_ (bY BK271.out) hb);have n2_:=A_.mk (bt_ ((zB_ HB GE270 GE271)) hb);have n3_:=A_.mk (hbox);have n4_:=A_.mk ((by rw [hg];exact(bz_ ((zB_ HB GE270 GE271))):w.heap.size≤gb272));have n5_:=A_.mk ((by rw [hg];exact(bz_ ((zB_ HB GE270 GE271))):w.heap.size≤gb272));have n6_:=A_.mk ((by rw [hg];exact Nat.ne_of_lt (aI (bY BK270.out)):gb270≠gb272));have n7_:=A_.mk ((by rw [hg];exact Nat.ne_of_gt (aI (bY BK270.out)):gb272≠gb270));have n8_:=A_.mk ((by rw [hg];exact Nat.ne_of_lt (aI (bY BK271.out)):gb271≠gb272));have n9_:=A_.mk ((by rw [hg];exact Nat.ne_of_gt (aI (bY BK271.out)):gb272≠gb271));clear BK270 BK271 HB;have BK270:=n0_;have BK271:=n1_;have HB:=n2_;have BK272:=n3_;have GW272:=n4_;have GE272:=n5_;have NB270_272:=n6_;have NB272_270:=n7_;have NB271_272:=n8_;have NB272_271:=n9_;clear n0_ n1_ n2_ n3_ n4_ n5_ n6_ n7_ n8_ n9_ hb hbox hg;have hnb6:=NB270_271.out;have hnc6:=NB271_270.out;have hnb7:=NB270_272.out;have hnc7:=NB272_270.out;obtain⟨hcz8_0,hcz8_1⟩:=gq BK270;obtain⟨hfz8_0,hfz8_1⟩:=dO BK270;have hnb9:=NB272_271.out;have hnc9:=NB271_272.out;obtain⟨hcz10_0,hcz10_1⟩:=gq BK272;obtain⟨hfz10_0,hfz10_1⟩:=dO BK272)|((with_reducible refine gc_ (f:=39) rfl ?_);refine gl_ (some 9) Tryz.func39 #[.slice A0_1 l0_1.length c0_1] ?_;(with_reducible refine (bZ.calls k _ _ l0_1 t273 _ ?side1 ?side2 A2.out).mono ?_);(case side1=>exact Kd.cu HR0_1.out ((zC_ HB GE270 GE271 GE272)));(case side2=>exact HC0_1.out);rintro e w11 ⟨v274,rfl,ho0,hb⟩;refine⟨_,rfl,?_⟩;have n0_:=A_.mk (Kd.bR ho0 (bz_ ((zC_ HB GE270 GE271 GE272))));have n1_:=A_.mk (bb_ (g:=gb270) (o:=.cells #[.int .i64 a0_0,.slice A0_1 l0_1.length c0_1] 108 (0,0)) (by (repeat apply bX);refine bA ?_ NB270_272.out _;(repeat apply bX);exact BK270.out) hb);have n2_:=A_.mk (bb_ (g:=gb271) (o:=.cells #[.int .i64 0,.slice none 0 0] 68 (0,0)) (by (repeat apply bX);refine bA ?_ NB271_272.out _;(repeat apply bX);exact BK271.out) hb);have n3_:=A_.mk (bb_ (g:=gb272) (o:=.cells #[.int .i64 a0_0,.slice none 0 0] 68 (0,0)) (by (repeat apply bX);refine bp_ (cs:=#[.int .i64 0,.slice none 0 0]) ?_ 0 _ rfl;(repeat apply bX);exact BK272.out) hb);have n4_:=A_.mk (bt_ ((zC_ HB GE270 GE271 GE272)) hb);clear BK270 BK271 BK272 HB;have HO275:=n0_;have BK270:=n1_;have BK271:=n2_;have BK272:=n3_;have HB:=n4_;clear n0_ n1_ n2_ n3_ n4_;(try clear hb);(try clear hb2);(try clear hk);(try clear hi);(try clear ho0);obtain⟨Ao12,co12,eo12⟩:=Kd.aX HO275.out;subst eo12;obtain⟨hcz13_0,hcz13_1⟩:=gq BK272;obtain⟨hfz13_0,hfz13_1⟩:=dO BK272;obtain⟨hcz14_0,hcz14_1⟩:=gq BK271;obtain⟨hfz14_0,hfz14_1⟩:=dO BK271))
 refine bodyPost_ret (results_cell_row rfl _ _ gb271 68 #[.int .i64 a0_0,.slice Ao12 t273.length co12] (0,0) _ rfl (by (repeat apply bX);refine bp_ (cs:=#[.int .i64 a0_0,.slice none 0 0]) ?_ 1 _ rfl;(repeat apply bX);refine bp_ (cs:=#[.int .i64 0,.slice none 0 0]) ?_ 0 _ rfl;(repeat apply bX);refine bA ?_ NB271_272.out _;(repeat apply bX);exact BK271.out) Tryz.underlying68 rfl (by kernel_rfl)) rfl ?_
 exact⟨_,re_,by (repeat apply rX);exact Kd.aC (Kd.nO (p:=⟨gb271,1,none⟩) (Kd.nO (p:=⟨gb271,0,none⟩) (Kd.nO (p:=⟨gb272,1,none⟩) (Kd.mW (Kd.mW HO275.out BK272.out (by decide)) BK271.out (by decide)) (fun _ hk=>hk.1.2) (.slice Ao12 t273.length co12)) (fun _ hk=>hk.2) (.int .i64 a0_0)) (fun _ hk=>hk.2) (.slice Ao12 t273.length co12)) (fun _ hk=>trivial),(zC_ HB GE270 GE271 GE272)⟩
def bU.l0:Nat→List (S108)→List (S68)→Int→Option ((List (S68)))
 | 0,_,_,_=>none
 | k+1,x0,x3,x4=>if x4<(x0.length:Int) then (if 0≤x4 then ((iJ.f k ((fV x0 x4).f0) ((fV x0 x4).f1)).bind fun bt280=>(if x4<(x3.length:Int) then (bU.l0 k x0 (x3.set (x4:Int).toNat (⟨bt280.1,bt280.2⟩:S68)) (wrap64 (x4+1))) else (none))) else (none)) else (some x3)
def bU.f(k:Nat)(l0:List (S108)):Option ((List (S68))):=if 0≤(l0.length:Int) then (if ((l0.length:Int):Int).toNat≤8796093022208 then (bU.l0 k l0 (List.replicate ((l0.length:Int):Int).toNat z68) 0) else (none)) else (none)
theorem bU.calls(k:Nat)(A0:Option Addr)(c0:Nat)(l0:List (S108))(r:List (S68))(w:World)(hr0:Kd.C k108 w A0 l0.length l0)(hc0:l0.length≤c0)(h:bU.f k l0=some r) :
  Calls Tryz.prog 72 #[.slice A0 l0.length c0] w fun e w'=>∃ v0_:Value,e=.returned (v0_)∧Kd.S k68 68 w' w.heap.size (fun _=>True) v0_ r∧Below w.heap.size w w':=by
 have hu108:=Tryz.underlying108
 have hu68:=Tryz.underlying68
 have HR0:=A_.mk hr0
 have HC0:=A_.mk hc0
 clear hr0 hc0
 have HB:=A_.mk (Below.refl w.heap.size w)
 have H:(if 0≤(l0.length:Int) then (if ((l0.length:Int):Int).toNat≤8796093022208 then (bU.l0 k l0 (List.replicate ((l0.length:Int):Int).toNat z68) 0) else (none)) else (none))=some r:=h
 clear h
 by_cases c2:0≤(l0.length:Int)
 rotate_left
 ·rw [if_neg c2] at H
  exact absurd H (by simp)
 rw [if_pos c2] at H
 have c2b0:=eq_true c2
 have c2b1:=decide_eq_true c2
 clear c2
 by_cases c3:((l0.length:Int):Int).toNat≤8796093022208
 rotate_left
 ·rw [if_neg c3] at H
  exact absurd H (by simp)
 rw [if_pos c3] at H
 have c3b0:=eq_true c3
 have c3b1:=decide_eq_true c3
 clear c3
 obtain⟨y276,hy276⟩:∃ y_:List (S68),y_=(List.replicate ((l0.length:Int):Int).toNat z68):=⟨_,rfl⟩
 replace H:(bU.l0 k l0 y276 0)=some r:=by first|(rw [hy276];with_reducible exact H)|(have H2_:=(Option.bind_some _ _).symm.trans H;rw [hy276];with_reducible exact H2_)|(have H2_:=(Option.bind_some _ _).symm.trans H;with_reducible exact H2_)|with_reducible exact H|(rw [hy276];exact H)|exact H
 have Ny276:=A_.mk hy276
 clear hy276
 have H':=A_.mk H
 clear H
 go_enter Tryz.func72,Tryz.ntmps72
 go_wp2_with (first|((with_reducible refine gd_ (N:=7) rfl ?_);refine Kd.vX k68 _ 68 rfl (N:=7) rfl 34 _ _ rfl (l0.length:Int) rfl rfl Tryz.underlying34 (.agg #[(.int .i64 0),(.slice none 0 0)]) 32 info68 rfl (by decide) (by omega) z68 (ok:=fun _=>True) (okp:=fun _=>True) (kJ _ _ _ z68 (Kd.jF _ _ _ _ _)) (fun _ hk=>hk) trivial (od_) (Nat.le_trans (Nat.mul_le_mul_right _ (od_:(l0.length:Int).toNat≤8796093022208)) (by omega)) (Below.refl _ _) (Nat.le_refl _) ?_;intro v277 w4 ho5 hb hg_ hnew_;clear hg_ hnew_;(first|rw [←Ny276.out] at ho5|(simp only [Int.reduceToNat] at ho5;rw [←Ny276.out] at ho5));have n0_:=A_.mk (Kd.j5 ho5 (bz_ (beY HB.out)));have n1_:=A_.mk (bt_ (beY HB.out) hb);clear HB;have HO278:=n0_;have HB:=n1_;clear n0_ n1_ hb ho5))
 go_loopg [4] k (fun kq v4 w'=>∃ (x3_1:List (S68)) (x4_1:Int),v4=.int .i64 x4_1∧A_ (bU.l0 kq l0 x3_1 x4_1=some r)∧A_ (kq≤k)∧A_ (Kd.S k68 68 w' w.heap.size (fun _=>True) v277 x3_1)∧A_ (Below w.heap.size w w'))
 case atStart=>exact ⟨(y276),(0),rs_,H',⟨Nat.le_refl _⟩,⟨by (with_reducible repeat (first|apply Kd.dI|apply Kd.dH|apply Kd.d_));exact HO278.out⟩,⟨beY HB.out⟩⟩
 case round =>
  clear H'
  obtain⟨x3_1,x4_1,rfl,HA,HK1,HO_3,HB⟩:=hrel
  cases gk with
  | zero=>exact absurd HA.out (by simp [bU.l0])
  | succ k1 =>
   have H:=HA.out
   clear HA
   simp only [bU.l0] at H
   by_cases c6:x4_1<(l0.length:Int)
   rotate_left
   ·rw [if_neg c6] at H
    have c6b0:=decide_eq_false c6
    clear c6
    obtain rfl:=Option.some.inj H
    go_wp2
    go_ret
    exact⟨_,re_,by (with_reducible repeat (first|apply Kd.dI|apply Kd.dH|apply Kd.d_));exact HO_3.out,beY HB.out⟩
   rw [if_pos c6] at H
   have c6b0:=decide_eq_true c6
   clear c6
   by_cases c7:0≤x4_1
   rotate_left
   ·rw [if_neg c7] at H
    exact absurd H (by simp)
   rw [if_pos c7] at H
   have c7b0:=decide_eq_true c7
   clear c7
   replace H:=ob_ H
   obtain⟨⟨t280,t281⟩,A80,H⟩:=H
   replace H:(if x4_1<(x3_1.length:Int) then (bU.l0 k1 l0 (x3_1.set (x4_1:Int).toNat (⟨t280,t281⟩:S68)) (wrap64 (x4_1+1))) else (none))=some r:=H
   have A8:=A_.mk A80
   clear A80
   by_cases c9:x4_1<(x3_1.length:Int)
   rotate_left
   ·rw [if_neg c9] at H
    exact absurd H (by simp)
   rw [if_pos c9] at H
   have c9b0:=decide_eq_true c9
   clear c9
   obtain⟨y284,hy284⟩:∃ y_:List (S68),y_=(x3_1.set (x4_1:Int).toNat (⟨t280,t281⟩:S68)):=⟨_,rfl⟩
   replace H:(bU.l0 k1 l0 y284 (wrap64 (x4_1+1)))=some r:=by first|(rw [hy284];with_reducible exact H)|(have H2_:=(Option.bind_some _ _).symm.trans H;rw [hy284];with_reducible exact H2_)|(have H2_:=(Option.bind_some _ _).symm.trans H;with_reducible exact H2_)|with_reducible exact H|(rw [hy284];exact H)|exact H
   have Ny284:=A_.mk hy284
   clear hy284
   have H':=A_.mk H
   clear H
   have p279:0≤(x4_1:Int):=od_
   have q279:x4_1<(l0.length:Int):=od_
   obtain⟨ad279,A279_1,c279_1,e279,hx279_0,hx279_1,hl279_1,hi279_1⟩:=qh HR0.out x4_1 p279 q279
   cases e279
   replace hx279_0:=(HB.out.cell (wl_ w _ hx279_0)).trans hx279_0
   replace hx279_1:=(HB.out.cell (wl_ w _ hx279_1)).trans hx279_1
   have HR279_1:=A_.mk hi279_1
   have HC279_1:=A_.mk hl279_1
   clear hi279_1 hl279_1
   replace p279:=eq_true p279
   replace q279:=eq_true q279
   go_wp2_with (first|((with_reducible refine gc_ (f:=103) rfl ?_);refine gl_ (some 20) Tryz.func103 #[.agg #[.int .i64 ((fV l0 x4_1).f0),.slice A279_1 ((fV l0 x4_1).f1).length c279_1]] ?_;(with_reducible refine (iJ.calls k1 ((fV l0 x4_1).f0) _ _ ((fV l0 x4_1).f1) t280 t281 _ ?side1 ?side2 A8.out).mono ?_);(case side1=>exact cY ((cb_ HR279_1 HB)));(case side2=>exact HC279_1.out);rintro e w11 ⟨v282,rfl,ho0,hb⟩;refine⟨_,rfl,?_⟩;have n0_:=A_.mk (Kd.lH (by (with_reducible repeat (first|apply Kd.dI|apply Kd.dH|apply Kd.d_));exact HO_3.out) (Kd.jG ho0) hb);have n1_:=A_.mk (Kd.bR ho0 (bz_ (beY HB.out)));have n2_:=A_.mk (bt_ (beY HB.out) hb);clear HO_3 HB;have HO_3:=n0_;have HO283:=n1_;have HB:=n2_;clear n0_ n1_ n2_;(try clear hb);(try clear hb2);(try clear hk);(try clear hi);(try clear ho0);have p10:0≤(x4_1:Int):=od_;have q10:(x4_1:Int)<((x3_1.length:Int):Int):=od_;obtain⟨go10,co10,eo10,gb10,gl10,cl10,HG10⟩:=Kd.nQ HO_3.out (by omega);(first|cases eo10|(injection eo10 with ea_ en_ ec_;(first|subst ea_|(injection ea_ with ea_;subst ea_));subst ec_;clear en_));have GB10:=A_.mk gb10;have GG10:=A_.mk HG10;clear gb10 gl10 HG10;obtain⟨_,ce10,hcl10,hM10,hcc10,hfr10,_,_⟩:=Kd.nR HO_3.out z68 (x4_1:Int) p10 q10;obtain⟨ve10_1,rfl,ge10_1⟩:=lT hM10;have hx10_0:w11.cell? ⟨go10,(x4_1:Int).toNat*2,none⟩=some (.int .i64 ((ay x3_1 x4_1).f0)):=hcc10 0 _ rfl;have hx10_1:w11.cell? ⟨go10,(x4_1:Int).toNat*2+1,none⟩=some (ve10_1):=hcc10 1 _ rfl;have hf10_0:w11.frozen? ⟨go10,(x4_1:Int).toNat*2,none⟩=false:=hfr10 0;have hf10_1:w11.frozen? ⟨go10,(x4_1:Int).toNat*2+1,none⟩=false:=hfr10 1;clear hcl10 hcc10 hfr10;(try clear hM10);replace p10:=eq_true p10;replace q10:=eq_true q10;have n_:=A_.mk (Kd.dw (ok':=(fun k_=>some k_≠(v282:Value).ownBlock)) HO_3.out (fun k_ hk=>hk.2));clear HO_3;have HO_3:=n_;clear n_;have HX12:=A_.mk (show Kd.S k68 68 w11 w.heap.size (fun k_=>((fun _=>True)) k_∧¬ ((fun k_=>some k_=(v282:Value).ownBlock)) k_) (.slice (some ⟨go10,0,none⟩) x3_1.length co10) x3_1 from (by (with_reducible repeat (first|apply Kd.dI|apply Kd.dH|apply Kd.d_));exact Kd.dw HO_3.out (fun k_ hk=>⟨trivial,fun e_=>hk e_⟩)));obtain⟨oki12,ce12,hcl12,hM12,hcc12,hfr12,hoki12,hH12⟩:=Kd.nR HX12.out z68 (x4_1:Int) (od_) (by have h_:(x4_1:Int)<((x3_1.length:Int):Int):=od_;first|exact h_|(have e_:=(Kd.eF HO_3.out).1;omega)|simpa using h_);obtain⟨ve12_1,rfl,ge12_1⟩:=lT hM12;have HP12:=Kd.uS hH12 (od_) (by have h_:(x4_1:Int)<((x3_1.length:Int):Int):=od_;first|exact h_|(have e_:=(Kd.eF HO_3.out).1;omega)|simpa using h_) (seg:=[.int .i64 t280,v282]) (j:=0) (show 2≤2 from by decide) (x':=(⟨t280,t281⟩:S68)) (kJ _ _ _ (⟨t280,t281⟩:S68) (Kd.aC (Kd.jQ rfl (Kd.aC (ok':=fun k_=>((fun _=>True)) k_∧k_≠go10) (Kd.ji (HO283.out) (Kd.jO HO_3.out) (by decide)) (fun k_ hk=>⟨trivial,fun e_=>(hk.2) (by rw [e_];rfl)⟩))) (fun _ h_=>Or.inr (h_)))) (fun _ hk=>hk) (fun k_ hk_=>((Kd.aC (ok':=fun k_=>((fun _=>True)) k_∧k_≠go10) (Kd.ji (HO283.out) (Kd.jO HO_3.out) (by decide)) (fun k_ hk=>⟨trivial,fun e_=>(hk.2) (by rw [e_];rfl)⟩))).1 k_ hk_.symm);have hx12_0:=hcc12 0 _ rfl;(try simp only [show (k68).sz=2 from rfl,Nat.mul_one,Nat.add_zero] at hx12_0);have hf12_0:=hfr12 0;(try simp only [show (k68).sz=2 from rfl,Nat.mul_one,Nat.add_zero] at hf12_0);have hx12_1:=hcc12 1 _ rfl;(try simp only [show (k68).sz=2 from rfl,Nat.mul_one,Nat.add_zero] at hx12_1);have hf12_1:=hfr12 1;(try simp only [show (k68).sz=2 from rfl,Nat.mul_one,Nat.add_zero] at hf12_1);clear hcl12 hcc12 hfr12;(try clear hM12);(try clear hoki12);(try clear hH12))|((with_reducible refine ae (t:=68) (p:=21) rfl ?_);refine se_ (t:=68) (p:=21) (v:=?vo_w13) (w1:=((w11.setCell ⟨go10,(x4_1:Int).toNat*2,none⟩ (.int .i64 t280)).setCell ⟨go10,(x4_1:Int).toNat*2+1,none⟩ (v282))) ?hg ?ho ?hn ?hr ?_;(case ho=>rfl);(case hg=>rfl);(case hn=>rfl);(case hr=>first|(go_simp;done)|(go_simp;rfl)|((obtain⟨_,_,es_⟩:=Kd.aX HO283.out;subst es_);first|(go_simp;done)|(go_simp;rfl)));intro w13 hw;have hg:w11.grownBy w13 (some go10):=(by rw [hw];exact HP12.2);have hp_:Kd.S k68 68 w13 w.heap.size (fun _=>True) (.slice (some ⟨go10,0,none⟩) x3_1.length co10) y284:=(by rw [hw,Ny284.out];exact HP12.1);clear HP12;have n0_:=A_.mk (hp_);have n1_:=A_.mk ((by rw [hw];exact bs_ (bs_ (HB.out) GB10.out) GB10.out:Below w.heap.size w w13));clear HO_3 HB HO283;have HO_3:=n0_;have HB:=n1_;clear n0_ n1_ hg hw hp_))
   go_roundg k1
   case measure=>have:=HK1.out;omega
   case rel=>exact ⟨(y284),(wrap64 (x4_1+1)),rs_,H',⟨by have:=HK1.out;omega⟩,⟨by (with_reducible repeat (first|apply Kd.dI|apply Kd.dH|apply Kd.d_));exact HO_3.out⟩,⟨beY HB.out⟩⟩
def iQ.f(k:Nat)(a0_0:Int)(l0_1:List (S108))(a0_2:Int):Option (Int×(List (S68))×Int):=(bU.f k l0_1).bind fun t288=>(some (a0_0,t288,a0_2))
theorem iQ.calls(k:Nat)(a0_0:Int)(A0_1:Option Addr)(c0_1:Nat)(l0_1:List (S108))(a0_2:Int)(r1:Int)(r2:List (S68))(r3:Int)(w:World)(hr0_1:Kd.C k108 w A0_1 l0_1.length l0_1)(hc0_1:l0_1.length≤c0_1)(h:iQ.f k a0_0 l0_1 a0_2=some (r1,r2,r3)) :
  Calls Tryz.prog 36 #[.agg #[.int .i64 a0_0,.slice A0_1 l0_1.length c0_1,.int .i64 a0_2]] w fun e w'=>∃ v1_:Value,e=.returned (.agg #[.int .i64 r1,v1_,.int .i64 r3])∧Kd.S k68 68 w' w.heap.size (fun _=>True) v1_ r2∧Below w.heap.size w w':=by
 have hu24:=Tryz.underlying24
 have hu36:=Tryz.underlying36
 have HR0_1:=A_.mk hr0_1
 have HC0_1:=A_.mk hc0_1
 clear hr0_1 hc0_1
 have HB:=A_.mk (Below.refl w.heap.size w)
 have H:((bU.f k l0_1).bind fun t288=>(some (a0_0,t288,a0_2)))=some (r1,r2,r3):=h
 clear h
 replace H:=oa_ H
 obtain⟨t288,A2,H⟩:=H
 replace H:=jE H
 obtain⟨rfl,rfl,rfl⟩:=H
 go_enter Tryz.func36,Tryz.ntmps36
 go_wp2_with (first|((with_reducible refine gd_ (N:=1) rfl ?_);refine by_ 1 (cs:=#[.int .i64 a0_0,.slice A0_1 l0_1.length c0_1,.int .i64 a0_2]) (t:=24) ?_;intro gb285 hg w3 hbox hb;have n0_:=A_.mk (bt_ (beY HB.out) hb);have n1_:=A_.mk (hbox);have n2_:=A_.mk ((by rw [hg];exact(bz_ (beY HB.out)):w.heap.size≤gb285));have n3_:=A_.mk ((by rw [hg];exact(bz_ (beY HB.out)):w.heap.size≤gb285));clear HB;have HB:=n0_;have BK285:=n1_;have GW285:=n2_;have GE285:=n3_;clear n0_ n1_ n2_ n3_ hb hbox hg)|((with_reducible refine gd_ (N:=2) rfl ?_);refine by_ 2 (cs:=#[.int .i64 0,.slice none 0 0,.int .i64 0]) (t:=36) ?_;intro gb286 hg w4 hbox hb;have n0_:=A_.mk (bb_ (bY BK285.out) hb);have n1_:=A_.mk (bt_ ((zA_ HB GE285)) hb);have n2_:=A_.mk (hbox);have n3_:=A_.mk ((by rw [hg];exact(bz_ ((zA_ HB GE285))):w.heap.size≤gb286));have n4_:=A_.mk ((by rw [hg];exact(bz_ ((zA_ HB GE285))):w.heap.size≤gb286));have n5_:=A_.mk ((by rw [hg];exact Nat.ne_of_lt (aI (bY BK285.out)):gb285≠gb286));have n6_:=A_.mk ((by rw [hg];exact Nat.ne_of_gt (aI (bY BK285.out)):gb286≠gb285));clear BK285 HB;have BK285:=n0_;have HB:=n1_;have BK286:=n2_;have GW286:=n3_;have GE286:=n4_;have NB285_286:=n5_;have NB286_285:=n6_;clear n0_ n1_ n2_ n3_ n4_ n5_ n6_ hb hbox hg)|((with_reducible refine gd_ (N:=3) rfl ?_);refine by_ 3 (cs:=#[.int .i64 0,.slice none 0 0,.int .i64 0]) (t:=36) ?_;intro gb287 hg w5 hbox hb;have n0_:=A_.mk (bb_ (bY BK285.out) hb);have n1_:=A_.mk (bb_ (bY BK286.out) hb);have n2_:=A_.mk (bt_ ((zB_ HB GE285 GE286)) hb);have n3_:=A_.mk (hbox);have n4_:=A_.mk ((by rw [hg];exact(bz_ ((zB_ HB GE285 GE286))):w.heap.size≤gb287));have n5_:=A_.mk ((by rw [hg];exact(bz_ ((zB_ HB GE285 GE286))):w.heap.size≤gb287));have n6_:=A_.mk ((by rw [hg];exact Nat.ne_of_lt (aI (bY BK285.out)):gb285≠gb287));have n7_:=A_.mk ((by rw [hg];exact Nat.ne_of_gt (aI (bY BK285.out)):gb287≠gb285));have n8_:=A_.mk ((by rw [hg];exact Nat.ne_of_lt (aI (bY BK286.out)):gb286≠gb287));have n9_:=A_.mk ((by rw [hg];exact Nat.ne_of_gt (aI (bY BK286.out)):gb287≠gb286));clear BK285 BK286 HB;have BK285:=n0_;have BK286:=n1_;have HB:=n2_;have BK287:=n3_;have GW287:=n4_;have GE287:=n5_;have NB285_287:=n6_;have NB287_285:=n7_;have NB286_287:=n8_;have NB287_286:=n9_;clear n0_ n1_ n2_ n3_ n4_ n5_ n6_ n7_ n8_ n9_ hb hbox hg;have hnb6:=NB285_286.out;have hnc6:=NB286_285.out;have hnb7:=NB285_287.out;have hnc7:=NB287_285.out;obtain⟨hcz8_0,hcz8_1,hcz8_2⟩:=lv BK285;obtain⟨hfz8_0,hfz8_1,hfz8_2⟩:=eT BK285;have hnb9:=NB287_286.out;have hnc9:=NB286_287.out;obtain⟨hcz10_0,hcz10_1,hcz10_2⟩:=lv BK287;obtain⟨hfz10_0,hfz10_1,hfz10_2⟩:=eT BK287)|((with_reducible refine gc_ (f:=72) rfl ?_);refine gl_ (some 9) Tryz.func72 #[.slice A0_1 l0_1.length c0_1] ?_;(with_reducible refine (bU.calls k _ _ l0_1 t288 _ ?side1 ?side2 A2.out).mono ?_);(case side1=>exact Kd.cu HR0_1.out ((zC_ HB GE285 GE286 GE287)));(case side2=>exact HC0_1.out);rintro e w11 ⟨v289,rfl,ho0,hb⟩;refine⟨_,rfl,?_⟩;have n0_:=A_.mk (Kd.j5 ho0 (bz_ ((zC_ HB GE285 GE286 GE287))));have n1_:=A_.mk (bb_ (g:=gb285) (o:=.cells #[.int .i64 a0_0,.slice A0_1 l0_1.length c0_1,.int .i64 a0_2] 24 (0,0)) (by (repeat apply bX);refine bA ?_ NB285_287.out _;(repeat apply bX);exact BK285.out) hb);have n2_:=A_.mk (bb_ (g:=gb286) (o:=.cells #[.int .i64 0,.slice none 0 0,.int .i64 0] 36 (0,0)) (by (repeat apply bX);refine bA ?_ NB286_287.out _;(repeat apply bX);exact BK286.out) hb);have n3_:=A_.mk (bb_ (g:=gb287) (o:=.cells #[.int .i64 a0_0,.slice none 0 0,.int .i64 0] 36 (0,0)) (by (repeat apply bX);refine bp_ (cs:=#[.int .i64 0,.slice none 0 0,.int .i64 0]) ?_ 0 _ rfl;(repeat apply bX);exact BK287.out) hb);have n4_:=A_.mk (bt_ ((zC_ HB GE285 GE286 GE287)) hb);clear BK285 BK286 BK287 HB;have HO290:=n0_;have BK285:=n1_;have BK286:=n2_;have BK287:=n3_;have HB:=n4_;clear n0_ n1_ n2_ n3_ n4_;(try clear hb);(try clear hb2);(try clear hk);(try clear hi);(try clear ho0);obtain⟨Ao12,co12,eo12⟩:=Kd.dx HO290.out;subst eo12;obtain⟨hcz13_0,hcz13_1,hcz13_2⟩:=lv BK287;obtain⟨hfz13_0,hfz13_1,hfz13_2⟩:=eT BK287;obtain⟨hcz14_0,hcz14_1,hcz14_2⟩:=lv BK285;obtain⟨hfz14_0,hfz14_1,hfz14_2⟩:=eT BK285;obtain⟨hcz15_0,hcz15_1,hcz15_2⟩:=lv BK286;obtain⟨hfz15_0,hfz15_1,hfz15_2⟩:=eT BK286))
 refine bodyPost_ret (results_cell_row rfl _ _ gb286 36 #[.int .i64 a0_0,.slice Ao12 t288.length co12,.int .i64 a0_2] (0,0) _ rfl (by (repeat apply bX);refine bp_ (cs:=#[.int .i64 a0_0,.slice Ao12 t288.length co12,.int .i64 0]) ?_ 2 _ rfl;(repeat apply bX);refine bp_ (cs:=#[.int .i64 a0_0,.slice none 0 0,.int .i64 0]) ?_ 1 _ rfl;(repeat apply bX);refine bp_ (cs:=#[.int .i64 0,.slice none 0 0,.int .i64 0]) ?_ 0 _ rfl;(repeat apply bX);refine bA ?_ NB286_287.out _;(repeat apply bX);refine bA ?_ NB286_287.out _;(repeat apply bX);exact BK286.out) Tryz.underlying36 rfl (by kernel_rfl)) rfl ?_
 exact⟨_,re_,by (with_reducible repeat (first|apply Kd.dI|apply Kd.dH|apply Kd.d_));exact Kd.dw (Kd.iU (p:=⟨gb286,2,none⟩) (Kd.iU (p:=⟨gb286,1,none⟩) (Kd.iU (p:=⟨gb286,0,none⟩) (Kd.iU (p:=⟨gb287,2,none⟩) (Kd.iU (p:=⟨gb287,1,none⟩) (Kd.jC (Kd.jC HO290.out BK287.out (by decide)) BK286.out (by decide)) (fun _ hk=>hk.1.2) (.slice Ao12 t288.length co12)) (fun _ hk=>hk.1.2) (.int .i64 a0_2)) (fun _ hk=>hk.2) (.int .i64 a0_0)) (fun _ hk=>hk.2) (.slice Ao12 t288.length co12)) (fun _ hk=>hk.2) (.int .i64 a0_2)) (fun _ hk=>trivial),(zC_ HB GE285 GE286 GE287)⟩
def bW.l0:Nat→List (List Int)→List (List Int)→Int→Option ((List (List Int)))
 | 0,_,_,_=>none
 | k+1,x0,x3,x4=>if x4<(x0.length:Int) then (if 0≤x4 then ((bZ.f k (dD x0 x4)).bind fun t295=>(if x4<(x3.length:Int) then (bW.l0 k x0 (x3.set (x4:Int).toNat t295) (wrap64 (x4+1))) else (none))) else (none)) else (some x3)
def bW.f(k:Nat)(l0:List (List Int)):Option ((List (List Int))):=if 0≤(l0.length:Int) then (if ((l0.length:Int):Int).toNat≤11728124029610 then (bW.l0 k l0 (List.replicate ((l0.length:Int):Int).toNat []) 0) else (none)) else (none)
theorem bW.calls(k:Nat)(A0:Option Addr)(c0:Nat)(l0:List (List Int))(r:List (List Int))(w:World)(hr0:Kd.C (Kd.slice 3 (Kd.int .i64)) w A0 l0.length l0)(hc0:l0.length≤c0)(h:bW.f k l0=some r) :
  Calls Tryz.prog 38 #[.slice A0 l0.length c0] w fun e w'=>∃ v0_:Value,e=.returned (v0_)∧Kd.S (Kd.slice 3 (Kd.int .i64)) 28 w' w.heap.size (fun _=>True) v0_ r∧Below w.heap.size w w':=by
 have HR0:=A_.mk hr0
 have HC0:=A_.mk hc0
 clear hr0 hc0
 have HB:=A_.mk (Below.refl w.heap.size w)
 have H:(if 0≤(l0.length:Int) then (if ((l0.length:Int):Int).toNat≤11728124029610 then (bW.l0 k l0 (List.replicate ((l0.length:Int):Int).toNat []) 0) else (none)) else (none))=some r:=h
 clear h
 by_cases c2:0≤(l0.length:Int)
 rotate_left
 ·rw [if_neg c2] at H
  exact absurd H (by simp)
 rw [if_pos c2] at H
 have c2b0:=eq_true c2
 have c2b1:=decide_eq_true c2
 clear c2
 by_cases c3:((l0.length:Int):Int).toNat≤11728124029610
 rotate_left
 ·rw [if_neg c3] at H
  exact absurd H (by simp)
 rw [if_pos c3] at H
 have c3b0:=eq_true c3
 have c3b1:=decide_eq_true c3
 clear c3
 obtain⟨y291,hy291⟩:∃ y_:List (List Int),y_=(List.replicate ((l0.length:Int):Int).toNat []):=⟨_,rfl⟩
 replace H:(bW.l0 k l0 y291 0)=some r:=by first|(rw [hy291];with_reducible exact H)|(have H2_:=(Option.bind_some _ _).symm.trans H;rw [hy291];with_reducible exact H2_)|(have H2_:=(Option.bind_some _ _).symm.trans H;with_reducible exact H2_)|with_reducible exact H|(rw [hy291];exact H)|exact H
 have Ny291:=A_.mk hy291
 clear hy291
 have H':=A_.mk H
 clear H
 go_enter Tryz.func38,Tryz.ntmps38
 go_wp2_with (first|((with_reducible refine gd_ (N:=7) rfl ?_);refine Kd.vX (Kd.slice 3 (Kd.int .i64)) _ 28 rfl (N:=7) rfl 25 _ _ rfl (l0.length:Int) rfl rfl Tryz.underlying25 (.slice none 0 0) 24 info28 rfl (by decide) (by omega) [] (ok:=fun _=>True) (okp:=fun _=>True) ⟨_,rfl,Kd.jF _ _ _ _ _⟩ (fun _ hk=>hk) trivial (od_) (Nat.le_trans (Nat.mul_le_mul_right _ (od_:(l0.length:Int).toNat≤11728124029610)) (by omega)) (Below.refl _ _) (Nat.le_refl _) ?_;intro v292 w4 ho5 hb hg_ hnew_;clear hg_ hnew_;(first|rw [←Ny291.out] at ho5|(simp only [Int.reduceToNat] at ho5;rw [←Ny291.out] at ho5));have n0_:=A_.mk (Kd.j5 ho5 (bz_ (beY HB.out)));have n1_:=A_.mk (bt_ (beY HB.out) hb);clear HB;have HO293:=n0_;have HB:=n1_;clear n0_ n1_ hb ho5))
 go_loopg [4] k (fun kq v4 w'=>∃ (x3_1:List (List Int)) (x4_1:Int),v4=.int .i64 x4_1∧A_ (bW.l0 kq l0 x3_1 x4_1=some r)∧A_ (kq≤k)∧A_ (Kd.S (Kd.slice 3 (Kd.int .i64)) 28 w' w.heap.size (fun _=>True) v292 x3_1)∧A_ (Below w.heap.size w w'))
 case atStart=>exact ⟨(y291),(0),rs_,H',⟨Nat.le_refl _⟩,⟨by (with_reducible repeat (first|apply Kd.dI|apply Kd.dH|apply Kd.d_));exact HO293.out⟩,⟨beY HB.out⟩⟩
 case round =>
  clear H'
  obtain⟨x3_1,x4_1,rfl,HA,HK1,HO_3,HB⟩:=hrel
  cases gk with
  | zero=>exact absurd HA.out (by simp [bW.l0])
  | succ k1 =>
   have H:=HA.out
   clear HA
   simp only [bW.l0] at H
   by_cases c6:x4_1<(l0.length:Int)
   rotate_left
   ·rw [if_neg c6] at H
    have c6b0:=decide_eq_false c6
    clear c6
    obtain rfl:=Option.some.inj H
    go_wp2
    go_ret
    exact⟨_,re_,by (with_reducible repeat (first|apply Kd.dI|apply Kd.dH|apply Kd.d_));exact HO_3.out,beY HB.out⟩
   rw [if_pos c6] at H
   have c6b0:=decide_eq_true c6
   clear c6
   by_cases c7:0≤x4_1
   rotate_left
   ·rw [if_neg c7] at H
    exact absurd H (by simp)
   rw [if_pos c7] at H
   have c7b0:=decide_eq_true c7
   clear c7
   replace H:=oa_ H
   obtain⟨t295,A8,H⟩:=H
   by_cases c9:x4_1<(x3_1.length:Int)
   rotate_left
   ·rw [if_neg c9] at H
    exact absurd H (by simp)
   rw [if_pos c9] at H
   have c9b0:=decide_eq_true c9
   clear c9
   obtain⟨y298,hy298⟩:∃ y_:List (List Int),y_=(x3_1.set (x4_1:Int).toNat t295):=⟨_,rfl⟩
   replace H:(bW.l0 k1 l0 y298 (wrap64 (x4_1+1)))=some r:=by first|(rw [hy298];with_reducible exact H)|(have H2_:=(Option.bind_some _ _).symm.trans H;rw [hy298];with_reducible exact H2_)|(have H2_:=(Option.bind_some _ _).symm.trans H;with_reducible exact H2_)|with_reducible exact H|(rw [hy298];exact H)|exact H
   have Ny298:=A_.mk hy298
   clear hy298
   have H':=A_.mk H
   clear H
   have p294:0≤(x4_1:Int):=od_
   have q294:x4_1<(l0.length:Int):=od_
   obtain⟨ad294,A294_0,c294_0,e294,hx294_0,hl294_0,hi294_0⟩:=ko HR0.out x4_1 p294 q294
   cases e294
   replace hx294_0:=(HB.out.cell (wl_ w _ hx294_0)).trans hx294_0
   have HR294_0:=A_.mk hi294_0
   have HC294_0:=A_.mk hl294_0
   clear hi294_0 hl294_0
   replace p294:=eq_true p294
   replace q294:=eq_true q294
   go_wp2_with (first|((with_reducible refine gc_ (f:=39) rfl ?_);refine gl_ (some 20) Tryz.func39 #[.slice A294_0 (dD l0 x4_1).length c294_0] ?_;(with_reducible refine (bZ.calls k1 _ _ (dD l0 x4_1) t295 _ ?side1 ?side2 A8.out).mono ?_);(case side1=>exact cY ((cb_ HR294_0 HB)));(case side2=>exact HC294_0.out);rintro e w11 ⟨v296,rfl,ho0,hb⟩;refine⟨_,rfl,?_⟩;have n0_:=A_.mk (Kd.lH (by (with_reducible repeat (first|apply Kd.dI|apply Kd.dH|apply Kd.d_));exact HO_3.out) (Kd.jG ho0) hb);have n1_:=A_.mk (Kd.bR ho0 (bz_ (beY HB.out)));have n2_:=A_.mk (bt_ (beY HB.out) hb);clear HO_3 HB;have HO_3:=n0_;have HO297:=n1_;have HB:=n2_;clear n0_ n1_ n2_;(try clear hb);(try clear hb2);(try clear hk);(try clear hi);(try clear ho0);have p10:0≤(x4_1:Int):=od_;have q10:(x4_1:Int)<((x3_1.length:Int):Int):=od_;obtain⟨go10,co10,eo10,gb10,gl10,cl10,HG10⟩:=Kd.nQ HO_3.out (by omega);(first|cases eo10|(injection eo10 with ea_ en_ ec_;(first|subst ea_|(injection ea_ with ea_;subst ea_));subst ec_;clear en_));have GB10:=A_.mk gb10;have GG10:=A_.mk HG10;clear gb10 gl10 HG10;obtain⟨_,ce10,hcl10,hM10,hcc10,hfr10,_,_⟩:=Kd.nR HO_3.out [] (x4_1:Int) p10 q10;obtain⟨ve10_0,rfl,ge10_0⟩:=hM10;have hx10_0:=hcc10 0 _ rfl;have hf10_0:=hfr10 0;(try simp only [show ((Kd.slice 3 (Kd.int .i64))).sz=1 from rfl,Nat.mul_one,Nat.add_zero] at hx10_0);(try simp only [show ((Kd.slice 3 (Kd.int .i64))).sz=1 from rfl,Nat.mul_one,Nat.add_zero] at hf10_0);clear hcl10 hcc10 hfr10;(try clear hM10);replace p10:=eq_true p10;replace q10:=eq_true q10;have n_:=A_.mk (Kd.dw (ok':=(fun k_=>some k_≠(v296:Value).ownBlock)) HO_3.out (fun k_ hk=>hk.2));clear HO_3;have HO_3:=n_;clear n_;have HX12:=A_.mk (show Kd.S (Kd.slice 3 (Kd.int .i64)) 28 w11 w.heap.size (fun k_=>((fun _=>True)) k_∧¬ ((fun k_=>some k_=(v296:Value).ownBlock)) k_) (.slice (some ⟨go10,0,none⟩) x3_1.length co10) x3_1 from (by (with_reducible repeat (first|apply Kd.dI|apply Kd.dH|apply Kd.d_));exact Kd.dw HO_3.out (fun k_ hk=>⟨trivial,fun e_=>hk e_⟩)));obtain⟨oki12,ce12,hcl12,hM12,hcc12,hfr12,hoki12,hH12⟩:=Kd.nR HX12.out [] (x4_1:Int) (od_) (by have h_:(x4_1:Int)<((x3_1.length:Int):Int):=od_;first|exact h_|(have e_:=(Kd.eF HO_3.out).1;omega)|simpa using h_);obtain⟨ve12_0,rfl,ge12_0⟩:=hM12;have HP12:=Kd.uS hH12 (od_) (by have h_:(x4_1:Int)<((x3_1.length:Int):Int):=od_;first|exact h_|(have e_:=(Kd.eF HO_3.out).1;omega)|simpa using h_) (seg:=[v296]) (j:=0) (show 1≤1 from by decide) (x':=t295) (Kd.mO (Kd.aC (Kd.jQ rfl (Kd.aC (ok':=fun k_=>((fun _=>True)) k_∧k_≠go10) (Kd.ji (HO297.out) (Kd.jO HO_3.out) (by decide)) (fun k_ hk=>⟨trivial,fun e_=>(hk.2) (by rw [e_];rfl)⟩))) (fun _ h_=>Or.inr (h_)))) (fun _ hk=>hk) (fun k_ hk_=>((Kd.aC (ok':=fun k_=>((fun _=>True)) k_∧k_≠go10) (Kd.ji (HO297.out) (Kd.jO HO_3.out) (by decide)) (fun k_ hk=>⟨trivial,fun e_=>(hk.2) (by rw [e_];rfl)⟩))).1 k_ hk_.symm);have hx12_0:=hcc12 0 _ rfl;(try simp only [show ((Kd.slice 3 (Kd.int .i64))).sz=1 from rfl,Nat.mul_one,Nat.add_zero] at hx12_0);have hf12_0:=hfr12 0;(try simp only [show ((Kd.slice 3 (Kd.int .i64))).sz=1 from rfl,Nat.mul_one,Nat.add_zero] at hf12_0);clear hcl12 hcc12 hfr12;(try clear hM12);(try clear hoki12);(try clear hH12);(try simp only [show ((Kd.slice 3 (Kd.int .i64))).sz=1 from rfl,Nat.mul_one,Nat.add_zero] at HP12))|((with_reducible refine ae (t:=28) (p:=21) rfl ?_);refine se_ (t:=28) (p:=21) (v:=?vo_w13) (w1:=(w11.setCell ⟨go10,(x4_1:Int).toNat,none⟩ (v296))) ?hg ?ho ?hn ?hr ?_;(case ho=>rfl);(case hg=>rfl);(case hn=>rfl);(case hr=>first|(go_simp;done)|(go_simp;rfl)|((obtain⟨_,_,es_⟩:=Kd.aX HO297.out;subst es_);first|(go_simp;done)|(go_simp;rfl)));intro w13 hw;have hg:w11.grownBy w13 (some go10):=(by rw [hw];exact HP12.2);have hp_:Kd.S (Kd.slice 3 (Kd.int .i64)) 28 w13 w.heap.size (fun _=>True) (.slice (some ⟨go10,0,none⟩) x3_1.length co10) y298:=(by rw [hw,Ny298.out];exact HP12.1);clear HP12;have n0_:=A_.mk (hp_);have n1_:=A_.mk ((by rw [hw];exact bs_ (HB.out) GB10.out:Below w.heap.size w w13));clear HO_3 HB HO297;have HO_3:=n0_;have HB:=n1_;clear n0_ n1_ hg hw hp_))
   go_roundg k1
   case measure=>have:=HK1.out;omega
   case rel=>exact ⟨(y298),(wrap64 (x4_1+1)),rs_,H',⟨by have:=HK1.out;omega⟩,⟨by (with_reducible repeat (first|apply Kd.dI|apply Kd.dH|apply Kd.d_));exact HO_3.out⟩,⟨beY HB.out⟩⟩
def gJ.f(k:Nat)(a0_0:Int)(l0_1:List (List Int)):Option (Int×(List (List Int))):=(bW.f k l0_1).bind fun t302=>(some (a0_0,t302))
theorem gJ.calls(k:Nat)(a0_0:Int)(A0_1:Option Addr)(c0_1:Nat)(l0_1:List (List Int))(r1:Int)(r2:List (List Int))(w:World)(hr0_1:Kd.C (Kd.slice 3 (Kd.int .i64)) w A0_1 l0_1.length l0_1)(hc0_1:l0_1.length≤c0_1)(h:gJ.f k a0_0 l0_1=some (r1,r2)) :
  Calls Tryz.prog 37 #[.agg #[.int .i64 a0_0,.slice A0_1 l0_1.length c0_1]] w fun e w'=>∃ v1_:Value,e=.returned (.agg #[.int .i64 r1,v1_])∧Kd.S (Kd.slice 3 (Kd.int .i64)) 28 w' w.heap.size (fun _=>True) v1_ r2∧Below w.heap.size w w':=by
 have hu27:=Tryz.underlying27
 have hu37:=Tryz.underlying37
 have HR0_1:=A_.mk hr0_1
 have HC0_1:=A_.mk hc0_1
 clear hr0_1 hc0_1
 have HB:=A_.mk (Below.refl w.heap.size w)
 have H:((bW.f k l0_1).bind fun t302=>(some (a0_0,t302)))=some (r1,r2):=h
 clear h
 replace H:=oa_ H
 obtain⟨t302,A2,H⟩:=H
 replace H:=lh H
 obtain⟨rfl,rfl⟩:=H
 go_enter Tryz.func37,Tryz.ntmps37
 go_wp2_with (first|((with_reducible refine gd_ (N:=1) rfl ?_);refine by_ 1 (cs:=#[.int .i64 a0_0,.slice A0_1 l0_1.length c0_1]) (t:=27) ?_;intro gb299 hg w3 hbox hb;have n0_:=A_.mk (bt_ (beY HB.out) hb);have n1_:=A_.mk (hbox);have n2_:=A_.mk ((by rw [hg];exact(bz_ (beY HB.out)):w.heap.size≤gb299));have n3_:=A_.mk ((by rw [hg];exact(bz_ (beY HB.out)):w.heap.size≤gb299));clear HB;have HB:=n0_;have BK299:=n1_;have GW299:=n2_;have GE299:=n3_;clear n0_ n1_ n2_ n3_ hb hbox hg)|((with_reducible refine gd_ (N:=2) rfl ?_);refine by_ 2 (cs:=#[.int .i64 0,.slice none 0 0]) (t:=37) ?_;intro gb300 hg w4 hbox hb;have n0_:=A_.mk (bb_ (bY BK299.out) hb);have n1_:=A_.mk (bt_ ((zA_ HB GE299)) hb);have n2_:=A_.mk (hbox);have n3_:=A_.mk ((by rw [hg];exact(bz_ ((zA_ HB GE299))):w.heap.size≤gb300));have n4_:=A_.mk ((by rw [hg];exact(bz_ ((zA_ HB GE299))):w.heap.size≤gb300));have n5_:=A_.mk ((by rw [hg];exact Nat.ne_of_lt (aI (bY BK299.out)):gb299≠gb300));have n6_:=A_.mk ((by rw [hg];exact Nat.ne_of_gt (aI (bY BK299.out)):gb300≠gb299));clear BK299 HB;have BK299:=n0_;have HB:=n1_;have BK300:=n2_;have GW300:=n3_;have GE300:=n4_;have NB299_300:=n5_;have NB300_299:=n6_;clear n0_ n1_ n2_ n3_ n4_ n5_ n6_ hb hbox hg)|((with_reducible refine gd_ (N:=3) rfl ?_);refine by_ 3 (cs:=#[.int .i64 0,.slice none 0 0]) (t:=37) ?_;intro gb301 hg w5 hbox hb;have n0_:=A_.mk (bb_ (bY BK299.out) hb);have n1_:=A_.mk (bb_ (bY BK300.out) hb);have n2_:=A_.mk (bt_ ((zB_ HB GE299 GE300)) hb);have n3_:=A_.mk (hbox);have n4_:=A_.mk ((by rw [hg];exact(bz_ ((zB_ HB GE299 GE300))):w.heap.size≤gb301));have n5_:=A_.mk ((by rw [hg];exact(bz_ ((zB_ HB GE299 GE300))):w.heap.size≤gb301));have n6_:=A_.mk ((by rw [hg];exact Nat.ne_of_lt (aI (bY BK299.out)):gb299≠gb301));have n7_:=A_.mk ((by rw [hg];exact Nat.ne_of_gt (aI (bY BK299.out)):gb301≠gb299));have n8_:=A_.mk ((by rw [hg];exact Nat.ne_of_lt (aI (bY BK300.out)):gb300≠gb301));have n9_:=A_.mk ((by rw [hg];exact Nat.ne_of_gt (aI (bY BK300.out)):gb301≠gb300));clear BK299 BK300 HB;have BK299:=n0_;have BK300:=n1_;have HB:=n2_;have BK301:=n3_;have GW301:=n4_;have GE301:=n5_;have NB299_301:=n6_;have NB301_299:=n7_;have NB300_301:=n8_;have NB301_300:=n9_;clear n0_ n1_ n2_ n3_ n4_ n5_ n6_ n7_ n8_ n9_ hb hbox hg;have hnb6:=NB299_300.out;have hnc6:=NB300_299.out;have hnb7:=NB299_301.out;have hnc7:=NB301_299.out;obtain⟨hcz8_0,hcz8_1⟩:=gq BK299;obtain⟨hfz8_0,hfz8_1⟩:=dO BK299;have hnb9:=NB301_300.out;have hnc9:=NB300_301.out;obtain⟨hcz10_0,hcz10_1⟩:=gq BK301;obtain⟨hfz10_0,hfz10_1⟩:=dO BK301)|((with_reducible refine gc_ (f:=38) rfl ?_);refine gl_ (some 9) Tryz.func38 #[.slice A0_1 l0_1.length c0_1] ?_;(with_reducible refine (bW.calls k _ _ l0_1 t302 _ ?side1 ?side2 A2.out).mono ?_);(case side1=>exact Kd.cu HR0_1.out ((zC_ HB GE299 GE300 GE301)));(case side2=>exact HC0_1.out);rintro e w11 ⟨v303,rfl,ho0,hb⟩;refine⟨_,rfl,?_⟩;have n0_:=A_.mk (Kd.j5 ho0 (bz_ ((zC_ HB GE299 GE300 GE301))));have n1_:=A_.mk (bb_ (g:=gb299) (o:=.cells #[.int .i64 a0_0,.slice A0_1 l0_1.length c0_1] 27 (0,0)) (by (repeat apply bX);refine bA ?_ NB299_301.out _;(repeat apply bX);exact BK299.out) hb);have n2_:=A_.mk (bb_ (g:=gb300) (o:=.cells #[.int .i64 0,.slice none 0 0] 37 (0,0)) (by (repeat apply bX);refine bA ?_ NB300_301.out _;(repeat apply bX);exact BK300.out) hb);have n3_:=A_.mk (bb_ (g:=gb301) (o:=.cells #[.int .i64 a0_0,.slice none 0 0] 37 (0,0)) (by (repeat apply bX);refine bp_ (cs:=#[.int .i64 0,.slice none 0 0]) ?_ 0 _ rfl;(repeat apply bX);exact BK301.out) hb);have n4_:=A_.mk (bt_ ((zC_ HB GE299 GE300 GE301)) hb);clear BK299 BK300 BK301 HB;have HO304:=n0_;have BK299:=n1_;have BK300:=n2_;have BK301:=n3_;have HB:=n4_;clear n0_ n1_ n2_ n3_ n4_;(try clear hb);(try clear hb2);(try clear hk);(try clear hi);(try clear ho0);obtain⟨Ao12,co12,eo12⟩:=Kd.dx HO304.out;subst eo12;obtain⟨hcz13_0,hcz13_1⟩:=gq BK301;obtain⟨hfz13_0,hfz13_1⟩:=dO BK301;obtain⟨hcz14_0,hcz14_1⟩:=gq BK300;obtain⟨hfz14_0,hfz14_1⟩:=dO BK300))
 refine bodyPost_ret (results_cell_row rfl _ _ gb300 37 #[.int .i64 a0_0,.slice Ao12 t302.length co12] (0,0) _ rfl (by (repeat apply bX);refine bp_ (cs:=#[.int .i64 a0_0,.slice none 0 0]) ?_ 1 _ rfl;(repeat apply bX);refine bp_ (cs:=#[.int .i64 0,.slice none 0 0]) ?_ 0 _ rfl;(repeat apply bX);refine bA ?_ NB300_301.out _;(repeat apply bX);exact BK300.out) Tryz.underlying37 rfl (by kernel_rfl)) rfl ?_
 exact⟨_,re_,by (with_reducible repeat (first|apply Kd.dI|apply Kd.dH|apply Kd.d_));exact Kd.dw (Kd.iU (p:=⟨gb300,1,none⟩) (Kd.iU (p:=⟨gb300,0,none⟩) (Kd.iU (p:=⟨gb301,1,none⟩) (Kd.jC (Kd.jC HO304.out BK301.out (by decide)) BK300.out (by decide)) (fun _ hk=>hk.1.2) (.slice Ao12 t302.length co12)) (fun _ hk=>hk.2) (.int .i64 a0_0)) (fun _ hk=>hk.2) (.slice Ao12 t302.length co12)) (fun _ hk=>trivial),(zC_ HB GE299 GE300 GE301)⟩
def dZ.f(k:Nat)(a0_0:Int)(l0_1:List (S108))(a0_2:Int)(a0_3:Int)(l0_4:List (List Int))(l0_5:List (List Int))(l0_6:List Int):Option ((Int)×(List (S68))×(Int)×(Int)×(List (List Int))×(List (List Int))×(List Int)):=((iQ.f k a0_0 l0_1 a0_2).bind fun ⟨t1,t2,t3⟩=>((gJ.f k a0_3 l0_4).bind fun ⟨t4,t5⟩=>((bW.f k l0_5).bind fun t6=>((bZ.f k l0_6).bind fun t7=>(some (t1,t2,t3,t4,t5,t6,t7))))))
theorem dZ.calls(k:Nat)(a0_0:Int)(A0_1:Option Addr)(c0_1:Nat)(l0_1:List (S108))(a0_2:Int)(a0_3:Int)(A0_4:Option Addr)(c0_4:Nat)(l0_4:List (List Int))(A0_5:Option Addr)(c0_5:Nat)(l0_5:List (List Int))(A0_6:Option Addr)(c0_6:Nat)(l0_6:List Int)(r1:Int)(r2:List (S68))(r3:Int)(r4:Int)(r5:List (List Int))(r6:List (List Int))(r7:List Int)(w:World)(hr0_1:Kd.C k108 w A0_1 l0_1.length l0_1)(hc0_1:l0_1.length≤c0_1)(hr0_4:Kd.C (Kd.slice 3 (Kd.int .i64)) w A0_4 l0_4.length l0_4)(hc0_4:l0_4.length≤c0_4)(hr0_5:Kd.C (Kd.slice 3 (Kd.int .i64)) w A0_5 l0_5.length l0_5)(hc0_5:l0_5.length≤c0_5)(hr0_6:Kd.C (Kd.int .i64) w A0_6 l0_6.length l0_6)(hc0_6:l0_6.length≤c0_6)(h:dZ.f k a0_0 l0_1 a0_2 a0_3 l0_4 l0_5 l0_6=some (r1,r2,r3,r4,r5,r6,r7)) :
  Calls Tryz.prog 8 #[.agg #[.int .i64 a0_0,.slice A0_1 l0_1.length c0_1,.int .i64 a0_2,.int .i64 a0_3,.slice A0_4 l0_4.length c0_4,.slice A0_5 l0_5.length c0_5,.slice A0_6 l0_6.length c0_6]] w fun e w'=>∃ f_:Nat→Nat,∃ v0_ v1_ v2_ v3_:Value,e=.returned (.agg #[.int .i64 r1,v0_,.int .i64 r3,.int .i64 r4,v1_,v2_,v3_])∧Kd.S k68 68 w' w.heap.size (fun k_=>f_ k_=0) v0_ r2∧Kd.S (Kd.slice 3 (Kd.int .i64)) 28 w' w.heap.size (fun k_=>f_ k_=1) v1_ r5∧Kd.S (Kd.slice 3 (Kd.int .i64)) 28 w' w.heap.size (fun k_=>f_ k_=2) v2_ r6∧Kd.R (Kd.int .i64) 3 w' w.heap.size (fun k_=>f_ k_=3) v3_ r7∧Below w.heap.size w w':=by
 have HR0_1:=A_.mk hr0_1
 have HC0_1:=A_.mk hc0_1
 clear hr0_1 hc0_1
 have HR0_4:=A_.mk hr0_4
 have HC0_4:=A_.mk hc0_4
 clear hr0_4 hc0_4
 have HR0_5:=A_.mk hr0_5
 have HC0_5:=A_.mk hc0_5
 clear hr0_5 hc0_5
 have HR0_6:=A_.mk hr0_6
 have HC0_6:=A_.mk hc0_6
 clear hr0_6 hc0_6
 have HB:=A_.mk (Below.refl w.heap.size w)
 unfold dZ.f at h
 have H:=h
 clear h
 replace H:=oa_ H
 obtain⟨⟨t1,t2,t3⟩,A4,H⟩:=H
 try dsimp only at H
 replace H:=oa_ H
 obtain⟨⟨t4,t5⟩,A6,H⟩:=H
 try dsimp only at H
 replace H:=oa_ H
 obtain⟨t6,A8,H⟩:=H
 replace H:=oa_ H
 obtain⟨t7,A10,H⟩:=H
 replace H:=qo H
 obtain⟨rfl,rfl,rfl,rfl,rfl,rfl,rfl⟩:=H
 have hu30:=Tryz.underlying30
 have hu39:=Tryz.underlying39
 go_enter Tryz.func8,Tryz.ntmps8
 have HS:=A_.mk (Nat.le_refl w.heap.size)
 go_wp2_with (first|((with_reducible refine gd_ (N:=1) rfl ?_);refine by_ 1 (cs:=#[.int .i64 a0_0,.slice A0_1 l0_1.length c0_1,.int .i64 a0_2,.int .i64 a0_3,.slice A0_4 l0_4.length c0_4,.slice A0_5 l0_5.length c0_5,.slice A0_6 l0_6.length c0_6]) (t:=30) ?_;intro gb1_ hg w1_ hbox hb;replace HS:=aHg HS hg hbox;replace HB:=aHB HB hb;have BK1:=A_.mk hbox;clear hbox hb hg)|((with_reducible refine gd_ (N:=2) rfl ?_);refine by_ 2 (cs:=#[.int .i64 0,.slice none 0 0,.int .i64 0,.int .i64 0,.slice none 0 0,.slice none 0 0,.slice none 0 0]) (t:=39) ?_;intro gb2_ hg w2_ hbox hb;replace HS:=aHg HS hg hbox;replace BK1:=aBb BK1 hb;replace HB:=aHB HB hb;have BK2:=A_.mk hbox;clear hbox hb hg)|((with_reducible refine gd_ (N:=3) rfl ?_);refine by_ 3 (cs:=#[.int .i64 0,.slice none 0 0,.int .i64 0,.int .i64 0,.slice none 0 0,.slice none 0 0,.slice none 0 0]) (t:=39) ?_;intro gb3_ hg w3_ hbox hb;replace HS:=aHg HS hg hbox;revert BK1 HB BK2;refine aD hb ?_;intro BK1 HB BK2;have BK3:=A_.mk hbox;clear hbox hb hg;have Q1:=aa BK1.out)|((with_reducible refine gc_ (f:=36) rfl ?_);refine gl_ (some 6) Tryz.func36 #[.agg #[.int .i64 a0_0,.slice A0_1 l0_1.length c0_1,.int .i64 a0_2]] ?_;(with_reducible refine (iQ.calls k a0_0 _ _ l0_1 a0_2 t1 t2 t3 _ (cb_ HR0_1 HB) HC0_1.out A4.out).mono ?_);rintro e w4_ ⟨v1_,rfl,ho0_,hb⟩;refine⟨_,rfl,?_⟩;replace HS:=aHs HS hb.size;obtain⟨Ao4_1,co4_1,rfl,HO4_1⟩:=sSm ho0_ HB.out.size;revert BK1 HB BK2 BK3;refine aD hb ?_;intro BK1 HB BK2 BK3;clear hb ho0_ Q1;have Q3:=aa BK3.out)|((with_reducible refine ae (t:=36) (p:=7) rfl ?_);obtain⟨qf0,qf1,qf2⟩:=eT BK3;refine so_ (w1:=(((w4_.setCell ⟨gb3_,0,none⟩ (.int .i64 t1)).setCell ⟨gb3_,1,none⟩ (.slice Ao4_1 t2.length co4_1)).setCell ⟨gb3_,2,none⟩ (.int .i64 t3))) ?_;intro w5_ hw;clear qf0 qf1 qf2;obtain⟨hbx,hkp,hbb⟩:=jd hw BK3 HB (ho_ HS);clear hw;revert HO4_1 BK1 BK2;refine bC hkp HS ?_;intro HO4_1 BK1 BK2;replace BK3:=A_.mk hbx;replace HB:=A_.mk hbb;replace HS:=aHs HS hkp.1;clear hkp hbb hbx Q3;have Q1:=aa BK1.out)|((with_reducible refine gc_ (f:=37) rfl ?_);refine gl_ (some 10) Tryz.func37 #[.agg #[.int .i64 a0_3,.slice A0_4 l0_4.length c0_4]] ?_;(with_reducible refine (gJ.calls k a0_3 _ _ l0_4 t4 t5 _ (cb_ HR0_4 HB) HC0_4.out A6.out).mono ?_);rintro e w6_ ⟨v1_,rfl,ho0_,hb⟩;refine⟨_,rfl,?_⟩;replace HS:=aHs HS hb.size;obtain⟨Ao6_1,co6_1,rfl,HO6_1⟩:=sSm ho0_ HB.out.size;revert HO4_1 BK1 BK2 BK3 HB;refine aD hb ?_;intro HO4_1 BK1 BK2 BK3 HB;clear hb ho0_ Q1;have Q3:=aa BK3.out)|((with_reducible refine ae (t:=37) (p:=11) rfl ?_);have qf0:=bf_ BK3.out 3;have qf1:=bf_ BK3.out 4;refine so_ (w1:=((w6_.setCell ⟨gb3_,3,none⟩ (.int .i64 t4)).setCell ⟨gb3_,4,none⟩ (.slice Ao6_1 t5.length co6_1))) ?_;intro w7_ hw;clear qf0 qf1;obtain⟨hbx,hkp,hbb⟩:=nL hw BK3 HB (ho_ HS);clear hw;revert HO6_1 HO4_1 BK1 BK2;refine bC hkp HS ?_;intro HO6_1 HO4_1 BK1 BK2;replace BK3:=A_.mk hbx;replace HB:=A_.mk hbb;replace HS:=aHs HS hkp.1;clear hkp hbb hbx Q3;have Q1:=aa BK1.out)|((with_reducible refine gc_ (f:=38) rfl ?_);refine gl_ (some 14) Tryz.func38 #[.slice A0_5 l0_5.length c0_5] ?_;(with_reducible refine (bW.calls k _ _ l0_5 t6 _ (cb_ HR0_5 HB) HC0_5.out A8.out).mono ?_);rintro e w8_ ⟨v0_,rfl,ho0_,hb⟩;refine⟨_,rfl,?_⟩;replace HS:=aHs HS hb.size;obtain⟨Ao8_0,co8_0,rfl,HO8_0⟩:=sSm ho0_ HB.out.size;revert HO6_1 HO4_1 BK1 BK2 BK3 HB;refine aD hb ?_;intro HO6_1 HO4_1 BK1 BK2 BK3 HB;clear hb ho0_ Q1;have Q3:=aa BK3.out)|((with_reducible refine ae (t:=25) (p:=15) rfl ?_);have qf0:=bf_ BK3.out 5;refine so_ (w1:=(w8_.setCell ⟨gb3_,5,none⟩ (.slice Ao8_0 t6.length co8_0))) ?_;intro w9_ hw;clear qf0;obtain⟨hbx,hkp,hbb⟩:=j6 hw BK3 HB (ho_ HS);clear hw;revert HO8_0 HO6_1 HO4_1 BK1 BK2;refine bC hkp HS ?_;intro HO8_0 HO6_1 HO4_1 BK1 BK2;replace BK3:=A_.mk hbx;replace HB:=A_.mk hbb;replace HS:=aHs HS hkp.1;clear hkp hbb hbx Q3;have Q1:=aa BK1.out)|((with_reducible refine gc_ (f:=39) rfl ?_);refine gl_ (some 18) Tryz.func39 #[.slice A0_6 l0_6.length c0_6] ?_;(with_reducible refine (bZ.calls k _ _ l0_6 t7 _ (cb_ HR0_6 HB) HC0_6.out A10.out).mono ?_);rintro e w10_ ⟨v0_,rfl,ho0_,hb⟩;refine⟨_,rfl,?_⟩;replace HS:=aHs HS hb.size;obtain⟨Ao10_0,co10_0,rfl,HO10_0⟩:=sRm ho0_ HB.out.size;revert HO8_0 HO6_1 HO4_1 BK2 BK3 HB;refine aD hb ?_;intro HO8_0 HO6_1 HO4_1 BK2 BK3 HB;clear hb ho0_ Q1;have Q3:=aa BK3.out)|((with_reducible refine ae (t:=28) (p:=19) rfl ?_);have qf0:=bf_ BK3.out 6;refine so_ (w1:=(w10_.setCell ⟨gb3_,6,none⟩ (.slice Ao10_0 t7.length co10_0))) ?_;intro w11_ hw;clear qf0;obtain⟨hbx,hkp,hbb⟩:=jD hw BK3 HB (ho_ HS);clear hw;revert HO10_0 HO8_0 HO6_1 HO4_1 BK2;refine bC hkp HS ?_;intro HO10_0 HO8_0 HO6_1 HO4_1 BK2;replace BK3:=A_.mk hbx;replace HB:=A_.mk hbb;replace HS:=aHs HS hkp.1;clear hkp hbb hbx Q3;have Q2:=aa BK2.out;have Q3:=aa BK3.out)|((with_reducible refine ae (t:=39) (p:=2) rfl ?_);obtain⟨qf0,qf1,qf2,qf3,qf4,qf5,qf6⟩:=gM BK2;refine so_ (w1:=(iR w11_ gb2_ (.int .i64 t1) (.slice Ao4_1 t2.length co4_1) (.int .i64 t3) (.int .i64 t4) (.slice Ao6_1 t5.length co6_1) (.slice Ao8_0 t6.length co8_0) (.slice Ao10_0 t7.length co10_0))) ?_;intro w12_ hw;clear qf0 qf1 qf2 qf3 qf4 qf5 qf6;obtain⟨hbx,hkp,hbb⟩:=iV hw BK2 HB (ho_ HS);clear hw;revert HO10_0 HO8_0 HO6_1 HO4_1;refine bC hkp HS ?_;intro HO10_0 HO8_0 HO6_1 HO4_1;replace BK2:=A_.mk hbx;replace HB:=A_.mk hbb;replace HS:=aHs HS hkp.1;clear hkp hbb hbx Q2 Q3))
 refine bodyPost_ret (results_cell_row rfl _ _ gb2_ 39 _ (0,0) _ rfl BK2.out Tryz.underlying39 rfl (by kernel_rfl)) rfl ?_
 obtain⟨f_,hf_⟩:=mS_ HO4_1 0 (mS_ HO6_1 1 (mS_ HO8_0 2 (mR_ HO10_0 3 (m0_ 0))))
 exact⟨f_,_,_,_,_,rfl,cS_ HO4_1 HS hf_,cS_ HO6_1 HS hf_,cS_ HO8_0 HS hf_,cR_ HO10_0 HS hf_,HB.out⟩
def dA.f(a0_0:Int)(a0_1:Int):Option (Int×Int):=some (a0_0,a0_1)
theorem dA.calls(a0_0:Int)(a0_1:Int)(r1:Int)(r2:Int)(w:World)(h:dA.f a0_0 a0_1=some (r1,r2)) :
  Calls Tryz.prog 9 #[.agg #[.int .i64 a0_0,.int .i64 a0_1]] w fun e w'=>e=.returned (.agg #[.int .i64 r1,.int .i64 r2])∧Below w.heap.size w w':=by
 have hu32:=Tryz.underlying32
 have hu43:=Tryz.underlying43
 have HB:=A_.mk (Below.refl w.heap.size w)
 have H:(some (a0_0,a0_1))=some (r1,r2):=h
 clear h
 replace H:=lh H
 obtain⟨rfl,rfl⟩:=H
 go_enter Tryz.func9,Tryz.ntmps9
 go_wp2_with (first|((with_reducible refine gd_ (N:=1) rfl ?_);refine by_ 1 (cs:=#[.int .i64 a0_0,.int .i64 a0_1]) (t:=32) ?_;intro gb305 hg w2 hbox hb;have n0_:=A_.mk (bt_ (beY HB.out) hb);have n1_:=A_.mk (hbox);have n2_:=A_.mk ((by rw [hg];exact(bz_ (beY HB.out)):w.heap.size≤gb305));have n3_:=A_.mk ((by rw [hg];exact(bz_ (beY HB.out)):w.heap.size≤gb305));clear HB;have HB:=n0_;have BK305:=n1_;have GW305:=n2_;have GE305:=n3_;clear n0_ n1_ n2_ n3_ hb hbox hg)|((with_reducible refine gd_ (N:=2) rfl ?_);refine by_ 2 (cs:=#[.int .i64 0,.int .i64 0]) (t:=43) ?_;intro gb306 hg w3 hbox hb;have n0_:=A_.mk (bb_ (bY BK305.out) hb);have n1_:=A_.mk (bt_ ((zA_ HB GE305)) hb);have n2_:=A_.mk (hbox);have n3_:=A_.mk ((by rw [hg];exact(bz_ ((zA_ HB GE305))):w.heap.size≤gb306));have n4_:=A_.mk ((by rw [hg];exact(bz_ ((zA_ HB GE305))):w.heap.size≤gb306));have n5_:=A_.mk ((by rw [hg];exact Nat.ne_of_lt (aI (bY BK305.out)):gb305≠gb306));have n6_:=A_.mk ((by rw [hg];exact Nat.ne_of_gt (aI (bY BK305.out)):gb306≠gb305));clear BK305 HB;have BK305:=n0_;have HB:=n1_;have BK306:=n2_;have GW306:=n3_;have GE306:=n4_;have NB305_306:=n5_;have NB306_305:=n6_;clear n0_ n1_ n2_ n3_ n4_ n5_ n6_ hb hbox hg)|((with_reducible refine gd_ (N:=3) rfl ?_);refine by_ 3 (cs:=#[.int .i64 0,.int .i64 0]) (t:=43) ?_;intro gb307 hg w4 hbox hb;have n0_:=A_.mk (bb_ (bY BK305.out) hb);have n1_:=A_.mk (bb_ (bY BK306.out) hb);have n2_:=A_.mk (bt_ ((zB_ HB GE305 GE306)) hb);have n3_:=A_.mk (hbox);have n4_:=A_.mk ((by rw [hg];exact(bz_ ((zB_ HB GE305 GE306))):w.heap.size≤gb307));have n5_:=A_.mk ((by rw [hg];exact(bz_ ((zB_ HB GE305 GE306))):w.heap.size≤gb307));have n6_:=A_.mk ((by rw [hg];exact Nat.ne_of_lt (aI (bY BK305.out)):gb305≠gb307));have n7_:=A_.mk ((by rw [hg];exact Nat.ne_of_gt (aI (bY BK305.out)):gb307≠gb305));have n8_:=A_.mk ((by rw [hg];exact Nat.ne_of_lt (aI (bY BK306.out)):gb306≠gb307));have n9_:=A_.mk ((by rw [hg];exact Nat.ne_of_gt (aI (bY BK306.out)):gb307≠gb306));clear BK305 BK306 HB;have BK305:=n0_;have BK306:=n1_;have HB:=n2_;have BK307:=n3_;have GW307:=n4_;have GE307:=n5_;have NB305_307:=n6_;have NB307_305:=n7_;have NB306_307:=n8_;have NB307_306:=n9_;clear n0_ n1_ n2_ n3_ n4_ n5_ n6_ n7_ n8_ n9_ hb hbox hg;have hnb5:=NB305_306.out;have hnc5:=NB306_305.out;have hnb6:=NB305_307.out;have hnc6:=NB307_305.out;obtain⟨hcz7_0,hcz7_1⟩:=gq BK305;obtain⟨hfz7_0,hfz7_1⟩:=dO BK305;have hnb8:=NB307_306.out;have hnc8:=NB306_307.out;obtain⟨hcz9_0,hcz9_1⟩:=gq BK307;obtain⟨hfz9_0,hfz9_1⟩:=dO BK307;obtain⟨hcz10_0,hcz10_1⟩:=gq BK306;obtain⟨hfz10_0,hfz10_1⟩:=dO BK306))
 refine bodyPost_ret (results_cell_row rfl _ _ gb306 43 #[.int .i64 a0_0,.int .i64 a0_1] (0,0) _ rfl (by (repeat apply bX);refine bp_ (cs:=#[.int .i64 a0_0,.int .i64 0]) ?_ 1 _ rfl;(repeat apply bX);refine bp_ (cs:=#[.int .i64 0,.int .i64 0]) ?_ 0 _ rfl;(repeat apply bX);refine bA ?_ NB306_307.out _;(repeat apply bX);refine bA ?_ NB306_307.out _;(repeat apply bX);exact BK306.out) Tryz.underlying43 rfl (by kernel_rfl)) rfl ?_
 exact⟨re_,(zC_ HB GE305 GE306 GE307)⟩
def ai.f(l0:List Int):Option (List Int):=(some (([]:List Int):List Int)).bind fun y308=>(if y308.length+l0.length<17592186044416 then (some (y308++l0)) else (none))
theorem ai.rH(A0:Addr)(c0:Nat)(l0:List Int)(r:List Int)(w:World)(hr0:Kd.C (Kd.int .i64) w (some A0) l0.length l0)(hc0:l0.length≤c0)(h:ai.f l0=some r) :
  Calls Tryz.prog 76 #[.slice (some A0) l0.length c0] w fun e w'=>∃ v0_:Value,e=.returned (v0_)∧Kd.R (Kd.int .i64) 3 w' w.heap.size (fun _=>True) v0_ r∧Below w.heap.size w w':=by
 have HR0:=A_.mk hr0
 have HC0:=A_.mk hc0
 clear hr0 hc0
 have HB:=A_.mk (Below.refl w.heap.size w)
 have H:((some (([]:List Int):List Int)).bind fun y308=>(if y308.length+l0.length<17592186044416 then (some (y308++l0)) else (none)))=some r:=h
 clear h
 obtain⟨y308,hy308⟩:∃ y_:List Int,y_=(([]:List Int)):=⟨_,rfl⟩
 replace H:(if y308.length+l0.length<17592186044416 then (some (y308++l0)) else (none))=some r:=by first|(rw [hy308];with_reducible exact H)|(have H2_:=(Option.bind_some _ _).symm.trans H;rw [hy308];with_reducible exact H2_)|(have H2_:=(Option.bind_some _ _).symm.trans H;with_reducible exact H2_)|with_reducible exact H|(rw [hy308];exact H)|exact H
 have Ny308:=A_.mk hy308
 clear hy308
 by_cases c2:y308.length+l0.length<17592186044416
 rotate_left
 ·rw [if_neg c2] at H
  exact absurd H (by simp)
 rw [if_pos c2] at H
 have LMc2:=A_.mk c2
 clear c2
 obtain⟨y311,hy311⟩:∃ y_:List Int,y_=(y308++l0):=⟨_,rfl⟩
 replace H:(some y311)=some r:=by first|(rw [hy311];with_reducible exact H)|(have H2_:=(Option.bind_some _ _).symm.trans H;rw [hy311];with_reducible exact H2_)|(have H2_:=(Option.bind_some _ _).symm.trans H;with_reducible exact H2_)|with_reducible exact H|(rw [hy311];exact H)|exact H
 have Ny311:=A_.mk hy311
 clear hy311
 obtain rfl:=Option.some.inj H
 have hb_:∀ w,(binOp .eql 28 (.slice (some A0) l0.length c0) (.slice none 0 0)).run Tryz.prog w=.ok (.bool false) w:=fun _=>by kernel_rfl
 go_enter Tryz.func76,Tryz.ntmps76
 go_wp2_with (first|((with_reducible refine gd_ (N:=5) rfl ?_);refine Kd.iM (Kd.int .i64) _ 3 ?hg (N:=5) ?hd (xs:=([]:List Int)) (inner:=[]) (ok:=fun _=>True) (okp:=fun _=>True) ?hr ?hp (fun _ hk=>hk) trivial (Below.refl _ _) (Nat.le_refl _) (by simp) ?_;(case hd=>rfl);(case hg=>rfl);(case hr=>first|(go_simp;done)|(go_simp;rfl));(case hp=>exact (Reps.none _ _));intro v309 w3 ho4 hb hg_ hnew_;clear hg_ hnew_;(first|rw [←Ny308.out] at ho4|(simp only [Int.reduceToNat] at ho4;rw [←Ny308.out] at ho4));have n0_:=A_.mk (Kd.bR ho4 (bz_ (beY HB.out)));have n1_:=A_.mk (bt_ (beY HB.out) hb);clear HB;have HO310:=n0_;have HB:=n1_;clear n0_ n1_ hb ho4)|((with_reducible refine cz (b:=.append) (xs:=#[.tmp 5,.tmp 6]) rfl ?_);at_builtin;refine Kd.dW (Kd.int .i64) (w0:=w) w.heap.size rfl (.tmp 5) (.tmp 6) 28 3 (.int .i64 0) 8 rfl Tryz.underlying28 info3 rfl (by decide) (by omega) v309 y308 l0 _ _ _ (fun _=>True) (fun _=>False) rfl rfl ?aO ?aR (fun _ _ h=>h) (fun _ h=>h.elim) ?aF ?aB ?aS ?aL ?_;(case aR=>repeat (first|exact (cb_ HR0 HB)|(with_reducible refine Kd.fo ?_ _)|(with_reducible refine Kd.fq ?_ _)|(with_reducible refine Kd.gI ?_)));(case aB=>exact (beY HB.out));(case aF=>exact (fun _ _=>trivial));(case aO=>exact (rY HO310.out));(case aS=>exact (bz_ (beY HB.out)));(case aL=>have:=LMc2.out;omega);intro v312 w5 ho hb hg hat;rw [←Ny311.out] at ho;have n0_:=A_.mk (hb);have n1_:=A_.mk (ho);clear HB HO310;have HB:=n0_;have HO313:=n1_;clear n0_ n1_ ho hb hg hat))
 go_ret
 exact⟨_,re_,by (repeat apply rX);exact HO313.out,beY HB.out⟩
theorem ai.calls(A0:Option Addr)(c0:Nat)(l0:List Int)(r:List Int)(w:World)(hr0:Kd.C (Kd.int .i64) w A0 l0.length l0)(hc0:l0.length≤c0)(h:ai.f l0=some r) :
  Calls Tryz.prog 76 #[.slice A0 l0.length c0] w fun e w'=>∃ v0_:Value,e=.returned (v0_)∧Kd.R (Kd.int .i64) 3 w' w.heap.size (fun _=>True) v0_ r∧Below w.heap.size w w':=by
 cases A0 with
 | some A0=>exact ai.rH A0 c0 l0 r w hr0 hc0 h
 | none =>
  have hz:l0.length=0:=by
   rcases Nat.eq_zero_or_pos l0.length with h0|h0
   ·exact h0
   ·obtain ⟨_,hn_,_⟩:=hr0.2.2 h0;cases hn_
  obtain rfl:=List.length_eq_zero_iff.mp hz
  have hr_:r=[]:=by unfold ai.f at h;simp at h;exact h
  subst hr_
  clear h hz hr0
  have HB:=A_.mk (Below.refl w.heap.size w)
  have hb_:∀ w,(binOp .eql 28 (.slice none 0 c0) (.slice none 0 0)).run Tryz.prog w=.ok (.bool true) w:=fun _=>by kernel_rfl
  go_enter Tryz.func76,Tryz.ntmps76
  go_wp2
  go_ret
  exact⟨_,re_,by first|exact Kd.jF _ _ _ _ _|exact Kd.lI _ _ _ _ _|exact Kd.jY _ _ _ _ _|exact Kd.lw _ _ _ _ _|exact Kd.kX _ _ _ _ _,beY HB.out⟩
def fF.f(a0_0:Int)(l0_1:List Int):Option (Int×List Int):=(ai.f l0_1).bind fun t316=>(some (a0_0,t316))
theorem fF.calls(a0_0:Int)(A0_1:Option Addr)(c0_1:Nat)(l0_1:List Int)(r1:Int)(r2:List Int)(w:World)(hr0_1:Kd.C (Kd.int .i64) w A0_1 l0_1.length l0_1)(hc0_1:l0_1.length≤c0_1)(h:fF.f a0_0 l0_1=some (r1,r2)) :
  Calls Tryz.prog 104 #[.agg #[.int .i64 a0_0,.slice A0_1 l0_1.length c0_1]] w fun e w'=>∃ v1_:Value,e=.returned (.agg #[.int .i64 r1,v1_])∧Kd.R (Kd.int .i64) 3 w' w.heap.size (fun _=>True) v1_ r2∧Below w.heap.size w w':=by
 have hu68:=Tryz.underlying68
 have HR0_1:=A_.mk hr0_1
 have HC0_1:=A_.mk hc0_1
 clear hr0_1 hc0_1
 have HB:=A_.mk (Below.refl w.heap.size w)
 have H:((ai.f l0_1).bind fun t316=>(some (a0_0,t316)))=some (r1,r2):=h
 clear h
 replace H:=oa_ H
 obtain⟨t316,A2,H⟩:=H
 replace H:=lh H
 obtain⟨rfl,rfl⟩:=H
 go_enter Tryz.func104,Tryz.ntmps104
 try go_wp2_with (first|((with_reducible refine gd_ (N:=1) rfl ?_);refine by_ 1 (cs:=#[.int .i64 a0_0,.slice A0_1 l0_1.length c0_1]) (t:=68) ?_;intro gb314 hg w3 hbox hb;have n0_:=A_.mk (bt_ (beY HB.out) hb);have n1_:=A_.mk (hbox);have n2_:=A_.mk ((by rw [hg];exact(bz_ (beY HB.out)):w.heap.size≤gb314));have n3_:=A_.mk ((by rw [hg];exact(bz_ (beY HB.out)):w.heap.size≤gb314));clear HB;have HB:=n0_;have BK314:=n1_;have GW314:=n2_;have GE314:=n3_;clear n0_ n1_ n2_ n3_ hb hbox hg)|((with_reducible refine gd_ (N:=2) rfl ?_);refine by_ 2 (cs:=#[.int .i64 0,.slice none 0 0]) (t:=68) ?_;intro gb315 hg w4 hbox hb;have n0_:=A_.mk (bb_ (bY BK314.out) hb);have n1_:=A_.mk (bt_ ((zA_ HB GE314)) hb);have n2_:=A_.mk (hbox);have n3_:=A_.mk ((by rw [hg];exact(bz_ ((zA_ HB GE314))):w.heap.size≤gb315));have n4_:=A_.mk ((by rw [hg];exact(bz_ ((zA_ HB GE314))):w.heap.size≤gb315));have n5_:=A_.mk ((by rw [hg];exact Nat.ne_of_lt (aI (bY BK314.out)):gb314≠gb315));have n6_:=A_.mk ((by rw [hg];exact Nat.ne_of_gt (aI (bY BK314.out)):gb315≠gb314));clear BK314 HB;have BK314:=n0_;have HB:=n1_;have BK315:=n2_;have GW315:=n3_;have GE315:=n4_;have NB314_315:=n5_;have NB315_314:=n6_;clear n0_ n1_ n2_ n3_ n4_ n5_ n6_ hb hbox hg))
 have n0_:=A_.mk (bw_ BK314.out)
 have n1_:=A_.mk (bw_ BK315.out)
 have n2_:=A_.mk (be_ HB.out)
 clear BK314 BK315 HB
 have BK314:=n0_
 have BK315:=n1_
 have HB:=n2_
 clear n0_ n1_ n2_
 refine dN (n:=7) (S:=fun w'=>w'.cell? ⟨gb314,0,none⟩=some (.int .i64 a0_0)∧w'.cell? ⟨gb314,1,none⟩=some (.slice A0_1 l0_1.length c0_1)) (ds:=[]) #[F,F,F,F,F,F,F] (by kernel_rfl) rfl rfl ⟨(bc_ BK314.out 0).trans rfl,(bc_ BK314.out 1).trans rfl⟩ (fun hHeld=>?_)
 generalize w4.drew=w5 at BK314 BK315 HB hHeld ⊢
 refine pd_ (i:=0) (N:=some 3) #[T,F,F,F,F,F,F] rfl ?_
 refine pd_ (i:=2) (N:=some 5) #[T,F,T,F,F,F,F] rfl ?_
 refine tl_ (i:=1) (N:=some 4) #[T,T,T,F,F,F,F] rfl hHeld ?_
 refine tl_ (i:=3) (N:=some 6) #[T,T,T,T,F,F,F] rfl hHeld ?_
 refine on_ (i:=4) (N:=some 7) #[T,T,T,T,T,F,F] rfl (fun K hK=>?_)
 refine gz_ Tryz.func76 #[.slice A0_1 l0_1.length c0_1] ?_
 with_reducible refine (ai.calls _ _ l0_1 t316 _ ?side1 ?side2 A2.out).mono ?_
 (case side1=>exact cY ((cb_ HR0_1 HB)))
 (case side2=>exact HC0_1.out)
 rintro e w6 ⟨v317,rfl,ho0,hb⟩
 refine⟨_,rfl,?_⟩
 have n0_:=A_.mk (Kd.bR ho0 (bz_ ((zB_ HB GE314 GE315))))
 have n1_:=A_.mk (bb_ (bY BK314.out) hb)
 have n2_:=A_.mk (bb_ (bY BK315.out) hb)
 have n3_:=A_.mk (bt_ ((zB_ HB GE314 GE315)) hb)
 clear BK314 BK315 HB
 have HO318:=n0_
 have BK314:=n1_
 have BK315:=n2_
 have HB:=n3_
 clear n0_ n1_ n2_ n3_
 obtain⟨Ao7,co7,eo7⟩:=Kd.aX HO318.out
 (first|subst eo7|(injection eo7 with f1_ f2_ f3_;have f4_:=f1_.symm;have f5_:=f3_.symm;clear f1_ f2_ f3_;subst f4_;subst f5_))
 refine hK.out _ _ ⟨(bc_ BK314.out 0).trans rfl,(bc_ BK314.out 1).trans rfl⟩ (fun hHeld=>?_)
 clear hK K
 refine nm_ ?_
 refine pd_ (i:=5) (N:=some 8) #[T,T,T,T,T,T,F] rfl ?_
 refine on_ (i:=6) (N:=none) #[T,T,T,T,T,T,T] rfl (fun K hK=>?_)
 have hs8:w6.cell? ⟨gb315,0,none⟩=some (.int .i64 0):=(bc_ BK315.out 0).trans rfl
 have hfs8:=bf_ BK315.out 0
 have hns8_0:=NB314_315.out
 have hms8_0:=NB315_314.out
 have hs9:w6.cell? ⟨gb315,1,none⟩=some (.slice none 0 0):=(bc_ BK315.out 1).trans rfl
 have hfs9:=bf_ BK315.out 1
 have hns9_0:=NB314_315.out
 have hms9_0:=NB315_314.out
 refine fT (w1:=?_) (by rfl) rfl ?_ ?_
 rotate_left
 ·go_simp
  rfl
 refine hK.out _ _ ⟨((cell_far (p:=⟨gb315,_,none⟩) NB314_315.out _).trans (((cell_far (p:=⟨gb315,_,none⟩) NB314_315.out _).trans (hHeld.1)))),((cell_far (p:=⟨gb315,_,none⟩) NB314_315.out _).trans (((cell_far (p:=⟨gb315,_,none⟩) NB314_315.out _).trans (hHeld.2))))⟩ (fun hHeld=>?_)
 clear hK K
 refine fA (by kernel_rfl) ?_
 try go_wp2
 refine bodyPost_ret (results_cell_row rfl _ _ gb315 68 #[.int .i64 a0_0,.slice Ao7 t316.length co7] (0,0) _ rfl (by (repeat apply bX);refine bp_ (cs:=#[.int .i64 a0_0,.slice none 0 0]) ?_ 1 _ rfl;(repeat apply bX);refine bp_ (cs:=#[.int .i64 0,.slice none 0 0]) ?_ 0 _ rfl;(repeat apply bX);exact BK315.out) Tryz.underlying68 rfl (by kernel_rfl)) rfl ?_
 exact⟨_,re_,by (repeat apply rX);exact Kd.aC (Kd.nO (p:=⟨gb315,1,none⟩) (Kd.nO (p:=⟨gb315,0,none⟩) (Kd.mW HO318.out BK315.out (by decide)) (fun _ hk=>hk.2) (.int .i64 a0_0)) (fun _ hk=>hk.2) (.slice Ao7 t316.length co7)) (fun _ hk=>trivial),(zB_ HB GE314 GE315)⟩
end Go.Proofs.YtmdehehgmnihpaaGreat.PFnExactLinkStep
