import Derived.Test.YtmdehehgmnihpaaGreatPFnExactLinkStepx2
namespace Go.Proofs.YtmdehehgmnihpaaGreat.PFnExactLinkStep
open Go.RowKit Go.Proofs.YtmdehehgmnihpaaGreatW.PrintWords Go.Proofs.YtmdehehgmnihpaaGreatW.PrintLast Go.Proofs.YtmdehehgmnihpaaGreatW.PrintMore
attribute [local go_sem] dM dL eu ek dn dm dJ dK
set_option maxHeartbeats 8000000
set_option maxRecDepth 100000
set_option linter.unusedVariables false
set_option linter.unusedSimpArgs false
def eZ.f(k:Nat)(a0_0:Int)(l0_1:List (S68))(a0_2:Int):Option ((Int)×(List (S68))×(Int)×(Int)×(List Int)×(Bool)):=((aG.f k a0_0 l0_1 a0_2).bind fun ⟨t1,t2,t3⟩=>((au.f k a0_0 l0_1 a0_2).bind fun t4=>(if t4=true then (if a0_2=(l0_1.length:Int) then (some (t1,t2,t3,0,[],false)) else (if 0≤a0_2 then (if a0_2<(l0_1.length:Int) then ((df.f ((ay l0_1 a0_2).f0) ((ay l0_1 a0_2).f1)).bind fun ⟨t5,t6⟩=>(some (t1,t2,(wrap64 (a0_2+1)),t5,t6,true))) else none) else none)) else (some (t1,t2,t3,0,[],false)))))
theorem eZ.calls(k:Nat)(a0_0:Int)(A0_1:Option Addr)(c0_1:Nat)(l0_1:List (S68))(a0_2:Int)(r1:Int)(r2:List (S68))(r3:Int)(r4:Int)(r5:List Int)(r6:Bool)(w:World)(hr0_1:Kd.C k68 w A0_1 l0_1.length l0_1)(hc0_1:l0_1.length≤c0_1)(h:eZ.f k a0_0 l0_1 a0_2=some (r1,r2,r3,r4,r5,r6)) :
  Calls Tryz.prog 30 #[.agg #[.int .i64 a0_0,.slice A0_1 l0_1.length c0_1,.int .i64 a0_2]] w fun e w'=>∃ v0_ v1_:Value,e=.returned (.tuple #[.agg #[.int .i64 r1,v0_,.int .i64 r3],.agg #[.int .i64 r4,v1_],.bool r6])∧Kd.V k68 68 w' w.heap.size (fun k_=>w.heap.size≤k_) v0_ r2∧Kd.V (Kd.int .i64) 3 w' w.heap.size (fun k_=>w.heap.size≤k_) v1_ r5∧Below w.heap.size w w':=by
 have HR0_1:=A_.mk hr0_1
 have HC0_1:=A_.mk hc0_1
 have HW0_1:=A_.mk hr0_1
 clear hr0_1 hc0_1
 have HB:=A_.mk (Below.refl w.heap.size w)
 unfold eZ.f at h
 have H:=h
 clear h
 replace H:=oa_ H
 obtain⟨⟨t1,t2,t3⟩,A4,H⟩:=H
 try dsimp only at H
 replace H:=oa_ H
 obtain⟨t4,A7,H⟩:=H
 replace H:=A_.mk H
 have hu36:=Tryz.underlying36
 have hu68:=Tryz.underlying68
 go_enter Tryz.func30,Tryz.ntmps30
 have HS:=A_.mk (Nat.le_refl w.heap.size)
 go_wp2_with (first|((with_reducible refine gd_ (N:=1) rfl ?_);refine by_ 1 (cs:=#[.int .i64 a0_0,.slice A0_1 l0_1.length c0_1,.int .i64 a0_2]) (t:=36) ?_;intro gb1_ hg w1_ hbox hb;replace HS:=aHg HS hg hbox;replace HB:=aHB HB hb;have BK1:=A_.mk hbox;clear hbox hb hg)|((with_reducible refine gd_ (N:=2) rfl ?_);refine by_ 2 (cs:=#[.int .i64 0,.slice none 0 0,.int .i64 0]) (t:=36) ?_;intro gb2_ hg w2_ hbox hb;replace HS:=aHg HS hg hbox;replace BK1:=aBb BK1 hb;replace HB:=aHB HB hb;have BK2:=A_.mk hbox;clear hbox hb hg)|((with_reducible refine gd_ (N:=3) rfl ?_);refine by_ 3 (cs:=#[.int .i64 0,.slice none 0 0]) (t:=68) ?_;intro gb3_ hg w3_ hbox hb;replace HS:=aHg HS hg hbox;revert BK1 HB BK2;refine aD hb ?_;intro BK1 HB BK2;have BK3:=A_.mk hbox;clear hbox hb hg;have Q1:=av BK1.out)|((with_reducible refine gc_ (f:=60) rfl ?_);refine gl_ (some 7) Tryz.func60 #[.agg #[.int .i64 a0_0,.slice A0_1 l0_1.length c0_1,.int .i64 a0_2]] ?_;(with_reducible refine (aG.calls k a0_0 _ _ l0_1 a0_2 t1 t2 t3 _ (cb_ HR0_1 HB) HC0_1.out A4.out).mono ?_);rintro e w4_ ⟨v1_,rfl,ho0_,hb⟩;refine⟨_,rfl,?_⟩;replace HS:=aHs HS hb.size;obtain⟨Ao4_1,co4_1,rfl,HO4_1⟩:=sSm ho0_ HB.out.size;revert BK1 HB BK2 BK3;refine aD hb ?_;intro BK1 HB BK2 BK3;clear hb ho0_ Q1)|((with_reducible refine gd_ (N:=5) rfl ?_);refine by_ 5 (cs:=#[.int .i64 0,.slice none 0 0,.int .i64 0]) (t:=36) ?_;intro gb5_ hg w5_ hbox hb;replace HS:=aHg HS hg hbox;revert HO4_1 BK1 HB BK2 BK3;refine aD hb ?_;intro HO4_1 BK1 HB BK2 BK3;have BK5:=A_.mk hbox;clear hbox hb hg;have Q5:=av BK5.out)|((with_reducible refine ae (t:=36) (p:=5) rfl ?_);obtain⟨qf0,qf1,qf2⟩:=eT BK5;refine so_ (w1:=(iN w5_ gb5_ (.int .i64 t1) (.slice Ao4_1 t2.length co4_1) (.int .i64 t3))) ?_;intro w6_ hw;clear qf0 qf1 qf2;obtain⟨hbx,hkp,hbb⟩:=iT hw BK5 HB (ho_ HS);clear hw;revert HO4_1 BK1 BK2 BK3;refine bC hkp HS ?_;intro HO4_1 BK1 BK2 BK3;replace BK5:=A_.mk hbx;replace HB:=A_.mk hbb;replace HS:=aHs HS hkp.1;clear hkp hbb hbx Q5;have Q1:=av BK1.out))
 refine(au.calls k a0_0 _ _ l0_1 a0_2 t4 _ (cb_ HR0_1 HB) HC0_1.out A7.out).mono ?_
 rintro e w7_ ⟨rfl,hb⟩
 revert HO4_1 BK1 BK2 BK3 BK5 HB HS
 refine aD hb ?_
 intro HO4_1 BK1 BK2 BK3 BK5 HB HS
 clear hb  Q1
 have Q1:=av BK1.out
 have Q2:=av BK2.out
 have Q3:=ak BK3.out
 have Q5:=av BK5.out
 replace H:=H.out
 by_cases hc1_:t4=true
 case neg =>
  rw [if_neg hc1_] at H
  replace hc1_:=eq_false_of_ne_true hc1_
  subst hc1_
  replace H:=uj H
  obtain⟨rfl,rfl,rfl,rfl,rfl,rfl⟩:=H
  go_wp2_with (first|((with_reducible refine ae (t:=36) (p:=2) rfl ?_);obtain⟨qf0,qf1,qf2⟩:=eT BK2;refine so_ (w1:=(iN w7_ gb2_ (.int .i64 t1) (.slice Ao4_1 t2.length co4_1) (.int .i64 t3))) ?_;intro w15_ hw;clear qf0 qf1 qf2;obtain⟨hbx,hkp,hbb⟩:=iT hw BK2 HB (ho_ HS);clear hw;replace HO4_1:=aSk HO4_1 hkp HS;replace BK3:=aBk BK3 hkp HS;replace BK2:=A_.mk hbx;replace HB:=A_.mk hbb;replace HS:=aHs HS hkp.1;clear hkp hbb hbx Q1 Q2 Q3 Q5;have Q3:=ak BK3.out)|((with_reducible refine ae (t:=68) (p:=3) rfl ?_);obtain⟨qf0,qf1⟩:=dO BK3;refine so_ (w1:=(jv w15_ gb3_ (.int .i64 0) (.slice none 0 0))) ?_;intro w16_ hw;clear qf0 qf1;obtain⟨hbx,hkp,hbb⟩:=jA hw BK3 HB (ho_ HS);clear hw;replace HO4_1:=aSk HO4_1 hkp HS;replace BK2:=aBk BK2 hkp HS;replace BK3:=A_.mk hbx;replace HB:=A_.mk hbb;replace HS:=aHs HS hkp.1;clear hkp hbb hbx Q3))
  refine bodyPost_ret (jy rfl _ _ gb2_ 36 _ (0,0) _ rfl BK2.out Tryz.underlying36 rfl (by kernel_rfl) gb3_ 68 #[.int .i64 0,.slice none 0 0] (0,0) _ rfl BK3.out Tryz.underlying68 rfl (by kernel_rfl)) rfl ?_
  exact⟨_,_,rfl,Kd.aW (Kd.S_V HO4_1.out) (hk_ HS),Kd.jY _ _ _ _ _,HB.out⟩
 rw [if_pos hc1_] at H
 subst hc1_
 by_cases hc2_:a0_2=(l0_1.length:Int)
 case pos =>
  rw [if_pos hc2_] at H
  have hc2_b1:(a0_2==l0_1.length)=true:=by first|simpa using hc2_|(simp at hc2_ ⊢;omega)
  replace hc2_:=iF hc2_
  replace H:=uj H
  obtain⟨rfl,rfl,rfl,rfl,rfl,rfl⟩:=H
  go_wp2_with (first|((with_reducible refine ae (t:=36) (p:=2) rfl ?_);obtain⟨qf0,qf1,qf2⟩:=eT BK2;refine so_ (w1:=(iN w7_ gb2_ (.int .i64 t1) (.slice Ao4_1 t2.length co4_1) (.int .i64 t3))) ?_;intro w8_ hw;clear qf0 qf1 qf2;obtain⟨hbx,hkp,hbb⟩:=iT hw BK2 HB (ho_ HS);clear hw;replace HO4_1:=aSk HO4_1 hkp HS;replace BK3:=aBk BK3 hkp HS;replace BK2:=A_.mk hbx;replace HB:=A_.mk hbb;replace HS:=aHs HS hkp.1;clear hkp hbb hbx Q1 Q2 Q3 Q5;have Q3:=ak BK3.out)|((with_reducible refine ae (t:=68) (p:=3) rfl ?_);obtain⟨qf0,qf1⟩:=dO BK3;refine so_ (w1:=(jv w8_ gb3_ (.int .i64 0) (.slice none 0 0))) ?_;intro w9_ hw;clear qf0 qf1;obtain⟨hbx,hkp,hbb⟩:=jA hw BK3 HB (ho_ HS);clear hw;replace HO4_1:=aSk HO4_1 hkp HS;replace BK2:=aBk BK2 hkp HS;replace BK3:=A_.mk hbx;replace HB:=A_.mk hbb;replace HS:=aHs HS hkp.1;clear hkp hbb hbx Q3))
  refine bodyPost_ret (jy rfl _ _ gb2_ 36 _ (0,0) _ rfl BK2.out Tryz.underlying36 rfl (by kernel_rfl) gb3_ 68 #[.int .i64 0,.slice none 0 0] (0,0) _ rfl BK3.out Tryz.underlying68 rfl (by kernel_rfl)) rfl ?_
  exact⟨_,_,rfl,Kd.aW (Kd.S_V HO4_1.out) (hk_ HS),Kd.jY _ _ _ _ _,HB.out⟩
 rw [if_neg hc2_] at H
 have hc2_b:=iE hc2_
 have hc2_b1:(a0_2==l0_1.length)=false:=by first|simpa using hc2_|(simp at hc2_ ⊢;omega)
 replace H:=ky H
 obtain⟨hp11_,hq11_,H⟩:=H
 have EB11:=A_.mk (And.intro hp11_ hq11_)
 obtain⟨ad11_,A11_1,c11_1,eA_,hx0_,hx1_,hl1_,hi1_⟩:=iq HW0_1.out a0_2 hp11_ hq11_
 subst eA_
 have HX11:=A_.mk (And.intro hx0_ hx1_)
 have HE11_1:=A_.mk hi1_
 have HD11_1:=A_.mk hl1_
 clear hx0_ hx1_ hl1_ hi1_
 replace hp11_:=eq_true hp11_
 replace hq11_:=eq_true hq11_
 replace H:=oa_ H
 obtain⟨⟨t5,t6⟩,A12,H⟩:=H
 try dsimp only at H
 replace H:=uj H
 obtain⟨rfl,rfl,rfl,rfl,rfl,rfl⟩:=H
 go_wp2_with (first|((with_reducible refine ae (t:=3) (p:=24) rfl ?_);have qf0:=bf_ BK5.out 2;refine so_ (w1:=(w7_.setCell ⟨gb5_,2,none⟩ (.int .i64 (wrap64 (a0_2+1))))) ?_;intro w10_ hw;clear qf0;obtain⟨hbx,hkp,hbb⟩:=nu hw BK5 HB (ho_ HS);clear hw;replace HO4_1:=aSk HO4_1 hkp HS;replace BK1:=aBk BK1 hkp HS;replace BK2:=aBk BK2 hkp HS;replace BK3:=aBk BK3 hkp HS;replace BK5:=A_.mk hbx;replace HB:=A_.mk hbb;replace HS:=aHs HS hkp.1;clear hkp hbb hbx Q1 Q2 Q3 Q5))
 refine dN (n:=11) (S:=fun w'=>(w'.cell? ⟨gb1_,0,none⟩=some (.int .i64 a0_0)∧w'.cell? ⟨gb1_,1,none⟩=some (.slice (some ad11_) l0_1.length c0_1)∧w'.cell? ⟨gb1_,2,none⟩=some (.int .i64 a0_2))∧(w'.cell? ⟨gb5_,0,none⟩=some (.int .i64 t1)∧w'.cell? ⟨gb5_,1,none⟩=some (.slice Ao4_1 t2.length co4_1)∧w'.cell? ⟨gb5_,2,none⟩=some (.int .i64 (wrap64 (a0_2+1))))∧(w'.cell? (ad11_.add ((a0_2).toNat*2))=some (.int .i64 ((ay l0_1 a0_2).f0))∧w'.cell? ⟨(ad11_.add ((a0_2).toNat*2)).block,(ad11_.add ((a0_2).toNat*2)).off+1,none⟩=some (.slice A11_1 ((ay l0_1 a0_2).f1).length c11_1))) (ds:=[8,9]) #[F,F,F,F,F,F,F,F,F,F,F] (by kernel_rfl) rfl rfl ⟨av BK1.out,av BK5.out,oJ (aV HB.out) HX11.out⟩ (fun hHeld=>?_)
 have hb:=aV (Below.refl w10_.heap.size w10_)
 revert HO4_1 BK1 BK2 BK3 BK5 HB HS
 refine aD hb ?_
 intro HO4_1 BK1 BK2 BK3 BK5 HB HS
 clear hb
 generalize w10_.drew=w17d_ at HO4_1 BK1 BK2 BK3 BK5 HB HS hHeld ⊢
 refine tl_ (i:=0) (N:=some 25) #[T,F,F,F,F,F,F,F,F,F,F] rfl hHeld ?_
 refine pd_ (i:=1) (N:=some 26) #[T,T,F,F,F,F,F,F,F,F,F] rfl ?_
 refine tl_ (i:=2) (N:=some 27) #[T,T,T,F,F,F,F,F,F,F,F] rfl hHeld ?_
 refine pd_ (i:=3) (N:=some 28) #[T,T,T,T,F,F,F,F,F,F,F] rfl ?_
 refine tl_ (i:=4) (N:=some 29) #[T,T,T,T,T,F,F,F,F,F,F] rfl hHeld ?_
 refine pd_ (i:=5) (N:=some 30) #[T,T,T,T,T,T,F,F,F,F,F] rfl ?_
 refine tl_ (i:=6) (N:=some 31) #[T,T,T,T,T,T,T,F,F,F,F] rfl hHeld ?_
 refine on_ (i:=7) (N:=some 32) #[T,T,T,T,T,T,T,T,F,F,F] rfl (fun K hK=>?_)
 refine gz_ Tryz.func67 #[.agg #[.int .i64 ((ay l0_1 a0_2).f0),.slice A11_1 ((ay l0_1 a0_2).f1).length c11_1]] ?_
 with_reducible refine (df.calls ((ay l0_1 a0_2).f0) _ _ ((ay l0_1 a0_2).f1) t5 t6 _ (cb_ HE11_1 HB) HD11_1.out A12.out).mono ?_
 rintro e w12_ ⟨v1_,rfl,ho0_,hb⟩
 refine⟨_,rfl,?_⟩
 replace HS:=aHs HS hb.size
 obtain⟨Ao12_1,co12_1,rfl,HO12_1⟩:=sRm ho0_ HB.out.size
 revert HO4_1 BK1 BK2 BK3 BK5 HB
 refine aD hb ?_
 intro HO4_1 BK1 BK2 BK3 BK5 HB
 clear hb ho0_
 refine hK.out _ _ ⟨av BK1.out,av BK5.out,oJ HB.out HX11.out⟩ (fun hHeld=>?_)
 clear hK K
 refine nm_ ?_
 refine gG (i:=8) (N:=none) #[T,T,T,T,T,T,T,T,T,F,F] rfl rfl (by kernel_rfl) (by decide) (fun K hK=>?_)
 have Q1:=av BK1.out
 have Q2:=av BK2.out
 have Q3:=ak BK3.out
 have Q5:=av BK5.out
 obtain⟨qf0,qf1,qf2⟩:=eT BK2
 obtain⟨w13_,hw⟩:=lw_ ((iN w12_ gb2_ (.int .i64 t1) (.slice Ao4_1 t2.length co4_1) (.int .i64 (wrap64 (a0_2+1)))))
 refine fT (w1:=w13_) (by rfl) rfl ?_ ?_
 ·rw [hw];go_simp;try rfl
 refine hK.out _ _ ?_
 clear hK K qf0 qf1 qf2 Q1 Q2 Q3 Q5
 obtain⟨hbx,hkp,hbb⟩:=iT hw BK2 HB (ho_ HS)
 clear hw
 revert HO12_1 HO4_1 BK1 BK3 BK5
 refine bC hkp HS ?_
 intro HO12_1 HO4_1 BK1 BK3 BK5
 replace BK2:=A_.mk hbx
 replace HB:=A_.mk hbb
 replace HS:=aHs HS hkp.1
 clear hkp hbb hbx
 refine gG (i:=9) (N:=none) #[T,T,T,T,T,T,T,T,T,T,F] rfl rfl (by kernel_rfl) (by decide) (fun K hK=>?_)
 have Q1:=av BK1.out
 have Q2:=av BK2.out
 have Q3:=ak BK3.out
 have Q5:=av BK5.out
 obtain⟨qf0,qf1⟩:=dO BK3
 obtain⟨w14_,hw⟩:=lw_ ((jv w13_ gb3_ (.int .i64 t5) (.slice Ao12_1 t6.length co12_1)))
 refine fT (w1:=w14_) (by rfl) rfl ?_ ?_
 ·rw [hw];go_simp;try rfl
 refine hK.out _ _ ?_
 clear hK K qf0 qf1 Q1 Q2 Q3 Q5
 obtain⟨hbx,hkp,hbb⟩:=jA hw BK3 HB (ho_ HS)
 clear hw
 revert HO12_1 HO4_1 BK1 BK5 BK2
 refine bC hkp HS ?_
 intro HO12_1 HO4_1 BK1 BK5 BK2
 replace BK3:=A_.mk hbx
 replace HB:=A_.mk hbb
 replace HS:=aHs HS hkp.1
 clear hkp hbb hbx
 refine pd_ (i:=10) (N:=some 4) #[T,T,T,T,T,T,T,T,T,T,T] rfl ?_
 refine fA (by kernel_rfl) ?_
 go_wp2
 refine bodyPost_ret (jy rfl _ _ gb2_ 36 _ (0,0) _ rfl BK2.out Tryz.underlying36 rfl (by kernel_rfl) gb3_ 68 #[.int .i64 t5,.slice Ao12_1 t6.length co12_1] (0,0) _ rfl BK3.out Tryz.underlying68 rfl (by kernel_rfl)) rfl ?_
 exact⟨_,_,rfl,Kd.aW (Kd.S_V HO4_1.out) (hk_ HS),Kd.aW (Kd.R_V HO12_1.out) (hk_ HS),HB.out⟩
mutual
def aH.l0:Nat→List Int→Int→Int→Option (Int)
 | 0,_,_,_=>none
 | k+1,x0,x3,x4=>if x4<(x0.length:Int) then (if 0≤x4 then (aH.l1 k x0 (Go.bits .xor .i64 x3 (wrap64 ((rd x0 x4)*256))) x4 0) else (none)) else (some x3)
def aH.l1:Nat→List Int→Int→Int→Int→Option (Int)
 | 0,_,_,_,_=>none
 | k+1,x0,x3,x4,x5=>if x5<8 then (if (wrap64 (x3*2)) > 65535 then (aH.l1 k x0 (Go.bits .xor .i64 (wrap64 (x3*2)) 69665) x4 (wrap64 (x5+1))) else (aH.l1 k x0 (wrap64 (x3*2)) x4 (wrap64 (x5+1)))) else (aH.l0 k x0 x3 (wrap64 (x4+1)))
end
def aH.f(k:Nat)(l0:List Int):Option (Int):=(aj.f k l0).bind fun t156=>(if t156=true then (aH.l0 k l0 65535 0) else (some (-1)))
theorem aH.calls(k:Nat)(A0:Option Addr)(c0:Nat)(l0:List Int)(r:Int)(w:World)(hr0:Kd.C (Kd.int .i64) w A0 l0.length l0)(hc0:l0.length≤c0)(h:aH.f k l0=some r) :
  Calls Tryz.prog 100 #[.slice A0 l0.length c0] w fun e w'=>e=.returned (.int .i64 r)∧Drawn0 w w':=by
 have HR0:=A_.mk hr0
 have HC0:=A_.mk hc0
 clear hr0 hc0
 have H:((aj.f k l0).bind fun t156=>(if t156=true then (aH.l0 k l0 65535 0) else (some (-1))))=some r:=h
 clear h
 replace H:=oa_ H
 obtain⟨t156,A2,H⟩:=H
 by_cases c3:t156=true
 rotate_left
 ·replace c3:=Bool.eq_false_iff.mpr c3
  subst c3
  have H1:(some (-1))=some r:=by rw [if_neg (show ¬ (false=true) by decide)] at H;exact H
  clear H
  have H:=H1
  clear H1
  obtain rfl:=Option.some.inj H
  go_enter Tryz.func100,Tryz.ntmps100
  go_wp2_with (first|((with_reducible refine gc_ (f:=64) rfl ?_);refine gl_ (some 7) Tryz.func64 #[.slice A0 l0.length c0] ?_;(with_reducible refine (aj.calls k _ _ l0 false _ ?side1 ?side2 A2.out).mono ?_);(case side1=>exact cY (HR0.out));(case side2=>exact HC0.out);rintro e w' ⟨rfl,⟨nd,rfl⟩⟩;refine⟨_,rfl,?_⟩))
  go_ret
  exact dz_
 subst c3
 have H1:(aH.l0 k l0 65535 0)=some r:=by rw [if_pos rfl] at H;exact H
 clear H
 have H:=H1
 clear H1
 have H':=A_.mk H
 clear H
 go_enter Tryz.func100,Tryz.ntmps100
 go_wp2_with (first|((with_reducible refine gc_ (f:=64) rfl ?_);refine gl_ (some 7) Tryz.func64 #[.slice A0 l0.length c0] ?_;(with_reducible refine (aj.calls k _ _ l0 true _ ?side1 ?side2 A2.out).mono ?_);(case side1=>exact cY (HR0.out));(case side2=>exact HC0.out);rintro e w' ⟨rfl,⟨nd,rfl⟩⟩;refine⟨_,rfl,?_⟩))
 go_loopg [3,4] k (fun kq v3 v4 w'=>∃ (x3_1:Int) (x4_1:Int),v3=.int .i64 x3_1∧v4=.int .i64 x4_1∧A_ (aH.l0 kq l0 x3_1 x4_1=some r)∧A_ (kq≤k)∧Drawn0 w w')
 case atStart=>exact ⟨(65535),(0),rs_,rs_,H',⟨Nat.le_refl _⟩,by repeat (first|exact Drawn0.refl _|apply Drawn0.step)⟩
 case round =>
  clear H'
  obtain⟨x3_1,x4_1,rfl,rfl,HA,HK1,⟨m1,rfl⟩⟩:=hrel
  cases gk with
  | zero=>exact absurd HA.out (by simp [aH.l0])
  | succ k1 =>
   have H:=HA.out
   clear HA
   simp only [aH.l0] at H
   by_cases c4:x4_1<(l0.length:Int)
   rotate_left
   ·rw [if_neg c4] at H
    have c4b0:=decide_eq_false c4
    clear c4
    obtain rfl:=Option.some.inj H
    go_wp2
    go_ret
    exact dz_
   rw [if_pos c4] at H
   have c4b0:=decide_eq_true c4
   clear c4
   by_cases c5:0≤x4_1
   rotate_left
   ·rw [if_neg c5] at H
    exact absurd H (by simp)
   rw [if_pos c5] at H
   have c5b0:=decide_eq_true c5
   clear c5
   have H':=A_.mk H
   clear H
   have p157:0≤(x4_1:Int):=od_
   have q157:x4_1<(l0.length:Int):=od_
   obtain⟨ad157,e157,hx157_0⟩:=Kd.d9 HR0.out x4_1 p157 q157
   cases e157
   replace p157:=eq_true p157
   replace q157:=eq_true q157
   go_wp2
   go_loopg [3,5] k1 (fun kq v3 v5 w'=>∃ (x3_2:Int) (x5_2:Int),v3=.int .i64 x3_2∧v5=.int .i64 x5_2∧A_ (aH.l1 kq l0 x3_2 x4_1 x5_2=some r)∧A_ (kq≤k1)∧Drawn0 w w')
   case atStart=>exact ⟨(Go.bits .xor .i64 x3_1 (wrap64 ((rd l0 x4_1)*256))),(0),rs_,rs_,H',⟨Nat.le_refl _⟩,by repeat (first|exact Drawn0.refl _|apply Drawn0.step)⟩
   case round =>
    clear H'
    obtain⟨x3_2,x5_2,rfl,rfl,HA,HK2,⟨m2,rfl⟩⟩:=hrel
    cases gk with
    | zero=>exact absurd HA.out (by simp [aH.l1])
    | succ k2 =>
     have H:=HA.out
     clear HA
     simp only [aH.l1] at H
     by_cases c6:x5_2<8
     rotate_left
     ·rw [if_neg c6] at H
      have c6b0:=decide_eq_false c6
      clear c6
      have H':=A_.mk H
      clear H
      go_wp2
      go_roundg k2
      case measure=>have:=HK1.out;have:=HK2.out;omega
      case rel=>exact ⟨(x3_2),(wrap64 (x4_1+1)),rs_,rs_,H',⟨by have:=HK1.out;have:=HK2.out;omega⟩,by repeat (first|exact Drawn0.refl _|apply Drawn0.step)⟩
     rw [if_pos c6] at H
     have c6b0:=decide_eq_true c6
     clear c6
     by_cases c7:(wrap64 (x3_2*2)) > 65535
     rotate_left
     ·rw [if_neg c7] at H
      have c7b0:=decide_eq_false c7
      clear c7
      have H':=A_.mk H
      clear H
      go_wp2
      go_roundg k2
      case measure=>have:=HK1.out;have:=HK2.out;omega
      case rel=>exact ⟨(wrap64 (x3_2*2)),(wrap64 (x5_2+1)),rs_,rs_,H',⟨by have:=HK1.out;have:=HK2.out;omega⟩,by repeat (first|exact Drawn0.refl _|apply Drawn0.step)⟩
     rw [if_pos c7] at H
     have c7b0:=decide_eq_true c7
     clear c7
     have H':=A_.mk H
     clear H
     go_wp2
     go_roundg k2
     case measure=>have:=HK1.out;have:=HK2.out;omega
     case rel=>exact ⟨(Go.bits .xor .i64 (wrap64 (x3_2*2)) 69665),(wrap64 (x5_2+1)),rs_,rs_,H',⟨by have:=HK1.out;have:=HK2.out;omega⟩,by repeat (first|exact Drawn0.refl _|apply Drawn0.step)⟩
def fe.f(k:Nat)(l0:List Int):Option (List Int):=(aj.f k l0).bind fun t158=>(if t158=true then (if (l0.length:Int) > 38 then (some (([]:List Int))) else ((aH.f k l0).bind fun t162=>((some (([]:List Int):List Int)).bind fun y163=>(if y163.length+l0.length<17592186044416 then ((some (y163++l0:List Int)).bind fun y166=>((some (([wrap64 (Int.tdiv t162 256),Int.tmod t162 256]:List Int):List Int)).bind fun y169=>(if y166.length+y169.length<17592186044416 then (some (y166++y169)) else (none)))) else (none))))) else (some (([]:List Int))))
theorem fe.calls(k:Nat)(A0:Option Addr)(c0:Nat)(l0:List Int)(r:List Int)(w:World)(hr0:Kd.C (Kd.int .i64) w A0 l0.length l0)(hc0:l0.length≤c0)(h:fe.f k l0=some r) :
  Calls Tryz.prog 68 #[.slice A0 l0.length c0] w fun e w'=>∃ v0_:Value,e=.returned (v0_)∧Kd.R (Kd.int .i64) 3 w' w.heap.size (fun _=>True) v0_ r∧Below w.heap.size w w':=by
 have HR0:=A_.mk hr0
 have HC0:=A_.mk hc0
 clear hr0 hc0
 have HB:=A_.mk (Below.refl w.heap.size w)
 have H:((aj.f k l0).bind fun t158=>(if t158=true then (if (l0.length:Int) > 38 then (some (([]:List Int))) else ((aH.f k l0).bind fun t162=>((some (([]:List Int):List Int)).bind fun y163=>(if y163.length+l0.length<17592186044416 then ((some (y163++l0:List Int)).bind fun y166=>((some (([wrap64 (Int.tdiv t162 256),Int.tmod t162 256]:List Int):List Int)).bind fun y169=>(if y166.length+y169.length<17592186044416 then (some (y166++y169)) else (none)))) else (none))))) else (some (([]:List Int)))))=some r:=h
 clear h
 replace H:=oa_ H
 obtain⟨t158,A2,H⟩:=H
 by_cases c3:t158=true
 rotate_left
 ·replace c3:=Bool.eq_false_iff.mpr c3
  subst c3
  have H1:(some (([]:List Int)))=some r:=by rw [if_neg (show ¬ (false=true) by decide)] at H;exact H
  clear H
  have H:=H1
  clear H1
  obtain⟨y175,hy175⟩:∃ y_:List Int,y_=(([]:List Int)):=⟨_,rfl⟩
  replace H:(some y175)=some r:=by first|(rw [hy175];with_reducible exact H)|(have H2_:=(Option.bind_some _ _).symm.trans H;rw [hy175];with_reducible exact H2_)|(have H2_:=(Option.bind_some _ _).symm.trans H;with_reducible exact H2_)|with_reducible exact H|(rw [hy175];exact H)|exact H
  have Ny175:=A_.mk hy175
  clear hy175
  obtain rfl:=Option.some.inj H
  go_enter Tryz.func68,Tryz.ntmps68
  go_wp2_with (first|((with_reducible refine gc_ (f:=64) rfl ?_);refine gl_ (some 5) Tryz.func64 #[.slice A0 l0.length c0] ?_;(with_reducible refine (aj.calls k _ _ l0 false _ ?side1 ?side2 A2.out).mono ?_);(case side1=>exact cY (HR0.out));(case side2=>exact HC0.out);rintro e w' ⟨rfl,⟨nd,rfl⟩⟩;refine⟨_,rfl,?_⟩)|((with_reducible refine gd_ (N:=12) rfl ?_);(try (refine bn (by rfl) ?_;dsimp only));refine Kd.iM (Kd.int .i64) _ 3 ?hg (N:=12) ?hd (xs:=([]:List Int)) (inner:=[]) (ok:=fun _=>True) (okp:=fun _=>True) ?hr ?hp (fun _ hk=>hk) trivial (Below.refl _ _) (Nat.le_refl _) (by simp) ?_;(case hd=>rfl);(case hg=>rfl);(case hr=>first|(go_simp;done)|(go_simp;rfl));(case hp=>exact (Reps.none _ _));intro v176 w17 ho18 hb hg_ hnew_;clear hg_ hnew_;(first|rw [←Ny175.out] at ho18|(simp only [Int.reduceToNat] at ho18;rw [←Ny175.out] at ho18));have n0_:=A_.mk (Kd.bR ho18 (bz_ (beY HB.out)));have n1_:=A_.mk (bt_ (beY HB.out) hb);clear HB;have HO177:=n0_;have HB:=n1_;clear n0_ n1_ hb ho18))
  go_ret
  exact⟨_,re_,by (repeat apply rX);exact HO177.out,beY HB.out⟩
 subst c3
 have H1:(if (l0.length:Int) > 38 then (some (([]:List Int))) else ((aH.f k l0).bind fun t162=>((some (([]:List Int):List Int)).bind fun y163=>(if y163.length+l0.length<17592186044416 then ((some (y163++l0:List Int)).bind fun y166=>((some (([wrap64 (Int.tdiv t162 256),Int.tmod t162 256]:List Int):List Int)).bind fun y169=>(if y166.length+y169.length<17592186044416 then (some (y166++y169)) else (none)))) else (none)))))=some r:=by rw [if_pos rfl] at H;exact H
 clear H
 have H:=H1
 clear H1
 by_cases c4:(l0.length:Int) > 38
 ·rw [if_pos c4] at H
  have c4b0:=decide_eq_true c4
  have c4b1:decide (38<l0.length)=true:=decide_eq_true (by omega)
  clear c4
  obtain⟨y159,hy159⟩:∃ y_:List Int,y_=(([]:List Int)):=⟨_,rfl⟩
  replace H:(some y159)=some r:=by first|(rw [hy159];with_reducible exact H)|(have H2_:=(Option.bind_some _ _).symm.trans H;rw [hy159];with_reducible exact H2_)|(have H2_:=(Option.bind_some _ _).symm.trans H;with_reducible exact H2_)|with_reducible exact H|(rw [hy159];exact H)|exact H
  have Ny159:=A_.mk hy159
  clear hy159
  obtain rfl:=Option.some.inj H
  go_enter Tryz.func68,Tryz.ntmps68
  go_wp2_with (first|((with_reducible refine gc_ (f:=64) rfl ?_);refine gl_ (some 5) Tryz.func64 #[.slice A0 l0.length c0] ?_;(with_reducible refine (aj.calls k _ _ l0 true _ ?side1 ?side2 A2.out).mono ?_);(case side1=>exact cY (HR0.out));(case side2=>exact HC0.out);rintro e w' ⟨rfl,⟨nd,rfl⟩⟩;refine⟨_,rfl,?_⟩)|((with_reducible refine gd_ (N:=12) rfl ?_);(try (refine bn (by rfl) ?_;dsimp only));refine Kd.iM (Kd.int .i64) _ 3 ?hg (N:=12) ?hd (xs:=([]:List Int)) (inner:=[]) (ok:=fun _=>True) (okp:=fun _=>True) ?hr ?hp (fun _ hk=>hk) trivial (Below.refl _ _) (Nat.le_refl _) (by simp) ?_;(case hd=>rfl);(case hg=>rfl);(case hr=>first|(go_simp;done)|(go_simp;rfl));(case hp=>exact (Reps.none _ _));intro v160 w5 ho6 hb hg_ hnew_;clear hg_ hnew_;(first|rw [←Ny159.out] at ho6|(simp only [Int.reduceToNat] at ho6;rw [←Ny159.out] at ho6));have n0_:=A_.mk (Kd.bR ho6 (bz_ (beY HB.out)));have n1_:=A_.mk (bt_ (beY HB.out) hb);clear HB;have HO161:=n0_;have HB:=n1_;clear n0_ n1_ hb ho6))
  go_ret
  exact⟨_,re_,by (repeat apply rX);exact HO161.out,beY HB.out⟩
 rw [if_neg c4] at H
 have c4b0:=decide_eq_false c4
 have c4b1:decide (38<l0.length)=false:=decide_eq_false (by omega)
 clear c4
 replace H:=oa_ H
 obtain⟨t162,A7,H⟩:=H
 obtain⟨y163,hy163⟩:∃ y_:List Int,y_=(([]:List Int)):=⟨_,rfl⟩
 replace H:(if y163.length+l0.length<17592186044416 then ((some (y163++l0:List Int)).bind fun y166=>((some (([wrap64 (Int.tdiv t162 256),Int.tmod t162 256]:List Int):List Int)).bind fun y169=>(if y166.length+y169.length<17592186044416 then (some (y166++y169)) else (none)))) else (none))=some r:=by first|(rw [hy163];with_reducible exact H)|(have H2_:=(Option.bind_some _ _).symm.trans H;rw [hy163];with_reducible exact H2_)|(have H2_:=(Option.bind_some _ _).symm.trans H;with_reducible exact H2_)|with_reducible exact H|(rw [hy163];exact H)|exact H
 have Ny163:=A_.mk hy163
 clear hy163
 by_cases c8:y163.length+l0.length<17592186044416
 rotate_left
 ·rw [if_neg c8] at H
  exact absurd H (by simp)
 rw [if_pos c8] at H
 have LMc8:=A_.mk c8
 clear c8
 obtain⟨y166,hy166⟩:∃ y_:List Int,y_=(y163++l0):=⟨_,rfl⟩
 replace H:((some (([wrap64 (Int.tdiv t162 256),Int.tmod t162 256]:List Int):List Int)).bind fun y169=>(if y166.length+y169.length<17592186044416 then (some (y166++y169)) else (none)))=some r:=by first|(rw [hy166];with_reducible exact H)|(have H2_:=(Option.bind_some _ _).symm.trans H;rw [hy166];with_reducible exact H2_)|(have H2_:=(Option.bind_some _ _).symm.trans H;with_reducible exact H2_)|with_reducible exact H|(rw [hy166];exact H)|exact H
 have Ny166:=A_.mk hy166
 clear hy166
 obtain⟨y169,hy169⟩:∃ y_:List Int,y_=(([wrap64 (Int.tdiv t162 256),Int.tmod t162 256]:List Int)):=⟨_,rfl⟩
 replace H:(if y166.length+y169.length<17592186044416 then (some (y166++y169)) else (none))=some r:=by first|(rw [hy169];with_reducible exact H)|(have H2_:=(Option.bind_some _ _).symm.trans H;rw [hy169];with_reducible exact H2_)|(have H2_:=(Option.bind_some _ _).symm.trans H;with_reducible exact H2_)|with_reducible exact H|(rw [hy169];exact H)|exact H
 have Ny169:=A_.mk hy169
 clear hy169
 by_cases c9:y166.length+y169.length<17592186044416
 rotate_left
 ·rw [if_neg c9] at H
  exact absurd H (by simp)
 rw [if_pos c9] at H
 have LMc9:=A_.mk c9
 clear c9
 obtain⟨y172,hy172⟩:∃ y_:List Int,y_=(y166++y169):=⟨_,rfl⟩
 replace H:(some y172)=some r:=by first|(rw [hy172];with_reducible exact H)|(have H2_:=(Option.bind_some _ _).symm.trans H;rw [hy172];with_reducible exact H2_)|(have H2_:=(Option.bind_some _ _).symm.trans H;with_reducible exact H2_)|with_reducible exact H|(rw [hy172];exact H)|exact H
 have Ny172:=A_.mk hy172
 clear hy172
 obtain rfl:=Option.some.inj H
 go_enter Tryz.func68,Tryz.ntmps68
 go_wp2_with (first|((with_reducible refine gc_ (f:=64) rfl ?_);refine gl_ (some 5) Tryz.func64 #[.slice A0 l0.length c0] ?_;(with_reducible refine (aj.calls k _ _ l0 true _ ?side1 ?side2 A2.out).mono ?_);(case side1=>exact cY (HR0.out));(case side2=>exact HC0.out);rintro e w' ⟨rfl,⟨nd,rfl⟩⟩;refine⟨_,rfl,?_⟩)|((with_reducible refine gc_ (f:=100) rfl ?_);refine gl_ (some 14) Tryz.func100 #[.slice A0 l0.length c0] ?_;(with_reducible refine (aH.calls k _ _ l0 t162 _ ?side1 ?side2 A7.out).mono ?_);(case side1=>exact cY (HR0.out));(case side2=>exact HC0.out);rintro e w' ⟨rfl,⟨nd,rfl⟩⟩;refine⟨_,rfl,?_⟩)|((with_reducible refine gd_ (N:=15) rfl ?_);(try (refine bn (by rfl) ?_;dsimp only));refine Kd.iM (Kd.int .i64) _ 3 ?hg (N:=15) ?hd (xs:=([]:List Int)) (inner:=[]) (ok:=fun _=>True) (okp:=fun _=>True) ?hr ?hp (fun _ hk=>hk) trivial (Below.refl _ _) (Nat.le_refl _) (by simp) ?_;(case hd=>rfl);(case hg=>rfl);(case hr=>first|(go_simp;done)|(go_simp;rfl));(case hp=>exact (Reps.none _ _));intro v164 w10 ho11 hb hg_ hnew_;clear hg_ hnew_;(first|rw [←Ny163.out] at ho11|(simp only [Int.reduceToNat] at ho11;rw [←Ny163.out] at ho11));have n0_:=A_.mk (Kd.bR ho11 (bz_ (beY HB.out)));have n1_:=A_.mk (bt_ (beY HB.out) hb);clear HB;have HO165:=n0_;have HB:=n1_;clear n0_ n1_ hb ho11)|((with_reducible refine cz (b:=.append) (xs:=#[.tmp 15,.tmp 16]) rfl ?_);(try (refine bn (by rfl) ?_;dsimp only));at_builtin;refine Kd.dW (Kd.int .i64) (w0:=w) w.heap.size rfl (.tmp 15) (.tmp 16) 28 3 (.int .i64 0) 8 rfl Tryz.underlying28 info3 rfl (by decide) (by omega) v164 y163 l0 _ _ _ (fun _=>True) (fun _=>False) rfl rfl ?aO ?aR (fun _ _ h=>h) (fun _ h=>h.elim) ?aF ?aB ?aS ?aL ?_;(case aR=>repeat (first|exact (cb_ HR0 HB)|(with_reducible refine Kd.fo ?_ _)|(with_reducible refine Kd.fq ?_ _)|(with_reducible refine Kd.gI ?_)));(case aB=>exact (beY HB.out));(case aF=>exact (fun _ _=>trivial));(case aO=>exact (rY HO165.out));(case aS=>exact (bz_ (beY HB.out)));(case aL=>have:=LMc8.out;omega);intro v167 w12 ho hb hg hat;rw [←Ny166.out] at ho;have n0_:=A_.mk (hb);have n1_:=A_.mk (ho);clear HB HO165;have HB:=n0_;have HO168:=n1_;clear n0_ n1_ ho hb hg hat)|((with_reducible refine gd_ (N:=22) rfl ?_);(try (refine bn (by rfl) ?_;dsimp only));refine Kd.iM (Kd.int .i64) _ 3 ?hg (N:=22) ?hd (xs:=([wrap64 (Int.tdiv t162 256),Int.tmod t162 256]:List Int)) (inner:=[.int .i64 (wrap64 (Int.tdiv t162 256)),.int .i64 (Int.tmod t162 256)]) (ok:=fun _=>True) (okp:=fun _=>True) ?hr ?hp (fun _ hk=>hk) trivial (Below.refl _ _) (Nat.le_refl _) (by simp) ?_;(case hd=>rfl);(case hg=>rfl);(case hr=>first|(go_simp;done)|(go_simp;rfl));(case hp=>exact (Reps.one (show Kd.M (Kd.int .i64) _ _ _ (wrap64 (Int.tdiv t162 256)) [.int .i64 (wrap64 (Int.tdiv t162 256))] from rfl) (Reps.one (show Kd.M (Kd.int .i64) _ _ _ (Int.tmod t162 256) [.int .i64 (Int.tmod t162 256)] from rfl) (Reps.none _ _))));intro v170 w13 ho14 hb hg_ hnew_;clear hg_ hnew_;(first|rw [←Ny169.out] at ho14|(simp only [Int.reduceToNat] at ho14;rw [←Ny169.out] at ho14));have n0_:=A_.mk (Kd.kV (rY HO168.out) (Kd.jG ho14) hb);have n1_:=A_.mk (Kd.bR (Kd.oI ho14 (Kd.qD (rY HO168.out))) (bz_ (beY HB.out)));have n2_:=A_.mk (bt_ (beY HB.out) hb);clear HO168 HB;have HO168:=n0_;have HO171:=n1_;have HB:=n2_;clear n0_ n1_ n2_ hb ho14;obtain⟨Ao16,co16,eo16⟩:=Kd.aX HO171.out;subst eo16)|((with_reducible refine cz (b:=.append) (xs:=#[.tmp 17,.tmp 22]) rfl ?_);(try (refine bn (by rfl) ?_;dsimp only));at_builtin;refine Kd.dW (Kd.int .i64) (w0:=w) w.heap.size rfl (.tmp 17) (.tmp 22) 28 3 (.int .i64 0) 8 rfl Tryz.underlying28 info3 rfl (by decide) (by omega) v167 y166 y169 _ _ _ (fun k_=>some k_≠(.slice Ao16 y169.length co16:Value).ownBlock) (fun _=>False) rfl rfl ?aO ?aR (fun _ _ h=>h) (fun _ h=>h.elim) ?aF ?aB ?aS ?aL ?_;(case aR=>repeat (first|exact (je HO171)|(with_reducible refine Kd.fo ?_ _)|(with_reducible refine Kd.fq ?_ _)|(with_reducible refine Kd.gI ?_)));(case aB=>exact (beY HB.out));(case aF=>exact (fun k_ hk=>Kd.fresh' (Kd.qD (rY HO171.out)) k_ hk));(case aO=>exact (by (repeat apply rX);exact Kd.aC HO168.out (fun _ hk=>hk.2)));(case aS=>exact (bz_ (beY HB.out)));(case aL=>have:=LMc9.out;omega);intro v173 w15 ho hb hg hat;rw [←Ny172.out] at ho;have n0_:=A_.mk (Kd.qb (ok:=(fun _=>True)) (rY HO171.out) hg hat);have n1_:=A_.mk (hb);have n2_:=A_.mk (ho);clear HO171 HB HO168;have HO171:=n0_;have HB:=n1_;have HO174:=n2_;clear n0_ n1_ n2_ ho hb hg hat))
 go_ret
 exact⟨_,re_,by (repeat apply rX);exact Kd.aC HO174.out (fun _ hk=>trivial),beY HB.out⟩
def ig.f(k:Nat)(a0_0:Int)(l0_1:List Int):Option (List Int):=(aN.f a0_0).bind fun t179=>(if t179=true then ((some (([a0_0]:List Int):List Int)).bind fun y180=>(if y180.length+l0_1.length<17592186044416 then ((fe.f k (y180++l0_1)).bind fun t186=>(some t186)) else (none))) else (some (([]:List Int))))
theorem ig.calls(k:Nat)(a0_0:Int)(A0_1:Option Addr)(c0_1:Nat)(l0_1:List Int)(r:List Int)(w:World)(hr0_1:Kd.C (Kd.int .i64) w A0_1 l0_1.length l0_1)(hc0_1:l0_1.length≤c0_1)(h:ig.f k a0_0 l0_1=some r) :
  Calls Tryz.prog 31 #[.agg #[.int .i64 a0_0,.slice A0_1 l0_1.length c0_1]] w fun e w'=>∃ v0_:Value,e=.returned (v0_)∧Kd.R (Kd.int .i64) 3 w' w.heap.size (fun _=>True) v0_ r∧Below w.heap.size w w':=by
 have hu68:=Tryz.underlying68
 have HR0_1:=A_.mk hr0_1
 have HC0_1:=A_.mk hc0_1
 clear hr0_1 hc0_1
 have HB:=A_.mk (Below.refl w.heap.size w)
 have H:((aN.f a0_0).bind fun t179=>(if t179=true then ((some (([a0_0]:List Int):List Int)).bind fun y180=>(if y180.length+l0_1.length<17592186044416 then ((fe.f k (y180++l0_1)).bind fun t186=>(some t186)) else (none))) else (some (([]:List Int)))))=some r:=h
 clear h
 replace H:=oa_ H
 obtain⟨t179,A2,H⟩:=H
 by_cases c3:t179=true
 rotate_left
 ·replace c3:=Bool.eq_false_iff.mpr c3
  subst c3
  have H1:(some (([]:List Int)))=some r:=by rw [if_neg (show ¬ (false=true) by decide)] at H;exact H
  clear H
  have H:=H1
  clear H1
  obtain⟨y189,hy189⟩:∃ y_:List Int,y_=(([]:List Int)):=⟨_,rfl⟩
  replace H:(some y189)=some r:=by first|(rw [hy189];with_reducible exact H)|(have H2_:=(Option.bind_some _ _).symm.trans H;rw [hy189];with_reducible exact H2_)|(have H2_:=(Option.bind_some _ _).symm.trans H;with_reducible exact H2_)|with_reducible exact H|(rw [hy189];exact H)|exact H
  have Ny189:=A_.mk hy189
  clear hy189
  obtain rfl:=Option.some.inj H
  go_enter Tryz.func31,Tryz.ntmps31
  go_wp2_with (first|((with_reducible refine gd_ (N:=1) rfl ?_);refine by_ 1 (cs:=#[.int .i64 a0_0,.slice A0_1 l0_1.length c0_1]) (t:=68) ?_;intro gb178 hg w14 hbox hb;have n0_:=A_.mk (bt_ (beY HB.out) hb);have n1_:=A_.mk (hbox);have n2_:=A_.mk ((by rw [hg];exact(bz_ (beY HB.out)):w.heap.size≤gb178));have n3_:=A_.mk ((by rw [hg];exact(bz_ (beY HB.out)):w.heap.size≤gb178));clear HB;have HB:=n0_;have BK178:=n1_;have GW178:=n2_;have GE178:=n3_;clear n0_ n1_ n2_ n3_ hb hbox hg;obtain⟨hcz15_0,hcz15_1⟩:=gq BK178;obtain⟨hfz15_0,hfz15_1⟩:=dO BK178)|((with_reducible refine gc_ (f:=65) rfl ?_);refine gl_ (some 5) Tryz.func65 #[.int .i64 a0_0] ?_;(with_reducible refine (aN.calls a0_0 false _ A2.out).mono ?_);rintro e w' ⟨rfl,⟨nd,rfl⟩⟩;refine⟨_,rfl,?_⟩)|((with_reducible refine gd_ (N:=7) rfl ?_);refine Kd.iM (Kd.int .i64) _ 3 ?hg (N:=7) ?hd (xs:=([]:List Int)) (inner:=[]) (ok:=fun _=>True) (okp:=fun _=>True) ?hr ?hp (fun _ hk=>hk) trivial (Below.refl _ _) (Nat.le_refl _) (by simp) ?_;(case hd=>rfl);(case hg=>rfl);(case hr=>first|(go_simp;done)|(go_simp;rfl));(case hp=>exact (Reps.none _ _));intro v190 w16 ho17 hb hg_ hnew_;clear hg_ hnew_;(first|rw [←Ny189.out] at ho17|(simp only [Int.reduceToNat] at ho17;rw [←Ny189.out] at ho17));have n0_:=A_.mk (Kd.bR ho17 (bz_ ((zA_ HB GE178))));have n1_:=A_.mk (bb_ (bY BK178.out) hb);have n2_:=A_.mk (bt_ ((zA_ HB GE178)) hb);clear BK178 HB;have HO191:=n0_;have BK178:=n1_;have HB:=n2_;clear n0_ n1_ n2_ hb ho17))
  go_ret
  exact⟨_,re_,by (repeat apply rX);exact HO191.out,(zA_ HB GE178)⟩
 subst c3
 have H1:((some (([a0_0]:List Int):List Int)).bind fun y180=>(if y180.length+l0_1.length<17592186044416 then ((fe.f k (y180++l0_1)).bind fun t186=>(some t186)) else (none)))=some r:=by rw [if_pos rfl] at H;exact H
 clear H
 have H:=H1
 clear H1
 obtain⟨y180,hy180⟩:∃ y_:List Int,y_=(([a0_0]:List Int)):=⟨_,rfl⟩
 replace H:(if y180.length+l0_1.length<17592186044416 then ((fe.f k (y180++l0_1)).bind fun t186=>(some t186)) else (none))=some r:=by first|(rw [hy180];with_reducible exact H)|(have H2_:=(Option.bind_some _ _).symm.trans H;rw [hy180];with_reducible exact H2_)|(have H2_:=(Option.bind_some _ _).symm.trans H;with_reducible exact H2_)|with_reducible exact H|(rw [hy180];exact H)|exact H
 have Ny180:=A_.mk hy180
 clear hy180
 by_cases c4:y180.length+l0_1.length<17592186044416
 rotate_left
 ·rw [if_neg c4] at H
  exact absurd H (by simp)
 rw [if_pos c4] at H
 have LMc4:=A_.mk c4
 clear c4
 obtain⟨y183,hy183⟩:∃ y_:List Int,y_=(y180++l0_1):=⟨_,rfl⟩
 replace H:((fe.f k y183).bind fun t186=>(some t186))=some r:=by first|(rw [hy183];with_reducible exact H)|(have H2_:=(Option.bind_some _ _).symm.trans H;rw [hy183];with_reducible exact H2_)|(have H2_:=(Option.bind_some _ _).symm.trans H;with_reducible exact H2_)|with_reducible exact H|(rw [hy183];exact H)|exact H
 have Ny183:=A_.mk hy183
 clear hy183
 replace H:=oa_ H
 obtain⟨t186,A5,H⟩:=H
 obtain rfl:=Option.some.inj H
 go_enter Tryz.func31,Tryz.ntmps31
 go_wp2_with (first|((with_reducible refine gd_ (N:=1) rfl ?_);refine by_ 1 (cs:=#[.int .i64 a0_0,.slice A0_1 l0_1.length c0_1]) (t:=68) ?_;intro gb178 hg w6 hbox hb;have n0_:=A_.mk (bt_ (beY HB.out) hb);have n1_:=A_.mk (hbox);have n2_:=A_.mk ((by rw [hg];exact(bz_ (beY HB.out)):w.heap.size≤gb178));have n3_:=A_.mk ((by rw [hg];exact(bz_ (beY HB.out)):w.heap.size≤gb178));clear HB;have HB:=n0_;have BK178:=n1_;have GW178:=n2_;have GE178:=n3_;clear n0_ n1_ n2_ n3_ hb hbox hg;obtain⟨hcz7_0,hcz7_1⟩:=gq BK178;obtain⟨hfz7_0,hfz7_1⟩:=dO BK178)|((with_reducible refine gc_ (f:=65) rfl ?_);refine gl_ (some 5) Tryz.func65 #[.int .i64 a0_0] ?_;(with_reducible refine (aN.calls a0_0 true _ A2.out).mono ?_);rintro e w' ⟨rfl,⟨nd,rfl⟩⟩;refine⟨_,rfl,?_⟩)|((with_reducible refine gd_ (N:=10) rfl ?_);refine Kd.iM (Kd.int .i64) _ 3 ?hg (N:=10) ?hd (xs:=([a0_0]:List Int)) (inner:=[.int .i64 a0_0]) (ok:=fun _=>True) (okp:=fun _=>True) ?hr ?hp (fun _ hk=>hk) trivial (Below.refl _ _) (Nat.le_refl _) (by simp) ?_;(case hd=>rfl);(case hg=>rfl);(case hr=>first|(go_simp;done)|(go_simp;rfl));(case hp=>exact (Reps.one (show Kd.M (Kd.int .i64) _ _ _ a0_0 [.int .i64 a0_0] from rfl) (Reps.none _ _)));intro v181 w8 ho9 hb hg_ hnew_;clear hg_ hnew_;(first|rw [←Ny180.out] at ho9|(simp only [Int.reduceToNat] at ho9;rw [←Ny180.out] at ho9));have n0_:=A_.mk (Kd.bR ho9 (bz_ ((zA_ HB GE178))));have n1_:=A_.mk (bb_ (bY BK178.out) hb);have n2_:=A_.mk (bt_ ((zA_ HB GE178)) hb);clear BK178 HB;have HO182:=n0_;have BK178:=n1_;have HB:=n2_;clear n0_ n1_ n2_ hb ho9;obtain⟨hcz10_0,hcz10_1⟩:=gq BK178;obtain⟨hfz10_0,hfz10_1⟩:=dO BK178)|((with_reducible refine cz (b:=.append) (xs:=#[.tmp 10,.tmp 12]) rfl ?_);at_builtin;refine Kd.dW (Kd.int .i64) (w0:=w) w.heap.size rfl (.tmp 10) (.tmp 12) 28 3 (.int .i64 0) 8 rfl Tryz.underlying28 info3 rfl (by decide) (by omega) v181 y180 l0_1 _ _ _ (fun _=>True) (fun _=>False) rfl rfl ?aO ?aR (fun _ _ h=>h) (fun _ h=>h.elim) ?aF ?aB ?aS ?aL ?_;(case aR=>repeat (first|exact (cb_ HR0_1 HB)|(with_reducible refine Kd.fo ?_ _)|(with_reducible refine Kd.fq ?_ _)|(with_reducible refine Kd.gI ?_)));(case aB=>exact ((zA_ HB GE178)));(case aF=>exact (fun _ _=>trivial));(case aO=>exact (rY HO182.out));(case aS=>exact (bz_ ((zA_ HB GE178))));(case aL=>have:=LMc4.out;omega);intro v184 w11 ho hb hg hat;rw [←Ny183.out] at ho;have n0_:=A_.mk (fC (g:=gb178) (o:=.cells #[.int .i64 a0_0,.slice A0_1 l0_1.length c0_1] 68 (0,0)) (bY BK178.out) hg (Kd.ou HO182.out BK178.out (by decide)));have n1_:=A_.mk (hb);have n2_:=A_.mk (ho);clear BK178 HB HO182;have BK178:=n0_;have HB:=n1_;have HO185:=n2_;clear n0_ n1_ n2_ ho hb hg hat;obtain⟨Ao12,co12,eo12⟩:=Kd.aX HO185.out;subst eo12)|((with_reducible refine gc_ (f:=68) rfl ?_);refine gl_ (some 14) Tryz.func68 #[.slice Ao12 y183.length co12] ?_;(with_reducible refine (fe.calls k _ _ y183 t186 _ ?side1 ?side2 A5.out).mono ?_);(case side1=>exact cY ((je HO185)));(case side2=>exact (jB HO185));rintro e w13 ⟨v187,rfl,ho0,hb⟩;refine⟨_,rfl,?_⟩;have n0_:=A_.mk (Kd.kV (rY HO185.out) (Kd.jG ho0) hb);have n1_:=A_.mk (Kd.bR (Kd.oI ho0 (Kd.qD (rY HO185.out))) (bz_ ((zA_ HB GE178))));have n2_:=A_.mk (bb_ (bY BK178.out) hb);have n3_:=A_.mk (bt_ ((zA_ HB GE178)) hb);clear HO185 BK178 HB;have HO185:=n0_;have HO188:=n1_;have BK178:=n2_;have HB:=n3_;clear n0_ n1_ n2_ n3_;(try clear hb);(try clear hb2);(try clear hk);(try clear hi);(try clear ho0)))
 go_ret
 exact⟨_,re_,by (repeat apply rX);exact Kd.aC HO188.out (fun _ hk=>trivial),(zA_ HB GE178)⟩
def bF.j0:Nat→List Int→Bool→Option (List Int×Bool)
 | 0,_,_=>none
 | k+1,x0,x12=>if x12=true then (some ((([]:List Int)),false)) else (if 0≤(wrap64 ((x0.length:Int)-2)) then (if (wrap64 ((x0.length:Int)-2))≤(x0.length:Int) then ((aH.f k (x0.take ((wrap64 ((x0.length:Int)-2)):Int).toNat)).bind fun t197=>(if (wrap64 ((x0.length:Int)-2))<(x0.length:Int) then (if 0≤(wrap64 ((x0.length:Int)-1)) then (if (wrap64 ((x0.length:Int)-1))<(x0.length:Int) then (if t197=(wrap64 ((wrap64 ((rd x0 (wrap64 ((x0.length:Int)-2)))*256))+(rd x0 (wrap64 ((x0.length:Int)-1))))) then ((some (([]:List Int):List Int)).bind fun y200=>(if y200.length+(x0.take ((wrap64 ((x0.length:Int)-2)):Int).toNat).length<17592186044416 then (some ((y200++(x0.take ((wrap64 ((x0.length:Int)-2)):Int).toNat)),true)) else (none))) else (some ((([]:List Int)),false))) else (none)) else (none)) else (none))) else (none)) else (none))
def bF.f(k:Nat)(l0:List Int):Option (List Int×Bool):=(aj.f k l0).bind fun t192=>(if t192=true then (bF.j0 k l0 (decide ((l0.length:Int)<2))) else (bF.j0 k l0 true))
theorem bF.calls(k:Nat)(A0:Option Addr)(c0:Nat)(l0:List Int)(r1:List Int)(r2:Bool)(w:World)(hr0:Kd.C (Kd.int .i64) w A0 l0.length l0)(hc0:l0.length≤c0)(h:bF.f k l0=some (r1,r2)) :
  Calls Tryz.prog 120 #[.slice A0 l0.length c0] w fun e w'=>∃ v0_:Value,e=.returned (.tuple #[v0_,.bool r2])∧Kd.R (Kd.int .i64) 3 w' w.heap.size (fun _=>True) v0_ r1∧Below w.heap.size w w':=by
 have HR0:=A_.mk hr0
 have HC0:=A_.mk hc0
 clear hr0 hc0
 have HB:=A_.mk (Below.refl w.heap.size w)
 have H:((aj.f k l0).bind fun t192=>(if t192=true then (bF.j0 k l0 (decide ((l0.length:Int)<2))) else (bF.j0 k l0 true)))=some (r1,r2):=h
 clear h
 have HC2:=A_.mk H
 clear H
 go_enter Tryz.func120,Tryz.ntmps120
 go_upto_region 1 with (fail)
 repeat (go_quiet (fail);go_upto_region 1 with (fail))
 go_cut [12] (fun v12 wc=>∃ (kq:Nat) (x12_1:Bool),v12=.bool x12_1∧A_ (bF.j0 kq l0 x12_1=some (r1,r2))∧A_ (kq≤k)∧A_ (Below w.heap.size w wc))
 case first =>
  have H:=HC2.out
  clear HC2
  replace H:=oa_ H
  obtain⟨t192,A3,H⟩:=H
  by_cases c4:t192=true
  rotate_left
  ·replace c4:=Bool.eq_false_iff.mpr c4
   subst c4
   have H1:(bF.j0 k l0 true)=some (r1,r2):=by rw [if_neg (show ¬ (false=true) by decide)] at H;exact H
   clear H
   have H:=H1
   clear H1
   have H':=A_.mk H
   clear H
   go_wp2_with (first|(go_at_call 64;(with_reducible refine (aj.calls k _ _ l0 false _ ?side1 ?side2 A3.out).mono ?_);(case side1=>exact cY ((cb_ HR0 HB)));(case side2=>exact HC0.out);rintro e w' ⟨rfl,⟨nd,rfl⟩⟩;(try exact dw_)))
   repeat (go_quiet (first|(go_at_call 64;(with_reducible refine (aj.calls k _ _ l0 false _ ?side1 ?side2 A3.out).mono ?_);(case side1=>exact cY ((cb_ HR0 HB)));(case side2=>exact HC0.out);rintro e w' ⟨rfl,⟨nd,rfl⟩⟩;(try exact dw_)));try go_wp2_with (first|(go_at_call 64;(with_reducible refine (aj.calls k _ _ l0 false _ ?side1 ?side2 A3.out).mono ?_);(case side1=>exact cY ((cb_ HR0 HB)));(case side2=>exact HC0.out);rintro e w' ⟨rfl,⟨nd,rfl⟩⟩;(try exact dw_))))
   go_meet
   case rel=>exact ⟨_,(true),rs_,H',⟨by first|omega|exact Nat.le_refl _⟩,⟨beY HB.out⟩⟩
  subst c4
  have H1:(bF.j0 k l0 (decide ((l0.length:Int)<2)))=some (r1,r2):=by rw [if_pos rfl] at H;exact H
  clear H
  have H:=H1
  clear H1
  have H':=A_.mk H
  clear H
  go_wp2_with (first|(go_at_call 64;(with_reducible refine (aj.calls k _ _ l0 true _ ?side1 ?side2 A3.out).mono ?_);(case side1=>exact cY ((cb_ HR0 HB)));(case side2=>exact HC0.out);rintro e w' ⟨rfl,⟨nd,rfl⟩⟩;(try exact dw_)))
  repeat (go_quiet (first|(go_at_call 64;(with_reducible refine (aj.calls k _ _ l0 true _ ?side1 ?side2 A3.out).mono ?_);(case side1=>exact cY ((cb_ HR0 HB)));(case side2=>exact HC0.out);rintro e w' ⟨rfl,⟨nd,rfl⟩⟩;(try exact dw_)));try go_wp2_with (first|(go_at_call 64;(with_reducible refine (aj.calls k _ _ l0 true _ ?side1 ?side2 A3.out).mono ?_);(case side1=>exact cY ((cb_ HR0 HB)));(case side2=>exact HC0.out);rintro e w' ⟨rfl,⟨nd,rfl⟩⟩;(try exact dw_))))
  go_meet
  case rel=>exact ⟨_,(decide ((l0.length:Int)<2)),rs_,H',⟨by first|omega|exact Nat.le_refl _⟩,⟨beY HB.out⟩⟩
 case rest =>
  clear HC2
  obtain⟨kq,x12_1,rfl,HA,HJ1,HB⟩:=hcut
  cases kq with
  | zero=>exact absurd HA.out (by simp [bF.j0])
  | succ kj1 =>
   have H:=HA.out
   clear HA
   simp only [bF.j0] at H
   by_cases c5:x12_1=true
   ·subst c5
    have H1:(some ((([]:List Int)),false))=some (r1,r2):=by rw [if_pos rfl] at H;exact H
    clear H
    have H:=H1
    clear H1
    obtain⟨y193,hy193⟩:∃ y_:List Int,y_=(([]:List Int)):=⟨_,rfl⟩
    replace H:(some (y193,false))=some (r1,r2):=by first|(rw [hy193];with_reducible exact H)|(have H2_:=(Option.bind_some _ _).symm.trans H;rw [hy193];with_reducible exact H2_)|(have H2_:=(Option.bind_some _ _).symm.trans H;with_reducible exact H2_)|with_reducible exact H|(rw [hy193];exact H)|exact H
    have Ny193:=A_.mk hy193
    clear hy193
    replace H:=lh H
    obtain⟨rfl,rfl⟩:=H
    go_wp2_with (first|((with_reducible refine gd_ (N:=13) rfl ?_);(try (refine bn (by rfl) ?_;dsimp only));refine Kd.iM (Kd.int .i64) _ 3 ?hg (N:=13) ?hd (xs:=([]:List Int)) (inner:=[]) (ok:=fun _=>True) (okp:=fun _=>True) ?hr ?hp (fun _ hk=>hk) trivial (Below.refl _ _) (Nat.le_refl _) (by simp) ?_;(case hd=>rfl);(case hg=>rfl);(case hr=>first|(go_simp;done)|(go_simp;rfl));(case hp=>exact (Reps.none _ _));intro v194 w6 ho7 hb hg_ hnew_;clear hg_ hnew_;(first|rw [←Ny193.out] at ho7|(simp only [Int.reduceToNat] at ho7;rw [←Ny193.out] at ho7));have n0_:=A_.mk (Kd.bR ho7 (bz_ (beY HB.out)));have n1_:=A_.mk (bt_ (beY HB.out) hb);clear HB;have HO195:=n0_;have HB:=n1_;clear n0_ n1_ hb ho7))
    repeat (go_quiet (first|((with_reducible refine gd_ (N:=13) rfl ?_);(try (refine bn (by rfl) ?_;dsimp only));refine Kd.iM (Kd.int .i64) _ 3 ?hg (N:=13) ?hd (xs:=([]:List Int)) (inner:=[]) (ok:=fun _=>True) (okp:=fun _=>True) ?hr ?hp (fun _ hk=>hk) trivial (Below.refl _ _) (Nat.le_refl _) (by simp) ?_;(case hd=>rfl);(case hg=>rfl);(case hr=>first|(go_simp;done)|(go_simp;rfl));(case hp=>exact (Reps.none _ _));intro v194 w6 ho7 hb hg_ hnew_;clear hg_ hnew_;(first|rw [←Ny193.out] at ho7|(simp only [Int.reduceToNat] at ho7;rw [←Ny193.out] at ho7));have n0_:=A_.mk (Kd.bR ho7 (bz_ (beY HB.out)));have n1_:=A_.mk (bt_ (beY HB.out) hb);clear HB;have HO195:=n0_;have HB:=n1_;clear n0_ n1_ hb ho7));try go_wp2_with (first|((with_reducible refine gd_ (N:=13) rfl ?_);(try (refine bn (by rfl) ?_;dsimp only));refine Kd.iM (Kd.int .i64) _ 3 ?hg (N:=13) ?hd (xs:=([]:List Int)) (inner:=[]) (ok:=fun _=>True) (okp:=fun _=>True) ?hr ?hp (fun _ hk=>hk) trivial (Below.refl _ _) (Nat.le_refl _) (by simp) ?_;(case hd=>rfl);(case hg=>rfl);(case hr=>first|(go_simp;done)|(go_simp;rfl));(case hp=>exact (Reps.none _ _));intro v194 w6 ho7 hb hg_ hnew_;clear hg_ hnew_;(first|rw [←Ny193.out] at ho7|(simp only [Int.reduceToNat] at ho7;rw [←Ny193.out] at ho7));have n0_:=A_.mk (Kd.bR ho7 (bz_ (beY HB.out)));have n1_:=A_.mk (bt_ (beY HB.out) hb);clear HB;have HO195:=n0_;have HB:=n1_;clear n0_ n1_ hb ho7)))
    go_ret2
    exact⟨_,re_,by (repeat apply rX);exact HO195.out,beY HB.out⟩
   replace c5:=Bool.eq_false_iff.mpr c5
   subst c5
   have H1:(if 0≤(wrap64 ((l0.length:Int)-2)) then (if (wrap64 ((l0.length:Int)-2))≤(l0.length:Int) then ((aH.f kj1 (l0.take ((wrap64 ((l0.length:Int)-2)):Int).toNat)).bind fun t197=>(if (wrap64 ((l0.length:Int)-2))<(l0.length:Int) then (if 0≤(wrap64 ((l0.length:Int)-1)) then (if (wrap64 ((l0.length:Int)-1))<(l0.length:Int) then (if t197=(wrap64 ((wrap64 ((rd l0 (wrap64 ((l0.length:Int)-2)))*256))+(rd l0 (wrap64 ((l0.length:Int)-1))))) then ((some (([]:List Int):List Int)).bind fun y200=>(if y200.length+(l0.take ((wrap64 ((l0.length:Int)-2)):Int).toNat).length<17592186044416 then (some ((y200++(l0.take ((wrap64 ((l0.length:Int)-2)):Int).toNat)),true)) else (none))) else (some ((([]:List Int)),false))) else (none)) else (none)) else (none))) else (none)) else (none))=some (r1,r2):=by rw [if_neg (show ¬ (false=true) by decide)] at H;exact H
   clear H
   have H:=H1
   clear H1
   obtain⟨ji8,hji8⟩:∃ j_:Int,(wrap64 ((l0.length:Int)-2))=j_:=⟨_,rfl⟩
   replace H:(if 0≤(ji8) then (if (ji8)≤(l0.length:Int) then ((aH.f kj1 (l0.take ((ji8):Int).toNat)).bind fun t197=>(if (ji8)<(l0.length:Int) then (if 0≤(wrap64 ((l0.length:Int)-1)) then (if (wrap64 ((l0.length:Int)-1))<(l0.length:Int) then (if t197=(wrap64 ((wrap64 ((rd l0 (ji8))*256))+(rd l0 (wrap64 ((l0.length:Int)-1))))) then ((some (([]:List Int):List Int)).bind fun y200=>(if y200.length+(l0.take ((ji8):Int).toNat).length<17592186044416 then (some ((y200++(l0.take ((ji8):Int).toNat)),true)) else (none))) else (some ((([]:List Int)),false))) else (none)) else (none)) else (none))) else (none)) else (none))=some (r1,r2):=by first|(rw [hji8] at H;exact H)|(simp only [hji8] at H ⊢;exact H)
   have hji8w:(IntKind.i64.wrap ((l0.length:Int)-2))=ji8:=(jg _).trans hji8
   by_cases c9:0≤(ji8)
   rotate_left
   ·rw [if_neg c9] at H
    exact absurd H (by simp)
   rw [if_pos c9] at H
   have c9b0:=eq_true c9
   have c9b1:=decide_eq_true c9
   clear c9
   by_cases c10:(ji8)≤(l0.length:Int)
   rotate_left
   ·rw [if_neg c10] at H
    exact absurd H (by simp)
   rw [if_pos c10] at H
   have c10b0:=eq_true c10
   have c10b1:=decide_eq_true c10
   clear c10
   replace H:=oa_ H
   obtain⟨t197,A11,H⟩:=H
   by_cases c12:(ji8)<(l0.length:Int)
   rotate_left
   ·rw [if_neg c12] at H
    exact absurd H (by simp)
   rw [if_pos c12] at H
   have c12b0:=decide_eq_true c12
   clear c12
   obtain⟨ji13,hji13⟩:∃ j_:Int,(wrap64 ((l0.length:Int)-1))=j_:=⟨_,rfl⟩
   replace H:(if 0≤(ji13) then (if (ji13)<(l0.length:Int) then (if t197=(wrap64 ((wrap64 ((rd l0 (ji8))*256))+(rd l0 (ji13)))) then ((some (([]:List Int):List Int)).bind fun y200=>(if y200.length+(l0.take ((ji8):Int).toNat).length<17592186044416 then (some ((y200++(l0.take ((ji8):Int).toNat)),true)) else (none))) else (some ((([]:List Int)),false))) else (none)) else (none))=some (r1,r2):=by first|(rw [hji13] at H;exact H)|(simp only [hji13] at H ⊢;exact H)
   (try rw [hji13] at A11)
   have hji13w:(IntKind.i64.wrap ((l0.length:Int)-1))=ji13:=(jg _).trans hji13
   by_cases c14:0≤(ji13)
   rotate_left
   ·rw [if_neg c14] at H
    exact absurd H (by simp)
   rw [if_pos c14] at H
   have c14b0:=decide_eq_true c14
   clear c14
   by_cases c15:(ji13)<(l0.length:Int)
   rotate_left
   ·rw [if_neg c15] at H
    exact absurd H (by simp)
   rw [if_pos c15] at H
   have c15b0:=decide_eq_true c15
   clear c15
   by_cases c16:t197=(wrap64 ((wrap64 ((rd l0 (ji8))*256))+(rd l0 (ji13))))
   rotate_left
   ·rw [if_neg c16] at H
    have c16b0:=beq_eq_false_iff_ne.mpr c16
    have c16b0w:(t197==(IntKind.i64.wrap ((IntKind.i64.wrap ((rd l0 (ji8))*256))+(rd l0 (ji13)))))=false:=by simp only [jg];exact c16b0
    have c16b1:=bne_iff_ne.mpr c16
    have c16b1w:(t197 != (IntKind.i64.wrap ((IntKind.i64.wrap ((rd l0 (ji8))*256))+(rd l0 (ji13)))))=true:=by simp only [jg];exact c16b1
    obtain⟨y206,hy206⟩:∃ y_:List Int,y_=(([]:List Int)):=⟨_,rfl⟩
    replace H:(some (y206,false))=some (r1,r2):=by first|(rw [hy206];with_reducible exact H)|(have H2_:=(Option.bind_some _ _).symm.trans H;rw [hy206];with_reducible exact H2_)|(have H2_:=(Option.bind_some _ _).symm.trans H;with_reducible exact H2_)|with_reducible exact H|(rw [hy206];exact H)|exact H
    have Ny206:=A_.mk hy206
    clear hy206
    replace H:=lh H
    obtain⟨rfl,rfl⟩:=H
    obtain⟨i022,hi022,_,hsz22,_⟩:=info_parts info3
    obtain⟨hcut22,hA22,hC22⟩:=jh (P:=Tryz.prog) (Value.int .i64) 0 28 3 .i64 Tryz.underlying28 hi022 hsz22 A0 c0 l0 (ji8) (od_) (od_) HC0.out
    have HR196:=A_.mk (Kd.kg (h1:=fun _=>rfl) (hA22 _ (Kd.jJ HR0.out)))
    have HC196:=A_.mk hC22
    clear hA22 hC22 hi022 hsz22
    go_wp2_with (first|(go_at_call 100;refine gV (args':=#[.slice A0 (l0.take ((ji8):Int).toNat).length c0]) (by have h1_:ji8≤(l0.length:Int):=od_;have h0_:0≤(ji8:Int):=od_;rw [List.length_take,Nat.min_eq_left (by omega)]) ?_;(with_reducible refine (aH.calls kj1 _ _ (l0.take ((ji8):Int).toNat) t197 _ ?side1 ?side2 A11.out).mono ?_);(case side1=>exact cY ((cb_ HR196 HB)));(case side2=>exact HC196.out);rintro e w' ⟨rfl,⟨nd,rfl⟩⟩;(try exact dw_);have p198:0≤((ji8):Int):=od_;have q198:(ji8)<(l0.length:Int):=od_;obtain⟨ad198,e198,hx198_0⟩:=Kd.d9 HR0.out (ji8) p198 q198;cases e198;replace hx198_0:=(HB.out.cell (wl_ w _ hx198_0)).trans hx198_0;replace p198:=eq_true p198;replace q198:=eq_true q198;have p199:0≤((ji13):Int):=od_;have q199:(ji13)<(l0.length:Int):=od_;obtain⟨ad199,e199,hx199_0⟩:=Kd.d9 HR0.out (ji13) p199 q199;obtain rfl:ad198=ad199:=(by injection e199);replace hx199_0:=(HB.out.cell (wl_ w _ hx199_0)).trans hx199_0;replace p199:=eq_true p199;replace q199:=eq_true q199)|((with_reducible refine gd_ (N:=36) rfl ?_);(try (refine bn (by rfl) ?_;dsimp only));refine Kd.iM (Kd.int .i64) _ 3 ?hg (N:=36) ?hd (xs:=([]:List Int)) (inner:=[]) (ok:=fun _=>True) (okp:=fun _=>True) ?hr ?hp (fun _ hk=>hk) trivial (Below.refl _ _) (Nat.le_refl _) (by simp) ?_;(case hd=>rfl);(case hg=>rfl);(case hr=>first|(go_simp;done)|(go_simp;rfl));(case hp=>exact (Reps.none _ _));intro v207 w23 ho24 hb hg_ hnew_;clear hg_ hnew_;(first|rw [←Ny206.out] at ho24|(simp only [Int.reduceToNat] at ho24;rw [←Ny206.out] at ho24));have n0_:=A_.mk (Kd.bR ho24 (bz_ (beY HB.out)));have n1_:=A_.mk (bt_ (beY HB.out) hb);clear HB;have HO208:=n0_;have HB:=n1_;clear n0_ n1_ hb ho24))
    repeat (go_quiet (first|(go_at_call 100;refine gV (args':=#[.slice A0 (l0.take ((ji8):Int).toNat).length c0]) (by have h1_:ji8≤(l0.length:Int):=od_;have h0_:0≤(ji8:Int):=od_;rw [List.length_take,Nat.min_eq_left (by omega)]) ?_;(with_reducible refine (aH.calls kj1 _ _ (l0.take ((ji8):Int).toNat) t197 _ ?side1 ?side2 A11.out).mono ?_);(case side1=>exact cY ((cb_ HR196 HB)));(case side2=>exact HC196.out);rintro e w' ⟨rfl,⟨nd,rfl⟩⟩;(try exact dw_);have p198:0≤((ji8):Int):=od_;have q198:(ji8)<(l0.length:Int):=od_;obtain⟨ad198,e198,hx198_0⟩:=Kd.d9 HR0.out (ji8) p198 q198;cases e198;replace hx198_0:=(HB.out.cell (wl_ w _ hx198_0)).trans hx198_0;replace p198:=eq_true p198;replace q198:=eq_true q198;have p199:0≤((ji13):Int):=od_;have q199:(ji13)<(l0.length:Int):=od_;obtain⟨ad199,e199,hx199_0⟩:=Kd.d9 HR0.out (ji13) p199 q199;obtain rfl:ad198=ad199:=(by injection e199);replace hx199_0:=(HB.out.cell (wl_ w _ hx199_0)).trans hx199_0;replace p199:=eq_true p199;replace q199:=eq_true q199)|((with_reducible refine gd_ (N:=36) rfl ?_);(try (refine bn (by rfl) ?_;dsimp only));refine Kd.iM (Kd.int .i64) _ 3 ?hg (N:=36) ?hd (xs:=([]:List Int)) (inner:=[]) (ok:=fun _=>True) (okp:=fun _=>True) ?hr ?hp (fun _ hk=>hk) trivial (Below.refl _ _) (Nat.le_refl _) (by simp) ?_;(case hd=>rfl);(case hg=>rfl);(case hr=>first|(go_simp;done)|(go_simp;rfl));(case hp=>exact (Reps.none _ _));intro v207 w23 ho24 hb hg_ hnew_;clear hg_ hnew_;(first|rw [←Ny206.out] at ho24|(simp only [Int.reduceToNat] at ho24;rw [←Ny206.out] at ho24));have n0_:=A_.mk (Kd.bR ho24 (bz_ (beY HB.out)));have n1_:=A_.mk (bt_ (beY HB.out) hb);clear HB;have HO208:=n0_;have HB:=n1_;clear n0_ n1_ hb ho24));try go_wp2_with (first|(go_at_call 100;refine gV (args':=#[.slice A0 (l0.take ((ji8):Int).toNat).length c0]) (by have h1_:ji8≤(l0.length:Int):=od_;have h0_:0≤(ji8:Int):=od_;rw [List.length_take,Nat.min_eq_left (by omega)]) ?_;(with_reducible refine (aH.calls kj1 _ _ (l0.take ((ji8):Int).toNat) t197 _ ?side1 ?side2 A11.out).mono ?_);(case side1=>exact cY ((cb_ HR196 HB)));(case side2=>exact HC196.out);rintro e w' ⟨rfl,⟨nd,rfl⟩⟩;(try exact dw_);have p198:0≤((ji8):Int):=od_;have q198:(ji8)<(l0.length:Int):=od_;obtain⟨ad198,e198,hx198_0⟩:=Kd.d9 HR0.out (ji8) p198 q198;cases e198;replace hx198_0:=(HB.out.cell (wl_ w _ hx198_0)).trans hx198_0;replace p198:=eq_true p198;replace q198:=eq_true q198;have p199:0≤((ji13):Int):=od_;have q199:(ji13)<(l0.length:Int):=od_;obtain⟨ad199,e199,hx199_0⟩:=Kd.d9 HR0.out (ji13) p199 q199;obtain rfl:ad198=ad199:=(by injection e199);replace hx199_0:=(HB.out.cell (wl_ w _ hx199_0)).trans hx199_0;replace p199:=eq_true p199;replace q199:=eq_true q199)|((with_reducible refine gd_ (N:=36) rfl ?_);(try (refine bn (by rfl) ?_;dsimp only));refine Kd.iM (Kd.int .i64) _ 3 ?hg (N:=36) ?hd (xs:=([]:List Int)) (inner:=[]) (ok:=fun _=>True) (okp:=fun _=>True) ?hr ?hp (fun _ hk=>hk) trivial (Below.refl _ _) (Nat.le_refl _) (by simp) ?_;(case hd=>rfl);(case hg=>rfl);(case hr=>first|(go_simp;done)|(go_simp;rfl));(case hp=>exact (Reps.none _ _));intro v207 w23 ho24 hb hg_ hnew_;clear hg_ hnew_;(first|rw [←Ny206.out] at ho24|(simp only [Int.reduceToNat] at ho24;rw [←Ny206.out] at ho24));have n0_:=A_.mk (Kd.bR ho24 (bz_ (beY HB.out)));have n1_:=A_.mk (bt_ (beY HB.out) hb);clear HB;have HO208:=n0_;have HB:=n1_;clear n0_ n1_ hb ho24)))
    go_ret2
    exact⟨_,by first|rfl|(simp [dQ,dR] <;> rfl)|(simp only [←hji8,←hji13];first|rfl|(simp [dQ,dR] <;> rfl))|(simp [*,dQ,dR] <;> rfl),by (repeat apply rX);exact HO208.out,beY HB.out⟩
   rw [if_pos c16] at H
   have c16b0:=beq_iff_eq.mpr c16
   have c16b0w:(t197==(IntKind.i64.wrap ((IntKind.i64.wrap ((rd l0 (ji8))*256))+(rd l0 (ji13)))))=true:=by simp only [jg];exact c16b0
   have c16b1:=bne_eq_false_iff_eq.mpr c16
   have c16b1w:(t197 != (IntKind.i64.wrap ((IntKind.i64.wrap ((rd l0 (ji8))*256))+(rd l0 (ji13)))))=false:=by simp only [jg];exact c16b1
   clear c16
   obtain⟨y200,hy200⟩:∃ y_:List Int,y_=(([]:List Int)):=⟨_,rfl⟩
   replace H:(if y200.length+(l0.take ((ji8):Int).toNat).length<17592186044416 then (some ((y200++(l0.take ((ji8):Int).toNat)),true)) else (none))=some (r1,r2):=by first|(rw [hy200];with_reducible exact H)|(have H2_:=(Option.bind_some _ _).symm.trans H;rw [hy200];with_reducible exact H2_)|(have H2_:=(Option.bind_some _ _).symm.trans H;with_reducible exact H2_)|with_reducible exact H|(rw [hy200];exact H)|exact H
   have Ny200:=A_.mk hy200
   clear hy200
   by_cases c17:y200.length+(l0.take ((ji8):Int).toNat).length<17592186044416
   rotate_left
   ·rw [if_neg c17] at H
    exact absurd H (by simp)
   rw [if_pos c17] at H
   have LMc17:=A_.mk c17
   clear c17
   obtain⟨y203,hy203⟩:∃ y_:List Int,y_=(y200++(l0.take ((ji8):Int).toNat)):=⟨_,rfl⟩
   replace H:(some (y203,true))=some (r1,r2):=by first|(rw [hy203];with_reducible exact H)|(have H2_:=(Option.bind_some _ _).symm.trans H;rw [hy203];with_reducible exact H2_)|(have H2_:=(Option.bind_some _ _).symm.trans H;with_reducible exact H2_)|with_reducible exact H|(rw [hy203];exact H)|exact H
   have Ny203:=A_.mk hy203
   clear hy203
   replace H:=lh H
   obtain⟨rfl,rfl⟩:=H
   obtain⟨i018,hi018,_,hsz18,_⟩:=info_parts info3
   obtain⟨hcut18,hA18,hC18⟩:=jh (P:=Tryz.prog) (Value.int .i64) 0 28 3 .i64 Tryz.underlying28 hi018 hsz18 A0 c0 l0 (ji8) (od_) (od_) HC0.out
   have HR196:=A_.mk (Kd.kg (h1:=fun _=>rfl) (hA18 _ (Kd.jJ HR0.out)))
   have HC196:=A_.mk hC18
   clear hA18 hC18 hi018 hsz18
   go_wp2_with (first|(go_at_call 100;refine gV (args':=#[.slice A0 (l0.take ((ji8):Int).toNat).length c0]) (by have h1_:ji8≤(l0.length:Int):=od_;have h0_:0≤(ji8:Int):=od_;rw [List.length_take,Nat.min_eq_left (by omega)]) ?_;(with_reducible refine (aH.calls kj1 _ _ (l0.take ((ji8):Int).toNat) t197 _ ?side1 ?side2 A11.out).mono ?_);(case side1=>exact cY ((cb_ HR196 HB)));(case side2=>exact HC196.out);rintro e w' ⟨rfl,⟨nd,rfl⟩⟩;(try exact dw_);have p198:0≤((ji8):Int):=od_;have q198:(ji8)<(l0.length:Int):=od_;obtain⟨ad198,e198,hx198_0⟩:=Kd.d9 HR0.out (ji8) p198 q198;cases e198;replace hx198_0:=(HB.out.cell (wl_ w _ hx198_0)).trans hx198_0;replace p198:=eq_true p198;replace q198:=eq_true q198;have p199:0≤((ji13):Int):=od_;have q199:(ji13)<(l0.length:Int):=od_;obtain⟨ad199,e199,hx199_0⟩:=Kd.d9 HR0.out (ji13) p199 q199;obtain rfl:ad198=ad199:=(by injection e199);replace hx199_0:=(HB.out.cell (wl_ w _ hx199_0)).trans hx199_0;replace p199:=eq_true p199;replace q199:=eq_true q199)|((with_reducible refine gd_ (N:=37) rfl ?_);(try (refine bn (by rfl) ?_;dsimp only));refine Kd.iM (Kd.int .i64) _ 3 ?hg (N:=37) ?hd (xs:=([]:List Int)) (inner:=[]) (ok:=fun _=>True) (okp:=fun _=>True) ?hr ?hp (fun _ hk=>hk) trivial (Below.refl _ _) (Nat.le_refl _) (by simp) ?_;(case hd=>rfl);(case hg=>rfl);(case hr=>first|(go_simp;done)|(go_simp;rfl));(case hp=>exact (Reps.none _ _));intro v201 w19 ho20 hb hg_ hnew_;clear hg_ hnew_;(first|rw [←Ny200.out] at ho20|(simp only [Int.reduceToNat] at ho20;rw [←Ny200.out] at ho20));have n0_:=A_.mk (Kd.bR ho20 (bz_ (beY HB.out)));have n1_:=A_.mk (bt_ (beY HB.out) hb);clear HB;have HO202:=n0_;have HB:=n1_;clear n0_ n1_ hb ho20)|((with_reducible refine cz (b:=.append) (xs:=#[.tmp 37,.tmp 38]) rfl ?_);(try (refine bn (by rfl) ?_;dsimp only));at_builtin;refine Kd.dW (Kd.int .i64) (w0:=w) w.heap.size rfl (.tmp 37) (.tmp 38) 28 3 (.int .i64 0) 8 rfl Tryz.underlying28 info3 rfl (by decide) (by omega) v201 y200 (l0.take ((ji8):Int).toNat) _ _ _ (fun _=>True) (fun _=>False) rfl rfl ?aO ?aR (fun _ _ h=>h) (fun _ h=>h.elim) ?aF ?aB ?aS ?aL ?_;(case aR=>first|(have hq_:=(cb_ HR196 HB);rw [show (l0.take ((ji8):Int).toNat).length=(ji8).toNat from (by rw [List.length_take];have h_:((ji8):Int)≤(l0.length:Int):=od_;omega)] at hq_;exact hq_)|(rw [←show (l0.take ((ji8):Int).toNat).length=(ji8).toNat from (by rw [List.length_take];have h_:((ji8):Int)≤(l0.length:Int):=od_;omega)];repeat (first|exact (cb_ HR196 HB)|(with_reducible refine Kd.fo ?_ _)|(with_reducible refine Kd.fq ?_ _)|(with_reducible refine Kd.gI ?_)))|(repeat (first|exact (cb_ HR196 HB)|(with_reducible refine Kd.fo ?_ _)|(with_reducible refine Kd.fq ?_ _)|(with_reducible refine Kd.gI ?_))));(case aB=>exact (beY HB.out));(case aF=>exact (fun _ _=>trivial));(case aO=>exact (rY HO202.out));(case aS=>exact (bz_ (beY HB.out)));(case aL=>have:=LMc17.out;have hlx_:=(show (l0.take ((ji8):Int).toNat).length=(ji8).toNat from (by rw [List.length_take];have h_:((ji8):Int)≤(l0.length:Int):=od_;omega));omega);intro v204 w21 ho hb hg hat;rw [←Ny203.out] at ho;have n0_:=A_.mk (hb);have n1_:=A_.mk (ho);clear HB HO202;have HB:=n0_;have HO205:=n1_;clear n0_ n1_ ho hb hg hat))
   repeat (go_quiet (first|(go_at_call 100;refine gV (args':=#[.slice A0 (l0.take ((ji8):Int).toNat).length c0]) (by have h1_:ji8≤(l0.length:Int):=od_;have h0_:0≤(ji8:Int):=od_;rw [List.length_take,Nat.min_eq_left (by omega)]) ?_;(with_reducible refine (aH.calls kj1 _ _ (l0.take ((ji8):Int).toNat) t197 _ ?side1 ?side2 A11.out).mono ?_);(case side1=>exact cY ((cb_ HR196 HB)));(case side2=>exact HC196.out);rintro e w' ⟨rfl,⟨nd,rfl⟩⟩;(try exact dw_);have p198:0≤((ji8):Int):=od_;have q198:(ji8)<(l0.length:Int):=od_;obtain⟨ad198,e198,hx198_0⟩:=Kd.d9 HR0.out (ji8) p198 q198;cases e198;replace hx198_0:=(HB.out.cell (wl_ w _ hx198_0)).trans hx198_0;replace p198:=eq_true p198;replace q198:=eq_true q198;have p199:0≤((ji13):Int):=od_;have q199:(ji13)<(l0.length:Int):=od_;obtain⟨ad199,e199,hx199_0⟩:=Kd.d9 HR0.out (ji13) p199 q199;obtain rfl:ad198=ad199:=(by injection e199);replace hx199_0:=(HB.out.cell (wl_ w _ hx199_0)).trans hx199_0;replace p199:=eq_true p199;replace q199:=eq_true q199)|((with_reducible refine gd_ (N:=37) rfl ?_);(try (refine bn (by rfl) ?_;dsimp only));refine Kd.iM (Kd.int .i64) _ 3 ?hg (N:=37) ?hd (xs:=([]:List Int)) (inner:=[]) (ok:=fun _=>True) (okp:=fun _=>True) ?hr ?hp (fun _ hk=>hk) trivial (Below.refl _ _) (Nat.le_refl _) (by simp) ?_;(case hd=>rfl);(case hg=>rfl);(case hr=>first|(go_simp;done)|(go_simp;rfl));(case hp=>exact (Reps.none _ _));intro v201 w19 ho20 hb hg_ hnew_;clear hg_ hnew_;(first|rw [←Ny200.out] at ho20|(simp only [Int.reduceToNat] at ho20;rw [←Ny200.out] at ho20));have n0_:=A_.mk (Kd.bR ho20 (bz_ (beY HB.out)));have n1_:=A_.mk (bt_ (beY HB.out) hb);clear HB;have HO202:=n0_;have HB:=n1_;clear n0_ n1_ hb ho20)|((with_reducible refine cz (b:=.append) (xs:=#[.tmp 37,.tmp 38]) rfl ?_);(try (refine bn (by rfl) ?_;dsimp only));at_builtin;refine Kd.dW (Kd.int .i64) (w0:=w) w.heap.size rfl (.tmp 37) (.tmp 38) 28 3 (.int .i64 0) 8 rfl Tryz.underlying28 info3 rfl (by decide) (by omega) v201 y200 (l0.take ((ji8):Int).toNat) _ _ _ (fun _=>True) (fun _=>False) rfl rfl ?aO ?aR (fun _ _ h=>h) (fun _ h=>h.elim) ?aF ?aB ?aS ?aL ?_;(case aR=>first|(have hq_:=(cb_ HR196 HB);rw [show (l0.take ((ji8):Int).toNat).length=(ji8).toNat from (by rw [List.length_take];have h_:((ji8):Int)≤(l0.length:Int):=od_;omega)] at hq_;exact hq_)|(rw [←show (l0.take ((ji8):Int).toNat).length=(ji8).toNat from (by rw [List.length_take];have h_:((ji8):Int)≤(l0.length:Int):=od_;omega)];repeat (first|exact (cb_ HR196 HB)|(with_reducible refine Kd.fo ?_ _)|(with_reducible refine Kd.fq ?_ _)|(with_reducible refine Kd.gI ?_)))|(repeat (first|exact (cb_ HR196 HB)|(with_reducible refine Kd.fo ?_ _)|(with_reducible refine Kd.fq ?_ _)|(with_reducible refine Kd.gI ?_))));(case aB=>exact (beY HB.out));(case aF=>exact (fun _ _=>trivial));(case aO=>exact (rY HO202.out));(case aS=>exact (bz_ (beY HB.out)));(case aL=>have:=LMc17.out;have hlx_:=(show (l0.take ((ji8):Int).toNat).length=(ji8).toNat from (by rw [List.length_take];have h_:((ji8):Int)≤(l0.length:Int):=od_;omega));omega);intro v204 w21 ho hb hg hat;rw [←Ny203.out] at ho;have n0_:=A_.mk (hb);have n1_:=A_.mk (ho);clear HB HO202;have HB:=n0_;have HO205:=n1_;clear n0_ n1_ ho hb hg hat));try go_wp2_with (first|(go_at_call 100;refine gV (args':=#[.slice A0 (l0.take ((ji8):Int).toNat).length c0]) (by have h1_:ji8≤(l0.length:Int):=od_;have h0_:0≤(ji8:Int):=od_;rw [List.length_take,Nat.min_eq_left (by omega)]) ?_;(with_reducible refine (aH.calls kj1 _ _ (l0.take ((ji8):Int).toNat) t197 _ ?side1 ?side2 A11.out).mono ?_);(case side1=>exact cY ((cb_ HR196 HB)));(case side2=>exact HC196.out);rintro e w' ⟨rfl,⟨nd,rfl⟩⟩;(try exact dw_);have p198:0≤((ji8):Int):=od_;have q198:(ji8)<(l0.length:Int):=od_;obtain⟨ad198,e198,hx198_0⟩:=Kd.d9 HR0.out (ji8) p198 q198;cases e198;replace hx198_0:=(HB.out.cell (wl_ w _ hx198_0)).trans hx198_0;replace p198:=eq_true p198;replace q198:=eq_true q198;have p199:0≤((ji13):Int):=od_;have q199:(ji13)<(l0.length:Int):=od_;obtain⟨ad199,e199,hx199_0⟩:=Kd.d9 HR0.out (ji13) p199 q199;obtain rfl:ad198=ad199:=(by injection e199);replace hx199_0:=(HB.out.cell (wl_ w _ hx199_0)).trans hx199_0;replace p199:=eq_true p199;replace q199:=eq_true q199)|((with_reducible refine gd_ (N:=37) rfl ?_);(try (refine bn (by rfl) ?_;dsimp only));refine Kd.iM (Kd.int .i64) _ 3 ?hg (N:=37) ?hd (xs:=([]:List Int)) (inner:=[]) (ok:=fun _=>True) (okp:=fun _=>True) ?hr ?hp (fun _ hk=>hk) trivial (Below.refl _ _) (Nat.le_refl _) (by simp) ?_;(case hd=>rfl);(case hg=>rfl);(case hr=>first|(go_simp;done)|(go_simp;rfl));(case hp=>exact (Reps.none _ _));intro v201 w19 ho20 hb hg_ hnew_;clear hg_ hnew_;(first|rw [←Ny200.out] at ho20|(simp only [Int.reduceToNat] at ho20;rw [←Ny200.out] at ho20));have n0_:=A_.mk (Kd.bR ho20 (bz_ (beY HB.out)));have n1_:=A_.mk (bt_ (beY HB.out) hb);clear HB;have HO202:=n0_;have HB:=n1_;clear n0_ n1_ hb ho20)|((with_reducible refine cz (b:=.append) (xs:=#[.tmp 37,.tmp 38]) rfl ?_);(try (refine bn (by rfl) ?_;dsimp only));at_builtin;refine Kd.dW (Kd.int .i64) (w0:=w) w.heap.size rfl (.tmp 37) (.tmp 38) 28 3 (.int .i64 0) 8 rfl Tryz.underlying28 info3 rfl (by decide) (by omega) v201 y200 (l0.take ((ji8):Int).toNat) _ _ _ (fun _=>True) (fun _=>False) rfl rfl ?aO ?aR (fun _ _ h=>h) (fun _ h=>h.elim) ?aF ?aB ?aS ?aL ?_;(case aR=>first|(have hq_:=(cb_ HR196 HB);rw [show (l0.take ((ji8):Int).toNat).length=(ji8).toNat from (by rw [List.length_take];have h_:((ji8):Int)≤(l0.length:Int):=od_;omega)] at hq_;exact hq_)|(rw [←show (l0.take ((ji8):Int).toNat).length=(ji8).toNat from (by rw [List.length_take];have h_:((ji8):Int)≤(l0.length:Int):=od_;omega)];repeat (first|exact (cb_ HR196 HB)|(with_reducible refine Kd.fo ?_ _)|(with_reducible refine Kd.fq ?_ _)|(with_reducible refine Kd.gI ?_)))|(repeat (first|exact (cb_ HR196 HB)|(with_reducible refine Kd.fo ?_ _)|(with_reducible refine Kd.fq ?_ _)|(with_reducible refine Kd.gI ?_))));(case aB=>exact (beY HB.out));(case aF=>exact (fun _ _=>trivial));(case aO=>exact (rY HO202.out));(case aS=>exact (bz_ (beY HB.out)));(case aL=>have:=LMc17.out;have hlx_:=(show (l0.take ((ji8):Int).toNat).length=(ji8).toNat from (by rw [List.length_take];have h_:((ji8):Int)≤(l0.length:Int):=od_;omega));omega);intro v204 w21 ho hb hg hat;rw [←Ny203.out] at ho;have n0_:=A_.mk (hb);have n1_:=A_.mk (ho);clear HB HO202;have HB:=n0_;have HO205:=n1_;clear n0_ n1_ ho hb hg hat)))
   go_ret2
   exact⟨_,by first|rfl|(simp [dQ,dR] <;> rfl)|(simp only [←hji8,←hji13];first|rfl|(simp [dQ,dR] <;> rfl))|(simp [*,dQ,dR] <;> rfl),by (repeat apply rX);exact HO205.out,beY HB.out⟩
def bT.f(k:Nat)(l0:List Int):Option (Int×List Int×Bool):=(bF.f k l0).bind fun bt210=>(if bt210.2=true then (if (bt210.1.length:Int)=0 then (some (0,([]:List Int),false)) else (if 0<(bt210.1.length:Int) then ((aN.f (rd bt210.1 0)).bind fun t215=>(if t215=true then (if 1≤(bt210.1.length:Int) then (some (rd bt210.1 0,(bt210.1.drop (1:Int).toNat),true)) else (none)) else (some (0,([]:List Int),false)))) else (none))) else (some (0,([]:List Int),false)))
def bT.T4:Bool×List (List Nat×List Nat):=(true,[([],[]),([0],[0]),([1],[1]),([],[]),([3],[3]),([2,4],[2,4]),([5,0,1,2,3,4,5],[5]),([6,0,1,2,3,4,5,6],[])])
def bT.B4:List Nat:=[0,1,3,0,8,31,63,127]
theorem bT.tab4:rtab .any (opsOf Tryz.f102 4)=bT.T4:=by kernel_rfl
theorem bT.bits4:waitsOk bT.T4.2 bT.B4=true:=by kernel_rfl
theorem bT.calls(k:Nat)(A0:Option Addr)(c0:Nat)(l0:List Int)(r1:Int)(r2:List Int)(r3:Bool)(w:World)(hr0:Kd.C (Kd.int .i64) w A0 l0.length l0)(hc0:l0.length≤c0)(h:bT.f k l0=some (r1,r2,r3)) :
  Calls Tryz.prog 102 #[.slice A0 l0.length c0] w fun e w'=>∃ v1_:Value,e=.returned (.tuple #[.agg #[.int .i64 r1,v1_],.bool r3])∧Kd.Q (Kd.int .i64) 3 w' w.heap.size (fun _=>True) v1_ r2∧Below w.heap.size w w':=by
 have hu68:=Tryz.underlying68
 have HR0:=A_.mk hr0
 have HC0:=A_.mk hc0
 clear hr0 hc0
 have HB:=A_.mk (Below.refl w.heap.size w)
 have H:((bF.f k l0).bind fun bt210=>(if bt210.2=true then (if (bt210.1.length:Int)=0 then (some (0,([]:List Int),false)) else (if 0<(bt210.1.length:Int) then ((aN.f (rd bt210.1 0)).bind fun t215=>(if t215=true then (if 1≤(bt210.1.length:Int) then (some (rd bt210.1 0,(bt210.1.drop (1:Int).toNat),true)) else (none)) else (some (0,([]:List Int),false)))) else (none))) else (some (0,([]:List Int),false))))=some (r1,r2,r3):=h
 clear h
 replace H:=ob_ H
 obtain⟨⟨t210,t211⟩,A20,H⟩:=H
 replace H:(if t211=true then (if (t210.length:Int)=0 then (some (0,([]:List Int),false)) else (if 0<(t210.length:Int) then ((aN.f (rd t210 0)).bind fun t215=>(if t215=true then (if 1≤(t210.length:Int) then (some (rd t210 0,(t210.drop (1:Int).toNat),true)) else (none)) else (some (0,([]:List Int),false)))) else (none))) else (some (0,([]:List Int),false)))=some (r1,r2,r3):=H
 have A2:=A_.mk A20
 clear A20
 by_cases c3:t211=true
 rotate_left
 ·replace c3:=Bool.eq_false_iff.mpr c3
  subst c3
  have H1:(some (0,([]:List Int),false))=some (r1,r2,r3):=by rw [if_neg (show ¬ (false=true) by decide)] at H;exact H
  clear H
  have H:=H1
  clear H1
  replace H:=jE H
  obtain⟨rfl,rfl,rfl⟩:=H
  go_enter Tryz.func102,Tryz.ntmps102
  go_wp2_with (first|((with_reducible refine gd_ (N:=2) rfl ?_);(try (refine bn (by rfl) ?_;dsimp only));refine by_ 2 (cs:=#[.int .i64 0,.slice none 0 0]) (t:=68) ?_;intro gb209 hg w24 hbox hb;have n0_:=A_.mk (bt_ (beY HB.out) hb);have n1_:=A_.mk (hbox);have n2_:=A_.mk ((by rw [hg];exact(bz_ (beY HB.out)):w.heap.size≤gb209));have n3_:=A_.mk ((by rw [hg];exact(bz_ (beY HB.out)):w.heap.size≤gb209));clear HB;have HB:=n0_;have BK209:=n1_;have GW209:=n2_;have GE209:=n3_;clear n0_ n1_ n2_ n3_ hb hbox hg)|((with_reducible refine gc_ (f:=120) rfl ?_);refine gl_ (some 8) Tryz.func120 #[.slice A0 l0.length c0] ?_;(with_reducible refine (bF.calls k _ _ l0 t210 false _ ?side1 ?side2 A2.out).mono ?_);(case side1=>exact cY ((cb_ HR0 HB)));(case side2=>exact HC0.out);rintro e w25 ⟨v212,rfl,ho0,hb⟩;refine⟨_,rfl,?_⟩;have n0_:=A_.mk (Kd.bR ho0 (bz_ ((zA_ HB GE209))));have n1_:=A_.mk (bb_ (bY BK209.out) hb);have n2_:=A_.mk (bt_ ((zA_ HB GE209)) hb);clear BK209 HB;have HO213:=n0_;have BK209:=n1_;have HB:=n2_;clear n0_ n1_ n2_;(try clear hb);(try clear hb2);(try clear hk);(try clear hi);(try clear ho0);obtain⟨hcz26_0,hcz26_1⟩:=gq BK209;obtain⟨hfz26_0,hfz26_1⟩:=dO BK209))
  refine bodyPost_ret (aM rfl _ _ gb209 68 #[.int .i64 0,.slice none 0 0] (0,0) _ rfl (by (repeat apply bX);refine bp_ (cs:=#[.int .i64 0,.slice none 0 0]) ?_ 1 _ rfl;(repeat apply bX);refine bp_ (cs:=#[.int .i64 0,.slice none 0 0]) ?_ 0 _ rfl;(repeat apply bX);exact BK209.out) Tryz.underlying68 rfl (by kernel_rfl)) rfl ?_
  exact⟨_,re_,Kd.mr (by first|exact Kd.jF _ _ _ _ _|exact Kd.lI _ _ _ _ _|exact Kd.jY _ _ _ _ _|exact Kd.lw _ _ _ _ _|exact Kd.kX _ _ _ _ _),(zA_ HB GE209)⟩
 subst c3
 have H1:(if (t210.length:Int)=0 then (some (0,([]:List Int),false)) else (if 0<(t210.length:Int) then ((aN.f (rd t210 0)).bind fun t215=>(if t215=true then (if 1≤(t210.length:Int) then (some (rd t210 0,(t210.drop (1:Int).toNat),true)) else (none)) else (some (0,([]:List Int),false)))) else (none)))=some (r1,r2,r3):=by rw [if_pos rfl] at H;exact H
 clear H
 have H:=H1
 clear H1
 by_cases c4:(t210.length:Int)=0
 ·rw [if_pos c4] at H
  have c4b0:=beq_iff_eq.mpr c4
  have c4b1:=bne_eq_false_iff_eq.mpr c4
  clear c4
  replace H:=jE H
  obtain⟨rfl,rfl,rfl⟩:=H
  go_enter Tryz.func102,Tryz.ntmps102
  go_wp2_with (first|((with_reducible refine gd_ (N:=2) rfl ?_);(try (refine bn (by rfl) ?_;dsimp only));refine by_ 2 (cs:=#[.int .i64 0,.slice none 0 0]) (t:=68) ?_;intro gb209 hg w5 hbox hb;have n0_:=A_.mk (bt_ (beY HB.out) hb);have n1_:=A_.mk (hbox);have n2_:=A_.mk ((by rw [hg];exact(bz_ (beY HB.out)):w.heap.size≤gb209));have n3_:=A_.mk ((by rw [hg];exact(bz_ (beY HB.out)):w.heap.size≤gb209));clear HB;have HB:=n0_;have BK209:=n1_;have GW209:=n2_;have GE209:=n3_;clear n0_ n1_ n2_ n3_ hb hbox hg)|((with_reducible refine gc_ (f:=120) rfl ?_);refine gl_ (some 8) Tryz.func120 #[.slice A0 l0.length c0] ?_;(with_reducible refine (bF.calls k _ _ l0 t210 true _ ?side1 ?side2 A2.out).mono ?_);(case side1=>exact cY ((cb_ HR0 HB)));(case side2=>exact HC0.out);rintro e w6 ⟨v212,rfl,ho0,hb⟩;refine⟨_,rfl,?_⟩;have n0_:=A_.mk (Kd.bR ho0 (bz_ ((zA_ HB GE209))));have n1_:=A_.mk (bb_ (bY BK209.out) hb);have n2_:=A_.mk (bt_ ((zA_ HB GE209)) hb);clear BK209 HB;have HO213:=n0_;have BK209:=n1_;have HB:=n2_;clear n0_ n1_ n2_;(try clear hb);(try clear hb2);(try clear hk);(try clear hi);(try clear ho0);obtain⟨Ao7,co7,eo7⟩:=Kd.aX HO213.out;subst eo7;obtain⟨hcz8_0,hcz8_1⟩:=gq BK209;obtain⟨hfz8_0,hfz8_1⟩:=dO BK209))
  refine bodyPost_ret (aM rfl _ _ gb209 68 #[.int .i64 0,.slice none 0 0] (0,0) _ rfl (by (repeat apply bX);refine bp_ (cs:=#[.int .i64 0,.slice none 0 0]) ?_ 1 _ rfl;(repeat apply bX);refine bp_ (cs:=#[.int .i64 0,.slice none 0 0]) ?_ 0 _ rfl;(repeat apply bX);exact BK209.out) Tryz.underlying68 rfl (by kernel_rfl)) rfl ?_
  exact⟨_,re_,Kd.mr (by first|exact Kd.jF _ _ _ _ _|exact Kd.lI _ _ _ _ _|exact Kd.jY _ _ _ _ _|exact Kd.lw _ _ _ _ _|exact Kd.kX _ _ _ _ _),(zA_ HB GE209)⟩
 rw [if_neg c4] at H
 have c4b0:=beq_eq_false_iff_ne.mpr c4
 have c4b1:=bne_iff_ne.mpr c4
 have c4b2:¬ (t210=[]):=fun h_=>c4 (by rw [h_];rfl)
 by_cases c9:0<(t210.length:Int)
 rotate_left
 ·rw [if_neg c9] at H
  exact absurd H (by simp)
 rw [if_pos c9] at H
 have c9b0:=decide_eq_true c9
 have c9b1:decide (0<t210.length)=true:=decide_eq_true (by omega)
 clear c9
 replace H:=oa_ H
 obtain⟨t215,A10,H⟩:=H
 by_cases c11:t215=true
 rotate_left
 ·replace c11:=Bool.eq_false_iff.mpr c11
  subst c11
  have H1:(some (0,([]:List Int),false))=some (r1,r2,r3):=by rw [if_neg (show ¬ (false=true) by decide)] at H;exact H
  clear H
  have H:=H1
  clear H1
  replace H:=jE H
  obtain⟨rfl,rfl,rfl⟩:=H
  go_enter Tryz.func102,Tryz.ntmps102
  go_wp2_with (first|((with_reducible refine gd_ (N:=2) rfl ?_);(try (refine bn (by rfl) ?_;dsimp only));refine by_ 2 (cs:=#[.int .i64 0,.slice none 0 0]) (t:=68) ?_;intro gb209 hg w20 hbox hb;have n0_:=A_.mk (bt_ (beY HB.out) hb);have n1_:=A_.mk (hbox);have n2_:=A_.mk ((by rw [hg];exact(bz_ (beY HB.out)):w.heap.size≤gb209));have n3_:=A_.mk ((by rw [hg];exact(bz_ (beY HB.out)):w.heap.size≤gb209));clear HB;have HB:=n0_;have BK209:=n1_;have GW209:=n2_;have GE209:=n3_;clear n0_ n1_ n2_ n3_ hb hbox hg)|((with_reducible refine gc_ (f:=120) rfl ?_);refine gl_ (some 8) Tryz.func120 #[.slice A0 l0.length c0] ?_;(with_reducible refine (bF.calls k _ _ l0 t210 true _ ?side1 ?side2 A2.out).mono ?_);(case side1=>exact cY ((cb_ HR0 HB)));(case side2=>exact HC0.out);rintro e w21 ⟨v212,rfl,ho0,hb⟩;refine⟨_,rfl,?_⟩;have n0_:=A_.mk (Kd.bR ho0 (bz_ ((zA_ HB GE209))));have n1_:=A_.mk (bb_ (bY BK209.out) hb);have n2_:=A_.mk (bt_ ((zA_ HB GE209)) hb);clear BK209 HB;have HO213:=n0_;have BK209:=n1_;have HB:=n2_;clear n0_ n1_ n2_;(try clear hb);(try clear hb2);(try clear hk);(try clear hi);(try clear ho0);obtain⟨Ao22,co22,eo22⟩:=Kd.aX HO213.out;subst eo22;have p214:0≤(0:Int):=(by omega);have q214:0<(t210.length:Int):=od_;obtain⟨ad214,e214,hx214_0⟩:=Kd.d9 (je HO213) 0 p214 q214;cases e214;have qi214:(0<t210.length)=True:=eq_true (by omega);(try rw [show ((0:Int)).toNat=0 from rfl] at hx214_0);(try rw [Addr.add_zero'] at hx214_0);replace p214:=eq_true p214;replace q214:=eq_true q214)|(go_at_call 65;(with_reducible refine (aN.calls (rd t210 0) false _ A10.out).mono ?_);rintro e w' ⟨rfl,⟨nd,rfl⟩⟩;(try (rw [jL w21];generalize hq_:World.drewN w21 _=w21;have n0_:A_ (Kd.R (Kd.int .i64) 3 w21 w.heap.size (fun _=>True) (.slice (some ad214) t210.length co22) t210):=⟨by rw [←hq_];exact(rY HO213.out)⟩;have n1_:A_ (w21.heap[gb209]?=some (.cells #[.int .i64 0,.slice none 0 0] 68 (0,0))):=⟨by rw [←hq_];exact(bY BK209.out)⟩;have n2_:A_ (Below w.heap.size w w21):=⟨by rw [←hq_];exact((zA_ HB GE209))⟩;clear HO213 BK209 HB hq_;have HO213:=n0_;have BK209:=n1_;have HB:=n2_;clear n0_ n1_ n2_));obtain⟨hcz23_0,hcz23_1⟩:=gq BK209;obtain⟨hfz23_0,hfz23_1⟩:=dO BK209))
  refine bodyPost_ret (aM rfl _ _ gb209 68 #[.int .i64 0,.slice none 0 0] (0,0) _ rfl (by (repeat apply bX);refine bp_ (cs:=#[.int .i64 0,.slice none 0 0]) ?_ 1 _ rfl;(repeat apply bX);refine bp_ (cs:=#[.int .i64 0,.slice none 0 0]) ?_ 0 _ rfl;(repeat apply bX);exact BK209.out) Tryz.underlying68 rfl (by kernel_rfl)) rfl ?_
  exact⟨_,re_,Kd.mr (by first|exact Kd.jF _ _ _ _ _|exact Kd.lI _ _ _ _ _|exact Kd.jY _ _ _ _ _|exact Kd.lw _ _ _ _ _|exact Kd.kX _ _ _ _ _),(zA_ HB GE209)⟩
 subst c11
 have H1:(if 1≤(t210.length:Int) then (some (rd t210 0,(t210.drop (1:Int).toNat),true)) else (none))=some (r1,r2,r3):=by rw [if_pos rfl] at H;exact H
 clear H
 have H:=H1
 clear H1
 by_cases c12:1≤(t210.length:Int)
 rotate_left
 ·rw [if_neg c12] at H
  exact absurd H (by simp)
 rw [if_pos c12] at H
 have c12b0:=eq_true c12
 have c12b1:=decide_eq_true c12
 clear c12
 obtain⟨y217,hy217⟩:∃ y_:List Int,y_=(t210.drop (1:Int).toNat):=⟨_,rfl⟩
 replace H:(some (rd t210 0,y217,true))=some (r1,r2,r3):=by first|(rw [hy217];with_reducible exact H)|(have H2_:=(Option.bind_some _ _).symm.trans H;rw [hy217];with_reducible exact H2_)|(have H2_:=(Option.bind_some _ _).symm.trans H;with_reducible exact H2_)|with_reducible exact H|(rw [hy217];exact H)|exact H
 have Ny217:=A_.mk hy217
 clear hy217
 replace H:=jE H
 obtain⟨rfl,rfl,rfl⟩:=H
 go_enter Tryz.func102,Tryz.ntmps102
 try go_wp2_with (first|((with_reducible refine gd_ (N:=2) rfl ?_);(try (refine bn (by rfl) ?_;dsimp only));refine by_ 2 (cs:=#[.int .i64 0,.slice none 0 0]) (t:=68) ?_;intro gb209 hg w13 hbox hb;have n0_:=A_.mk (bt_ (beY HB.out) hb);have n1_:=A_.mk (hbox);have n2_:=A_.mk ((by rw [hg];exact(bz_ (beY HB.out)):w.heap.size≤gb209));have n3_:=A_.mk ((by rw [hg];exact(bz_ (beY HB.out)):w.heap.size≤gb209));clear HB;have HB:=n0_;have BK209:=n1_;have GW209:=n2_;have GE209:=n3_;clear n0_ n1_ n2_ n3_ hb hbox hg)|((with_reducible refine gc_ (f:=120) rfl ?_);refine gl_ (some 8) Tryz.func120 #[.slice A0 l0.length c0] ?_;(with_reducible refine (bF.calls k _ _ l0 t210 true _ ?side1 ?side2 A2.out).mono ?_);(case side1=>exact cY ((cb_ HR0 HB)));(case side2=>exact HC0.out);rintro e w14 ⟨v212,rfl,ho0,hb⟩;refine⟨_,rfl,?_⟩;have n0_:=A_.mk (Kd.bR ho0 (bz_ ((zA_ HB GE209))));have n1_:=A_.mk (bb_ (bY BK209.out) hb);have n2_:=A_.mk (bt_ ((zA_ HB GE209)) hb);clear BK209 HB;have HO213:=n0_;have BK209:=n1_;have HB:=n2_;clear n0_ n1_ n2_;(try clear hb);(try clear hb2);(try clear hk);(try clear hi);(try clear ho0);obtain⟨Ao15,co15,eo15⟩:=Kd.aX HO213.out;subst eo15;have p214:0≤(0:Int):=(by omega);have q214:0<(t210.length:Int):=od_;obtain⟨ad214,e214,hx214_0⟩:=Kd.d9 (je HO213) 0 p214 q214;cases e214;have qi214:(0<t210.length)=True:=eq_true (by omega);(try rw [show ((0:Int)).toNat=0 from rfl] at hx214_0);(try rw [Addr.add_zero'] at hx214_0);replace p214:=eq_true p214;replace q214:=eq_true q214)|(go_at_call 65;(with_reducible refine (aN.calls (rd t210 0) true _ A10.out).mono ?_);rintro e w' ⟨rfl,⟨nd,rfl⟩⟩;(try (rw [jL w14];generalize hq_:World.drewN w14 _=w14;have n0_:A_ (Kd.R (Kd.int .i64) 3 w14 w.heap.size (fun _=>True) (.slice (some ad214) t210.length co15) t210):=⟨by rw [←hq_];exact(rY HO213.out)⟩;have n1_:A_ (w14.heap[gb209]?=some (.cells #[.int .i64 0,.slice none 0 0] 68 (0,0))):=⟨by rw [←hq_];exact(bY BK209.out)⟩;have n2_:A_ (Below w.heap.size w w14):=⟨by rw [←hq_];exact((zA_ HB GE209))⟩;clear HO213 BK209 HB hq_;have HO213:=n0_;have BK209:=n1_;have HB:=n2_;clear n0_ n1_ n2_))))
 have n0_:=A_.mk (Kd.rF HO213.out)
 have n1_:=A_.mk (bw_ BK209.out)
 have n2_:=A_.mk (be_ HB.out)
 clear HO213 BK209 HB
 have HO213:=n0_
 have BK209:=n1_
 have HB:=n2_
 clear n0_ n1_ n2_
 have p216:0≤(0:Int):=(by omega)
 have q216:0<(t210.length:Int):=od_
 obtain⟨ad216,e216,hx216_0⟩:=Kd.d9 (je HO213) 0 p216 q216
 obtain rfl:ad214=ad216:=(by injection e216)
 have qi216:(0<t210.length)=True:=eq_true (by omega)
 (try rw [show ((0:Int)).toNat=0 from rfl] at hx216_0)
 (try rw [Addr.add_zero'] at hx216_0)
 replace p216:=eq_true p216
 replace q216:=eq_true q216
 have q17:(1:Int)≤((t210.length:Int):Int):=od_
 obtain⟨i017,hi017,_,hsz17,_⟩:=info_parts info3
 have hcut17:=qH (P:=Tryz.prog) 28 3 .i64 Tryz.underlying28 hi017 1 hsz17 (some ad214) t210.length co15 1 (by omega) q17
 have hr17:=Kd.vE (k:=(1:Int).toNat) (Kd.mr HO213.out) (by omega)
 obtain⟨A17,hA17⟩:∃ A1,A1=(if co15=(1:Int).toNat then (some ad214) else ((some ad214):Option Addr).map (·.add ((1:Int).toNat*1))):=⟨_,rfl⟩
 obtain⟨c17,hc17⟩:∃ c1,c1=co15-(1:Int).toNat:=⟨_,rfl⟩
 have hy17:y217.length=t210.length-(1:Int).toNat:=(by rw [Ny217.out,List.length_drop])
 rw [←Ny217.out] at hr17
 rw [←hy17,←hA17,←hc17] at hcut17
 replace hr17:Kd.Q (Kd.int .i64) 3 (w14.drew) w.heap.size (fun _=>True) (.slice A17 y217.length c17) y217:=(by rw [hA17,hc17,hy17];exact hr17)
 have HE17:A_ ((Value.slice A17 y217.length c17).ownBlock=(.slice (some ad214) t210.length co15:Value).ownBlock):=⟨by rw [hA17];split <;> (cases ((some ad214):Option Addr) <;> rfl)⟩
 clear hy17 hi017 hsz17 hA17 hc17
 have HO219:=A_.mk hr17
 clear hr17
 replace q17:=eq_true q17
 refine dN (n:=8) (S:=fun w'=>w'.cell? ad214=some (.int .i64 (rd t210 0))) (ds:=[]) #[F,F,F,F,F,F,F,F] (by kernel_rfl) rfl rfl (hx216_0) (fun hHeld=>?_);refine jH bT.tab4 bT.bits4 (fun HT_ HW_=>?_)
 generalize w14.drew=w16 at HO213 HO219 BK209 HB HO219 hx216_0 hHeld ⊢
 refine pr_ (i:=0) (N:=some 26) #[T,F,F,F,F,F,F,F] rfl HT_.out ?_
 refine pr_ (i:=1) (N:=some 27) #[T,T,F,F,F,F,F,F] rfl HT_.out ?_
 refine pr_ (i:=3) (N:=some 29) #[T,T,F,T,F,F,F,F] rfl HT_.out ?_
 refine pr_ (i:=4) (N:=some 30) #[T,T,F,T,T,F,F,F] rfl HT_.out ?_
 refine nV (i:=2) (N:=some 28) (v:=?_) (a':=?_) #[T,T,T,T,T,F,F,F] rfl rfl (oq HT_.out HW_.out (by kernel_rfl)) (fun _ _ _ h=>h) (Or.inl ⟨by rfl,?_⟩) hHeld ?_ ?_
 rotate_left
 ·intro w' s0
  go_simp
  with_reducible rfl
 rotate_left
 ·simp only [pS]
  rfl
 refine pr_ (i:=5) (N:=some 31) #[T,T,T,T,T,T,F,F] rfl HT_.out ?_
 refine ot_ (i:=6) (N:=none) #[T,T,T,T,T,T,T,F] rfl HT_.out (fun K hK=>?_)
 have hs18:w16.cell? ⟨gb209,0,none⟩=some (.int .i64 0):=(bc_ BK209.out 0).trans rfl
 have hfs18:=bf_ BK209.out 0
 have hs19:w16.cell? ⟨gb209,1,none⟩=some (.slice none 0 0):=(bc_ BK209.out 1).trans rfl
 have hfs19:=bf_ BK209.out 1
 refine fT (w1:=?_) (by rfl) rfl ?_ ?_
 rotate_left
 ·go_simp
  rfl
 refine hK.out _ _ (((cell_far (p:=⟨gb209,_,none⟩) (by have e_:=Kd.pU (Kd.ou HO213.out BK209.out (by decide));first|exact e_|(rw [add_block];exact e_)|(dsimp only;exact e_)) _).trans (((cell_far (p:=⟨gb209,_,none⟩) (by have e_:=Kd.pU (Kd.ou HO213.out BK209.out (by decide));first|exact e_|(rw [add_block];exact e_)|(dsimp only;exact e_)) _).trans (hHeld))))) (fun hHeld=>?_)
 clear hK K
 refine pr_ (i:=7) (N:=some 3) #[T,T,T,T,T,T,T,T] rfl HT_.out ?_
 refine fA (lc HT_.out (by kernel_rfl)) ?_
 try go_wp2
 refine bodyPost_ret (aM rfl _ _ gb209 68 #[.int .i64 (rd t210 0),.slice A17 y217.length c17] (0,0) _ rfl (by (repeat apply bX);refine bp_ (cs:=#[.int .i64 (rd t210 0),.slice none 0 0]) ?_ 1 _ rfl;(repeat apply bX);refine bp_ (cs:=#[.int .i64 0,.slice none 0 0]) ?_ 0 _ rfl;(repeat apply bX);exact BK209.out) Tryz.underlying68 rfl (by kernel_rfl)) rfl ?_
 exact⟨_,re_,by (with_reducible repeat (first|apply Kd.lN|apply Kd.lU|apply Kd.nz));exact Kd.kQ (Kd.lu (p:=⟨gb209,1,none⟩) (Kd.lu (p:=⟨gb209,0,none⟩) (Kd.jb HO219.out BK209.out (by decide)) (fun _ hk=>hk.2) (.int .i64 (rd t210 0))) (fun _ hk=>hk.2) (.slice A17 y217.length c17)) (fun _ hk=>trivial),(zA_ HB GE209)⟩
def jo.f(a0:Int)(a1:Int):Option (Bool):=(bD.f a0 a1).bind fun t220=>((bI.f t220 1 7).bind fun t221=>(some t221))
theorem jo.calls(a0:Int)(a1:Int)(r:Bool)(w:World)(h:jo.f a0 a1=some r) :
  Calls Tryz.prog 119 #[.int .i64 a0,.int .i64 a1] w fun e w'=>e=.returned (.bool r)∧Drawn0 w w':=by
 have H:((bD.f a0 a1).bind fun t220=>((bI.f t220 1 7).bind fun t221=>(some t221)))=some r:=h
 clear h
 replace H:=oa_ H
 obtain⟨t220,A3,H⟩:=H
 replace H:=oa_ H
 obtain⟨t221,A4,H⟩:=H
 obtain rfl:=Option.some.inj H
 go_enter Tryz.func119,Tryz.ntmps119
 go_wp2_with (first|((with_reducible refine gc_ (f:=99) rfl ?_);refine gl_ (some 7) Tryz.func99 #[.int .i64 a0,.int .i64 a1] ?_;(with_reducible refine (bD.calls a0 a1 t220 _ A3.out).mono ?_);rintro e w' ⟨rfl,⟨nd,rfl⟩⟩;refine⟨_,rfl,?_⟩)|((with_reducible refine gc_ (f:=28) rfl ?_);refine gl_ (some 8) Tryz.func28 #[.int .i64 t220,.int .i64 1,.int .i64 7] ?_;(with_reducible refine (bI.calls t220 1 7 t221 _ A4.out).mono ?_);rintro e w' ⟨rfl,⟨nd,rfl⟩⟩;refine⟨_,rfl,?_⟩))
 go_ret
 exact dz_
def gL.f(k:Nat)(a0_0:Int)(l0_1:List (List Int))(l1:List Int):Option ((Int)):=((bT.f k l1).bind fun ⟨t1,t2,t3⟩=>(if t3=true then ((bv.f k a0_0 l0_1).bind fun t4=>(if t4=true then (if t1=a0_0 then (some (0)) else ((jo.f t1 a0_0).bind fun t5=>(if t5=true then (some (1)) else (some (2))))) else (some (3)))) else (some (3))))
theorem gL.calls(k:Nat)(a0_0:Int)(A0_1:Option Addr)(c0_1:Nat)(l0_1:List (List Int))(A1:Option Addr)(c1:Nat)(l1:List Int)(r:Int)(w:World)(hr0_1:Kd.C (Kd.slice 3 (Kd.int .i64)) w A0_1 l0_1.length l0_1)(hc0_1:l0_1.length≤c0_1)(hr1:Kd.C (Kd.int .i64) w A1 l1.length l1)(hc1:l1.length≤c1)(h:gL.f k a0_0 l0_1 l1=some r) :
  Calls Tryz.prog 101 #[.agg #[.int .i64 a0_0,.slice A0_1 l0_1.length c0_1],.slice A1 l1.length c1] w fun e w'=>e=.returned (.int .i64 r)∧Below w.heap.size w w':=by
 have HR0_1:=A_.mk hr0_1
 have HC0_1:=A_.mk hc0_1
 clear hr0_1 hc0_1
 have HR1:=A_.mk hr1
 have HC1:=A_.mk hc1
 clear hr1 hc1
 have HB:=A_.mk (Below.refl w.heap.size w)
 unfold gL.f at h
 have H:=h
 clear h
 replace H:=oa_ H
 obtain⟨⟨t1,t2,t3⟩,A2,H⟩:=H
 try dsimp only at H
 by_cases hc1_:t3=true
 case neg =>
  rw [if_neg hc1_] at H
  replace hc1_:=eq_false_of_ne_true hc1_
  subst hc1_
  replace H:=Option.some.inj H
  subst H
  have hu37:=Tryz.underlying37
  have hu68:=Tryz.underlying68
  go_enter Tryz.func101,Tryz.ntmps101
  have HS:=A_.mk (Nat.le_refl w.heap.size)
  go_wp2_with (first|((with_reducible refine gd_ (N:=2) rfl ?_);refine by_ 2 (cs:=#[.int .i64 a0_0,.slice A0_1 l0_1.length c0_1]) (t:=37) ?_;intro gb1_ hg w1_ hbox hb;replace HS:=aHg HS hg hbox;replace HB:=aHB HB hb;have BK1:=A_.mk hbox;clear hbox hb hg)|((with_reducible refine gc_ (f:=102) rfl ?_);refine gl_ (some 9) Tryz.func102 #[.slice A1 l1.length c1] ?_;(with_reducible refine (bT.calls k _ _ l1 t1 t2 false _ (cb_ HR1 HB) HC1.out A2.out).mono ?_);rintro e w2_ ⟨v1_,rfl,ho0_,hb⟩;refine⟨_,rfl,?_⟩;replace HS:=aHs HS hb.size;replace ho0_:=Kd.Q_V (base':=w.heap.size) (Kd.kG ho0_);obtain⟨Ao2_1,co2_1,ev_⟩:=Kd.gH ho0_;subst ev_;replace HB:=aHB HB hb;clear hb ho0_)|((with_reducible refine gd_ (N:=5) rfl ?_);refine by_ 5 (cs:=#[.int .i64 0,.slice none 0 0]) (t:=68) ?_;intro gb3_ hg w3_ hbox hb;replace HS:=aHg HS hg hbox;replace HB:=aHB HB hb;have BK3:=A_.mk hbox;clear hbox hb hg;have Q3:=ak BK3.out)|((with_reducible refine ae (t:=68) (p:=5) rfl ?_);obtain⟨qf0,qf1⟩:=dO BK3;refine so_ (w1:=(jv w3_ gb3_ (.int .i64 t1) (.slice Ao2_1 t2.length co2_1))) ?_;intro w4_ hw;clear qf0 qf1;obtain⟨hbx,hkp,hbb⟩:=jA hw BK3 HB (ho_ HS);clear hw;replace BK3:=A_.mk hbx;replace HB:=A_.mk hbb;replace HS:=aHs HS hkp.1;clear hkp hbb hbx Q3))
  go_ret
  exact⟨rfl,HB.out⟩
 rw [if_pos hc1_] at H
 subst hc1_
 replace H:=oa_ H
 obtain⟨t4,A5,H⟩:=H
 replace H:=A_.mk H
 have hu37:=Tryz.underlying37
 have hu68:=Tryz.underlying68
 go_enter Tryz.func101,Tryz.ntmps101
 have HS:=A_.mk (Nat.le_refl w.heap.size)
 go_wp2_with (first|((with_reducible refine gd_ (N:=2) rfl ?_);refine by_ 2 (cs:=#[.int .i64 a0_0,.slice A0_1 l0_1.length c0_1]) (t:=37) ?_;intro gb1_ hg w1_ hbox hb;replace HS:=aHg HS hg hbox;replace HB:=aHB HB hb;have BK1:=A_.mk hbox;clear hbox hb hg)|((with_reducible refine gc_ (f:=102) rfl ?_);refine gl_ (some 9) Tryz.func102 #[.slice A1 l1.length c1] ?_;(with_reducible refine (bT.calls k _ _ l1 t1 t2 true _ (cb_ HR1 HB) HC1.out A2.out).mono ?_);rintro e w2_ ⟨v1_,rfl,ho0_,hb⟩;refine⟨_,rfl,?_⟩;replace HS:=aHs HS hb.size;replace ho0_:=Kd.Q_V (base':=w.heap.size) (Kd.kG ho0_);obtain⟨Ao2_1,co2_1,ev_⟩:=Kd.gH ho0_;subst ev_;replace BK1:=aBb BK1 hb;replace HB:=aHB HB hb;clear hb ho0_)|((with_reducible refine gd_ (N:=5) rfl ?_);refine by_ 5 (cs:=#[.int .i64 0,.slice none 0 0]) (t:=68) ?_;intro gb3_ hg w3_ hbox hb;replace HS:=aHg HS hg hbox;replace BK1:=aBb BK1 hb;replace HB:=aHB HB hb;have BK3:=A_.mk hbox;clear hbox hb hg;have Q3:=ak BK3.out)|((with_reducible refine ae (t:=68) (p:=5) rfl ?_);obtain⟨qf0,qf1⟩:=dO BK3;refine so_ (w1:=(jv w3_ gb3_ (.int .i64 t1) (.slice Ao2_1 t2.length co2_1))) ?_;intro w4_ hw;clear qf0 qf1;obtain⟨hbx,hkp,hbb⟩:=jA hw BK3 HB (ho_ HS);clear hw;replace BK1:=aBk BK1 hkp HS;replace BK3:=A_.mk hbx;replace HB:=A_.mk hbb;replace HS:=aHs HS hkp.1;clear hkp hbb hbx Q3;have Q1:=ak BK1.out))
 refine(bv.calls k a0_0 _ _ l0_1 t4 _ (cb_ HR0_1 HB) HC0_1.out A5.out).mono ?_
 rintro e w5_ ⟨rfl,hb⟩
 revert BK1 BK3 HB HS
 refine aD hb ?_
 intro BK1 BK3 HB HS
 clear hb  Q1
 have Q1:=ak BK1.out
 have Q3:=ak BK3.out
 replace H:=H.out
 by_cases hc2_:t4=true
 case neg =>
  rw [if_neg hc2_] at H
  replace hc2_:=eq_false_of_ne_true hc2_
  subst hc2_
  replace H:=Option.some.inj H
  subst H
  go_wp2
  go_ret
  exact⟨rfl,HB.out⟩
 rw [if_pos hc2_] at H
 subst hc2_
 by_cases hc3_:t1=a0_0
 case pos =>
  rw [if_pos hc3_] at H
  replace hc3_:=iF hc3_
  replace H:=Option.some.inj H
  subst H
  go_wp2
  go_ret
  exact⟨rfl,HB.out⟩
 rw [if_neg hc3_] at H
 have hc3_b:=iE hc3_
 replace H:=oa_ H
 obtain⟨t5,A6,H⟩:=H
 replace H:=A_.mk H
 go_wp2_with (fail)
 refine(jo.calls t1 a0_0 t5 _ A6.out).mono ?_
 rintro e w6_ ⟨rfl,hb⟩
 replace hb:=Drawn0.below hb
 replace HS:=aHs HS hb.size
 replace HB:=aHB HB hb
 clear hb  Q1 Q3
 replace H:=H.out
 by_cases hc4_:t5=true
 case pos =>
  rw [if_pos hc4_] at H
  subst hc4_
  replace H:=Option.some.inj H
  subst H
  go_wp2
  go_ret
  exact⟨rfl,HB.out⟩
 rw [if_neg hc4_] at H
 replace hc4_:=eq_false_of_ne_true hc4_
 subst hc4_
 replace H:=Option.some.inj H
 subst H
 go_wp2
 go_ret
 exact⟨rfl,HB.out⟩
def eD.f(k:Nat)(a0_0:Int)(l0_1:List (List Int))(l1:List Int):Option (Int×(List (List Int))×Int):=(aA.f k a0_0 l0_1).bind fun bt224=>((gL.f k a0_0 l0_1 l1).bind fun t229=>(if t229=0 then (if (l0_1.length:Int)=1000 then (some (bt224.1,bt224.2,2)) else ((bT.f k l1).bind fun bt230=>(if bt224.2.length<5864062014805 then ((eO.f a0_0).bind fun t239=>(some (t239,(bt224.2++[bt230.2.1]),t229))) else (none)))) else (some (bt224.1,bt224.2,t229))))
theorem eD.calls(k:Nat)(a0_0:Int)(A0_1:Option Addr)(c0_1:Nat)(l0_1:List (List Int))(A1:Option Addr)(c1:Nat)(l1:List Int)(r1:Int)(r2:List (List Int))(r3:Int)(w:World)(hr0_1:Kd.C (Kd.slice 3 (Kd.int .i64)) w A0_1 l0_1.length l0_1)(hc0_1:l0_1.length≤c0_1)(hr1:Kd.C (Kd.int .i64) w A1 l1.length l1)(hc1:l1.length≤c1)(h:eD.f k a0_0 l0_1 l1=some (r1,r2,r3)) :
  Calls Tryz.prog 69 #[.agg #[.int .i64 a0_0,.slice A0_1 l0_1.length c0_1],.slice A1 l1.length c1] w fun e w'=>∃ v1_:Value,e=.returned (.tuple #[.agg #[.int .i64 r1,v1_],.int .i64 r3])∧Kd.N (Kd.slice 3 (Kd.int .i64)) 28 w' w.heap.size (fun k_=>(w.heap.size≤k_)) v1_ r2∧Below w.heap.size w w':=by
 have hu37:=Tryz.underlying37
 have hu68:=Tryz.underlying68
 have HR0_1:=A_.mk hr0_1
 have HC0_1:=A_.mk hc0_1
 clear hr0_1 hc0_1
 have HR1:=A_.mk hr1
 have HC1:=A_.mk hc1
 clear hr1 hc1
 have HB:=A_.mk (Below.refl w.heap.size w)
 have H:((aA.f k a0_0 l0_1).bind fun bt224=>((gL.f k a0_0 l0_1 l1).bind fun t229=>(if t229=0 then (if (l0_1.length:Int)=1000 then (some (bt224.1,bt224.2,2)) else ((bT.f k l1).bind fun bt230=>(if bt224.2.length<5864062014805 then ((eO.f a0_0).bind fun t239=>(some (t239,(bt224.2++[bt230.2.1]),t229))) else (none)))) else (some (bt224.1,bt224.2,t229)))))=some (r1,r2,r3):=h
 clear h
 replace H:=ob_ H
 obtain⟨⟨t224,t225⟩,A30,H⟩:=H
 replace H:((gL.f k a0_0 l0_1 l1).bind fun t229=>(if t229=0 then (if (l0_1.length:Int)=1000 then (some (t224,t225,2)) else ((bT.f k l1).bind fun bt230=>(if t225.length<5864062014805 then ((eO.f a0_0).bind fun t239=>(some (t239,(t225++[bt230.2.1]),t229))) else (none)))) else (some (t224,t225,t229))))=some (r1,r2,r3):=H
 have A3:=A_.mk A30
 clear A30
 replace H:=oa_ H
 obtain⟨t229,A4,H⟩:=H
 by_cases c5:t229=0
 rotate_left
 ·rw [if_neg c5] at H
  have c5b0:=beq_eq_false_iff_ne.mpr c5
  have c5b1:=bne_iff_ne.mpr c5
  replace H:=jE H
  obtain⟨rfl,rfl,rfl⟩:=H
  go_enter Tryz.func69,Tryz.ntmps69
  go_wp2_with (first|((with_reducible refine gd_ (N:=2) rfl ?_);refine by_ 2 (cs:=#[.int .i64 a0_0,.slice A0_1 l0_1.length c0_1]) (t:=37) ?_;intro gb222 hg w53 hbox hb;have n0_:=A_.mk (bt_ (beY HB.out) hb);have n1_:=A_.mk (hbox);have n2_:=A_.mk ((by rw [hg];exact(bz_ (beY HB.out)):w.heap.size≤gb222));have n3_:=A_.mk ((by rw [hg];exact(bz_ (beY HB.out)):w.heap.size≤gb222));clear HB;have HB:=n0_;have BK222:=n1_;have GW222:=n2_;have GE222:=n3_;clear n0_ n1_ n2_ n3_ hb hbox hg)|((with_reducible refine gd_ (N:=4) rfl ?_);refine by_ 4 (cs:=#[.int .i64 0,.slice none 0 0]) (t:=37) ?_;intro gb223 hg w54 hbox hb;have n0_:=A_.mk (bb_ (bY BK222.out) hb);have n1_:=A_.mk (bt_ ((zA_ HB GE222)) hb);have n2_:=A_.mk (hbox);have n3_:=A_.mk ((by rw [hg];exact(bz_ ((zA_ HB GE222))):w.heap.size≤gb223));have n4_:=A_.mk ((by rw [hg];exact(bz_ ((zA_ HB GE222))):w.heap.size≤gb223));have n5_:=A_.mk ((by rw [hg];exact Nat.ne_of_lt (aI (bY BK222.out)):gb222≠gb223));have n6_:=A_.mk ((by rw [hg];exact Nat.ne_of_gt (aI (bY BK222.out)):gb223≠gb222));clear BK222 HB;have BK222:=n0_;have HB:=n1_;have BK223:=n2_;have GW223:=n3_;have GE223:=n4_;have NB222_223:=n5_;have NB223_222:=n6_;clear n0_ n1_ n2_ n3_ n4_ n5_ n6_ hb hbox hg;have hnb55:=NB222_223.out;have hnc55:=NB223_222.out;obtain⟨hcz56_0,hcz56_1⟩:=gq BK222;obtain⟨hfz56_0,hfz56_1⟩:=dO BK222)|((with_reducible refine gc_ (f:=61) rfl ?_);refine gl_ (some 11) Tryz.func61 #[.agg #[.int .i64 a0_0,.slice A0_1 l0_1.length c0_1]] ?_;(with_reducible refine (aA.calls k a0_0 _ _ l0_1 t224 t225 _ ?side1 ?side2 A3.out).mono ?_);(case side1=>exact cY ((cb_ HR0_1 HB)));(case side2=>exact HC0_1.out);rintro e w57 ⟨v226,rfl,ho0,hb⟩;refine⟨_,rfl,?_⟩;have n0_:=A_.mk (Kd.qf (Kd.iA (ok':=fun k_=>(w.heap.size≤k_)∧k_≠gb222∧k_≠gb223) (Kd.S_N (Kd.ik ho0)) (fun k_ hk_=>⟨(Nat.le_trans (bz_ ((zB_ HB GE222 GE223))) hk_.2.1),(Kd.freshB (g:=gb222) (o:=.cells #[.int .i64 a0_0,.slice A0_1 l0_1.length c0_1] 37 (0,0)) (bY BK222.out) k_ hk_.2.1),(Kd.freshB (g:=gb223) (o:=.cells #[.int .i64 0,.slice none 0 0] 37 (0,0)) (bY BK223.out) k_ hk_.2.1)⟩)) (bz_ ((zB_ HB GE222 GE223))));have n1_:=A_.mk (bb_ (bY BK222.out) hb);have n2_:=A_.mk (bb_ (bY BK223.out) hb);have n3_:=A_.mk (bt_ ((zB_ HB GE222 GE223)) hb);clear BK222 BK223 HB;have HO227:=n0_;have BK222:=n1_;have BK223:=n2_;have HB:=n3_;clear n0_ n1_ n2_ n3_;(try clear hb);(try clear hb2);(try clear hk);(try clear hi);(try clear ho0))|((with_reducible refine gd_ (N:=6) rfl ?_);refine by_ 6 (cs:=#[.int .i64 0,.slice none 0 0]) (t:=37) ?_;intro gb228 hg w58 hbox hb;have n0_:=A_.mk (Kd.jk (Kd.mD (by (with_reducible repeat (first|apply Kd.iZ|apply Kd.ja|apply Kd.jM));exact HO227.out) gb228 (Nat.le_of_eq hg.symm)) hb);have n1_:=A_.mk (bb_ (bY BK222.out) hb);have n2_:=A_.mk (bb_ (bY BK223.out) hb);have n3_:=A_.mk (bt_ ((zB_ HB GE222 GE223)) hb);have n4_:=A_.mk (hbox);have n5_:=A_.mk ((by rw [hg];exact(bz_ ((zB_ HB GE222 GE223))):w.heap.size≤gb228));have n6_:=A_.mk ((by rw [hg];exact(bz_ ((zB_ HB GE222 GE223))):w.heap.size≤gb228));have n7_:=A_.mk ((by rw [hg];exact Nat.ne_of_lt (aI (bY BK222.out)):gb222≠gb228));have n8_:=A_.mk ((by rw [hg];exact Nat.ne_of_gt (aI (bY BK222.out)):gb228≠gb222));have n9_:=A_.mk ((by rw [hg];exact Nat.ne_of_lt (aI (bY BK223.out)):gb223≠gb228));have n10_:=A_.mk ((by rw [hg];exact Nat.ne_of_gt (aI (bY BK223.out)):gb228≠gb223));clear HO227 BK222 BK223 HB;have HO227:=n0_;have BK222:=n1_;have BK223:=n2_;have HB:=n3_;have BK228:=n4_;have GW228:=n5_;have GE228:=n6_;have NB222_228:=n7_;have NB228_222:=n8_;have NB223_228:=n9_;have NB228_223:=n10_;clear n0_ n1_ n2_ n3_ n4_ n5_ n6_ n7_ n8_ n9_ n10_ hb hbox hg;have hnb59:=NB228_222.out;have hnc59:=NB222_228.out;have hnb60:=NB228_223.out;have hnc60:=NB223_228.out;obtain⟨hcz61_0,hcz61_1⟩:=gq BK228;obtain⟨hfz61_0,hfz61_1⟩:=dO BK228;obtain⟨Ao62,co62,eo62⟩:=Kd.mX HO227.out;subst eo62;obtain⟨hcz63_0,hcz63_1⟩:=gq BK222;obtain⟨hfz63_0,hfz63_1⟩:=dO BK222)|((with_reducible refine gc_ (f:=101) rfl ?_);refine gl_ (some 14) Tryz.func101 #[.agg #[.int .i64 a0_0,.slice A0_1 l0_1.length c0_1],.slice A1 l1.length c1] ?_;(with_reducible refine (gL.calls k a0_0 _ _ l0_1 _ _ l1 t229 _ ?side1 ?side2 ?side3 ?side4 A4.out).mono ?_);(case side1=>exact Kd.cu HR0_1.out ((zC_ HB GE222 GE223 GE228)));(case side2=>exact HC0_1.out);(case side3=>exact Kd.cu HR1.out ((zC_ HB GE222 GE223 GE228)));(case side4=>exact HC1.out);rintro e w64 ⟨rfl,hb⟩;refine⟨_,rfl,?_⟩;have n0_:=A_.mk (Kd.jk (by (with_reducible repeat (first|apply Kd.iZ|apply Kd.ja|apply Kd.jM));exact(Kd.iA (Kd.jX (p:=⟨gb228,1,none⟩) (Kd.jX (p:=⟨gb228,0,none⟩) (Kd.iA HO227.out (fun k_ hk=>(⟨hk,hk.2⟩:_∧k_≠gb228))) (fun _ hk=>hk.2) (.int .i64 t224)) (fun _ hk=>hk.2) (.slice Ao62 t225.length co62)) (fun _ h_=>h_.1))) hb);have n1_:=A_.mk (bb_ (g:=gb222) (o:=.cells #[.int .i64 a0_0,.slice A0_1 l0_1.length c0_1] 37 (0,0)) (by (repeat apply bX);refine bA ?_ NB222_228.out _;(repeat apply bX);refine bA ?_ NB222_228.out _;(repeat apply bX);exact BK222.out) hb);have n2_:=A_.mk (bb_ (g:=gb223) (o:=.cells #[.int .i64 0,.slice none 0 0] 37 (0,0)) (by (repeat apply bX);refine bA ?_ NB223_228.out _;(repeat apply bX);refine bA ?_ NB223_228.out _;(repeat apply bX);exact BK223.out) hb);have n3_:=A_.mk (bb_ (g:=gb228) (o:=.cells #[.int .i64 t224,.slice Ao62 t225.length co62] 37 (0,0)) (by (repeat apply bX);refine bp_ (cs:=#[.int .i64 t224,.slice none 0 0]) ?_ 1 _ rfl;(repeat apply bX);refine bp_ (cs:=#[.int .i64 0,.slice none 0 0]) ?_ 0 _ rfl;(repeat apply bX);exact BK228.out) hb);have n4_:=A_.mk (bt_ ((zC_ HB GE222 GE223 GE228)) hb);clear HO227 BK222 BK223 BK228 HB;have HO227:=n0_;have BK222:=n1_;have BK223:=n2_;have BK228:=n3_;have HB:=n4_;clear n0_ n1_ n2_ n3_ n4_;(try clear hb);(try clear hb2);(try clear hk);(try clear hi);obtain⟨hcz65_0,hcz65_1⟩:=gq BK228;obtain⟨hfz65_0,hfz65_1⟩:=dO BK228;obtain⟨hcz66_0,hcz66_1⟩:=gq BK223;obtain⟨hfz66_0,hfz66_1⟩:=dO BK223))
  refine bodyPost_ret (aM rfl _ _ gb223 37 #[.int .i64 t224,.slice Ao62 t225.length co62] (0,0) _ rfl (by (repeat apply bX);refine bp_ (cs:=#[.int .i64 t224,.slice none 0 0]) ?_ 1 _ rfl;(repeat apply bX);refine bp_ (cs:=#[.int .i64 0,.slice none 0 0]) ?_ 0 _ rfl;(repeat apply bX);exact BK223.out) Tryz.underlying37 rfl (by kernel_rfl)) rfl ?_
  exact⟨_,re_,by (with_reducible repeat (first|apply Kd.iZ|apply Kd.ja|apply Kd.jM));exact Kd.iA (Kd.jX (p:=⟨gb223,1,none⟩) (Kd.jX (p:=⟨gb223,0,none⟩) (Kd.iA HO227.out (fun k_ hk=>(⟨hk,hk.1.2.2⟩:_∧k_≠gb223))) (fun _ hk=>hk.2) (.int .i64 t224)) (fun _ hk=>hk.2) (.slice Ao62 t225.length co62)) (fun _ hk=>hk.1.1.1),(zC_ HB GE222 GE223 GE228)⟩
 rw [if_pos c5] at H
 have c5b0:=beq_iff_eq.mpr c5
 have c5b1:=bne_eq_false_iff_eq.mpr c5
 clear c5
 by_cases c6:(l0_1.length:Int)=1000
 ·rw [if_pos c6] at H
  have c6b0:=beq_iff_eq.mpr c6
  have c6b1:=bne_eq_false_iff_eq.mpr c6
  clear c6
  replace H:=jE H
  obtain⟨rfl,rfl,rfl⟩:=H
  go_enter Tryz.func69,Tryz.ntmps69
  go_wp2_with (first|((with_reducible refine gd_ (N:=2) rfl ?_);refine by_ 2 (cs:=#[.int .i64 a0_0,.slice A0_1 l0_1.length c0_1]) (t:=37) ?_;intro gb222 hg w7 hbox hb;have n0_:=A_.mk (bt_ (beY HB.out) hb);have n1_:=A_.mk (hbox);have n2_:=A_.mk ((by rw [hg];exact(bz_ (beY HB.out)):w.heap.size≤gb222));have n3_:=A_.mk ((by rw [hg];exact(bz_ (beY HB.out)):w.heap.size≤gb222));clear HB;have HB:=n0_;have BK222:=n1_;have GW222:=n2_;have GE222:=n3_;clear n0_ n1_ n2_ n3_ hb hbox hg)|((with_reducible refine gd_ (N:=4) rfl ?_);refine by_ 4 (cs:=#[.int .i64 0,.slice none 0 0]) (t:=37) ?_;intro gb223 hg w8 hbox hb;have n0_:=A_.mk (bb_ (bY BK222.out) hb);have n1_:=A_.mk (bt_ ((zA_ HB GE222)) hb);have n2_:=A_.mk (hbox);have n3_:=A_.mk ((by rw [hg];exact(bz_ ((zA_ HB GE222))):w.heap.size≤gb223));have n4_:=A_.mk ((by rw [hg];exact(bz_ ((zA_ HB GE222))):w.heap.size≤gb223));have n5_:=A_.mk ((by rw [hg];exact Nat.ne_of_lt (aI (bY BK222.out)):gb222≠gb223));have n6_:=A_.mk ((by rw [hg];exact Nat.ne_of_gt (aI (bY BK222.out)):gb223≠gb222));clear BK222 HB;have BK222:=n0_;have HB:=n1_;have BK223:=n2_;have GW223:=n3_;have GE223:=n4_;have NB222_223:=n5_;have NB223_222:=n6_;clear n0_ n1_ n2_ n3_ n4_ n5_ n6_ hb hbox hg;have hnb9:=NB222_223.out;have hnc9:=NB223_222.out;obtain⟨hcz10_0,hcz10_1⟩:=gq BK222;obtain⟨hfz10_0,hfz10_1⟩:=dO BK222)|((with_reducible refine gc_ (f:=61) rfl ?_);refine gl_ (some 11) Tryz.func61 #[.agg #[.int .i64 a0_0,.slice A0_1 l0_1.length c0_1]] ?_;(with_reducible refine (aA.calls k a0_0 _ _ l0_1 t224 t225 _ ?side1 ?side2 A3.out).mono ?_);(case side1=>exact cY ((cb_ HR0_1 HB)));(case side2=>exact HC0_1.out);rintro e w11 ⟨v226,rfl,ho0,hb⟩;refine⟨_,rfl,?_⟩;have n0_:=A_.mk (Kd.qf (Kd.iA (ok':=fun k_=>(w.heap.size≤k_)∧k_≠gb222∧k_≠gb223) (Kd.S_N (Kd.ik ho0)) (fun k_ hk_=>⟨(Nat.le_trans (bz_ ((zB_ HB GE222 GE223))) hk_.2.1),(Kd.freshB (g:=gb222) (o:=.cells #[.int .i64 a0_0,.slice A0_1 l0_1.length c0_1] 37 (0,0)) (bY BK222.out) k_ hk_.2.1),(Kd.freshB (g:=gb223) (o:=.cells #[.int .i64 0,.slice none 0 0] 37 (0,0)) (bY BK223.out) k_ hk_.2.1)⟩)) (bz_ ((zB_ HB GE222 GE223))));have n1_:=A_.mk (bb_ (bY BK222.out) hb);have n2_:=A_.mk (bb_ (bY BK223.out) hb);have n3_:=A_.mk (bt_ ((zB_ HB GE222 GE223)) hb);clear BK222 BK223 HB;have HO227:=n0_;have BK222:=n1_;have BK223:=n2_;have HB:=n3_;clear n0_ n1_ n2_ n3_;(try clear hb);(try clear hb2);(try clear hk);(try clear hi);(try clear ho0))|((with_reducible refine gd_ (N:=6) rfl ?_);refine by_ 6 (cs:=#[.int .i64 0,.slice none 0 0]) (t:=37) ?_;intro gb228 hg w12 hbox hb;have n0_:=A_.mk (Kd.jk (Kd.mD (by (with_reducible repeat (first|apply Kd.iZ|apply Kd.ja|apply Kd.jM));exact HO227.out) gb228 (Nat.le_of_eq hg.symm)) hb);have n1_:=A_.mk (bb_ (bY BK222.out) hb);have n2_:=A_.mk (bb_ (bY BK223.out) hb);have n3_:=A_.mk (bt_ ((zB_ HB GE222 GE223)) hb);have n4_:=A_.mk (hbox);have n5_:=A_.mk ((by rw [hg];exact(bz_ ((zB_ HB GE222 GE223))):w.heap.size≤gb228));have n6_:=A_.mk ((by rw [hg];exact(bz_ ((zB_ HB GE222 GE223))):w.heap.size≤gb228));have n7_:=A_.mk ((by rw [hg];exact Nat.ne_of_lt (aI (bY BK222.out)):gb222≠gb228));have n8_:=A_.mk ((by rw [hg];exact Nat.ne_of_gt (aI (bY BK222.out)):gb228≠gb222));have n9_:=A_.mk ((by rw [hg];exact Nat.ne_of_lt (aI (bY BK223.out)):gb223≠gb228));have n10_:=A_.mk ((by rw [hg];exact Nat.ne_of_gt (aI (bY BK223.out)):gb228≠gb223));clear HO227 BK222 BK223 HB;have HO227:=n0_;have BK222:=n1_;have BK223:=n2_;have HB:=n3_;have BK228:=n4_;have GW228:=n5_;have GE228:=n6_;have NB222_228:=n7_;have NB228_222:=n8_;have NB223_228:=n9_;have NB228_223:=n10_;clear n0_ n1_ n2_ n3_ n4_ n5_ n6_ n7_ n8_ n9_ n10_ hb hbox hg;have hnb13:=NB228_222.out;have hnc13:=NB222_228.out;have hnb14:=NB228_223.out;have hnc14:=NB223_228.out;obtain⟨hcz15_0,hcz15_1⟩:=gq BK228;obtain⟨hfz15_0,hfz15_1⟩:=dO BK228;obtain⟨Ao16,co16,eo16⟩:=Kd.mX HO227.out;subst eo16;obtain⟨hcz17_0,hcz17_1⟩:=gq BK222;obtain⟨hfz17_0,hfz17_1⟩:=dO BK222)|((with_reducible refine gc_ (f:=101) rfl ?_);refine gl_ (some 14) Tryz.func101 #[.agg #[.int .i64 a0_0,.slice A0_1 l0_1.length c0_1],.slice A1 l1.length c1] ?_;(with_reducible refine (gL.calls k a0_0 _ _ l0_1 _ _ l1 t229 _ ?side1 ?side2 ?side3 ?side4 A4.out).mono ?_);(case side1=>exact Kd.cu HR0_1.out ((zC_ HB GE222 GE223 GE228)));(case side2=>exact HC0_1.out);(case side3=>exact Kd.cu HR1.out ((zC_ HB GE222 GE223 GE228)));(case side4=>exact HC1.out);rintro e w18 ⟨rfl,hb⟩;refine⟨_,rfl,?_⟩;have n0_:=A_.mk (Kd.jk (by (with_reducible repeat (first|apply Kd.iZ|apply Kd.ja|apply Kd.jM));exact(Kd.iA (Kd.jX (p:=⟨gb228,1,none⟩) (Kd.jX (p:=⟨gb228,0,none⟩) (Kd.iA HO227.out (fun k_ hk=>(⟨hk,hk.2⟩:_∧k_≠gb228))) (fun _ hk=>hk.2) (.int .i64 t224)) (fun _ hk=>hk.2) (.slice Ao16 t225.length co16)) (fun _ h_=>h_.1))) hb);have n1_:=A_.mk (bb_ (g:=gb222) (o:=.cells #[.int .i64 a0_0,.slice A0_1 l0_1.length c0_1] 37 (0,0)) (by (repeat apply bX);refine bA ?_ NB222_228.out _;(repeat apply bX);refine bA ?_ NB222_228.out _;(repeat apply bX);exact BK222.out) hb);have n2_:=A_.mk (bb_ (g:=gb223) (o:=.cells #[.int .i64 0,.slice none 0 0] 37 (0,0)) (by (repeat apply bX);refine bA ?_ NB223_228.out _;(repeat apply bX);refine bA ?_ NB223_228.out _;(repeat apply bX);exact BK223.out) hb);have n3_:=A_.mk (bb_ (g:=gb228) (o:=.cells #[.int .i64 t224,.slice Ao16 t225.length co16] 37 (0,0)) (by (repeat apply bX);refine bp_ (cs:=#[.int .i64 t224,.slice none 0 0]) ?_ 1 _ rfl;(repeat apply bX);refine bp_ (cs:=#[.int .i64 0,.slice none 0 0]) ?_ 0 _ rfl;(repeat apply bX);exact BK228.out) hb);have n4_:=A_.mk (bt_ ((zC_ HB GE222 GE223 GE228)) hb);clear HO227 BK222 BK223 BK228 HB;have HO227:=n0_;have BK222:=n1_;have BK223:=n2_;have BK228:=n3_;have HB:=n4_;clear n0_ n1_ n2_ n3_ n4_;(try clear hb);(try clear hb2);(try clear hk);(try clear hi);obtain⟨hcz19_0,hcz19_1⟩:=gq BK222;obtain⟨hfz19_0,hfz19_1⟩:=dO BK222;obtain⟨hcz20_0,hcz20_1⟩:=gq BK228;obtain⟨hfz20_0,hfz20_1⟩:=dO BK228;obtain⟨hcz21_0,hcz21_1⟩:=gq BK223;obtain⟨hfz21_0,hfz21_1⟩:=dO BK223))
  refine bodyPost_ret (aM rfl _ _ gb223 37 #[.int .i64 t224,.slice Ao16 t225.length co16] (0,0) _ rfl (by (repeat apply bX);refine bp_ (cs:=#[.int .i64 t224,.slice none 0 0]) ?_ 1 _ rfl;(repeat apply bX);refine bp_ (cs:=#[.int .i64 0,.slice none 0 0]) ?_ 0 _ rfl;(repeat apply bX);exact BK223.out) Tryz.underlying37 rfl (by kernel_rfl)) rfl ?_
  exact⟨_,re_,by (with_reducible repeat (first|apply Kd.iZ|apply Kd.ja|apply Kd.jM));exact Kd.iA (Kd.jX (p:=⟨gb223,1,none⟩) (Kd.jX (p:=⟨gb223,0,none⟩) (Kd.iA HO227.out (fun k_ hk=>(⟨hk,hk.1.2.2⟩:_∧k_≠gb223))) (fun _ hk=>hk.2) (.int .i64 t224)) (fun _ hk=>hk.2) (.slice Ao16 t225.length co16)) (fun _ hk=>hk.1.1.1),(zC_ HB GE222 GE223 GE228)⟩
 rw [if_neg c6] at H
 have c6b0:=beq_eq_false_iff_ne.mpr c6
 have c6b1:=bne_iff_ne.mpr c6
 replace H:=ob_ H
 obtain⟨⟨t230,t231,t234⟩,A220,H⟩:=H
 replace H:(if t225.length<5864062014805 then ((eO.f a0_0).bind fun t239=>(some (t239,(t225++[t231]),t229))) else (none))=some (r1,r2,r3):=H
 have A22:=A_.mk A220
 clear A220
 by_cases c23:t225.length<5864062014805
 rotate_left
 ·rw [if_neg c23] at H
  exact absurd H (by simp)
 rw [if_pos c23] at H
 have LMc23:=A_.mk c23
 clear c23
 obtain⟨y236,hy236⟩:∃ y_:List (List Int),y_=(t225++[t231]):=⟨_,rfl⟩
 replace H:((eO.f a0_0).bind fun t239=>(some (t239,y236,t229)))=some (r1,r2,r3):=by first|(rw [hy236];with_reducible exact H)|(have H2_:=(Option.bind_some _ _).symm.trans H;rw [hy236];with_reducible exact H2_)|(have H2_:=(Option.bind_some _ _).symm.trans H;with_reducible exact H2_)|with_reducible exact H|(rw [hy236];exact H)|exact H
 have Ny236:=A_.mk hy236
 clear hy236
 replace H:=oa_ H
 obtain⟨t239,A24,H⟩:=H
 replace H:=jE H
 obtain⟨rfl,rfl,rfl⟩:=H
 go_enter Tryz.func69,Tryz.ntmps69
 go_wp2_with (first|((with_reducible refine gd_ (N:=2) rfl ?_);refine by_ 2 (cs:=#[.int .i64 a0_0,.slice A0_1 l0_1.length c0_1]) (t:=37) ?_;intro gb222 hg w25 hbox hb;have n0_:=A_.mk (bt_ (beY HB.out) hb);have n1_:=A_.mk (hbox);have n2_:=A_.mk ((by rw [hg];exact(bz_ (beY HB.out)):w.heap.size≤gb222));have n3_:=A_.mk ((by rw [hg];exact(bz_ (beY HB.out)):w.heap.size≤gb222));clear HB;have HB:=n0_;have BK222:=n1_;have GW222:=n2_;have GE222:=n3_;clear n0_ n1_ n2_ n3_ hb hbox hg)|((with_reducible refine gd_ (N:=4) rfl ?_);refine by_ 4 (cs:=#[.int .i64 0,.slice none 0 0]) (t:=37) ?_;intro gb223 hg w26 hbox hb;have n0_:=A_.mk (bb_ (bY BK222.out) hb);have n1_:=A_.mk (bt_ ((zA_ HB GE222)) hb);have n2_:=A_.mk (hbox);have n3_:=A_.mk ((by rw [hg];exact(bz_ ((zA_ HB GE222))):w.heap.size≤gb223));have n4_:=A_.mk ((by rw [hg];exact(bz_ ((zA_ HB GE222))):w.heap.size≤gb223));have n5_:=A_.mk ((by rw [hg];exact Nat.ne_of_lt (aI (bY BK222.out)):gb222≠gb223));have n6_:=A_.mk ((by rw [hg];exact Nat.ne_of_gt (aI (bY BK222.out)):gb223≠gb222));clear BK222 HB;have BK222:=n0_;have HB:=n1_;have BK223:=n2_;have GW223:=n3_;have GE223:=n4_;have NB222_223:=n5_;have NB223_222:=n6_;clear n0_ n1_ n2_ n3_ n4_ n5_ n6_ hb hbox hg;have hnb27:=NB222_223.out;have hnc27:=NB223_222.out;obtain⟨hcz28_0,hcz28_1⟩:=gq BK222;obtain⟨hfz28_0,hfz28_1⟩:=dO BK222)|((with_reducible refine gc_ (f:=61) rfl ?_);refine gl_ (some 11) Tryz.func61 #[.agg #[.int .i64 a0_0,.slice A0_1 l0_1.length c0_1]] ?_;(with_reducible refine (aA.calls k a0_0 _ _ l0_1 t224 t225 _ ?side1 ?side2 A3.out).mono ?_);(case side1=>exact cY ((cb_ HR0_1 HB)));(case side2=>exact HC0_1.out);rintro e w29 ⟨v226,rfl,ho0,hb⟩;refine⟨_,rfl,?_⟩;have n0_:=A_.mk (Kd.qf (Kd.iA (ok':=fun k_=>(w.heap.size≤k_)∧k_≠gb222∧k_≠gb223) (Kd.S_N (Kd.ik ho0)) (fun k_ hk_=>⟨(Nat.le_trans (bz_ ((zB_ HB GE222 GE223))) hk_.2.1),(Kd.freshB (g:=gb222) (o:=.cells #[.int .i64 a0_0,.slice A0_1 l0_1.length c0_1] 37 (0,0)) (bY BK222.out) k_ hk_.2.1),(Kd.freshB (g:=gb223) (o:=.cells #[.int .i64 0,.slice none 0 0] 37 (0,0)) (bY BK223.out) k_ hk_.2.1)⟩)) (bz_ ((zB_ HB GE222 GE223))));have n1_:=A_.mk (bb_ (bY BK222.out) hb);have n2_:=A_.mk (bb_ (bY BK223.out) hb);have n3_:=A_.mk (bt_ ((zB_ HB GE222 GE223)) hb);clear BK222 BK223 HB;have HO227:=n0_;have BK222:=n1_;have BK223:=n2_;have HB:=n3_;clear n0_ n1_ n2_ n3_;(try clear hb);(try clear hb2);(try clear hk);(try clear hi);(try clear ho0))|((with_reducible refine gd_ (N:=6) rfl ?_);refine by_ 6 (cs:=#[.int .i64 0,.slice none 0 0]) (t:=37) ?_;intro gb228 hg w30 hbox hb;have n0_:=A_.mk (Kd.jk (Kd.mD (by (with_reducible repeat (first|apply Kd.iZ|apply Kd.ja|apply Kd.jM));exact HO227.out) gb228 (Nat.le_of_eq hg.symm)) hb);have n1_:=A_.mk (bb_ (bY BK222.out) hb);have n2_:=A_.mk (bb_ (bY BK223.out) hb);have n3_:=A_.mk (bt_ ((zB_ HB GE222 GE223)) hb);have n4_:=A_.mk (hbox);have n5_:=A_.mk ((by rw [hg];exact(bz_ ((zB_ HB GE222 GE223))):w.heap.size≤gb228));have n6_:=A_.mk ((by rw [hg];exact(bz_ ((zB_ HB GE222 GE223))):w.heap.size≤gb228));have n7_:=A_.mk ((by rw [hg];exact Nat.ne_of_lt (aI (bY BK222.out)):gb222≠gb228));have n8_:=A_.mk ((by rw [hg];exact Nat.ne_of_gt (aI (bY BK222.out)):gb228≠gb222));have n9_:=A_.mk ((by rw [hg];exact Nat.ne_of_lt (aI (bY BK223.out)):gb223≠gb228));have n10_:=A_.mk ((by rw [hg];exact Nat.ne_of_gt (aI (bY BK223.out)):gb228≠gb223));clear HO227 BK222 BK223 HB;have HO227:=n0_;have BK222:=n1_;have BK223:=n2_;have HB:=n3_;have BK228:=n4_;have GW228:=n5_;have GE228:=n6_;have NB222_228:=n7_;have NB228_222:=n8_;have NB223_228:=n9_;have NB228_223:=n10_;clear n0_ n1_ n2_ n3_ n4_ n5_ n6_ n7_ n8_ n9_ n10_ hb hbox hg;have hnb31:=NB228_222.out;have hnc31:=NB222_228.out;have hnb32:=NB228_223.out;have hnc32:=NB223_228.out;obtain⟨hcz33_0,hcz33_1⟩:=gq BK228;obtain⟨hfz33_0,hfz33_1⟩:=dO BK228;obtain⟨Ao34,co34,eo34⟩:=Kd.mX HO227.out;subst eo34;obtain⟨hcz35_0,hcz35_1⟩:=gq BK222;obtain⟨hfz35_0,hfz35_1⟩:=dO BK222)|((with_reducible refine gc_ (f:=101) rfl ?_);refine gl_ (some 14) Tryz.func101 #[.agg #[.int .i64 a0_0,.slice A0_1 l0_1.length c0_1],.slice A1 l1.length c1] ?_;(with_reducible refine (gL.calls k a0_0 _ _ l0_1 _ _ l1 t229 _ ?side1 ?side2 ?side3 ?side4 A4.out).mono ?_);(case side1=>exact Kd.cu HR0_1.out ((zC_ HB GE222 GE223 GE228)));(case side2=>exact HC0_1.out);(case side3=>exact Kd.cu HR1.out ((zC_ HB GE222 GE223 GE228)));(case side4=>exact HC1.out);rintro e w36 ⟨rfl,hb⟩;refine⟨_,rfl,?_⟩;have n0_:=A_.mk (Kd.jk (by (with_reducible repeat (first|apply Kd.iZ|apply Kd.ja|apply Kd.jM));exact(Kd.iA (Kd.jX (p:=⟨gb228,1,none⟩) (Kd.jX (p:=⟨gb228,0,none⟩) (Kd.iA HO227.out (fun k_ hk=>(⟨hk,hk.2⟩:_∧k_≠gb228))) (fun _ hk=>hk.2) (.int .i64 t224)) (fun _ hk=>hk.2) (.slice Ao34 t225.length co34)) (fun _ h_=>h_.1))) hb);have n1_:=A_.mk (bb_ (g:=gb222) (o:=.cells #[.int .i64 a0_0,.slice A0_1 l0_1.length c0_1] 37 (0,0)) (by (repeat apply bX);refine bA ?_ NB222_228.out _;(repeat apply bX);refine bA ?_ NB222_228.out _;(repeat apply bX);exact BK222.out) hb);have n2_:=A_.mk (bb_ (g:=gb223) (o:=.cells #[.int .i64 0,.slice none 0 0] 37 (0,0)) (by (repeat apply bX);refine bA ?_ NB223_228.out _;(repeat apply bX);refine bA ?_ NB223_228.out _;(repeat apply bX);exact BK223.out) hb);have n3_:=A_.mk (bb_ (g:=gb228) (o:=.cells #[.int .i64 t224,.slice Ao34 t225.length co34] 37 (0,0)) (by (repeat apply bX);refine bp_ (cs:=#[.int .i64 t224,.slice none 0 0]) ?_ 1 _ rfl;(repeat apply bX);refine bp_ (cs:=#[.int .i64 0,.slice none 0 0]) ?_ 0 _ rfl;(repeat apply bX);exact BK228.out) hb);have n4_:=A_.mk (bt_ ((zC_ HB GE222 GE223 GE228)) hb);clear HO227 BK222 BK223 BK228 HB;have HO227:=n0_;have BK222:=n1_;have BK223:=n2_;have BK228:=n3_;have HB:=n4_;clear n0_ n1_ n2_ n3_ n4_;(try clear hb);(try clear hb2);(try clear hk);(try clear hi);obtain⟨hcz37_0,hcz37_1⟩:=gq BK222;obtain⟨hfz37_0,hfz37_1⟩:=dO BK222)|((with_reducible refine gc_ (f:=102) rfl ?_);refine gl_ (some 26) Tryz.func102 #[.slice A1 l1.length c1] ?_;(with_reducible refine (bT.calls k _ _ l1 t230 t231 t234 _ ?side1 ?side2 A22.out).mono ?_);(case side1=>exact cY ((cb_ HR1 HB)));(case side2=>exact HC1.out);rintro e w38 ⟨v232,rfl,ho0,hb⟩;refine⟨_,rfl,?_⟩;have n0_:=A_.mk (Kd.wh (by (with_reducible repeat (first|apply Kd.iZ|apply Kd.ja|apply Kd.jM));exact HO227.out) (Kd.xz ho0) hb);have n1_:=A_.mk (Kd.wE (Kd.xI (M:=fun k_=>(w.heap.size≤k_)) ho0 (bz_ ((zC_ HB GE222 GE223 GE228))) (fun k_ h_=>h_)) (bz_ ((zC_ HB GE222 GE223 GE228))));have n2_:=A_.mk (bb_ (bY BK222.out) hb);have n3_:=A_.mk (bb_ (bY BK223.out) hb);have n4_:=A_.mk (bb_ (bY BK228.out) hb);have n5_:=A_.mk (bt_ ((zC_ HB GE222 GE223 GE228)) hb);clear HO227 BK222 BK223 BK228 HB;have HO227:=n0_;have HO233:=n1_;have BK222:=n2_;have BK223:=n3_;have BK228:=n4_;have HB:=n5_;clear n0_ n1_ n2_ n3_ n4_ n5_;(try clear hb);(try clear hb2);(try clear hk);(try clear hi);(try clear ho0))|((with_reducible refine gd_ (N:=8) rfl ?_);refine by_ 8 (cs:=#[.int .i64 0,.slice none 0 0]) (t:=68) ?_;intro gb235 hg w39 hbox hb;have n0_:=A_.mk (Kd.jk (Kd.mD (by (with_reducible repeat (first|apply Kd.iZ|apply Kd.ja|apply Kd.jM));exact HO227.out) gb235 (Nat.le_of_eq hg.symm)) hb);have n1_:=A_.mk (Kd.nK (by (with_reducible repeat (first|apply Kd.lN|apply Kd.lU|apply Kd.nz));exact HO233.out) hb);have n2_:=A_.mk (bb_ (bY BK222.out) hb);have n3_:=A_.mk (bb_ (bY BK223.out) hb);have n4_:=A_.mk (bb_ (bY BK228.out) hb);have n5_:=A_.mk (bt_ ((zC_ HB GE222 GE223 GE228)) hb);have n6_:=A_.mk (hbox);have n7_:=A_.mk ((by rw [hg];exact(bz_ ((zC_ HB GE222 GE223 GE228))):w.heap.size≤gb235));have n8_:=A_.mk ((by rw [hg];exact(bz_ ((zC_ HB GE222 GE223 GE228))):w.heap.size≤gb235));have n9_:=A_.mk ((by rw [hg];exact Nat.ne_of_lt (aI (bY BK222.out)):gb222≠gb235));have n10_:=A_.mk ((by rw [hg];exact Nat.ne_of_gt (aI (bY BK222.out)):gb235≠gb222));have n11_:=A_.mk ((by rw [hg];exact Nat.ne_of_lt (aI (bY BK223.out)):gb223≠gb235));have n12_:=A_.mk ((by rw [hg];exact Nat.ne_of_gt (aI (bY BK223.out)):gb235≠gb223));have n13_:=A_.mk ((by rw [hg];exact Nat.ne_of_lt (aI (bY BK228.out)):gb228≠gb235));have n14_:=A_.mk ((by rw [hg];exact Nat.ne_of_gt (aI (bY BK228.out)):gb235≠gb228));clear HO227 HO233 BK222 BK223 BK228 HB;have HO227:=n0_;have HO233:=n1_;have BK222:=n2_;have BK223:=n3_;have BK228:=n4_;have HB:=n5_;have BK235:=n6_;have GW235:=n7_;have GE235:=n8_;have NB222_235:=n9_;have NB235_222:=n10_;have NB223_235:=n11_;have NB235_223:=n12_;have NB228_235:=n13_;have NB235_228:=n14_;clear n0_ n1_ n2_ n3_ n4_ n5_ n6_ n7_ n8_ n9_ n10_ n11_ n12_ n13_ n14_ hb hbox hg;have hnb40:=NB235_222.out;have hnc40:=NB222_235.out;have hnb41:=NB235_223.out;have hnc41:=NB223_235.out;have hnb42:=NB235_228.out;have hnc42:=NB228_235.out;obtain⟨hcz43_0,hcz43_1⟩:=gq BK235;obtain⟨hfz43_0,hfz43_1⟩:=dO BK235;obtain⟨Ao44,co44,eo44,_⟩:=Kd.nM HO233.out;subst eo44)|((with_reducible refine ae (t:=68) (p:=8) rfl ?_);refine so_ (w1:=((w39.setCell ⟨gb235,0,none⟩ (.int .i64 t230)).setCell ⟨gb235,1,none⟩ (.slice Ao44 t231.length co44))) ?_;intro w45 hw;have n0_:A_ (Kd.N (Kd.slice 3 (Kd.int .i64)) 28 w45 w.heap.size (fun k_=>(w.heap.size≤k_)∧some k_≠(.slice Ao44 t231.length co44:Value).ownBlock∧k_≠gb222∧k_≠gb223∧k_≠gb228∧k_≠gb235) (.slice Ao34 t225.length co34) t225):=⟨(by rw [hw];exact(by (with_reducible repeat (first|apply Kd.iZ|apply Kd.ja|apply Kd.jM));exact Kd.iA (Kd.jX (p:=⟨gb235,1,none⟩) (Kd.jX (p:=⟨gb235,0,none⟩) (Kd.iA HO227.out (fun k_ hk=>(⟨hk,hk.2⟩:_∧k_≠gb235))) (fun _ hk=>hk.2) (.int .i64 t230)) (fun _ hk=>hk.2) (.slice Ao44 t231.length co44)) (fun _ hk=>⟨hk.1.1.1.1.1,⟨hk.1.1.2,⟨hk.1.1.1.1.2.1,⟨hk.1.1.1.1.2.2,⟨hk.1.1.1.2,hk.1.2⟩⟩⟩⟩⟩)))⟩;have n1_:A_ (Kd.Q (Kd.int .i64) 3 w45 w.heap.size (fun k_=>(w.heap.size≤k_)) (.slice Ao44 t231.length co44) t231):=⟨(by rw [hw];exact(by (with_reducible repeat (first|apply Kd.lN|apply Kd.lU|apply Kd.nz));exact Kd.kQ (Kd.lu (p:=⟨gb235,1,none⟩) (Kd.lu (p:=⟨gb235,0,none⟩) (Kd.jb HO233.out BK235.out (by decide)) (fun _ hk=>hk.2) (.int .i64 t230)) (fun _ hk=>hk.2) (.slice Ao44 t231.length co44)) (fun _ hk=>hk.1.1)))⟩;have n2_:A_ (w45.heap[gb222]?=some (.cells #[.int .i64 a0_0,.slice A0_1 l0_1.length c0_1] 37 (0,0))):=⟨(by rw [hw];exact(by (repeat apply bX);refine bA ?_ NB222_235.out _;(repeat apply bX);refine bA ?_ NB222_235.out _;(repeat apply bX);exact BK222.out))⟩;have n3_:A_ (w45.heap[gb223]?=some (.cells #[.int .i64 0,.slice none 0 0] 37 (0,0))):=⟨(by rw [hw];exact(by (repeat apply bX);refine bA ?_ NB223_235.out _;(repeat apply bX);refine bA ?_ NB223_235.out _;(repeat apply bX);exact BK223.out))⟩;have n4_:A_ (w45.heap[gb228]?=some (.cells #[.int .i64 t224,.slice Ao34 t225.length co34] 37 (0,0))):=⟨(by rw [hw];exact(by (repeat apply bX);refine bA ?_ NB228_235.out _;(repeat apply bX);refine bA ?_ NB228_235.out _;(repeat apply bX);exact BK228.out))⟩;have n5_:A_ (w45.heap[gb235]?=some (.cells #[.int .i64 t230,.slice Ao44 t231.length co44] 68 (0,0))):=⟨(by rw [hw];exact(by (repeat apply bX);refine bp_ (cs:=#[.int .i64 t230,.slice none 0 0]) ?_ 1 _ rfl;(repeat apply bX);refine bp_ (cs:=#[.int .i64 0,.slice none 0 0]) ?_ 0 _ rfl;(repeat apply bX);exact BK235.out))⟩;have n6_:A_ (Below w.heap.size w w45):=⟨(by rw [hw];exact((zD_ HB GE222 GE223 GE228 GE235)))⟩;clear hw HO227 HO233 BK222 BK223 BK228 BK235 HB;have HO227:=n0_;have HO233:=n1_;have BK222:=n2_;have BK223:=n3_;have BK228:=n4_;have BK235:=n5_;have HB:=n6_;clear n0_ n1_ n2_ n3_ n4_ n5_ n6_;obtain⟨hcz46_0,hcz46_1⟩:=gq BK228;obtain⟨hfz46_0,hfz46_1⟩:=dO BK228;obtain⟨hcz47_0,hcz47_1⟩:=gq BK235;obtain⟨hfz47_0,hfz47_1⟩:=dO BK235)|((with_reducible refine cz (b:=.append) (xs:=#[.tmp 30,.tmp 33]) rfl ?_);at_builtin;refine Kd.uR (Kd.slice 3 (Kd.int .i64)) (w0:=w) w.heap.size rfl (.tmp 30) (.tmp 33) 25 28 (.slice none 0 0) 24 rfl Tryz.underlying25 info28 rfl (by decide) (by omega) (.slice Ao34 t225.length co34) t225 t231 [.slice Ao44 t231.length co44] (fun k_=>(w.heap.size≤k_)∧k_≠gb222∧k_≠gb223∧k_≠gb228∧k_≠gb235) (fun k_=>((fun k_=>(w.heap.size≤k_)∧k_≠gb222∧k_≠gb223∧k_≠gb228∧k_≠gb235)) k_∧some k_≠(.slice Ao34 t225.length co34:Value).ownBlock) rfl rfl ?aP (fun _ hk=>hk) ?aF ?aO ?aB ?aS ?aL ?_;(case aP=>exact (Kd.qJ (Kd.nT (Kd.kQ (ok':=(fun k_=>((fun k_=>(w.heap.size≤k_)∧k_≠gb222∧k_≠gb223∧k_≠gb228∧k_≠gb235)) k_∧some k_≠(.slice Ao34 t225.length co34:Value).ownBlock)) (Kd.jb (Kd.jb (Kd.jb (Kd.jb (Kd.qX (HO233.out) (Kd.sO HO227.out) (by decide)) BK222.out (by decide)) BK223.out (by decide)) BK228.out (by decide)) BK235.out (by decide)) (fun k_ hk=>⟨⟨hk.1.1.1.1.1,⟨hk.1.1.1.2,⟨hk.1.1.2,⟨hk.1.2,hk.2⟩⟩⟩⟩,hk.1.1.1.1.2⟩))).2.1 (Kd.Q_F (Kd.kQ (ok':=(fun k_=>((fun k_=>(w.heap.size≤k_)∧k_≠gb222∧k_≠gb223∧k_≠gb228∧k_≠gb235)) k_∧some k_≠(.slice Ao34 t225.length co34:Value).ownBlock)) (Kd.jb (Kd.jb (Kd.jb (Kd.jb (Kd.qX (HO233.out) (Kd.sO HO227.out) (by decide)) BK222.out (by decide)) BK223.out (by decide)) BK228.out (by decide)) BK235.out (by decide)) (fun k_ hk=>⟨⟨hk.1.1.1.1.1,⟨hk.1.1.1.2,⟨hk.1.1.2,⟨hk.1.2,hk.2⟩⟩⟩⟩,hk.1.1.1.1.2⟩)))));(case aB=>exact ((zD_ HB GE222 GE223 GE228 GE235)));(case aF=>exact (fun k_ hk=>⟨(Nat.le_trans (bz_ ((zD_ HB GE222 GE223 GE228 GE235))) hk),Kd.freshB (g:=gb222) (o:=.cells #[.int .i64 a0_0,.slice A0_1 l0_1.length c0_1] 37 (0,0)) (bY BK222.out) k_ hk,Kd.freshB (g:=gb223) (o:=.cells #[.int .i64 0,.slice none 0 0] 37 (0,0)) (bY BK223.out) k_ hk,Kd.freshB (g:=gb228) (o:=.cells #[.int .i64 t224,.slice Ao34 t225.length co34] 37 (0,0)) (bY BK228.out) k_ hk,Kd.freshB (g:=gb235) (o:=.cells #[.int .i64 t230,.slice Ao44 t231.length co44] 68 (0,0)) (bY BK235.out) k_ hk⟩));(case aO=>exact (by (with_reducible repeat (first|apply Kd.iZ|apply Kd.ja|apply Kd.jM));exact Kd.iA HO227.out (fun _ hk=>⟨hk.1,⟨hk.2.2.1,⟨hk.2.2.2.1,⟨hk.2.2.2.2.1,hk.2.2.2.2.2⟩⟩⟩⟩)));(case aS=>exact (bz_ ((zD_ HB GE222 GE223 GE228 GE235))));(case aL=>have:=LMc23.out;omega);intro v237 w48 ho hb hg hat;rw [←Ny236.out] at ho;have n0_:=A_.mk (fC (g:=gb222) (o:=.cells #[.int .i64 a0_0,.slice A0_1 l0_1.length c0_1] 37 (0,0)) (bY BK222.out) hg (Kd.wz HO227.out BK222.out (by decide)));have n1_:=A_.mk (fC (g:=gb223) (o:=.cells #[.int .i64 0,.slice none 0 0] 37 (0,0)) (bY BK223.out) hg (Kd.wz HO227.out BK223.out (by decide)));have n2_:=A_.mk (fC (g:=gb228) (o:=.cells #[.int .i64 t224,.slice Ao34 t225.length co34] 37 (0,0)) (bY BK228.out) hg (Kd.wz HO227.out BK228.out (by decide)));have n3_:=A_.mk (fC (g:=gb235) (o:=.cells #[.int .i64 t230,.slice Ao44 t231.length co44] 68 (0,0)) (bY BK235.out) hg (Kd.wz HO227.out BK235.out (by decide)));have n4_:=A_.mk (hb);have n5_:=A_.mk (ho);clear BK222 BK223 BK228 BK235 HB HO227 HO233;have BK222:=n0_;have BK223:=n1_;have BK228:=n2_;have BK235:=n3_;have HB:=n4_;have HO238:=n5_;clear n0_ n1_ n2_ n3_ n4_ n5_ ho hb hg hat;obtain⟨Ao49,co49,eo49⟩:=Kd.mX HO238.out;subst eo49;obtain⟨hcz50_0,hcz50_1⟩:=gq BK228;obtain⟨hfz50_0,hfz50_1⟩:=dO BK228;obtain⟨hcz51_0,hcz51_1⟩:=gq BK222;obtain⟨hfz51_0,hfz51_1⟩:=dO BK222)|((with_reducible refine gc_ (f:=66) rfl ?_);refine gl_ (some 38) Tryz.func66 #[.int .i64 a0_0] ?_;(with_reducible refine (eO.calls a0_0 t239 _ A24.out).mono ?_);rintro e w' ⟨rfl,⟨nd,rfl⟩⟩;refine⟨_,rfl,?_⟩;obtain⟨hcz52_0,hcz52_1⟩:=gq BK223;obtain⟨hfz52_0,hfz52_1⟩:=dO BK223))
 refine bodyPost_ret (aM rfl _ _ gb223 37 #[.int .i64 t239,.slice Ao49 y236.length co49] (0,0) _ rfl (by (repeat apply bX);refine bp_ (cs:=#[.int .i64 t239,.slice none 0 0]) ?_ 1 _ rfl;(repeat apply bX);refine bp_ (cs:=#[.int .i64 0,.slice none 0 0]) ?_ 0 _ rfl;(repeat apply bX);refine bA ?_ NB223_228.out _;(repeat apply bX);refine bA ?_ NB223_228.out _;(repeat apply bX);exact BK223.out) Tryz.underlying37 rfl (by kernel_rfl)) rfl ?_
 exact⟨_,re_,by (with_reducible repeat (first|apply Kd.iZ|apply Kd.ja|apply Kd.jM));exact Kd.iA (Kd.jX (p:=⟨gb223,1,none⟩) (Kd.jX (p:=⟨gb223,0,none⟩) (Kd.jX (p:=⟨gb228,0,none⟩) (Kd.jX (p:=⟨gb228,1,none⟩) (Kd.iA (Kd.iA HO238.out (fun k_ hk=>(⟨hk,hk.2.2.2.1⟩:_∧k_≠gb228))) (fun k_ hk=>(⟨hk,hk.1.2.2.1⟩:_∧k_≠gb223))) (fun _ hk=>hk.1.2) (.slice Ao49 y236.length co49)) (fun _ hk=>hk.1.2) (.int .i64 t239)) (fun _ hk=>hk.2) (.int .i64 t239)) (fun _ hk=>hk.2) (.slice Ao49 y236.length co49)) (fun _ hk=>hk.1.1.1),(zD_ HB GE222 GE223 GE228 GE235)⟩
def jr.f(k:Nat)(a0_0:Int)(l0_1:List (List Int)):Option (Int):=(bv.f k a0_0 l0_1).bind fun t241=>(if t241=true then (some (Int.tmod (wrap64 ((wrap64 (a0_0+16))-1)) 16)) else (some (-1)))
theorem jr.calls(k:Nat)(a0_0:Int)(A0_1:Option Addr)(c0_1:Nat)(l0_1:List (List Int))(r:Int)(w:World)(hr0_1:Kd.C (Kd.slice 3 (Kd.int .i64)) w A0_1 l0_1.length l0_1)(hc0_1:l0_1.length≤c0_1)(h:jr.f k a0_0 l0_1=some r) :
  Calls Tryz.prog 70 #[.agg #[.int .i64 a0_0,.slice A0_1 l0_1.length c0_1]] w fun e w'=>e=.returned (.int .i64 r)∧Below w.heap.size w w':=by
 have hu37:=Tryz.underlying37
 have HR0_1:=A_.mk hr0_1
 have HC0_1:=A_.mk hc0_1
 clear hr0_1 hc0_1
 have HB:=A_.mk (Below.refl w.heap.size w)
 have H:((bv.f k a0_0 l0_1).bind fun t241=>(if t241=true then (some (Int.tmod (wrap64 ((wrap64 (a0_0+16))-1)) 16)) else (some (-1))))=some r:=h
 clear h
 replace H:=oa_ H
 obtain⟨t241,A2,H⟩:=H
 by_cases c3:t241=true
 rotate_left
 ·replace c3:=Bool.eq_false_iff.mpr c3
  subst c3
  have H1:(some (-1))=some r:=by rw [if_neg (show ¬ (false=true) by decide)] at H;exact H
  clear H
  have H:=H1
  clear H1
  obtain rfl:=Option.some.inj H
  go_enter Tryz.func70,Tryz.ntmps70
  go_wp2_with (first|((with_reducible refine gd_ (N:=1) rfl ?_);refine by_ 1 (cs:=#[.int .i64 a0_0,.slice A0_1 l0_1.length c0_1]) (t:=37) ?_;intro gb240 hg w8 hbox hb;have n0_:=A_.mk (bt_ (beY HB.out) hb);have n1_:=A_.mk (hbox);have n2_:=A_.mk ((by rw [hg];exact(bz_ (beY HB.out)):w.heap.size≤gb240));have n3_:=A_.mk ((by rw [hg];exact(bz_ (beY HB.out)):w.heap.size≤gb240));clear HB;have HB:=n0_;have BK240:=n1_;have GW240:=n2_;have GE240:=n3_;clear n0_ n1_ n2_ n3_ hb hbox hg;obtain⟨hcz9_0,hcz9_1⟩:=gq BK240;obtain⟨hfz9_0,hfz9_1⟩:=dO BK240)|((with_reducible refine gc_ (f:=63) rfl ?_);refine gl_ (some 4) Tryz.func63 #[.agg #[.int .i64 a0_0,.slice A0_1 l0_1.length c0_1]] ?_;(with_reducible refine (bv.calls k a0_0 _ _ l0_1 false _ ?side1 ?side2 A2.out).mono ?_);(case side1=>exact cY ((cb_ HR0_1 HB)));(case side2=>exact HC0_1.out);rintro e w10 ⟨rfl,hb⟩;refine⟨_,rfl,?_⟩;have n0_:=A_.mk (bb_ (bY BK240.out) hb);have n1_:=A_.mk (bt_ ((zA_ HB GE240)) hb);clear BK240 HB;have BK240:=n0_;have HB:=n1_;clear n0_ n1_;(try clear hb);(try clear hb2);(try clear hk);(try clear hi)))
  go_ret
  exact⟨re_,(zA_ HB GE240)⟩
 subst c3
 have H1:(some (Int.tmod (wrap64 ((wrap64 (a0_0+16))-1)) 16))=some r:=by rw [if_pos rfl] at H;exact H
 clear H
 have H:=H1
 clear H1
 obtain rfl:=Option.some.inj H
 go_enter Tryz.func70,Tryz.ntmps70
 go_wp2_with (first|((with_reducible refine gd_ (N:=1) rfl ?_);refine by_ 1 (cs:=#[.int .i64 a0_0,.slice A0_1 l0_1.length c0_1]) (t:=37) ?_;intro gb240 hg w4 hbox hb;have n0_:=A_.mk (bt_ (beY HB.out) hb);have n1_:=A_.mk (hbox);have n2_:=A_.mk ((by rw [hg];exact(bz_ (beY HB.out)):w.heap.size≤gb240));have n3_:=A_.mk ((by rw [hg];exact(bz_ (beY HB.out)):w.heap.size≤gb240));clear HB;have HB:=n0_;have BK240:=n1_;have GW240:=n2_;have GE240:=n3_;clear n0_ n1_ n2_ n3_ hb hbox hg;obtain⟨hcz5_0,hcz5_1⟩:=gq BK240;obtain⟨hfz5_0,hfz5_1⟩:=dO BK240)|((with_reducible refine gc_ (f:=63) rfl ?_);refine gl_ (some 4) Tryz.func63 #[.agg #[.int .i64 a0_0,.slice A0_1 l0_1.length c0_1]] ?_;(with_reducible refine (bv.calls k a0_0 _ _ l0_1 true _ ?side1 ?side2 A2.out).mono ?_);(case side1=>exact cY ((cb_ HR0_1 HB)));(case side2=>exact HC0_1.out);rintro e w6 ⟨rfl,hb⟩;refine⟨_,rfl,?_⟩;have n0_:=A_.mk (bb_ (bY BK240.out) hb);have n1_:=A_.mk (bt_ ((zA_ HB GE240)) hb);clear BK240 HB;have BK240:=n0_;have HB:=n1_;clear n0_ n1_;(try clear hb);(try clear hb2);(try clear hk);(try clear hi);obtain⟨hcz7_0,hcz7_1⟩:=gq BK240;obtain⟨hfz7_0,hfz7_1⟩:=dO BK240))
 go_ret
 exact⟨re_,(zA_ HB GE240)⟩
end Go.Proofs.YtmdehehgmnihpaaGreat.PFnExactLinkStep
