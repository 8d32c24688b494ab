import Derived.Test.YtmdehehgmnihpaaGreatPFnExactLinkStepx6
namespace Go.Proofs.YtmdehehgmnihpaaGreat.PFnExactLinkStep
open Go.RowKit Go.Proofs.YtmdehehgmnihpaaGreatW.PrintWords Go.Proofs.YtmdehehgmnihpaaGreatW.PrintLast Go.Proofs.YtmdehehgmnihpaaGreatW.PrintMore
attribute [local go_sem] dM dL eu ek dn dm dJ dK
set_option maxHeartbeats 8000000
set_option maxRecDepth 100000
set_option linter.unusedVariables false
set_option linter.unusedSimpArgs false
def aJ.l0:Nat→List Int→List Int→Int→Int→Option (Bool)
 | 0,_,_,_,_=>none
 | k+1,x0,x1,x12,x13=>if x13<x12 then (if 0≤x13 then (if x13<(x0.length:Int) then (if x13<(x1.length:Int) then (if (rd x0 x13)=(rd x1 x13) then (aJ.l0 k x0 x1 x12 (wrap64 (x13+1))) else (some false)) else (none)) else (none)) else (none)) else (some true)
def aJ.f(k:Nat)(l0:List Int)(l1:List Int):Option (Bool):=if (l0.length:Int)=(l1.length:Int) then (aJ.l0 k l0 l1 (l0.length:Int) 0) else (some false)
theorem aJ.calls(k:Nat)(A0:Option Addr)(c0:Nat)(l0:List Int)(A1:Option Addr)(c1:Nat)(l1:List Int)(r:Bool)(w:World)(hr0:Kd.C (Kd.int .i64) w A0 l0.length l0)(hc0:l0.length≤c0)(hr1:Kd.C (Kd.int .i64) w A1 l1.length l1)(hc1:l1.length≤c1)(h:aJ.f k l0 l1=some r) :
  Calls Tryz.prog 128 #[.slice A0 l0.length c0,.slice A1 l1.length c1] w fun e w'=>e=.returned (.bool r)∧Drawn0 w w':=by
 have HR0:=A_.mk hr0
 have HC0:=A_.mk hc0
 clear hr0 hc0
 have HR1:=A_.mk hr1
 have HC1:=A_.mk hc1
 clear hr1 hc1
 have H:(if (l0.length:Int)=(l1.length:Int) then (aJ.l0 k l0 l1 (l0.length:Int) 0) else (some false))=some r:=h
 clear h
 by_cases c3:(l0.length:Int)=(l1.length:Int)
 rotate_left
 ·rw [if_neg c3] at H
  have c3b0:=beq_eq_false_iff_ne.mpr c3
  have c3b1:=bne_iff_ne.mpr c3
  have c3b2:(l0.length==l1.length)=false:=by first|simpa using c3|(simp at c3 ⊢;omega)
  obtain rfl:=Option.some.inj H
  go_enter Tryz.func128,Tryz.ntmps128
  go_wp2
  repeat (go_quiet (fail);try go_wp2)
  go_ret
  exact dz_
 rw [if_pos c3] at H
 have c3b0:=beq_iff_eq.mpr c3
 have c3b1:=bne_eq_false_iff_eq.mpr c3
 have c3b2:(l0.length==l1.length)=true:=by first|simpa using c3|(simp at c3 ⊢;omega)
 clear c3
 have H':=A_.mk H
 clear H
 go_enter Tryz.func128,Tryz.ntmps128
 go_wp2
 repeat (go_quiet (fail);try go_wp2)
 go_loopg [13] k (fun kq v13 w'=>∃ (x13_1:Int),v13=.int .i64 x13_1∧A_ (aJ.l0 kq l0 l1 (l0.length:Int) x13_1=some r)∧A_ (kq≤k)∧Drawn0 w w')
 case atStart=>exact ⟨(0),rs_,H',⟨Nat.le_refl _⟩,by repeat (first|exact Drawn0.refl _|apply Drawn0.step)⟩
 case round =>
  clear H'
  obtain⟨x13_1,rfl,HA,HK1,⟨m1,rfl⟩⟩:=hrel
  cases gk with
  | zero=>exact absurd HA.out (by simp [aJ.l0])
  | succ k1 =>
   have H:=HA.out
   clear HA
   simp only [aJ.l0] at H
   by_cases c4:x13_1<(l0.length:Int)
   rotate_left
   ·rw [if_neg c4] at H
    have c4b0:=decide_eq_false c4
    clear c4
    obtain rfl:=Option.some.inj H
    go_wp2
    repeat (go_quiet (fail);try go_wp2)
    go_ret
    exact dz_
   rw [if_pos c4] at H
   have c4b0:=decide_eq_true c4
   clear c4
   by_cases c5:0≤x13_1
   rotate_left
   ·rw [if_neg c5] at H
    exact absurd H (by simp)
   rw [if_pos c5] at H
   have c5b0:=decide_eq_true c5
   clear c5
   by_cases c6:x13_1<(l0.length:Int)
   rotate_left
   ·rw [if_neg c6] at H
    exact absurd H (by simp)
   rw [if_pos c6] at H
   have c6b0:=decide_eq_true c6
   clear c6
   by_cases c7:x13_1<(l1.length:Int)
   rotate_left
   ·rw [if_neg c7] at H
    exact absurd H (by simp)
   rw [if_pos c7] at H
   have c7b0:=decide_eq_true c7
   clear c7
   by_cases c8:(rd l0 x13_1)=(rd l1 x13_1)
   rotate_left
   ·rw [if_neg c8] at H
    have c8b0:=beq_eq_false_iff_ne.mpr c8
    have c8b1:=bne_iff_ne.mpr c8
    obtain rfl:=Option.some.inj H
    have p385:0≤(x13_1:Int):=od_
    have q385:x13_1<(l0.length:Int):=od_
    obtain⟨ad385,e385,hx385_0⟩:=Kd.d9 HR0.out x13_1 p385 q385
    cases e385
    replace p385:=eq_true p385
    replace q385:=eq_true q385
    have p386:0≤(x13_1:Int):=od_
    have q386:x13_1<(l1.length:Int):=od_
    obtain⟨ad386,e386,hx386_0⟩:=Kd.d9 HR1.out x13_1 p386 q386
    cases e386
    replace p386:=eq_true p386
    replace q386:=eq_true q386
    go_wp2
    repeat (go_quiet (fail);try go_wp2)
    go_ret
    exact dz_
   rw [if_pos c8] at H
   have c8b0:=beq_iff_eq.mpr c8
   have c8b1:=bne_eq_false_iff_eq.mpr c8
   clear c8
   have H':=A_.mk H
   clear H
   have p385:0≤(x13_1:Int):=od_
   have q385:x13_1<(l0.length:Int):=od_
   obtain⟨ad385,e385,hx385_0⟩:=Kd.d9 HR0.out x13_1 p385 q385
   cases e385
   replace p385:=eq_true p385
   replace q385:=eq_true q385
   have p386:0≤(x13_1:Int):=od_
   have q386:x13_1<(l1.length:Int):=od_
   obtain⟨ad386,e386,hx386_0⟩:=Kd.d9 HR1.out x13_1 p386 q386
   cases e386
   replace p386:=eq_true p386
   replace q386:=eq_true q386
   go_wp2
   repeat (go_quiet (fail);try go_wp2)
   go_roundg k1
   case measure=>have:=HK1.out;omega
   case rel=>exact ⟨(wrap64 (x13_1+1)),rs_,H',⟨by have:=HK1.out;omega⟩,by repeat (first|exact Drawn0.refl _|apply Drawn0.step)⟩
def ic.f(k:Nat)(l0:List Int):Option (List Int×Bool):=if (wrap64 ((l0.length:Int)-2))<0 then (some (([]:List Int),false)) else ((bf.f k l0).bind fun t387=>(if t387=true then (if 0≤(wrap64 ((l0.length:Int)-2)) then (if (wrap64 ((l0.length:Int)-2))≤(l0.length:Int) then ((bu.f k (l0.take ((wrap64 ((l0.length:Int)-2)):Int).toNat)).bind fun t389=>((aJ.f k t389 l0).bind fun t392=>(if t392=true then ((ai.f (l0.take ((wrap64 ((l0.length:Int)-2)):Int).toNat)).bind fun t394=>(some (t394,true))) else (some (([]:List Int),false))))) else (none)) else (none)) else (some (([]:List Int),false))))
theorem ic.calls(k:Nat)(A0:Option Addr)(c0:Nat)(l0:List Int)(r1:List Int)(r2:Bool)(w:World)(hr0:Kd.C (Kd.int .i64) w A0 l0.length l0)(hc0:l0.length≤c0)(h:ic.f k l0=some (r1,r2)) :
  Calls Tryz.prog 127 #[.slice A0 l0.length c0] w fun e w'=>∃ v0_:Value,e=.returned (.tuple #[v0_,.bool r2])∧Kd.R (Kd.int .i64) 3 w' w.heap.size (fun _=>True) v0_ r1∧Below w.heap.size w w':=by
 have HR0:=A_.mk hr0
 have HC0:=A_.mk hc0
 clear hr0 hc0
 have HB:=A_.mk (Below.refl w.heap.size w)
 have H:(if (wrap64 ((l0.length:Int)-2))<0 then (some (([]:List Int),false)) else ((bf.f k l0).bind fun t387=>(if t387=true then (if 0≤(wrap64 ((l0.length:Int)-2)) then (if (wrap64 ((l0.length:Int)-2))≤(l0.length:Int) then ((bu.f k (l0.take ((wrap64 ((l0.length:Int)-2)):Int).toNat)).bind fun t389=>((aJ.f k t389 l0).bind fun t392=>(if t392=true then ((ai.f (l0.take ((wrap64 ((l0.length:Int)-2)):Int).toNat)).bind fun t394=>(some (t394,true))) else (some (([]:List Int),false))))) else (none)) else (none)) else (some (([]:List Int),false)))))=some (r1,r2):=h
 clear h
 by_cases c2:(wrap64 ((l0.length:Int)-2))<0
 ·rw [if_pos c2] at H
  have c2b0:=decide_eq_true c2
  clear c2
  replace H:=lh H
  obtain⟨rfl,rfl⟩:=H
  go_enter Tryz.func127,Tryz.ntmps127
  go_wp2
  go_ret2
  exact⟨_,re_,by first|exact Kd.jF _ _ _ _ _|exact Kd.lI _ _ _ _ _|exact Kd.jY _ _ _ _ _|exact Kd.lw _ _ _ _ _|exact Kd.kX _ _ _ _ _,beY HB.out⟩
 rw [if_neg c2] at H
 have c2b0:=decide_eq_false c2
 clear c2
 replace H:=oa_ H
 obtain⟨t387,A3,H⟩:=H
 by_cases c4:t387=true
 rotate_left
 ·replace c4:=Bool.eq_false_iff.mpr c4
  subst c4
  have H1:(some (([]:List Int),false))=some (r1,r2):=by rw [if_neg (show ¬ (false=true) by decide)] at H;exact H
  clear H
  have H:=H1
  clear H1
  replace H:=lh H
  obtain⟨rfl,rfl⟩:=H
  go_enter Tryz.func127,Tryz.ntmps127
  go_wp2_with (first|(go_at_call 106;(with_reducible refine (bf.calls k _ _ l0 false _ ?side1 ?side2 A3.out).mono ?_);(case side1=>exact cY (HR0.out));(case side2=>exact HC0.out);rintro e w' ⟨rfl,⟨nd,rfl⟩⟩))
  go_ret2
  exact⟨_,re_,by first|exact Kd.jF _ _ _ _ _|exact Kd.lI _ _ _ _ _|exact Kd.jY _ _ _ _ _|exact Kd.lw _ _ _ _ _|exact Kd.kX _ _ _ _ _,beY HB.out⟩
 subst c4
 have H1:(if 0≤(wrap64 ((l0.length:Int)-2)) then (if (wrap64 ((l0.length:Int)-2))≤(l0.length:Int) then ((bu.f k (l0.take ((wrap64 ((l0.length:Int)-2)):Int).toNat)).bind fun t389=>((aJ.f k t389 l0).bind fun t392=>(if t392=true then ((ai.f (l0.take ((wrap64 ((l0.length:Int)-2)):Int).toNat)).bind fun t394=>(some (t394,true))) else (some (([]:List Int),false))))) else (none)) else (none))=some (r1,r2):=by rw [if_pos rfl] at H;exact H
 clear H
 have H:=H1
 clear H1
 obtain⟨ji5,hji5⟩:∃ j_:Int,(wrap64 ((l0.length:Int)-2))=j_:=⟨_,rfl⟩
 replace H:(if 0≤(ji5) then (if (ji5)≤(l0.length:Int) then ((bu.f k (l0.take ((ji5):Int).toNat)).bind fun t389=>((aJ.f k t389 l0).bind fun t392=>(if t392=true then ((ai.f (l0.take ((ji5):Int).toNat)).bind fun t394=>(some (t394,true))) else (some (([]:List Int),false))))) else (none)) else (none))=some (r1,r2):=by first|(rw [hji5] at H;exact H)|(simp only [hji5] at H ⊢;exact H)
 (try rw [hji5] at c2b0)
 (try rw [hji5] at A3)
 have hji5w:(IntKind.i64.wrap ((l0.length:Int)-2))=ji5:=(jg _).trans hji5
 by_cases c6:0≤(ji5)
 rotate_left
 ·rw [if_neg c6] at H
  exact absurd H (by simp)
 rw [if_pos c6] at H
 have c6b0:=eq_true c6
 have c6b1:=decide_eq_true c6
 clear c6
 by_cases c7:(ji5)≤(l0.length:Int)
 rotate_left
 ·rw [if_neg c7] at H
  exact absurd H (by simp)
 rw [if_pos c7] at H
 have c7b0:=eq_true c7
 have c7b1:=decide_eq_true c7
 clear c7
 replace H:=oa_ H
 obtain⟨t389,A8,H⟩:=H
 replace H:=oa_ H
 obtain⟨t392,A9,H⟩:=H
 by_cases c10:t392=true
 rotate_left
 ·replace c10:=Bool.eq_false_iff.mpr c10
  subst c10
  have H1:(some (([]:List Int),false))=some (r1,r2):=by rw [if_neg (show ¬ (false=true) by decide)] at H;exact H
  clear H
  have H:=H1
  clear H1
  replace H:=lh H
  obtain⟨rfl,rfl⟩:=H
  go_enter Tryz.func127,Tryz.ntmps127
  go_wp2_with (first|(go_at_call 106;(with_reducible refine (bf.calls k _ _ l0 true _ ?side1 ?side2 A3.out).mono ?_);(case side1=>exact cY (HR0.out));(case side2=>exact HC0.out);rintro e w' ⟨rfl,⟨nd,rfl⟩⟩;obtain⟨i019,hi019,_,hsz19,_⟩:=info_parts info3;obtain⟨hcut19,hA19,hC19⟩:=jh (P:=Tryz.prog) (Value.int .i64) 0 28 3 .i64 Tryz.underlying28 hi019 hsz19 A0 c0 l0 (ji5) (od_) (od_) HC0.out;have HR388:=A_.mk (Kd.kg (h1:=fun _=>rfl) (hA19 _ (Kd.jJ HR0.out)));have HC388:=A_.mk hC19;clear hA19 hC19 hi019 hsz19)|(go_at_call 113;refine gV (args':=#[.slice A0 (l0.take ((ji5):Int).toNat).length c0]) (by have h1_:ji5≤(l0.length:Int):=od_;have h0_:0≤(ji5:Int):=od_;rw [List.length_take,Nat.min_eq_left (by omega)]) ?_;(with_reducible refine (bu.calls k _ _ (l0.take ((ji5):Int).toNat) t389 _ ?side1 ?side2 A8.out).mono ?_);(case side1=>exact cY (HR388.out));(case side2=>exact HC388.out);rintro e w20 ⟨v390,rfl,ho0,hb⟩;have n0_:=A_.mk (Kd.bR ho0 (bz_ (beY HB.out)));have n1_:=A_.mk (bt_ (beY HB.out) hb);clear HB;have HO391:=n0_;have HB:=n1_;clear n0_ n1_;(try clear hb);(try clear hb2);(try clear hk);(try clear hi);(try clear ho0);obtain⟨Ao21,co21,eo21⟩:=Kd.aX HO391.out;subst eo21)|(go_at_call 128;(with_reducible refine (aJ.calls k _ _ t389 _ _ l0 false _ ?side1 ?side2 ?side3 ?side4 A9.out).mono ?_);(case side1=>exact cY ((je HO391)));(case side2=>exact (jB HO391));(case side3=>exact cY ((cb_ HR0 HB)));(case side4=>exact HC0.out);rintro e w' ⟨rfl,⟨nd,rfl⟩⟩))
  go_ret2
  exact⟨_,by first|rfl|(simp [dQ,dR] <;> rfl)|(simp only [←hji5];first|rfl|(simp [dQ,dR] <;> rfl))|(simp [*,dQ,dR] <;> rfl),by first|exact Kd.jF _ _ _ _ _|exact Kd.lI _ _ _ _ _|exact Kd.jY _ _ _ _ _|exact Kd.lw _ _ _ _ _|exact Kd.kX _ _ _ _ _,beY HB.out⟩
 subst c10
 have H1:((ai.f (l0.take ((ji5):Int).toNat)).bind fun t394=>(some (t394,true)))=some (r1,r2):=by rw [if_pos rfl] at H;exact H
 clear H
 have H:=H1
 clear H1
 have c11b0:=eq_true (od_:0≤(ji5))
 have c12b0:=eq_true (od_:(ji5)≤(l0.length:Int))
 replace H:=oa_ H
 obtain⟨t394,A13,H⟩:=H
 replace H:=lh H
 obtain⟨rfl,rfl⟩:=H
 go_enter Tryz.func127,Tryz.ntmps127
 go_wp2_with (first|(go_at_call 106;(with_reducible refine (bf.calls k _ _ l0 true _ ?side1 ?side2 A3.out).mono ?_);(case side1=>exact cY (HR0.out));(case side2=>exact HC0.out);rintro e w' ⟨rfl,⟨nd,rfl⟩⟩;obtain⟨i014,hi014,_,hsz14,_⟩:=info_parts info3;obtain⟨hcut14,hA14,hC14⟩:=jh (P:=Tryz.prog) (Value.int .i64) 0 28 3 .i64 Tryz.underlying28 hi014 hsz14 A0 c0 l0 (ji5) (od_) (od_) HC0.out;have HR388:=A_.mk (Kd.kg (h1:=fun _=>rfl) (hA14 _ (Kd.jJ HR0.out)));have HC388:=A_.mk hC14;clear hA14 hC14 hi014 hsz14)|(go_at_call 113;refine gV (args':=#[.slice A0 (l0.take ((ji5):Int).toNat).length c0]) (by have h1_:ji5≤(l0.length:Int):=od_;have h0_:0≤(ji5:Int):=od_;rw [List.length_take,Nat.min_eq_left (by omega)]) ?_;(with_reducible refine (bu.calls k _ _ (l0.take ((ji5):Int).toNat) t389 _ ?side1 ?side2 A8.out).mono ?_);(case side1=>exact cY (HR388.out));(case side2=>exact HC388.out);rintro e w15 ⟨v390,rfl,ho0,hb⟩;have n0_:=A_.mk (Kd.bR ho0 (bz_ (beY HB.out)));have n1_:=A_.mk (bt_ (beY HB.out) hb);clear HB;have HO391:=n0_;have HB:=n1_;clear n0_ n1_;(try clear hb);(try clear hb2);(try clear hk);(try clear hi);(try clear ho0);obtain⟨Ao16,co16,eo16⟩:=Kd.aX HO391.out;subst eo16)|(go_at_call 128;(with_reducible refine (aJ.calls k _ _ t389 _ _ l0 true _ ?side1 ?side2 ?side3 ?side4 A9.out).mono ?_);(case side1=>exact cY ((je HO391)));(case side2=>exact (jB HO391));(case side3=>exact cY ((cb_ HR0 HB)));(case side4=>exact HC0.out);rintro e w' ⟨rfl,⟨nd,rfl⟩⟩;obtain⟨i017,hi017,_,hsz17,_⟩:=info_parts info3;obtain⟨hcut17,hA17,hC17⟩:=jh (P:=Tryz.prog) (Value.int .i64) 0 28 3 .i64 Tryz.underlying28 hi017 hsz17 A0 c0 l0 (ji5) (od_) (od_) HC0.out;have HR393:=A_.mk (Kd.kg (h1:=fun _=>rfl) (hA17 _ (Kd.jJ HR0.out)));have HC393:=A_.mk hC17;clear hA17 hC17 hi017 hsz17)|((with_reducible refine gc_ (f:=76) rfl ?_);refine vW (some 27) rfl rfl Tryz.func76 (by kernel_rfl) rfl #[.slice A0 (l0.take ((ji5):Int).toNat).length c0] rfl (by (try simp only [List.map_toArray,List.map_cons,List.map_nil]);first|done|(rw [show (l0.take ((ji5):Int).toNat).length=(ji5).toNat from (by rw [List.length_take];have h_:((ji5):Int)≤(l0.length:Int):=od_;omega)] <;> rfl)|(simp only [hji5];rfl)|rfl|(simp only [List.length_drop,List.length_take];rfl)) ?_;(with_reducible refine (ai.calls _ _ (l0.take ((ji5):Int).toNat) t394 _ ?side1 ?side2 A13.out).mono ?_);(case side1=>exact cY ((cb_ HR393 HB)));(case side2=>exact HC393.out);rintro e w18 ⟨v395,rfl,ho0,hb⟩;refine⟨_,rfl,?_⟩;have n0_:=A_.mk (Kd.kV (rY HO391.out) (Kd.jG ho0) hb);have n1_:=A_.mk (Kd.bR (Kd.oI ho0 (Kd.qD (rY HO391.out))) (bz_ (beY HB.out)));have n2_:=A_.mk (bt_ (beY HB.out) hb);clear HO391 HB;have HO391:=n0_;have HO396:=n1_;have HB:=n2_;clear n0_ n1_ n2_;(try clear hb);(try clear hb2);(try clear hk);(try clear hi);(try clear ho0)))
 go_ret2
 exact⟨_,by first|rfl|(simp [dQ,dR] <;> rfl)|(simp only [←hji5];first|rfl|(simp [dQ,dR] <;> rfl))|(simp [*,dQ,dR] <;> rfl),by (repeat apply rX);exact Kd.aC HO396.out (fun _ hk=>trivial),beY HB.out⟩
def eX.f(k:Nat)(l0:List Int):Option ((Int)×(List Int)×(Bool)):=((ic.f k l0).bind fun ⟨t1,t2⟩=>(if t2=true then (if (t1.length:Int)=0 then (some (0,[],false)) else (if 0≤(0:Int) then (if (0:Int)<(t1.length:Int) then ((bB.f (rd t1 (0:Int))).bind fun t3=>(if t3=true then (if 0≤(0:Int) then (if (0:Int)<(t1.length:Int) then (some ((rd t1 (0:Int)),(t1.drop 1),true)) else none) else none) else (some (0,[],false)))) else none) else none)) else (some (0,[],false))))
theorem eX.calls(k:Nat)(A0:Option Addr)(c0:Nat)(l0:List Int)(r1:Int)(r2:List Int)(r3:Bool)(w:World)(hr0:Kd.C (Kd.int .i64) w A0 l0.length l0)(hc0:l0.length≤c0)(h:eX.f k l0=some (r1,r2,r3)) :
  Calls Tryz.prog 115 #[.slice A0 l0.length c0] w fun e w'=>∃ v0_:Value,e=.returned (.tuple #[.agg #[.int .i64 r1,v0_],.bool r3])∧Kd.V (Kd.int .i64) 3 w' w.heap.size (fun k_=>w.heap.size≤k_) v0_ r2∧Below w.heap.size w w':=by
 have HR0:=A_.mk hr0
 have HC0:=A_.mk hc0
 clear hr0 hc0
 have HB:=A_.mk (Below.refl w.heap.size w)
 unfold eX.f at h
 have H:=h
 clear h
 replace H:=oa_ H
 obtain⟨⟨t1,t2⟩,A2,H⟩:=H
 try dsimp only at H
 replace H:=A_.mk H
 have hu68:=Tryz.underlying68
 go_enter Tryz.func115,Tryz.ntmps115
 have HS:=A_.mk (Nat.le_refl w.heap.size)
 go_wp2_with (first|((with_reducible refine gd_ (N:=2) rfl ?_);refine by_ 2 (cs:=#[.int .i64 0,.slice none 0 0]) (t:=68) ?_;intro gb1_ hg w1_ hbox hb;replace HS:=aHg HS hg hbox;replace HB:=aHB HB hb;have BK1:=A_.mk hbox;clear hbox hb hg))
 refine(ic.calls k _ _ l0 t1 t2 _ (cb_ HR0 HB) HC0.out A2.out).mono ?_
 rintro e w2_ ⟨v0_,rfl,ho0_,hb⟩
 replace HS:=aHs HS hb.size
 obtain⟨Ao2_0,co2_0,rfl,HO2_0⟩:=sRm ho0_ HB.out.size
 replace BK1:=aBb BK1 hb
 replace HB:=aHB HB hb
 clear hb ho0_
 have Q1:=ak BK1.out
 replace H:=H.out
 by_cases hc1_:t2=true
 case neg =>
  rw [if_neg hc1_] at H
  replace hc1_:=eq_false_of_ne_true hc1_
  subst hc1_
  replace H:=jE H
  obtain⟨rfl,rfl,rfl⟩:=H
  go_wp2_with (first|((with_reducible refine ae (t:=68) (p:=2) rfl ?_);obtain⟨qf0,qf1⟩:=dO BK1;refine so_ (w1:=(jv w2_ gb1_ (.int .i64 0) (.slice none 0 0))) ?_;intro w9_ hw;clear qf0 qf1;obtain⟨hbx,hkp,hbb⟩:=jA hw BK1 HB (ho_ HS);clear hw;replace BK1:=A_.mk hbx;replace HB:=A_.mk hbb;replace HS:=aHs HS hkp.1;clear hkp hbb hbx Q1))
  refine bodyPost_ret (aM rfl _ _ gb1_ 68 _ (0,0) _ rfl BK1.out Tryz.underlying68 rfl (by kernel_rfl)) rfl ?_
  exact⟨_,rfl,Kd.jY _ _ _ _ _,HB.out⟩
 rw [if_pos hc1_] at H
 subst hc1_
 by_cases hc2_:(t1.length:Int)=0
 case pos =>
  rw [if_pos hc2_] at H
  have hc2_b1:(t1.length==0)=true:=by first|simpa using hc2_|(simp at hc2_ ⊢;omega)
  replace hc2_:=iF hc2_
  replace H:=jE H
  obtain⟨rfl,rfl,rfl⟩:=H
  go_wp2_with (first|((with_reducible refine ae (t:=68) (p:=2) rfl ?_);obtain⟨qf0,qf1⟩:=dO BK1;refine so_ (w1:=(jv w2_ gb1_ (.int .i64 0) (.slice none 0 0))) ?_;intro w3_ hw;clear qf0 qf1;obtain⟨hbx,hkp,hbb⟩:=jA hw BK1 HB (ho_ HS);clear hw;replace BK1:=A_.mk hbx;replace HB:=A_.mk hbb;replace HS:=aHs HS hkp.1;clear hkp hbb hbx Q1))
  refine bodyPost_ret (aM rfl _ _ gb1_ 68 _ (0,0) _ rfl BK1.out Tryz.underlying68 rfl (by kernel_rfl)) rfl ?_
  exact⟨_,rfl,Kd.jY _ _ _ _ _,HB.out⟩
 rw [if_neg hc2_] at H
 have hc2_b:=iE hc2_
 have hc2_b1:(t1.length==0)=false:=by first|simpa using hc2_|(simp at hc2_ ⊢;omega)
 replace H:=ky H
 obtain⟨hp4_,hq4_,H⟩:=H
 have EB4:=A_.mk (And.intro hp4_ hq4_)
 have hn4_:(0<t1.length)=True:=eq_true (by omega)
 replace hp4_:=eq_true hp4_
 replace hq4_:=eq_true hq4_
 replace H:=oa_ H
 obtain⟨t3,A5,H⟩:=H
 replace H:=A_.mk H
 clear Q1
 obtain⟨gHO2_0_,ed_⟩:=ry HO2_0.out (by have:=EB4.out;omega)
 subst ed_
 have QE4:=(show w2_.cell? ⟨gHO2_0_,0,none⟩=some (.int .i64 (rd t1 (0:Int))) from nP HO2_0.out EB4.out)
 have QF4:=(show w2_.frozen? ⟨gHO2_0_,0,none⟩=false from o6 HO2_0.out EB4.out)
 go_wp2_with (fail)
 refine(bB.calls (rd t1 (0:Int)) t3 _ A5.out).mono ?_
 rintro e w5_ ⟨rfl,hb⟩
 replace hb:=Drawn0.below hb
 replace HS:=aHs HS hb.size
 replace HO2_0:=aRb HO2_0 hb
 replace BK1:=aBb BK1 hb
 replace HB:=aHB HB hb
 clear hb  QE4 QF4
 have Q1:=ak BK1.out
 have QE4:=(show w5_.cell? ⟨gHO2_0_,0,none⟩=some (.int .i64 (rd t1 (0:Int))) from nP HO2_0.out EB4.out)
 have QF4:=(show w5_.frozen? ⟨gHO2_0_,0,none⟩=false from o6 HO2_0.out EB4.out)
 replace H:=H.out
 by_cases hc3_:t3=true
 case pos =>
  rw [if_pos hc3_] at H
  subst hc3_
  replace H:=ky H
  obtain⟨hp6_,hq6_,H⟩:=H
  have EB6:=A_.mk (And.intro hp6_ hq6_)
  clear hp6_ hq6_
  obtain⟨y4,Ny4⟩:=le_ ((t1.drop 1))
  rw [←Ny4.out] at H
  replace H:=jE H
  obtain⟨rfl,rfl,rfl⟩:=H
  go_wp2_with (fail)
  obtain⟨ax6_,hax6_⟩:∃ q_:Option Addr,(if co2_0=1 then (some ⟨gHO2_0_,0,none⟩:Option Addr) else some ⟨gHO2_0_,1,none⟩)=q_:=⟨_,rfl⟩
  have hnc_:=(jB HO2_0)
  have hz0_:1≤t1.length:=by have:=EB6.out;omega
  have hz1_:1≤co2_0:=by omega
  have hz2_:(1:Int)≤(t1.length:Int):=by omega
  have HO6:=A_.mk (show Kd.V (Kd.int .i64) 3 w5_ w.heap.size (fun k_=>((w1_.heap.size≤k_∧k_<w2_.heap.size))) (.slice ax6_ (t1.length-1) (co2_0-1)) y4 from by rw [Ny4.out];exact oC (Kd.R_V HO2_0.out) (by have:=EB6.out;omega) rfl hax6_)
  refine dN (n:=8) (S:=fun w'=>(w'.cell? ⟨gHO2_0_,0,none⟩=some (.int .i64 (rd t1 (0:Int))))) (ds:=[6]) #[F,F,F,F,F,F,F,F] (by kernel_rfl) rfl rfl (nP HO2_0.out EB4.out) (fun hHeld=>?_)
  clear Q1 QE4 QF4
  have hb:=aV (Below.refl w5_.heap.size w5_)
  replace HS:=aHs HS hb.size
  replace HO2_0:=aRb HO2_0 hb
  replace HO6:=aVb HO6 hb
  replace BK1:=aBb BK1 hb
  replace HB:=aHB HB hb
  clear hb
  generalize w5_.drew=w10d_ at HO2_0 HO6 BK1 HB HS hHeld ⊢
  refine pd_ (i:=0) (N:=some 26) #[T,F,F,F,F,F,F,F] rfl ?_
  refine pd_ (i:=1) (N:=some 27) #[T,T,F,F,F,F,F,F] rfl ?_
  refine tl_ (i:=2) (N:=some 28) #[T,T,T,F,F,F,F,F] rfl hHeld ?_
  refine pd_ (i:=3) (N:=some 29) #[T,T,T,T,F,F,F,F] rfl ?_
  refine pd_ (i:=4) (N:=some 30) #[T,T,T,T,T,F,F,F] rfl ?_
  refine pd_ (i:=5) (N:=some 31) #[T,T,T,T,T,T,F,F] rfl ?_
  refine gG (i:=6) (N:=none) #[T,T,T,T,T,T,T,F] rfl rfl (by kernel_rfl) (by decide) (fun K hK=>?_)
  have Q1:=ak BK1.out
  obtain⟨qf0,qf1⟩:=dO BK1
  obtain⟨w7_,hw⟩:=lw_ ((jv w10d_ gb1_ (.int .i64 (rd t1 (0:Int))) (.slice ax6_ (t1.length-1) (co2_0-1))))
  refine fT (w1:=w7_) (by rfl) rfl ?_ ?_
  ·rw [hw];go_simp;try rfl
  refine hK.out _ _ ?_
  clear hK K qf0 qf1 Q1
  obtain⟨hbx,hkp,hbb⟩:=jA hw BK1 HB (ho_ HS)
  clear hw
  replace HO2_0:=aRk HO2_0 hkp HS
  replace HO6:=aVk HO6 hkp HS
  replace BK1:=A_.mk hbx
  replace HB:=A_.mk hbb
  replace HS:=aHs HS hkp.1
  clear hkp hbb hbx
  refine pd_ (i:=7) (N:=some 3) #[T,T,T,T,T,T,T,T] rfl ?_
  refine fA (by kernel_rfl) ?_
  go_wp2
  refine bodyPost_ret (aM rfl _ _ gb1_ 68 _ (0,0) _ rfl BK1.out Tryz.underlying68 rfl (by kernel_rfl)) rfl ?_
  exact⟨_,rfl,Kd.aW (HO6.out) (hk_ HS),HB.out⟩
 rw [if_neg hc3_] at H
 replace hc3_:=eq_false_of_ne_true hc3_
 subst hc3_
 replace H:=jE H
 obtain⟨rfl,rfl,rfl⟩:=H
 go_wp2_with (first|((with_reducible refine ae (t:=68) (p:=2) rfl ?_);obtain⟨qf0,qf1⟩:=dO BK1;refine so_ (w1:=(jv w5_ gb1_ (.int .i64 0) (.slice none 0 0))) ?_;intro w8_ hw;clear qf0 qf1;obtain⟨hbx,hkp,hbb⟩:=jA hw BK1 HB (ho_ HS);clear hw;replace BK1:=A_.mk hbx;replace HB:=A_.mk hbb;replace HS:=aHs HS hkp.1;clear hkp hbb hbx Q1 QE4 QF4))
 refine bodyPost_ret (aM rfl _ _ gb1_ 68 _ (0,0) _ rfl BK1.out Tryz.underlying68 rfl (by kernel_rfl)) rfl ?_
 exact⟨_,rfl,Kd.jY _ _ _ _ _,HB.out⟩
def jw.f(a0:Int)(a1:Int):Option (Bool):=(dE.f a0 a1).bind fun t397=>((bE.f t397 1 7).bind fun t398=>(some t398))
theorem jw.calls(a0:Int)(a1:Int)(r:Bool)(w:World)(h:jw.f a0 a1=some r) :
  Calls Tryz.prog 126 #[.int .i64 a0,.int .i64 a1] w fun e w'=>e=.returned (.bool r)∧Drawn0 w w':=by
 have H:((dE.f a0 a1).bind fun t397=>((bE.f t397 1 7).bind fun t398=>(some t398)))=some r:=h
 clear h
 replace H:=oa_ H
 obtain⟨t397,A3,H⟩:=H
 replace H:=oa_ H
 obtain⟨t398,A4,H⟩:=H
 obtain rfl:=Option.some.inj H
 go_enter Tryz.func126,Tryz.ntmps126
 go_wp2_with (first|((with_reducible refine gc_ (f:=105) rfl ?_);refine gl_ (some 7) Tryz.func105 #[.int .i64 a0,.int .i64 a1] ?_;(with_reducible refine (dE.calls a0 a1 t397 _ A3.out).mono ?_);rintro e w' ⟨rfl,⟨nd,rfl⟩⟩;refine⟨_,rfl,?_⟩)|((with_reducible refine gc_ (f:=83) rfl ?_);refine gl_ (some 8) Tryz.func83 #[.int .i64 t397,.int .i64 1,.int .i64 7] ?_;(with_reducible refine (bE.calls t397 1 7 t398 _ A4.out).mono ?_);rintro e w' ⟨rfl,⟨nd,rfl⟩⟩;refine⟨_,rfl,?_⟩))
 go_ret
 exact dz_
def iB.f(k:Nat)(a0_0:Int)(l0_1:List (List Int))(l1:List Int):Option ((Int)):=((eX.f k l1).bind fun ⟨t1,t2,t3⟩=>(if t3=true then ((bL.f k a0_0 l0_1).bind fun t4=>(if t4=true then (if t1=a0_0 then (some (0)) else ((jw.f t1 a0_0).bind fun t5=>(if t5=true then (some (1)) else (some (2))))) else (some (3)))) else (some (3))))
theorem iB.calls(k:Nat)(a0_0:Int)(A0_1:Option Addr)(c0_1:Nat)(l0_1:List (List Int))(A1:Option Addr)(c1:Nat)(l1:List Int)(r:Int)(w:World)(hr0_1:Kd.C (Kd.slice 3 (Kd.int .i64)) w A0_1 l0_1.length l0_1)(hc0_1:l0_1.length≤c0_1)(hr1:Kd.C (Kd.int .i64) w A1 l1.length l1)(hc1:l1.length≤c1)(h:iB.f k a0_0 l0_1 l1=some r) :
  Calls Tryz.prog 114 #[.agg #[.int .i64 a0_0,.slice A0_1 l0_1.length c0_1],.slice A1 l1.length c1] w fun e w'=>e=.returned (.int .i64 r)∧Below w.heap.size w w':=by
 have HR0_1:=A_.mk hr0_1
 have HC0_1:=A_.mk hc0_1
 clear hr0_1 hc0_1
 have HR1:=A_.mk hr1
 have HC1:=A_.mk hc1
 clear hr1 hc1
 have HB:=A_.mk (Below.refl w.heap.size w)
 unfold iB.f at h
 have H:=h
 clear h
 replace H:=oa_ H
 obtain⟨⟨t1,t2,t3⟩,A2,H⟩:=H
 try dsimp only at H
 by_cases hc1_:t3=true
 case neg =>
  rw [if_neg hc1_] at H
  replace hc1_:=eq_false_of_ne_true hc1_
  subst hc1_
  replace H:=Option.some.inj H
  subst H
  have hu37:=Tryz.underlying37
  have hu68:=Tryz.underlying68
  go_enter Tryz.func114,Tryz.ntmps114
  have HS:=A_.mk (Nat.le_refl w.heap.size)
  go_wp2_with (first|((with_reducible refine gd_ (N:=2) rfl ?_);refine by_ 2 (cs:=#[.int .i64 a0_0,.slice A0_1 l0_1.length c0_1]) (t:=37) ?_;intro gb1_ hg w1_ hbox hb;replace HS:=aHg HS hg hbox;replace HB:=aHB HB hb;have BK1:=A_.mk hbox;clear hbox hb hg)|((with_reducible refine gc_ (f:=115) rfl ?_);refine gl_ (some 9) Tryz.func115 #[.slice A1 l1.length c1] ?_;(with_reducible refine (eX.calls k _ _ l1 t1 t2 false _ (cb_ HR1 HB) HC1.out A2.out).mono ?_);rintro e w2_ ⟨v0_,rfl,ho0_,hb⟩;refine⟨_,rfl,?_⟩;replace HS:=aHs HS hb.size;obtain⟨Ao2_0,co2_0,ev_⟩:=Kd.gH ho0_;subst ev_;replace HB:=aHB HB hb;clear hb ho0_)|((with_reducible refine gd_ (N:=5) rfl ?_);refine by_ 5 (cs:=#[.int .i64 0,.slice none 0 0]) (t:=68) ?_;intro gb3_ hg w3_ hbox hb;replace HS:=aHg HS hg hbox;replace HB:=aHB HB hb;have BK3:=A_.mk hbox;clear hbox hb hg;have Q3:=ak BK3.out)|((with_reducible refine ae (t:=68) (p:=5) rfl ?_);obtain⟨qf0,qf1⟩:=dO BK3;refine so_ (w1:=(jv w3_ gb3_ (.int .i64 t1) (.slice Ao2_0 t2.length co2_0))) ?_;intro w4_ hw;clear qf0 qf1;obtain⟨hbx,hkp,hbb⟩:=jA hw BK3 HB (ho_ HS);clear hw;replace BK3:=A_.mk hbx;replace HB:=A_.mk hbb;replace HS:=aHs HS hkp.1;clear hkp hbb hbx Q3))
  go_ret
  exact⟨rfl,HB.out⟩
 rw [if_pos hc1_] at H
 subst hc1_
 replace H:=oa_ H
 obtain⟨t4,A5,H⟩:=H
 replace H:=A_.mk H
 have hu37:=Tryz.underlying37
 have hu68:=Tryz.underlying68
 go_enter Tryz.func114,Tryz.ntmps114
 have HS:=A_.mk (Nat.le_refl w.heap.size)
 go_wp2_with (first|((with_reducible refine gd_ (N:=2) rfl ?_);refine by_ 2 (cs:=#[.int .i64 a0_0,.slice A0_1 l0_1.length c0_1]) (t:=37) ?_;intro gb1_ hg w1_ hbox hb;replace HS:=aHg HS hg hbox;replace HB:=aHB HB hb;have BK1:=A_.mk hbox;clear hbox hb hg)|((with_reducible refine gc_ (f:=115) rfl ?_);refine gl_ (some 9) Tryz.func115 #[.slice A1 l1.length c1] ?_;(with_reducible refine (eX.calls k _ _ l1 t1 t2 true _ (cb_ HR1 HB) HC1.out A2.out).mono ?_);rintro e w2_ ⟨v0_,rfl,ho0_,hb⟩;refine⟨_,rfl,?_⟩;replace HS:=aHs HS hb.size;obtain⟨Ao2_0,co2_0,ev_⟩:=Kd.gH ho0_;subst ev_;replace BK1:=aBb BK1 hb;replace HB:=aHB HB hb;clear hb ho0_)|((with_reducible refine gd_ (N:=5) rfl ?_);refine by_ 5 (cs:=#[.int .i64 0,.slice none 0 0]) (t:=68) ?_;intro gb3_ hg w3_ hbox hb;replace HS:=aHg HS hg hbox;replace BK1:=aBb BK1 hb;replace HB:=aHB HB hb;have BK3:=A_.mk hbox;clear hbox hb hg;have Q3:=ak BK3.out)|((with_reducible refine ae (t:=68) (p:=5) rfl ?_);obtain⟨qf0,qf1⟩:=dO BK3;refine so_ (w1:=(jv w3_ gb3_ (.int .i64 t1) (.slice Ao2_0 t2.length co2_0))) ?_;intro w4_ hw;clear qf0 qf1;obtain⟨hbx,hkp,hbb⟩:=jA hw BK3 HB (ho_ HS);clear hw;replace BK1:=aBk BK1 hkp HS;replace BK3:=A_.mk hbx;replace HB:=A_.mk hbb;replace HS:=aHs HS hkp.1;clear hkp hbb hbx Q3;have Q1:=ak BK1.out))
 refine(bL.calls k a0_0 _ _ l0_1 t4 _ (cb_ HR0_1 HB) HC0_1.out A5.out).mono ?_
 rintro e w5_ ⟨rfl,hb⟩
 revert BK1 BK3 HB HS
 refine aD hb ?_
 intro BK1 BK3 HB HS
 clear hb  Q1
 have Q1:=ak BK1.out
 have Q3:=ak BK3.out
 replace H:=H.out
 by_cases hc2_:t4=true
 case neg =>
  rw [if_neg hc2_] at H
  replace hc2_:=eq_false_of_ne_true hc2_
  subst hc2_
  replace H:=Option.some.inj H
  subst H
  go_wp2
  go_ret
  exact⟨rfl,HB.out⟩
 rw [if_pos hc2_] at H
 subst hc2_
 by_cases hc3_:t1=a0_0
 case pos =>
  rw [if_pos hc3_] at H
  replace hc3_:=iF hc3_
  replace H:=Option.some.inj H
  subst H
  go_wp2
  go_ret
  exact⟨rfl,HB.out⟩
 rw [if_neg hc3_] at H
 have hc3_b:=iE hc3_
 replace H:=oa_ H
 obtain⟨t5,A6,H⟩:=H
 replace H:=A_.mk H
 go_wp2_with (fail)
 refine(jw.calls t1 a0_0 t5 _ A6.out).mono ?_
 rintro e w6_ ⟨rfl,hb⟩
 replace hb:=Drawn0.below hb
 replace HS:=aHs HS hb.size
 replace HB:=aHB HB hb
 clear hb  Q1 Q3
 replace H:=H.out
 by_cases hc4_:t5=true
 case pos =>
  rw [if_pos hc4_] at H
  subst hc4_
  replace H:=Option.some.inj H
  subst H
  go_wp2
  go_ret
  exact⟨rfl,HB.out⟩
 rw [if_neg hc4_] at H
 replace hc4_:=eq_false_of_ne_true hc4_
 subst hc4_
 replace H:=Option.some.inj H
 subst H
 go_wp2
 go_ret
 exact⟨rfl,HB.out⟩
def eY.f(k:Nat)(a0_0:Int)(l0_1:List (List Int))(l1:List Int):Option ((Int)×(List (List Int))×(Int)):=((dF.f k a0_0 l0_1).bind fun ⟨t1,t2⟩=>((iB.f k a0_0 l0_1 l1).bind fun t3=>(if t3=0 then (if (l0_1.length:Int)=1000 then (some (t1,t2,2)) else ((eX.f k l1).bind fun ⟨t4,t5,t6⟩=>((ai.f t5).bind fun t7=>(if (t2.length+1)*24≤140737488355328 then ((gP.f a0_0).bind fun t9=>(some (t9,(t2++[t7]),0))) else none)))) else (some (t1,t2,t3)))))
theorem eY.calls(k:Nat)(a0_0:Int)(A0_1:Option Addr)(c0_1:Nat)(l0_1:List (List Int))(A1:Option Addr)(c1:Nat)(l1:List Int)(r1:Int)(r2:List (List Int))(r3:Int)(w:World)(hr0_1:Kd.C (Kd.slice 3 (Kd.int .i64)) w A0_1 l0_1.length l0_1)(hc0_1:l0_1.length≤c0_1)(hr1:Kd.C (Kd.int .i64) w A1 l1.length l1)(hc1:l1.length≤c1)(h:eY.f k a0_0 l0_1 l1=some (r1,r2,r3)) :
  Calls Tryz.prog 94 #[.agg #[.int .i64 a0_0,.slice A0_1 l0_1.length c0_1],.slice A1 l1.length c1] w fun e w'=>∃ f_:Nat→Nat,∃ v0_:Value,e=.returned (.tuple #[.agg #[.int .i64 r1,v0_],.int .i64 r3])∧Kd.S (Kd.slice 3 (Kd.int .i64)) 28 w' w.heap.size (fun k_=>f_ k_=0) v0_ r2∧Below w.heap.size w w':=by
 have HR0_1:=A_.mk hr0_1
 have HC0_1:=A_.mk hc0_1
 clear hr0_1 hc0_1
 have HR1:=A_.mk hr1
 have HC1:=A_.mk hc1
 clear hr1 hc1
 have HB:=A_.mk (Below.refl w.heap.size w)
 unfold eY.f at h
 have H:=h
 clear h
 replace H:=oa_ H
 obtain⟨⟨t1,t2⟩,A3,H⟩:=H
 try dsimp only at H
 replace H:=oa_ H
 obtain⟨t3,A4,H⟩:=H
 replace H:=A_.mk H
 have hu37:=Tryz.underlying37
 have hu68:=Tryz.underlying68
 go_enter Tryz.func94,Tryz.ntmps94
 have HS:=A_.mk (Nat.le_refl w.heap.size)
 go_wp2_with (first|((with_reducible refine gd_ (N:=2) rfl ?_);refine by_ 2 (cs:=#[.int .i64 a0_0,.slice A0_1 l0_1.length c0_1]) (t:=37) ?_;intro gb1_ hg w1_ hbox hb;replace HS:=aHg HS hg hbox;replace HB:=aHB HB hb;have BK1:=A_.mk hbox;clear hbox hb hg)|((with_reducible refine gd_ (N:=4) rfl ?_);refine by_ 4 (cs:=#[.int .i64 0,.slice none 0 0]) (t:=37) ?_;intro gb2_ hg w2_ hbox hb;replace HS:=aHg HS hg hbox;replace BK1:=aBb BK1 hb;replace HB:=aHB HB hb;have BK2:=A_.mk hbox;clear hbox hb hg))
 refine dN (n:=8) (S:=fun w'=>(w'.cell? ⟨gb1_,0,none⟩=some (.int .i64 a0_0)∧w'.cell? ⟨gb1_,1,none⟩=some (.slice A0_1 l0_1.length c0_1))) (ds:=[6]) #[F,F,F,F,F,F,F,F] (by kernel_rfl) rfl rfl (ak BK1.out) (fun hHeld=>?_)
 have hb:=aV (Below.refl w2_.heap.size w2_)
 revert HS BK1 HB BK2
 refine aD hb ?_
 intro HS BK1 HB BK2
 clear hb
 generalize w2_.drew=w18d_ at BK1 BK2 HB HS hHeld ⊢
 refine tl_ (i:=0) (N:=some 10) #[T,F,F,F,F,F,F,F] rfl hHeld ?_
 refine tl_ (i:=2) (N:=some 12) #[T,F,T,F,F,F,F,F] rfl hHeld ?_
 refine pd_ (i:=3) (N:=some 13) #[T,F,T,T,F,F,F,F] rfl ?_
 refine mR (σ:=Value×Nat×Nat×Nat×(Nat→Nat)) 2 #[T,T,T,T,T,T,F,F] (fun s_=>[(11,.agg #[.int .i64 t1,s_.1]),(14,.int .i64 t3),(6,.pointer (some ⟨s_.2.1,0,none⟩))]) (fun s_ w'=>((w'.cell? ⟨gb1_,0,none⟩=some (.int .i64 a0_0)∧w'.cell? ⟨gb1_,1,none⟩=some (.slice A0_1 l0_1.length c0_1)))∧w'.heap[gb1_]?=some (.cells #[.int .i64 a0_0,.slice A0_1 l0_1.length c0_1] 37 (0,0))∧w'.heap[gb2_]?=some (.cells #[.int .i64 0,.slice none 0 0] 37 (0,0))∧Below w.heap.size w w'∧w18d_.heap.size≤w'.heap.size∧(w18d_.heap.size≤s_.2.2.1∧s_.2.2.1≤s_.2.2.2.1∧s_.2.2.2.1≤w'.heap.size)∧Kd.S (Kd.slice 3 (Kd.int .i64)) 28 w' w.heap.size (fun k_=>(s_.2.2.1≤k_∧k_<s_.2.2.2.1)∧s_.2.2.2.2 k_=0) s_.1 t2∧w'.heap[s_.2.1]?=some (.cells #[.int .i64 0,.slice none 0 0] 37 (0,0))∧(w18d_.heap.size≤s_.2.1∧s_.2.1<w'.heap.size∧(s_.2.1<s_.2.2.1∨s_.2.2.2.1≤s_.2.1))) ?_ ?_
 rotate_left
 ·intro hCont
  refine jU (i:=1) (j:=5) (Ni:=some 11) (Nj:=some 6) #[T,T,T,T,F,F,F,F] #[T,F,T,T,F,T,F,F] rfl rfl rfl rfl (by kernel_rfl) (by decide) (by decide) (fun K hK=>?_) (fun K hK=>?_)
  ·skip
   refine gz_ Tryz.func74 #[.agg #[.int .i64 a0_0,.slice A0_1 l0_1.length c0_1]] ?_
   with_reducible refine (dF.calls k a0_0 _ _ l0_1 t1 t2 _ (cb_ HR0_1 HB) HC0_1.out A3.out).mono ?_
   rintro e w3_ ⟨f3_,v0_,rfl,ho0_,hb⟩
   refine⟨_,rfl,?_⟩
   replace HS:=aHs HS hb.size
   obtain⟨Ao3_0,co3_0,rfl,HO3_0⟩:=sSn ho0_ HB.out.size
   revert BK1 BK2 HB
   refine aD hb ?_
   intro BK1 BK2 HB
   clear hb ho0_
   refine hK.out _ _ (ak BK1.out) (fun hHeld=>?_)
   clear hK K
   refine nm_ ?_
   refine jU (i:=4) (j:=5) (Ni:=some 14) (Nj:=some 6) #[T,T,T,T,T,F,F,F] #[T,T,T,T,F,T,F,F] rfl rfl rfl rfl (by kernel_rfl) (by decide) (by decide) (fun K hK=>?_) (fun K hK=>?_)
   ·skip
    refine gz_ Tryz.func114 #[.agg #[.int .i64 a0_0,.slice A0_1 l0_1.length c0_1],.slice A1 l1.length c1] ?_
    with_reducible refine (iB.calls k a0_0 _ _ l0_1 _ _ l1 t3 _ (cb_ HR0_1 HB) HC0_1.out (cb_ HR1 HB) HC1.out A4.out).mono ?_
    rintro e w4_ ⟨rfl,hb⟩
    refine⟨_,rfl,?_⟩
    revert HS HO3_0 BK1 BK2 HB
    refine aD hb ?_
    intro HS HO3_0 BK1 BK2 HB
    clear hb 
    refine hK.out _ _ (ak BK1.out) (fun hHeld=>?_)
    clear hK K
    refine nm_ ?_
    refine on_ (i:=5) (N:=some 6) #[T,T,T,T,T,T,F,F] rfl (fun K hK=>?_)
    refine bo_ (N:=6) (cs:=#[.int .i64 0,.slice none 0 0]) (t:=37) ?_
    intro gb5_ hg w5_ hbox hb
    replace HS:=aHg HS hg hbox
    revert HO3_0 BK1 BK2 HB
    refine aD hb ?_
    intro HO3_0 BK1 BK2 HB
    have BK5:=A_.mk hbox
    clear hbox hb hg
    refine hK.out _ _ (ak BK1.out) (fun hHeld=>?_)
    clear hK K
    refine nm_ ?_
    exact nj_ (hCont (.slice Ao3_0 t2.length co3_0,gb5_,(w18d_.heap.size),(w3_.heap.size),f3_) _ ⟨hHeld,BK1.out,BK2.out,HB.out,(ho_ HS),(by have:=HS.out;(try dsimp only);omega),HO3_0.out,BK5.out,(by have:=HS.out;(try dsimp only);omega)⟩)
   ·skip
    refine bo_ (N:=6) (cs:=#[.int .i64 0,.slice none 0 0]) (t:=37) ?_
    intro gb5_ hg w5_ hbox hb
    replace HS:=aHg HS hg hbox
    revert HO3_0 BK1 BK2 HB
    refine aD hb ?_
    intro HO3_0 BK1 BK2 HB
    have BK5:=A_.mk hbox
    clear hbox hb hg
    refine hK.out _ _ (ak BK1.out) (fun hHeld=>?_)
    clear hK K
    refine nm_ ?_
    refine on_ (i:=4) (N:=some 14) #[T,T,T,T,T,T,F,F] rfl (fun K hK=>?_)
    refine gz_ Tryz.func114 #[.agg #[.int .i64 a0_0,.slice A0_1 l0_1.length c0_1],.slice A1 l1.length c1] ?_
    with_reducible refine (iB.calls k a0_0 _ _ l0_1 _ _ l1 t3 _ (cb_ HR0_1 HB) HC0_1.out (cb_ HR1 HB) HC1.out A4.out).mono ?_
    rintro e w4_ ⟨rfl,hb⟩
    refine⟨_,rfl,?_⟩
    revert HS HO3_0 BK1 BK2 HB BK5
    refine aD hb ?_
    intro HS HO3_0 BK1 BK2 HB BK5
    clear hb 
    refine hK.out _ _ (ak BK1.out) (fun hHeld=>?_)
    clear hK K
    refine nm_ ?_
    exact nj_ (hCont (.slice Ao3_0 t2.length co3_0,gb5_,(w18d_.heap.size),(w3_.heap.size),f3_) _ ⟨hHeld,BK1.out,BK2.out,HB.out,(ho_ HS),(by have:=HS.out;(try dsimp only);omega),HO3_0.out,BK5.out,(by have:=HS.out;(try dsimp only);omega)⟩)
  ·skip
   refine bo_ (N:=6) (cs:=#[.int .i64 0,.slice none 0 0]) (t:=37) ?_
   intro gb5_ hg w5_ hbox hb
   replace HS:=aHg HS hg hbox
   revert BK1 BK2 HB
   refine aD hb ?_
   intro BK1 BK2 HB
   have BK5:=A_.mk hbox
   clear hbox hb hg
   refine hK.out _ _ (ak BK1.out) (fun hHeld=>?_)
   clear hK K
   refine nm_ ?_
   refine on_ (i:=1) (N:=some 11) #[T,T,T,T,F,T,F,F] rfl (fun K hK=>?_)
   refine gz_ Tryz.func74 #[.agg #[.int .i64 a0_0,.slice A0_1 l0_1.length c0_1]] ?_
   with_reducible refine (dF.calls k a0_0 _ _ l0_1 t1 t2 _ (cb_ HR0_1 HB) HC0_1.out A3.out).mono ?_
   rintro e w3_ ⟨f3_,v0_,rfl,ho0_,hb⟩
   refine⟨_,rfl,?_⟩
   replace HS:=aHs HS hb.size
   obtain⟨Ao3_0,co3_0,rfl,HO3_0⟩:=sSn ho0_ HB.out.size
   revert BK1 BK2 HB BK5
   refine aD hb ?_
   intro BK1 BK2 HB BK5
   clear hb ho0_
   refine hK.out _ _ (ak BK1.out) (fun hHeld=>?_)
   clear hK K
   refine nm_ ?_
   refine on_ (i:=4) (N:=some 14) #[T,T,T,T,T,T,F,F] rfl (fun K hK=>?_)
   refine gz_ Tryz.func114 #[.agg #[.int .i64 a0_0,.slice A0_1 l0_1.length c0_1],.slice A1 l1.length c1] ?_
   with_reducible refine (iB.calls k a0_0 _ _ l0_1 _ _ l1 t3 _ (cb_ HR0_1 HB) HC0_1.out (cb_ HR1 HB) HC1.out A4.out).mono ?_
   rintro e w4_ ⟨rfl,hb⟩
   refine⟨_,rfl,?_⟩
   revert HS HO3_0 BK1 BK2 HB BK5
   refine aD hb ?_
   intro HS HO3_0 BK1 BK2 HB BK5
   clear hb 
   refine hK.out _ _ (ak BK1.out) (fun hHeld=>?_)
   clear hK K
   refine nm_ ?_
   exact nj_ (hCont (.slice Ao3_0 t2.length co3_0,gb5_,(w5_.heap.size),(w3_.heap.size),f3_) _ ⟨hHeld,BK1.out,BK2.out,HB.out,(ho_ HS),(by have:=HS.out;(try dsimp only);omega),HO3_0.out,BK5.out,(by have:=HS.out;(try dsimp only);omega)⟩)
 rintro⟨z0_,gb5_,lo18j_,up18j_,f3_⟩ w18j_ ⟨hHeld,m0_,m1_,m2_,m3_,m4_,m5_,m6_,m7_⟩
 replace BK1:=A_.mk m0_
 replace BK2:=A_.mk m1_
 replace HB:=A_.mk m2_
 replace HS:=A_.mk (And.intro HS.out m3_)
 replace HS:=A_.mk (And.intro HS.out (show w18d_.heap.size≤lo18j_∧lo18j_≤up18j_∧up18j_≤w18j_.heap.size from m4_))
 obtain⟨Ao3_0,co3_0,ev_⟩:=Kd.dx m5_
 replace ev_:z0_=_:=ev_
 subst ev_
 have HO3_0:=A_.mk (show Kd.S (Kd.slice 3 (Kd.int .i64)) 28 w18j_ w.heap.size (fun k_=>((lo18j_≤k_∧k_<up18j_)∧f3_ k_=0)) (.slice Ao3_0 t2.length co3_0) t2 from m5_)
 have BK5:=A_.mk (show w18j_.heap[gb5_]?=some (.cells #[.int .i64 0,.slice none 0 0] 37 (0,0)) from m6_)
 replace HS:=A_.mk (And.intro HS.out (show w18d_.heap.size≤gb5_∧gb5_<w18j_.heap.size∧(gb5_<lo18j_∨up18j_≤gb5_) from m7_))
 clear m0_ m1_ m2_ m3_ m4_ m5_ m6_ m7_
 refine lD (a':=?_) ?_ ?_
 rotate_left
 ·simp only [putAll,Act.put,List.setIfInBounds_toArray,List.set_cons_zero,List.set_cons_succ]
  rfl
 refine gG (i:=6) (N:=none) #[T,T,T,T,T,T,T,F] rfl rfl (by kernel_rfl) (by decide) (fun K hK=>?_)
 have Q1:=ak BK1.out
 have Q2:=ak BK2.out
 have Q5:=ak BK5.out
 obtain⟨qf0,qf1⟩:=dO BK5
 obtain⟨w6_,hw⟩:=lw_ ((jv w18j_ gb5_ (.int .i64 t1) (.slice Ao3_0 t2.length co3_0)))
 refine fT (w1:=w6_) (by rfl) rfl ?_ ?_
 ·rw [hw];go_simp;try rfl
 refine hK.out _ _ ?_
 clear hK K qf0 qf1 Q1 Q2 Q5
 obtain⟨hbx,hkp,hbb⟩:=jA hw BK5 HB (ho_ HS)
 clear hw
 revert BK1 BK2 HO3_0
 refine bC hkp HS ?_
 intro BK1 BK2 HO3_0
 replace BK5:=A_.mk hbx
 replace HB:=A_.mk hbb
 replace HS:=aHs HS hkp.1
 clear hkp hbb hbx
 refine pd_ (i:=7) (N:=some 7) #[T,T,T,T,T,T,T,T] rfl ?_
 refine fA (by kernel_rfl) ?_
 have Q1:=ak BK1.out
 have Q2:=ak BK2.out
 have Q5:=ak BK5.out
 replace H:=H.out
 by_cases hc1_:t3=0
 case neg =>
  rw [if_neg hc1_] at H
  have hc1_b:=iE hc1_
  replace H:=jE H
  obtain⟨rfl,rfl,rfl⟩:=H
  go_wp2_with (first|((with_reducible refine ae (t:=37) (p:=4) rfl ?_);obtain⟨qf0,qf1⟩:=dO BK2;refine so_ (w1:=(jv w6_ gb2_ (.int .i64 t1) (.slice Ao3_0 t2.length co3_0))) ?_;intro w17_ hw;clear qf0 qf1;obtain⟨hbx,hkp,hbb⟩:=jA hw BK2 HB (ho_ HS);clear hw;replace HO3_0:=aSk HO3_0 hkp HS;replace BK2:=A_.mk hbx;replace HB:=A_.mk hbb;replace HS:=aHs HS hkp.1;clear hkp hbb hbx Q1 Q2 Q5))
  refine bodyPost_ret (aM rfl _ _ gb2_ 37 _ (0,0) _ rfl BK2.out Tryz.underlying37 rfl (by kernel_rfl)) rfl ?_
  obtain⟨f_,hf_⟩:=mS_ HO3_0 0 (m0_ 0)
  exact⟨f_,_,rfl,cS_ HO3_0 HS hf_,HB.out⟩
 rw [if_pos hc1_] at H
 replace hc1_:=iF hc1_
 by_cases hc2_:(l0_1.length:Int)=1000
 case pos =>
  rw [if_pos hc2_] at H
  have hc2_b1:(l0_1.length==1000)=true:=by first|simpa using hc2_|(simp at hc2_ ⊢;omega)
  replace hc2_:=iF hc2_
  replace H:=jE H
  obtain⟨rfl,rfl,rfl⟩:=H
  go_wp2_with (first|((with_reducible refine ae (t:=37) (p:=4) rfl ?_);obtain⟨qf0,qf1⟩:=dO BK2;refine so_ (w1:=(jv w6_ gb2_ (.int .i64 t1) (.slice Ao3_0 t2.length co3_0))) ?_;intro w7_ hw;clear qf0 qf1;obtain⟨hbx,hkp,hbb⟩:=jA hw BK2 HB (ho_ HS);clear hw;replace HO3_0:=aSk HO3_0 hkp HS;replace BK2:=A_.mk hbx;replace HB:=A_.mk hbb;replace HS:=aHs HS hkp.1;clear hkp hbb hbx Q1 Q2 Q5))
  refine bodyPost_ret (aM rfl _ _ gb2_ 37 _ (0,0) _ rfl BK2.out Tryz.underlying37 rfl (by kernel_rfl)) rfl ?_
  obtain⟨f_,hf_⟩:=mS_ HO3_0 0 (m0_ 0)
  exact⟨f_,_,rfl,cS_ HO3_0 HS hf_,HB.out⟩
 rw [if_neg hc2_] at H
 have hc2_b:=iE hc2_
 have hc2_b1:(l0_1.length==1000)=false:=by first|simpa using hc2_|(simp at hc2_ ⊢;omega)
 replace H:=oa_ H
 obtain⟨⟨t4,t5,t6⟩,A8,H⟩:=H
 try dsimp only at H
 replace H:=oa_ H
 obtain⟨t7,A11,H⟩:=H
 replace H:=lM H
 obtain⟨LM12,H⟩:=H
 obtain⟨y8,Ny8⟩:=le_ ((t2++[t7]))
 rw [←Ny8.out] at H
 replace H:=oa_ H
 obtain⟨t9,A14,H⟩:=H
 replace H:=jE H
 obtain⟨rfl,rfl,rfl⟩:=H
 go_wp2_with (first|((with_reducible refine gc_ (f:=115) rfl ?_);refine gl_ (some 26) Tryz.func115 #[.slice A1 l1.length c1] ?_;(with_reducible refine (eX.calls k _ _ l1 t4 t5 t6 _ (cb_ HR1 HB) HC1.out A8.out).mono ?_);rintro e w8_ ⟨v0_,rfl,ho0_,hb⟩;refine⟨_,rfl,?_⟩;replace HS:=aHs HS hb.size;obtain⟨Ao8_0,co8_0,rfl,HO8_0⟩:=sVm ho0_ HB.out.size;revert BK1 BK2 HO3_0 BK5 HB;refine aD hb ?_;intro BK1 BK2 HO3_0 BK5 HB;clear hb ho0_ Q1 Q2 Q5)|((with_reducible refine gd_ (N:=8) rfl ?_);refine by_ 8 (cs:=#[.int .i64 0,.slice none 0 0]) (t:=68) ?_;intro gb9_ hg w9_ hbox hb;replace HS:=aHg HS hg hbox;revert HO8_0 BK1 BK2 HO3_0 BK5 HB;refine aD hb ?_;intro HO8_0 BK1 BK2 HO3_0 BK5 HB;have BK9:=A_.mk hbox;clear hbox hb hg;have Q9:=ak BK9.out)|((with_reducible refine ae (t:=68) (p:=8) rfl ?_);obtain⟨qf0,qf1⟩:=dO BK9;refine so_ (w1:=(jv w9_ gb9_ (.int .i64 t4) (.slice Ao8_0 t5.length co8_0))) ?_;intro w10_ hw;clear qf0 qf1;obtain⟨hbx,hkp,hbb⟩:=jA hw BK9 HB (ho_ HS);clear hw;revert HO8_0 BK1 BK2 HO3_0 BK5;refine bC hkp HS ?_;intro HO8_0 BK1 BK2 HO3_0 BK5;replace BK9:=A_.mk hbx;replace HB:=A_.mk hbb;replace HS:=aHs HS hkp.1;clear hkp hbb hbx Q9))
 refine dN (n:=9) (S:=fun w'=>(w'.cell? ⟨gb5_,0,none⟩=some (.int .i64 t1)∧w'.cell? ⟨gb5_,1,none⟩=some (.slice Ao3_0 t2.length co3_0))∧(w'.cell? ⟨gb9_,0,none⟩=some (.int .i64 t4)∧w'.cell? ⟨gb9_,1,none⟩=some (.slice Ao8_0 t5.length co8_0))) (ds:=[8]) #[F,F,F,F,F,F,F,F,F] (by kernel_rfl) rfl rfl ⟨ak BK5.out,ak BK9.out⟩ (fun hHeld=>?_)
 have hb:=aV (Below.refl w10_.heap.size w10_)
 revert HO8_0 BK1 BK2 HO3_0 BK5 BK9 HB HS
 refine aD hb ?_
 intro HO8_0 BK1 BK2 HO3_0 BK5 BK9 HB HS
 clear hb
 generalize w10_.drew=w19d_ at HO3_0 HO8_0 BK1 BK2 BK5 BK9 HB HS hHeld ⊢
 refine pd_ (i:=0) (N:=some 29) #[T,F,F,F,F,F,F,F,F] rfl ?_
 refine tl_ (i:=1) (N:=some 30) #[T,T,F,F,F,F,F,F,F] rfl hHeld ?_
 refine pd_ (i:=2) (N:=some 31) #[T,T,T,F,F,F,F,F,F] rfl ?_
 refine tl_ (i:=3) (N:=some 32) #[T,T,T,T,F,F,F,F,F] rfl hHeld ?_
 refine on_ (i:=4) (N:=some 33) #[T,T,T,T,T,F,F,F,F] rfl (fun K hK=>?_)
 refine gz_ Tryz.func76 #[.slice Ao8_0 t5.length co8_0] ?_
 with_reducible refine (ai.calls _ _ t5 t7 _ (lY HO8_0) (lX HO8_0) A11.out).mono ?_
 rintro e w11_ ⟨v0_,rfl,ho0_,hb⟩
 refine⟨_,rfl,?_⟩
 replace HS:=aHs HS hb.size
 obtain⟨Ao11_0,co11_0,rfl,HO11_0⟩:=sRm ho0_ HB.out.size
 revert HO3_0 HO8_0 BK1 BK2 BK5 BK9 HB
 refine aD hb ?_
 intro HO3_0 HO8_0 BK1 BK2 BK5 BK9 HB
 clear hb ho0_
 refine hK.out _ _ ⟨ak BK5.out,ak BK9.out⟩ (fun hHeld=>?_)
 clear hK K
 refine nm_ ?_
 refine on_ (i:=5) (N:=some 34) #[T,T,T,T,T,T,F,F,F] rfl (fun K hK=>?_)
 refine kN (w1:=?_) (v:=?_) (by rfl) rfl ?_ ?_
 rotate_left 2
 ·go_simp
  constructor
  ·rfl
  ·rfl
 refine hK.out _ _ ⟨ak (bl_ BK5.out _),ak (bl_ BK9.out _)⟩ (fun hHeld=>?_)
 clear hK K
 refine nm_ ?_
 refine on_ (i:=6) (N:=some 35) #[T,T,T,T,T,T,T,F,F] rfl (fun K hK=>?_)
 refine Kd.gu (Kd.slice 3 (Kd.int .i64)) (w0:=w) w.heap.size (by rfl) (.tmp 30) (.tmp 34) 25 28 ((.slice none 0 0)) 24 rfl Tryz.underlying25 info28 rfl (by decide) (by omega) (.slice Ao3_0 t2.length co3_0) t2 t7 [.slice Ao11_0 t7.length co11_0] (fun k_=>(((lo18j_≤k_∧k_<up18j_)∧f3_ k_=0))∨(((w19d_.heap.size≤k_∧k_<w11_.heap.size)))∨w11_.heap.size≤k_) (fun k_=>((w19d_.heap.size≤k_∧k_<w11_.heap.size))) rfl rfl ?aP ?aQ ?aF ?aO HB.out HB.out.size ?aL ?_
 case aP=>exact Kd.mO HO11_0.out
 case aQ=>exact fun k_ hk_=>⟨.inr (.inl hk_),fun e_=>by have:=(Kd.S_R HO3_0.out).1 k_ e_.symm;clear e_;have:=HS.out;omega⟩
 case aF=>exact fun k_ hk_=>.inr (.inr hk_)
 case aO=>exact Kd.dw HO3_0.out (fun k_ hk_=>⟨.inl hk_,fun e_=>by have:=HS.out;omega⟩)
 case aL=>have:=LM12.out;omega
 intro v_ w12_ ho hbb hg hat
 clear hat
 rw [←Ny8.out] at ho
 have hkp:Kept w11_ w12_ (fun k_=>((lo18j_≤k_∧k_<up18j_)∧f3_ k_=0)):=Kept.aZ hg (Kept.refl _ _) (fun k_ e_=>.inl ((Kd.S_R HO3_0.out).1 k_ e_))
 revert HO8_0 BK1 BK2 BK5 BK9
 refine bC hkp HS ?_
 intro HO8_0 BK1 BK2 BK5 BK9
 replace HS:=aHs HS hkp.1
 obtain⟨Ao12,co12,ev_⟩:=Kd.dx ho
 subst ev_
 have HO12:=A_.mk (Kd.dw (ok':=(fun k_=>((lo18j_≤k_∧k_<up18j_)∧f3_ k_=0)∨((w19d_.heap.size≤k_∧k_<w11_.heap.size))∨((w11_.heap.size≤k_∧k_<w12_.heap.size)))) (Kd.ik ho) (fun k_ hk_=>by have:=hk_.1;have:=hk_.2.2.1;have:=hk_.2.1;clear hk_;have:=HS.out;omega))
 replace HB:=A_.mk hbb
 clear hkp hbb hg ho HO3_0 HO11_0
 refine hK.out _ _ ⟨ak BK5.out,ak BK9.out⟩ (fun hHeld=>?_)
 clear hK K
 refine nm_ ?_
 refine pd_ (i:=7) (N:=some 36) #[T,T,T,T,T,T,T,T,F] rfl ?_
 refine gG (i:=8) (N:=none) #[T,T,T,T,T,T,T,T,T] rfl rfl (by kernel_rfl) (by decide) (fun K hK=>?_)
 have Q1:=ak BK1.out
 have Q2:=ak BK2.out
 have Q5:=ak BK5.out
 have Q9:=ak BK9.out
 have qf0:=bf_ BK5.out 1
 obtain⟨w13_,hw⟩:=lw_ ((w12_.setCell ⟨gb5_,1,none⟩ (.slice Ao12 y8.length co12)))
 refine fT (w1:=w13_) (by rfl) rfl ?_ ?_
 ·rw [hw];go_simp;try rfl
 refine hK.out _ _ ?_
 clear hK K qf0 Q1 Q2 Q5 Q9
 obtain⟨hbx,hkp,hbb⟩:=wI hw BK5 HB (ho_ HS)
 clear hw
 revert HO8_0 BK1 BK2 BK9 HO12
 refine bC hkp HS ?_
 intro HO8_0 BK1 BK2 BK9 HO12
 replace BK5:=A_.mk hbx
 replace HB:=A_.mk hbb
 replace HS:=aHs HS hkp.1
 clear hkp hbb hbx
 refine fA (by kernel_rfl) ?_
 have Q1:=ak BK1.out
 go_wp2_with (first|((with_reducible refine gc_ (f:=110) rfl ?_);refine gl_ (some 39) Tryz.func110 #[.int .i64 a0_0] ?_;(with_reducible refine (gP.calls a0_0 t9 _ A14.out).mono ?_);rintro e w14_ ⟨rfl,hb⟩;refine⟨_,rfl,?_⟩;replace hb:=Drawn0.below hb;revert BK2 HO12 BK5 HB HS;refine aD hb ?_;intro BK2 HO12 BK5 HB HS;clear hb  Q1;have Q5:=ak BK5.out)|((with_reducible refine ae (t:=3) (p:=40) rfl ?_);have qf0:=bf_ BK5.out 0;refine so_ (w1:=(w14_.setCell ⟨gb5_,0,none⟩ (.int .i64 t9))) ?_;intro w15_ hw;clear qf0;obtain⟨hbx,hkp,hbb⟩:=wB hw BK5 HB (ho_ HS);clear hw;replace HO12:=aSk HO12 hkp HS;replace BK2:=aBk BK2 hkp HS;replace BK5:=A_.mk hbx;replace HB:=A_.mk hbb;replace HS:=aHs HS hkp.1;clear hkp hbb hbx Q5;have Q2:=ak BK2.out;have Q5:=ak BK5.out)|((with_reducible refine ae (t:=37) (p:=4) rfl ?_);obtain⟨qf0,qf1⟩:=dO BK2;refine so_ (w1:=(jv w15_ gb2_ (.int .i64 t9) (.slice Ao12 y8.length co12))) ?_;intro w16_ hw;clear qf0 qf1;obtain⟨hbx,hkp,hbb⟩:=jA hw BK2 HB (ho_ HS);clear hw;replace HO12:=aSk HO12 hkp HS;replace BK2:=A_.mk hbx;replace HB:=A_.mk hbb;replace HS:=aHs HS hkp.1;clear hkp hbb hbx Q2 Q5))
 refine bodyPost_ret (aM rfl _ _ gb2_ 37 _ (0,0) _ rfl BK2.out Tryz.underlying37 rfl (by kernel_rfl)) rfl ?_
 obtain⟨f_,hf_⟩:=mS_ HO12 0 (m0_ 0)
 exact⟨f_,_,rfl,cS_ HO12 HS hf_,HB.out⟩
def jq.f(k:Nat)(a0_0:Int)(l0_1:List (List Int)):Option (Int):=(bL.f k a0_0 l0_1).bind fun t400=>(if t400=true then (some (Int.tmod (wrap64 ((wrap64 (a0_0+16))-1)) 16)) else (some (-1)))
theorem jq.calls(k:Nat)(a0_0:Int)(A0_1:Option Addr)(c0_1:Nat)(l0_1:List (List Int))(r:Int)(w:World)(hr0_1:Kd.C (Kd.slice 3 (Kd.int .i64)) w A0_1 l0_1.length l0_1)(hc0_1:l0_1.length≤c0_1)(h:jq.f k a0_0 l0_1=some r) :
  Calls Tryz.prog 95 #[.agg #[.int .i64 a0_0,.slice A0_1 l0_1.length c0_1]] w fun e w'=>e=.returned (.int .i64 r)∧Below w.heap.size w w':=by
 have hu37:=Tryz.underlying37
 have HR0_1:=A_.mk hr0_1
 have HC0_1:=A_.mk hc0_1
 clear hr0_1 hc0_1
 have HB:=A_.mk (Below.refl w.heap.size w)
 have H:((bL.f k a0_0 l0_1).bind fun t400=>(if t400=true then (some (Int.tmod (wrap64 ((wrap64 (a0_0+16))-1)) 16)) else (some (-1))))=some r:=h
 clear h
 replace H:=oa_ H
 obtain⟨t400,A2,H⟩:=H
 by_cases c3:t400=true
 rotate_left
 ·replace c3:=Bool.eq_false_iff.mpr c3
  subst c3
  have H1:(some (-1))=some r:=by rw [if_neg (show ¬ (false=true) by decide)] at H;exact H
  clear H
  have H:=H1
  clear H1
  obtain rfl:=Option.some.inj H
  go_enter Tryz.func95,Tryz.ntmps95
  go_wp2_with (first|((with_reducible refine gd_ (N:=1) rfl ?_);refine by_ 1 (cs:=#[.int .i64 a0_0,.slice A0_1 l0_1.length c0_1]) (t:=37) ?_;intro gb399 hg w8 hbox hb;have n0_:=A_.mk (bt_ (beY HB.out) hb);have n1_:=A_.mk (hbox);have n2_:=A_.mk ((by rw [hg];exact(bz_ (beY HB.out)):w.heap.size≤gb399));have n3_:=A_.mk ((by rw [hg];exact(bz_ (beY HB.out)):w.heap.size≤gb399));clear HB;have HB:=n0_;have BK399:=n1_;have GW399:=n2_;have GE399:=n3_;clear n0_ n1_ n2_ n3_ hb hbox hg;obtain⟨hcz9_0,hcz9_1⟩:=gq BK399;obtain⟨hfz9_0,hfz9_1⟩:=dO BK399)|((with_reducible refine gc_ (f:=78) rfl ?_);refine gl_ (some 4) Tryz.func78 #[.agg #[.int .i64 a0_0,.slice A0_1 l0_1.length c0_1]] ?_;(with_reducible refine (bL.calls k a0_0 _ _ l0_1 false _ ?side1 ?side2 A2.out).mono ?_);(case side1=>exact cY ((cb_ HR0_1 HB)));(case side2=>exact HC0_1.out);rintro e w10 ⟨rfl,hb⟩;refine⟨_,rfl,?_⟩;have n0_:=A_.mk (bb_ (bY BK399.out) hb);have n1_:=A_.mk (bt_ ((zA_ HB GE399)) hb);clear BK399 HB;have BK399:=n0_;have HB:=n1_;clear n0_ n1_;(try clear hb);(try clear hb2);(try clear hk);(try clear hi)))
  go_ret
  exact⟨re_,(zA_ HB GE399)⟩
 subst c3
 have H1:(some (Int.tmod (wrap64 ((wrap64 (a0_0+16))-1)) 16))=some r:=by rw [if_pos rfl] at H;exact H
 clear H
 have H:=H1
 clear H1
 obtain rfl:=Option.some.inj H
 go_enter Tryz.func95,Tryz.ntmps95
 go_wp2_with (first|((with_reducible refine gd_ (N:=1) rfl ?_);refine by_ 1 (cs:=#[.int .i64 a0_0,.slice A0_1 l0_1.length c0_1]) (t:=37) ?_;intro gb399 hg w4 hbox hb;have n0_:=A_.mk (bt_ (beY HB.out) hb);have n1_:=A_.mk (hbox);have n2_:=A_.mk ((by rw [hg];exact(bz_ (beY HB.out)):w.heap.size≤gb399));have n3_:=A_.mk ((by rw [hg];exact(bz_ (beY HB.out)):w.heap.size≤gb399));clear HB;have HB:=n0_;have BK399:=n1_;have GW399:=n2_;have GE399:=n3_;clear n0_ n1_ n2_ n3_ hb hbox hg;obtain⟨hcz5_0,hcz5_1⟩:=gq BK399;obtain⟨hfz5_0,hfz5_1⟩:=dO BK399)|((with_reducible refine gc_ (f:=78) rfl ?_);refine gl_ (some 4) Tryz.func78 #[.agg #[.int .i64 a0_0,.slice A0_1 l0_1.length c0_1]] ?_;(with_reducible refine (bL.calls k a0_0 _ _ l0_1 true _ ?side1 ?side2 A2.out).mono ?_);(case side1=>exact cY ((cb_ HR0_1 HB)));(case side2=>exact HC0_1.out);rintro e w6 ⟨rfl,hb⟩;refine⟨_,rfl,?_⟩;have n0_:=A_.mk (bb_ (bY BK399.out) hb);have n1_:=A_.mk (bt_ ((zA_ HB GE399)) hb);clear BK399 HB;have BK399:=n0_;have HB:=n1_;clear n0_ n1_;(try clear hb);(try clear hb2);(try clear hk);(try clear hi);obtain⟨hcz7_0,hcz7_1⟩:=gq BK399;obtain⟨hfz7_0,hfz7_1⟩:=dO BK399))
 go_ret
 exact⟨re_,(zA_ HB GE399)⟩
def ed.f(k:Nat)(a0_0:Int)(l0_1:List (S68))(a0_2:Int)(a0_3:Int)(l0_4:List (List Int))(l0_5:List (List Int))(l0_6:List Int):Option ((Bool)×(Int)×(List (S68))×(Int)×(Int)×(List (List Int))×(List (List Int))×(List Int)):=(if (l0_5.length:Int)=0 then (some (false,a0_0,l0_1,a0_2,a0_3,l0_4,l0_5,l0_6)) else (if 0≤(0:Int) then (if (0:Int)<(l0_5.length:Int) then ((eY.f k a0_3 l0_4 (fG l0_5 (0:Int))).bind fun ⟨t1,t2,t3⟩=>(if 0≤(0:Int) then (if (0:Int)<(l0_5.length:Int) then (if (l0_6.length:Int)<8 then ((jq.f k t1 t2).bind fun t5=>(if t3=2 then (if (l0_6.length+1)*8≤140737488355328 then (some (true,a0_0,l0_1,a0_2,t1,t2,(l0_5.eraseIdx ((0:Int)).toNat),(l0_6++[(wrap64 (t5+100))]))) else none) else (if t3=3 then (if (l0_6.length+1)*8≤140737488355328 then (some (true,a0_0,l0_1,a0_2,t1,t2,(l0_5.eraseIdx ((0:Int)).toNat),(l0_6++[(wrap64 (t5+100))]))) else none) else (if (l0_6.length+1)*8≤140737488355328 then (some (true,a0_0,l0_1,a0_2,t1,t2,(l0_5.eraseIdx ((0:Int)).toNat),(l0_6++[t5]))) else none)))) else (some (true,a0_0,l0_1,a0_2,t1,t2,(l0_5.eraseIdx ((0:Int)).toNat),l0_6))) else none) else none)) else none) else none))
theorem ed.calls(k:Nat)(gb_:Nat)(f0_:Nat→Nat)(a0_0:Int)(A0_1:Option Addr)(c0_1:Nat)(l0_1:List (S68))(a0_2:Int)(a0_3:Int)(A0_4:Option Addr)(c0_4:Nat)(l0_4:List (List Int))(A0_5:Option Addr)(c0_5:Nat)(l0_5:List (List Int))(A0_6:Option Addr)(c0_6:Nat)(l0_6:List Int)(r1:Bool)(r2:Int)(r3:List (S68))(r4:Int)(r5:Int)(r6:List (List Int))(r7:List (List Int))(r8:List Int)(w w1:World)(hB:Below w.heap.size w w1)(hg:w.heap.size≤gb_)(hbx:w1.heap[gb_]?=some (.cells #[.int .i64 a0_0,.slice A0_1 l0_1.length c0_1,.int .i64 a0_2,.int .i64 a0_3,.slice A0_4 l0_4.length c0_4,.slice A0_5 l0_5.length c0_5,.slice A0_6 l0_6.length c0_6] 39 (0,0)))(hp0_1:Kd.S k68 68 w1 w.heap.size (fun k_=>(w.heap.size≤k_∧k_<w1.heap.size)∧k_≠gb_∧f0_ k_=0) (.slice A0_1 l0_1.length c0_1) l0_1)(hp0_4:Kd.S (Kd.slice 3 (Kd.int .i64)) 28 w1 w.heap.size (fun k_=>(w.heap.size≤k_∧k_<w1.heap.size)∧k_≠gb_∧f0_ k_=1) (.slice A0_4 l0_4.length c0_4) l0_4)(hp0_5:Kd.S (Kd.slice 3 (Kd.int .i64)) 28 w1 w.heap.size (fun k_=>(w.heap.size≤k_∧k_<w1.heap.size)∧k_≠gb_∧f0_ k_=2) (.slice A0_5 l0_5.length c0_5) l0_5)(hp0_6:Kd.R (Kd.int .i64) 3 w1 w.heap.size (fun k_=>(w.heap.size≤k_∧k_<w1.heap.size)∧k_≠gb_∧f0_ k_=3) (.slice A0_6 l0_6.length c0_6) l0_6)(h:ed.f k a0_0 l0_1 a0_2 a0_3 l0_4 l0_5 l0_6=some (r1,r2,r3,r4,r5,r6,r7,r8)) :
  Calls Tryz.prog 56 #[.pointer (some ⟨gb_,0,none⟩)] w1 fun e w'=>∃ f_:Nat→Nat,∃ v0_ v1_ v2_ v3_:Value,e=.returned (.bool r1)∧w'.heap[gb_]?=some (.cells #[.int .i64 r2,v0_,.int .i64 r4,.int .i64 r5,v1_,v2_,v3_] 39 (0,0))∧Kd.S k68 68 w' w.heap.size (fun k_=>(w.heap.size≤k_∧k_<w'.heap.size)∧k_≠gb_∧f_ k_=0) v0_ r3∧Kd.S (Kd.slice 3 (Kd.int .i64)) 28 w' w.heap.size (fun k_=>(w.heap.size≤k_∧k_<w'.heap.size)∧k_≠gb_∧f_ k_=1) v1_ r6∧Kd.S (Kd.slice 3 (Kd.int .i64)) 28 w' w.heap.size (fun k_=>(w.heap.size≤k_∧k_<w'.heap.size)∧k_≠gb_∧f_ k_=2) v2_ r7∧Kd.R (Kd.int .i64) 3 w' w.heap.size (fun k_=>(w.heap.size≤k_∧k_<w'.heap.size)∧k_≠gb_∧f_ k_=3) v3_ r8∧(∀ k_,k_<w1.heap.size→f_ k_<4→k_=gb_∨f0_ k_<4)∧Below w.heap.size w w'∧Kept w1 w' (fun k_=>k_=gb_∨((w.heap.size≤k_∧k_<w1.heap.size)∧k_≠gb_∧f0_ k_<4)):=by
 obtain⟨gb1_,rfl⟩:∃ q_,q_=gb_:=⟨_,rfl⟩
 have HO0_1:=A_.mk hp0_1
 clear hp0_1
 have HO0_4:=A_.mk hp0_4
 clear hp0_4
 have HO0_5:=A_.mk hp0_5
 clear hp0_5
 have HO0_6:=A_.mk hp0_6
 clear hp0_6
 have BK1:=A_.mk hbx
 have HS:=A_.mk (And.intro hB.size (And.intro hg (aI hbx)))
 have HK:=A_.mk (Kept.refl w1 (fun k_=>k_=gb1_∨((w.heap.size≤k_∧k_<w1.heap.size)∧k_≠gb1_∧f0_ k_<4)))
 clear hbx hg
 have HB:=A_.mk hB
 clear hB
 unfold ed.f at h
 have H:=h
 clear h
 by_cases hc1_:(l0_5.length:Int)=0
 case pos =>
  rw [if_pos hc1_] at H
  have hc1_b1:(l0_5.length==0)=true:=by first|simpa using hc1_|(simp at hc1_ ⊢;omega)
  replace hc1_:=iF hc1_
  replace H:=il H
  obtain⟨rfl,rfl,rfl,rfl,rfl,rfl,rfl,rfl⟩:=H
  have hu37:=Tryz.underlying37
  have hu39:=Tryz.underlying39
  go_enter Tryz.func56,Tryz.ntmps56
  have Q1:=aa BK1.out
  go_wp2
  go_ret
  obtain⟨f_,hf_⟩:=mS_ HO0_1 0 (mS_ HO0_4 1 (mS_ HO0_5 2 (mR_ HO0_6 3 (m0_ 4))))
  have hfk_:∀ k_,k_<w1.heap.size→f_ k_<4→k_=gb1_∨f0_ k_<4:=fun k_ h1_ h2_=>by have:=HS.out;rw [hf_] at h2_;repeat' (first|omega|split at h2_)
  first|exact ⟨f_,_,_,_,_,rfl,BK1.out,cS_ HO0_1 HS hf_,cS_ HO0_4 HS hf_,cS_ HO0_5 HS hf_,cR_ HO0_6 HS hf_,hfk_,HB.out,HK.out⟩|exact ⟨rfl,f_,_,_,_,_,BK1.out,cS_ HO0_1 HS hf_,cS_ HO0_4 HS hf_,cS_ HO0_5 HS hf_,cR_ HO0_6 HS hf_,hfk_,HB.out,HK.out⟩
 rw [if_neg hc1_] at H
 have hc1_b:=iE hc1_
 have hc1_b1:(l0_5.length==0)=false:=by first|simpa using hc1_|(simp at hc1_ ⊢;omega)
 replace H:=ky H
 obtain⟨hp2_,hq2_,H⟩:=H
 have EB2:=A_.mk (And.intro hp2_ hq2_)
 have hn2_:(0<l0_5.length)=True:=eq_true (by omega)
 replace hp2_:=eq_true hp2_
 replace hq2_:=eq_true hq2_
 replace H:=oa_ H
 obtain⟨⟨t1,t2,t3⟩,A3,H⟩:=H
 try dsimp only at H
 replace H:=ky H
 obtain⟨hp6_,hq6_,H⟩:=H
 have EB6:=A_.mk (And.intro hp6_ hq6_)
 clear hp6_ hq6_
 obtain⟨y4,Ny4⟩:=le_ ((l0_5.eraseIdx ((0:Int)).toNat))
 rw [←Ny4.out] at H
 replace H:=A_.mk H
 have hu37:=Tryz.underlying37
 have hu39:=Tryz.underlying39
 go_enter Tryz.func56,Tryz.ntmps56
 have Q1:=aa BK1.out
 go_wp2_with (fail)
 obtain⟨gHO0_5_,ed_⟩:=mI HO0_5.out (by have:=EB2.out;omega)
 subst ed_
 obtain⟨A2_0,c2_0,hx_,hl_,hi_⟩:=oh HO0_5.out EB2.out
 have HX2:=A_.mk (show w1.cell? ⟨gHO0_5_,0,none⟩=some (.slice A2_0 (fG l0_5 (0:Int)).length c2_0) from hx_)
 have HD2:=A_.mk hl_
 have HE2:=A_.mk hi_
 clear hx_ hl_ hi_
 refine dN (n:=17) (S:=fun w'=>(w'.cell? ⟨gb1_,0,none⟩=some (.int .i64 a0_0)∧w'.cell? ⟨gb1_,1,none⟩=some (.slice A0_1 l0_1.length c0_1)∧w'.cell? ⟨gb1_,2,none⟩=some (.int .i64 a0_2)∧w'.cell? ⟨gb1_,3,none⟩=some (.int .i64 a0_3)∧w'.cell? ⟨gb1_,4,none⟩=some (.slice A0_4 l0_4.length c0_4)∧w'.cell? ⟨gb1_,5,none⟩=some (.slice (some ⟨gHO0_5_,0,none⟩) l0_5.length c0_5)∧w'.cell? ⟨gb1_,6,none⟩=some (.slice A0_6 l0_6.length c0_6))∧(w'.cell? ⟨gHO0_5_,0,none⟩=some (.slice A2_0 (fG l0_5 (0:Int)).length c2_0))) (ds:=[15]) #[F,F,F,F,F,F,F,F,F,F,F,F,F,F,F,F,F] (by kernel_rfl) rfl rfl ⟨aa BK1.out,HX2.out⟩ (fun hHeld=>?_)
 clear Q1
 have hb:=aV (Below.refl w1.heap.size w1)
 replace HS:=aHs HS hb.size
 replace HO0_1:=aSb HO0_1 hb
 replace HO0_4:=aSb HO0_4 hb
 replace HO0_5:=aSb HO0_5 hb
 replace HO0_6:=aRb HO0_6 hb
 replace BK1:=aBb BK1 hb
 replace HE2:=A_.mk (Kd.cu HE2.out hb)
 replace HX2:=A_.mk ((hb.cell (wl_ _ _ HX2.out)).trans HX2.out)
 replace HK:=aKb HK hb
 replace HB:=aHB HB hb
 clear hb
 generalize w1.drew=w16d_ at HO0_1 HO0_4 HO0_5 HO0_6 HE2 HX2 HK BK1 HB HS hHeld ⊢
 refine pd_ (i:=0) (N:=some 13) #[T,F,F,F,F,F,F,F,F,F,F,F,F,F,F,F,F] rfl ?_
 refine pd_ (i:=1) (N:=some 14) #[T,T,F,F,F,F,F,F,F,F,F,F,F,F,F,F,F] rfl ?_
 refine pd_ (i:=2) (N:=some 15) #[T,T,T,F,F,F,F,F,F,F,F,F,F,F,F,F,F] rfl ?_
 refine tl_ (i:=3) (N:=some 16) #[T,T,T,T,F,F,F,F,F,F,F,F,F,F,F,F,F] rfl hHeld ?_
 refine pd_ (i:=4) (N:=some 17) #[T,T,T,T,T,F,F,F,F,F,F,F,F,F,F,F,F] rfl ?_
 refine pd_ (i:=5) (N:=some 18) #[T,T,T,T,T,T,F,F,F,F,F,F,F,F,F,F,F] rfl ?_
 refine pd_ (i:=6) (N:=some 19) #[T,T,T,T,T,T,T,F,F,F,F,F,F,F,F,F,F] rfl ?_
 refine tl_ (i:=7) (N:=some 20) #[T,T,T,T,T,T,T,T,F,F,F,F,F,F,F,F,F] rfl hHeld ?_
 refine pd_ (i:=8) (N:=some 21) #[T,T,T,T,T,T,T,T,T,F,F,F,F,F,F,F,F] rfl ?_
 refine tl_ (i:=9) (N:=some 22) #[T,T,T,T,T,T,T,T,T,T,F,F,F,F,F,F,F] rfl hHeld ?_
 refine mR (σ:=Value×Nat×Nat×Nat×(Nat→Nat)) 2 #[T,T,T,T,T,T,T,T,T,T,T,T,T,T,T,F,F] (fun s_=>[(23,.tuple #[.agg #[.int .i64 t1,s_.1],.int .i64 t3]),(12,.tuple #[.agg #[.int .i64 t1,s_.1],.int .i64 t3]),(24,.agg #[.int .i64 t1,s_.1]),(25,.int .i64 t3),(3,.pointer (some ⟨s_.2.1,0,none⟩))]) (fun s_ w'=>((w'.cell? ⟨gb1_,0,none⟩=some (.int .i64 a0_0)∧w'.cell? ⟨gb1_,1,none⟩=some (.slice A0_1 l0_1.length c0_1)∧w'.cell? ⟨gb1_,2,none⟩=some (.int .i64 a0_2)∧w'.cell? ⟨gb1_,3,none⟩=some (.int .i64 a0_3)∧w'.cell? ⟨gb1_,4,none⟩=some (.slice A0_4 l0_4.length c0_4)∧w'.cell? ⟨gb1_,5,none⟩=some (.slice (some ⟨gHO0_5_,0,none⟩) l0_5.length c0_5)∧w'.cell? ⟨gb1_,6,none⟩=some (.slice A0_6 l0_6.length c0_6))∧(w'.cell? ⟨gHO0_5_,0,none⟩=some (.slice A2_0 (fG l0_5 (0:Int)).length c2_0)))∧Kd.S k68 68 w' w.heap.size (fun k_=>((w.heap.size≤k_∧k_<w1.heap.size)∧k_≠gb1_∧f0_ k_=0)) (.slice A0_1 l0_1.length c0_1) l0_1∧Kd.S (Kd.slice 3 (Kd.int .i64)) 28 w' w.heap.size (fun k_=>((w.heap.size≤k_∧k_<w1.heap.size)∧k_≠gb1_∧f0_ k_=2)) (.slice (some ⟨gHO0_5_,0,none⟩) l0_5.length c0_5) l0_5∧Kd.R (Kd.int .i64) 3 w' w.heap.size (fun k_=>((w.heap.size≤k_∧k_<w1.heap.size)∧k_≠gb1_∧f0_ k_=3)) (.slice A0_6 l0_6.length c0_6) l0_6∧w'.heap[gb1_]?=some (.cells #[.int .i64 a0_0,.slice A0_1 l0_1.length c0_1,.int .i64 a0_2,.int .i64 a0_3,.slice A0_4 l0_4.length c0_4,.slice (some ⟨gHO0_5_,0,none⟩) l0_5.length c0_5,.slice A0_6 l0_6.length c0_6] 39 (0,0))∧Kept w1 w' (fun k_=>k_=gb1_∨((w.heap.size≤k_∧k_<w1.heap.size)∧k_≠gb1_∧f0_ k_<4))∧Below w.heap.size w w'∧w16d_.heap.size≤w'.heap.size∧(w16d_.heap.size≤s_.2.2.1∧s_.2.2.1≤s_.2.2.2.1∧s_.2.2.2.1≤w'.heap.size)∧Kd.S (Kd.slice 3 (Kd.int .i64)) 28 w' w.heap.size (fun k_=>(s_.2.2.1≤k_∧k_<s_.2.2.2.1)∧s_.2.2.2.2 k_=0) s_.1 t2∧w'.heap[s_.2.1]?=some (.cells #[.int .i64 0,.slice none 0 0] 37 (0,0))∧(w16d_.heap.size≤s_.2.1∧s_.2.1<w'.heap.size∧(s_.2.1<s_.2.2.1∨s_.2.2.2.1≤s_.2.1))) ?_ ?_
 rotate_left
 ·intro hCont
  refine jU (i:=10) (j:=14) (Ni:=some 23) (Nj:=some 3) #[T,T,T,T,T,T,T,T,T,T,T,F,F,F,F,F,F] #[T,T,T,T,T,T,T,T,T,T,F,F,F,F,T,F,F] rfl rfl rfl rfl (by kernel_rfl) (by decide) (by decide) (fun K hK=>?_) (fun K hK=>?_)
  ·skip
   refine gz_ Tryz.func94 #[.agg #[.int .i64 a0_3,.slice A0_4 l0_4.length c0_4],.slice A2_0 (fG l0_5 (0:Int)).length c2_0] ?_
   with_reducible refine (eY.calls k a0_3 _ _ l0_4 _ _ (fG l0_5 (0:Int)) t1 t2 t3 _ (dV HO0_4) (dS HO0_4) HE2.out HD2.out A3.out).mono ?_
   rintro e w3_ ⟨f3_,v0_,rfl,ho0_,hb⟩
   refine⟨_,rfl,?_⟩
   replace HS:=aHs HS hb.size
   obtain⟨Ao3_0,co3_0,rfl,HO3_0⟩:=sSn ho0_ HB.out.size
   revert HO0_1 HO0_4 HO0_5 HO0_6 BK1
   refine aD hb ?_
   intro HO0_1 HO0_4 HO0_5 HO0_6 BK1
   replace HE2:=A_.mk (Kd.cu HE2.out hb)
   replace HX2:=A_.mk ((hb.cell (wl_ _ _ HX2.out)).trans HX2.out)
   replace HK:=aKb HK hb
   replace HB:=aHB HB hb
   clear hb ho0_
   refine hK.out _ _ ⟨aa BK1.out,HX2.out⟩ (fun hHeld=>?_)
   clear hK K
   refine nm_ ?_
   refine pd_ (i:=11) (N:=some 12) #[T,T,T,T,T,T,T,T,T,T,T,T,F,F,F,F,F] rfl ?_
   refine pd_ (i:=12) (N:=some 24) #[T,T,T,T,T,T,T,T,T,T,T,T,T,F,F,F,F] rfl ?_
   refine pd_ (i:=13) (N:=some 25) #[T,T,T,T,T,T,T,T,T,T,T,T,T,T,F,F,F] rfl ?_
   refine on_ (i:=14) (N:=some 3) #[T,T,T,T,T,T,T,T,T,T,T,T,T,T,T,F,F] rfl (fun K hK=>?_)
   refine bo_ (N:=3) (cs:=#[.int .i64 0,.slice none 0 0]) (t:=37) ?_
   intro gb4_ hg w4_ hbox hb
   replace HS:=aHg HS hg hbox
   revert HO3_0 HO0_1 HO0_4 HO0_5 HO0_6 BK1
   refine aD hb ?_
   intro HO3_0 HO0_1 HO0_4 HO0_5 HO0_6 BK1
   replace HE2:=A_.mk (Kd.cu HE2.out hb)
   replace HX2:=A_.mk ((hb.cell (wl_ _ _ HX2.out)).trans HX2.out)
   replace HK:=aKb HK hb
   replace HB:=aHB HB hb
   have BK4:=A_.mk hbox
   clear hbox hb hg
   refine hK.out _ _ ⟨aa BK1.out,HX2.out⟩ (fun hHeld=>?_)
   clear hK K
   refine nm_ ?_
   exact nj_ (hCont (.slice Ao3_0 t2.length co3_0,gb4_,(w16d_.heap.size),(w3_.heap.size),f3_) _ ⟨hHeld,HO0_1.out,HO0_5.out,HO0_6.out,BK1.out,HK.out,HB.out,(ho_ HS),(by have:=HS.out;(try dsimp only);omega),HO3_0.out,BK4.out,(by have:=HS.out;(try dsimp only);omega)⟩)
  ·skip
   refine bo_ (N:=3) (cs:=#[.int .i64 0,.slice none 0 0]) (t:=37) ?_
   intro gb4_ hg w4_ hbox hb
   replace HS:=aHg HS hg hbox
   revert HO0_1 HO0_4 HO0_5 HO0_6 BK1
   refine aD hb ?_
   intro HO0_1 HO0_4 HO0_5 HO0_6 BK1
   replace HE2:=A_.mk (Kd.cu HE2.out hb)
   replace HX2:=A_.mk ((hb.cell (wl_ _ _ HX2.out)).trans HX2.out)
   replace HK:=aKb HK hb
   replace HB:=aHB HB hb
   have BK4:=A_.mk hbox
   clear hbox hb hg
   refine hK.out _ _ ⟨aa BK1.out,HX2.out⟩ (fun hHeld=>?_)
   clear hK K
   refine nm_ ?_
   refine on_ (i:=10) (N:=some 23) #[T,T,T,T,T,T,T,T,T,T,T,F,F,F,T,F,F] rfl (fun K hK=>?_)
   refine gz_ Tryz.func94 #[.agg #[.int .i64 a0_3,.slice A0_4 l0_4.length c0_4],.slice A2_0 (fG l0_5 (0:Int)).length c2_0] ?_
   with_reducible refine (eY.calls k a0_3 _ _ l0_4 _ _ (fG l0_5 (0:Int)) t1 t2 t3 _ (dV HO0_4) (dS HO0_4) HE2.out HD2.out A3.out).mono ?_
   rintro e w3_ ⟨f3_,v0_,rfl,ho0_,hb⟩
   refine⟨_,rfl,?_⟩
   replace HS:=aHs HS hb.size
   obtain⟨Ao3_0,co3_0,rfl,HO3_0⟩:=sSn ho0_ HB.out.size
   revert HO0_1 HO0_4 HO0_5 HO0_6 BK1 BK4
   refine aD hb ?_
   intro HO0_1 HO0_4 HO0_5 HO0_6 BK1 BK4
   replace HE2:=A_.mk (Kd.cu HE2.out hb)
   replace HX2:=A_.mk ((hb.cell (wl_ _ _ HX2.out)).trans HX2.out)
   replace HK:=aKb HK hb
   replace HB:=aHB HB hb
   clear hb ho0_
   refine hK.out _ _ ⟨aa BK1.out,HX2.out⟩ (fun hHeld=>?_)
   clear hK K
   refine nm_ ?_
   refine pd_ (i:=11) (N:=some 12) #[T,T,T,T,T,T,T,T,T,T,T,T,F,F,T,F,F] rfl ?_
   refine pd_ (i:=12) (N:=some 24) #[T,T,T,T,T,T,T,T,T,T,T,T,T,F,T,F,F] rfl ?_
   refine pd_ (i:=13) (N:=some 25) #[T,T,T,T,T,T,T,T,T,T,T,T,T,T,T,F,F] rfl ?_
   exact nj_ (hCont (.slice Ao3_0 t2.length co3_0,gb4_,(w4_.heap.size),(w3_.heap.size),f3_) _ ⟨hHeld,HO0_1.out,HO0_5.out,HO0_6.out,BK1.out,HK.out,HB.out,(ho_ HS),(by have:=HS.out;(try dsimp only);omega),HO3_0.out,BK4.out,(by have:=HS.out;(try dsimp only);omega)⟩)
 rintro⟨z0_,gb4_,lo16j_,up16j_,f3_⟩ w16j_ ⟨hHeld,m0_,m1_,m2_,m3_,m4_,m5_,m6_,m7_,m8_,m9_,m10_⟩
 replace HO0_1:=A_.mk m0_
 replace HO0_5:=A_.mk m1_
 replace HO0_6:=A_.mk m2_
 replace BK1:=A_.mk m3_
 replace HK:=A_.mk m4_
 replace HB:=A_.mk m5_
 replace HS:=A_.mk (And.intro HS.out m6_)
 replace HS:=A_.mk (And.intro HS.out (show w16d_.heap.size≤lo16j_∧lo16j_≤up16j_∧up16j_≤w16j_.heap.size from m7_))
 obtain⟨Ao3_0,co3_0,ev_⟩:=Kd.dx m8_
 replace ev_:z0_=_:=ev_
 subst ev_
 have HO3_0:=A_.mk (show Kd.S (Kd.slice 3 (Kd.int .i64)) 28 w16j_ w.heap.size (fun k_=>((lo16j_≤k_∧k_<up16j_)∧f3_ k_=0)) (.slice Ao3_0 t2.length co3_0) t2 from m8_)
 have BK4:=A_.mk (show w16j_.heap[gb4_]?=some (.cells #[.int .i64 0,.slice none 0 0] 37 (0,0)) from m9_)
 replace HS:=A_.mk (And.intro HS.out (show w16d_.heap.size≤gb4_∧gb4_<w16j_.heap.size∧(gb4_<lo16j_∨up16j_≤gb4_) from m10_))
 clear m0_ m1_ m2_ m3_ m4_ m5_ m6_ m7_ m8_ m9_ m10_
 refine lD (a':=?_) ?_ ?_
 rotate_left
 ·simp only [putAll,Act.put,List.setIfInBounds_toArray,List.set_cons_zero,List.set_cons_succ]
  rfl
 refine gG (i:=15) (N:=none) #[T,T,T,T,T,T,T,T,T,T,T,T,T,T,T,T,F] rfl rfl (by kernel_rfl) (by decide) (fun K hK=>?_)
 have Q1:=aa BK1.out
 have Q4:=ak BK4.out
 obtain⟨qf0,qf1⟩:=dO BK4
 obtain⟨w5_,hw⟩:=lw_ ((jv w16j_ gb4_ (.int .i64 t1) (.slice Ao3_0 t2.length co3_0)))
 refine fT (w1:=w5_) (by rfl) rfl ?_ ?_
 ·rw [hw];go_simp;try rfl
 refine hK.out _ _ ?_
 clear hK K qf0 qf1 Q1 Q4
 obtain⟨hbx,hkp,hbb⟩:=jA hw BK4 HB (ho_ HS)
 clear hw
 replace HK:=kt_ HK hkp HS
 revert HO0_1 HO0_5 HO0_6 BK1 HO3_0
 refine bC hkp HS ?_
 intro HO0_1 HO0_5 HO0_6 BK1 HO3_0
 replace BK4:=A_.mk hbx
 replace HB:=A_.mk hbb
 replace HS:=aHs HS hkp.1
 clear hkp hbb hbx
 refine pd_ (i:=16) (N:=some 4) #[T,T,T,T,T,T,T,T,T,T,T,T,T,T,T,T,T] rfl ?_
 refine fA (by kernel_rfl) ?_
 go_wp2_with (fail)
 refine dN (n:=14) (S:=fun w'=>(w'.cell? ⟨gb1_,0,none⟩=some (.int .i64 a0_0)∧w'.cell? ⟨gb1_,1,none⟩=some (.slice A0_1 l0_1.length c0_1)∧w'.cell? ⟨gb1_,2,none⟩=some (.int .i64 a0_2)∧w'.cell? ⟨gb1_,3,none⟩=some (.int .i64 a0_3)∧w'.cell? ⟨gb1_,4,none⟩=some (.slice A0_4 l0_4.length c0_4)∧w'.cell? ⟨gb1_,5,none⟩=some (.slice (some ⟨gHO0_5_,0,none⟩) l0_5.length c0_5)∧w'.cell? ⟨gb1_,6,none⟩=some (.slice A0_6 l0_6.length c0_6))∧(w'.cell? ⟨gb4_,0,none⟩=some (.int .i64 t1)∧w'.cell? ⟨gb4_,1,none⟩=some (.slice Ao3_0 t2.length co3_0))) (ds:=[10,13]) #[F,F,F,F,F,F,F,F,F,F,F,F,F,F] (by kernel_rfl) rfl rfl ⟨aa BK1.out,ak BK4.out⟩ (fun hHeld=>?_)
 have hb:=aV (Below.refl w5_.heap.size w5_)
 revert HK HO0_1 HO0_5 HO0_6 BK1 HO3_0 BK4 HB HS
 refine aD hb ?_
 intro HK HO0_1 HO0_5 HO0_6 BK1 HO3_0 BK4 HB HS
 clear hb
 generalize w5_.drew=w17d_ at HO0_1 HO0_5 HO0_6 HO3_0 HK BK1 BK4 HB HS hHeld ⊢
 refine pd_ (i:=0) (N:=some 26) #[T,F,F,F,F,F,F,F,F,F,F,F,F,F] rfl ?_
 refine pd_ (i:=1) (N:=some 27) #[T,T,F,F,F,F,F,F,F,F,F,F,F,F] rfl ?_
 refine tl_ (i:=2) (N:=some 28) #[T,T,T,F,F,F,F,F,F,F,F,F,F,F] rfl hHeld ?_
 refine pd_ (i:=3) (N:=some 29) #[T,T,T,T,F,F,F,F,F,F,F,F,F,F] rfl ?_
 refine pd_ (i:=4) (N:=some 30) #[T,T,T,T,T,F,F,F,F,F,F,F,F,F] rfl ?_
 refine pd_ (i:=5) (N:=some 31) #[T,T,T,T,T,T,F,F,F,F,F,F,F,F] rfl ?_
 refine tl_ (i:=6) (N:=some 32) #[T,T,T,T,T,T,T,F,F,F,F,F,F,F] rfl hHeld ?_
 refine on_ (i:=7) (N:=some 33) #[T,T,T,T,T,T,T,T,F,F,F,F,F,F] rfl (fun K hK=>?_)
 have gd6_:=0
 refine gz_ Tryz.func86 #[.slice (some ⟨gHO0_5_,0,none⟩) l0_5.length c0_5,.int .i64 (0:Int),.int .i64 1] ?_
 refine(kv (by rw [show wrap64 ((0:Int)+1)=1 from (by unfold wrap64;omega)]) (jK.calls (fun k_=>((w.heap.size≤k_∧k_<w1.heap.size)∧k_≠gb1_∧f0_ k_=2)) _ _ _ l0_5 (0:Int) w _ HB.out HO0_5.out EB6.out.1 EB6.out.2)).mono ?_
 rintro e w6_ ⟨he_,ho,hb2,hkp⟩
 rw [←Ny4.out] at ho
 have hl_:=(Kd.eF ho).1
 rw [hl_] at he_ ho
 subst he_
 clear hl_
 refine⟨_,rfl,?_⟩
 replace hkp:=Kept.mono (S':=fun k_=>((w.heap.size≤k_∧k_<w1.heap.size)∧k_≠gb1_∧f0_ k_=2)) hkp (fun k_ e_=>by subst e_;exact(Kd.S_R HO0_5.out).1 _ rfl)
 replace HK:=kt_ HK hkp HS
 replace HO0_1:=aSk HO0_1 hkp HS
 replace HO0_6:=aRk HO0_6 hkp HS
 replace HO3_0:=aSk HO3_0 hkp HS
 replace BK1:=aBk BK1 hkp HS
 replace BK4:=aBk BK4 hkp HS
 replace HS:=aHs HS hkp.1
 have HO6:=A_.mk ho
 replace HB:=A_.mk hb2
 clear hkp hb2 ho HO0_5
 refine hK.out _ _ ⟨aa BK1.out,ak BK4.out⟩ (fun hHeld=>?_)
 clear hK K
 refine nm_ ?_
 refine pd_ (i:=8) (N:=some 34) #[T,T,T,T,T,T,T,T,T,F,F,F,F,F] rfl ?_
 refine pd_ (i:=9) (N:=some 35) #[T,T,T,T,T,T,T,T,T,T,F,F,F,F] rfl ?_
 refine gG (i:=10) (N:=none) #[T,T,T,T,T,T,T,T,T,T,T,F,F,F] rfl rfl (by kernel_rfl) (by decide) (fun K hK=>?_)
 have Q1:=aa BK1.out
 have Q4:=ak BK4.out
 have qf0:=bf_ BK1.out 3;have qf1:=bf_ BK1.out 4
 obtain⟨w7_,hw⟩:=lw_ (((w6_.setCell ⟨gb1_,3,none⟩ (.int .i64 t1)).setCell ⟨gb1_,4,none⟩ (.slice Ao3_0 t2.length co3_0)))
 refine fT (w1:=w7_) (by rfl) rfl ?_ ?_
 ·rw [hw];go_simp;try rfl
 refine hK.out _ _ ?_
 clear hK K qf0 qf1 Q1 Q4
 obtain⟨hbx,hkp,hbb⟩:=nL hw BK1 HB (ho_ HS)
 clear hw
 replace HK:=kt_ HK hkp HS
 revert HO0_1 HO0_6 HO3_0 BK4 HO6
 refine bC hkp HS ?_
 intro HO0_1 HO0_6 HO3_0 BK4 HO6
 replace BK1:=A_.mk hbx
 replace HB:=A_.mk hbb
 replace HS:=aHs HS hkp.1
 clear hkp hbb hbx
 refine pd_ (i:=11) (N:=some 36) #[T,T,T,T,T,T,T,T,T,T,T,T,F,F] rfl ?_
 refine pd_ (i:=12) (N:=some 37) #[T,T,T,T,T,T,T,T,T,T,T,T,T,F] rfl ?_
 refine gG (i:=13) (N:=none) #[T,T,T,T,T,T,T,T,T,T,T,T,T,T] rfl rfl (by kernel_rfl) (by decide) (fun K hK=>?_)
 have Q1:=aa BK1.out
 have Q4:=ak BK4.out
 have qf0:=bf_ BK1.out 5
 obtain⟨w8_,hw⟩:=lw_ ((w7_.setCell ⟨gb1_,5,none⟩ (.slice (some ⟨gHO0_5_,0,none⟩) y4.length c0_5)))
 refine fT (w1:=w8_) (by rfl) rfl ?_ ?_
 ·rw [hw];go_simp;try rfl
 refine hK.out _ _ ?_
 clear hK K qf0 Q1 Q4
 obtain⟨hbx,hkp,hbb⟩:=j6 hw BK1 HB (ho_ HS)
 clear hw
 replace HK:=kt_ HK hkp HS
 revert HO0_1 HO0_6 HO3_0 BK4 HO6
 refine bC hkp HS ?_
 intro HO0_1 HO0_6 HO3_0 BK4 HO6
 replace BK1:=A_.mk hbx
 replace HB:=A_.mk hbb
 replace HS:=aHs HS hkp.1
 clear hkp hbb hbx
 refine fA (by kernel_rfl) ?_
 have Q1:=aa BK1.out
 have Q4:=ak BK4.out
 replace H:=H.out
 by_cases hc2_:(l0_6.length:Int)<8
 case neg =>
  rw [if_neg hc2_] at H
  have hc2_b0:=decide_eq_false hc2_
  have hc2_b1:decide (l0_6.length<8)=false:=decide_eq_false (by omega)
  replace hc2_:=A_.mk hc2_
  replace H:=il H
  obtain⟨rfl,rfl,rfl,rfl,rfl,rfl,rfl,rfl⟩:=H
  go_wp2
  go_ret
  obtain⟨f_,hf_⟩:=mS_ HO0_1 0 (mS_ HO3_0 1 (mS_ HO6 2 (mR_ HO0_6 3 (m0_ 4))))
  have hfk_:∀ k_,k_<w1.heap.size→f_ k_<4→k_=gb1_∨f0_ k_<4:=fun k_ h1_ h2_=>by have:=HS.out;rw [hf_] at h2_;repeat' (first|omega|split at h2_)
  first|exact ⟨f_,_,_,_,_,rfl,BK1.out,cS_ HO0_1 HS hf_,cS_ HO3_0 HS hf_,cS_ HO6 HS hf_,cR_ HO0_6 HS hf_,hfk_,HB.out,HK.out⟩|exact ⟨rfl,f_,_,_,_,_,BK1.out,cS_ HO0_1 HS hf_,cS_ HO3_0 HS hf_,cS_ HO6 HS hf_,cR_ HO0_6 HS hf_,hfk_,HB.out,HK.out⟩
 rw [if_pos hc2_] at H
 have hc2_b0:=decide_eq_true hc2_
 have hc2_b1:decide (l0_6.length<8)=true:=decide_eq_true (by omega)
 replace hc2_:=A_.mk hc2_
 replace H:=oa_ H
 obtain⟨t5,A9,H⟩:=H
 replace H:=A_.mk H
 go_wp2_with (fail)
 refine(jq.calls k t1 _ _ t2 t5 _ (dV HO3_0) (dS HO3_0) A9.out).mono ?_
 rintro e w9_ ⟨rfl,hb⟩
 revert HK HO0_1 HO0_6 HO3_0 HO6 BK1 HB HS
 refine aD hb ?_
 intro HK HO0_1 HO0_6 HO3_0 HO6 BK1 HB HS
 clear hb  Q1 Q4
 have Q1:=aa BK1.out
 replace H:=H.out
 by_cases hc3_:t3=2
 case pos =>
  rw [if_pos hc3_] at H
  replace hc3_:=iF hc3_
  replace H:=lM H
  obtain⟨LM10,H⟩:=H
  obtain⟨y6,Ny6⟩:=le_ ((l0_6++[(wrap64 (t5+100))]))
  rw [←Ny6.out] at H
  replace H:=il H
  obtain⟨rfl,rfl,rfl,rfl,rfl,rfl,rfl,rfl⟩:=H
  go_wp2_with (first|((with_reducible refine cz (b:=.append) (xs:=#[.tmp 58,.tmp 60]) rfl ?_);at_builtin;refine Kd.jS (Kd.int .i64) (w0:=w) w.heap.size rfl (.tmp 58) (.tmp 60) 28 3 ((.int .i64 0)) 8 rfl Tryz.underlying28 info3 rfl (by decide) (by omega) (.slice A0_6 l0_6.length c0_6) l0_6 (wrap64 (t5+100)) [.int .i64 (wrap64 (t5+100))] (fun k_=>(((w.heap.size≤k_∧k_<w1.heap.size)∧k_≠gb1_∧f0_ k_=3))∨w9_.heap.size≤k_) (fun _=>False) rfl rfl ?aP (fun _ hk=>hk.elim) (fun _ hk=>.inr hk) (Kd.aC HO0_6.out (fun _ hk=>.inl hk)) HB.out HB.out.size ?aL ?_;(case aP=>rfl);(case aL=>have:=LM10.out;omega);intro v_ w10_ ho hbb hg hat;clear hat;rw [←Ny6.out] at ho;have hkp:Kept w9_ w10_ (fun k_=>((w.heap.size≤k_∧k_<w1.heap.size)∧k_≠gb1_∧f0_ k_=3)):=Kept.aZ hg (Kept.refl _ _) (fun k_ e_=>.inl (HO0_6.out.1 k_ e_));replace HK:=kt_ HK hkp HS;revert HO0_1 HO3_0 HO6 BK1;refine bC hkp HS ?_;intro HO0_1 HO3_0 HO6 BK1;replace HS:=aHs HS hkp.1;obtain⟨Ao10,co10,ev_⟩:=Kd.aX ho;subst ev_;have HO10:=A_.mk (Kd.aC (ok':=(fun k_=>((w.heap.size≤k_∧k_<w1.heap.size)∧k_≠gb1_∧f0_ k_=3)∨((w9_.heap.size≤k_∧k_<w10_.heap.size)))) (Kd.bP ho) (fun k_ hk_=>by have:=hk_.1;have:=hk_.2.2.1;have:=hk_.2.1;clear hk_;(try dsimp only at *);omega));replace HB:=A_.mk hbb;clear hkp hbb hg ho HO0_6 Q1;have Q1:=aa BK1.out)|((with_reducible refine ae (t:=28) (p:=63) rfl ?_);have qf0:=bf_ BK1.out 6;refine so_ (w1:=(w10_.setCell ⟨gb1_,6,none⟩ (.slice Ao10 y6.length co10))) ?_;intro w11_ hw;clear qf0;obtain⟨hbx,hkp,hbb⟩:=jD hw BK1 HB (ho_ HS);clear hw;replace HK:=kt_ HK hkp HS;revert HO0_1 HO3_0 HO6 HO10;refine bC hkp HS ?_;intro HO0_1 HO3_0 HO6 HO10;replace BK1:=A_.mk hbx;replace HB:=A_.mk hbb;replace HS:=aHs HS hkp.1;clear hkp hbb hbx Q1))
  go_ret
  obtain⟨f_,hf_⟩:=mS_ HO0_1 0 (mS_ HO3_0 1 (mS_ HO6 2 (mR_ HO10 3 (m0_ 4))))
  have hfk_:∀ k_,k_<w1.heap.size→f_ k_<4→k_=gb1_∨f0_ k_<4:=fun k_ h1_ h2_=>by have:=HS.out;rw [hf_] at h2_;repeat' (first|omega|split at h2_)
  first|exact ⟨f_,_,_,_,_,rfl,BK1.out,cS_ HO0_1 HS hf_,cS_ HO3_0 HS hf_,cS_ HO6 HS hf_,cR_ HO10 HS hf_,hfk_,HB.out,HK.out⟩|exact ⟨rfl,f_,_,_,_,_,BK1.out,cS_ HO0_1 HS hf_,cS_ HO3_0 HS hf_,cS_ HO6 HS hf_,cR_ HO10 HS hf_,hfk_,HB.out,HK.out⟩
 rw [if_neg hc3_] at H
 have hc3_b:=iE hc3_
 by_cases hc5_:t3=3
 case pos =>
  rw [if_pos hc5_] at H
  replace hc5_:=iF hc5_
  replace H:=lM H
  obtain⟨LM12,H⟩:=H
  obtain⟨y7,Ny7⟩:=le_ ((l0_6++[(wrap64 (t5+100))]))
  rw [←Ny7.out] at H
  replace H:=il H
  obtain⟨rfl,rfl,rfl,rfl,rfl,rfl,rfl,rfl⟩:=H
  go_wp2_with (first|((with_reducible refine cz (b:=.append) (xs:=#[.tmp 58,.tmp 60]) rfl ?_);at_builtin;refine Kd.jS (Kd.int .i64) (w0:=w) w.heap.size rfl (.tmp 58) (.tmp 60) 28 3 ((.int .i64 0)) 8 rfl Tryz.underlying28 info3 rfl (by decide) (by omega) (.slice A0_6 l0_6.length c0_6) l0_6 (wrap64 (t5+100)) [.int .i64 (wrap64 (t5+100))] (fun k_=>(((w.heap.size≤k_∧k_<w1.heap.size)∧k_≠gb1_∧f0_ k_=3))∨w9_.heap.size≤k_) (fun _=>False) rfl rfl ?aP (fun _ hk=>hk.elim) (fun _ hk=>.inr hk) (Kd.aC HO0_6.out (fun _ hk=>.inl hk)) HB.out HB.out.size ?aL ?_;(case aP=>rfl);(case aL=>have:=LM12.out;omega);intro v_ w12_ ho hbb hg hat;clear hat;rw [←Ny7.out] at ho;have hkp:Kept w9_ w12_ (fun k_=>((w.heap.size≤k_∧k_<w1.heap.size)∧k_≠gb1_∧f0_ k_=3)):=Kept.aZ hg (Kept.refl _ _) (fun k_ e_=>.inl (HO0_6.out.1 k_ e_));replace HK:=kt_ HK hkp HS;revert HO0_1 HO3_0 HO6 BK1;refine bC hkp HS ?_;intro HO0_1 HO3_0 HO6 BK1;replace HS:=aHs HS hkp.1;obtain⟨Ao12,co12,ev_⟩:=Kd.aX ho;subst ev_;have HO12:=A_.mk (Kd.aC (ok':=(fun k_=>((w.heap.size≤k_∧k_<w1.heap.size)∧k_≠gb1_∧f0_ k_=3)∨((w9_.heap.size≤k_∧k_<w12_.heap.size)))) (Kd.bP ho) (fun k_ hk_=>by have:=hk_.1;have:=hk_.2.2.1;have:=hk_.2.1;clear hk_;(try dsimp only at *);omega));replace HB:=A_.mk hbb;clear hkp hbb hg ho HO0_6 Q1;have Q1:=aa BK1.out)|((with_reducible refine ae (t:=28) (p:=63) rfl ?_);have qf0:=bf_ BK1.out 6;refine so_ (w1:=(w12_.setCell ⟨gb1_,6,none⟩ (.slice Ao12 y7.length co12))) ?_;intro w13_ hw;clear qf0;obtain⟨hbx,hkp,hbb⟩:=jD hw BK1 HB (ho_ HS);clear hw;replace HK:=kt_ HK hkp HS;revert HO0_1 HO3_0 HO6 HO12;refine bC hkp HS ?_;intro HO0_1 HO3_0 HO6 HO12;replace BK1:=A_.mk hbx;replace HB:=A_.mk hbb;replace HS:=aHs HS hkp.1;clear hkp hbb hbx Q1))
  go_ret
  obtain⟨f_,hf_⟩:=mS_ HO0_1 0 (mS_ HO3_0 1 (mS_ HO6 2 (mR_ HO12 3 (m0_ 4))))
  have hfk_:∀ k_,k_<w1.heap.size→f_ k_<4→k_=gb1_∨f0_ k_<4:=fun k_ h1_ h2_=>by have:=HS.out;rw [hf_] at h2_;repeat' (first|omega|split at h2_)
  first|exact ⟨f_,_,_,_,_,rfl,BK1.out,cS_ HO0_1 HS hf_,cS_ HO3_0 HS hf_,cS_ HO6 HS hf_,cR_ HO12 HS hf_,hfk_,HB.out,HK.out⟩|exact ⟨rfl,f_,_,_,_,_,BK1.out,cS_ HO0_1 HS hf_,cS_ HO3_0 HS hf_,cS_ HO6 HS hf_,cR_ HO12 HS hf_,hfk_,HB.out,HK.out⟩
 rw [if_neg hc5_] at H
 have hc5_b:=iE hc5_
 replace H:=lM H
 obtain⟨LM14,H⟩:=H
 obtain⟨y8,Ny8⟩:=le_ ((l0_6++[t5]))
 rw [←Ny8.out] at H
 replace H:=il H
 obtain⟨rfl,rfl,rfl,rfl,rfl,rfl,rfl,rfl⟩:=H
 go_wp2_with (first|((with_reducible refine cz (b:=.append) (xs:=#[.tmp 58,.tmp 60]) rfl ?_);at_builtin;refine Kd.jS (Kd.int .i64) (w0:=w) w.heap.size rfl (.tmp 58) (.tmp 60) 28 3 ((.int .i64 0)) 8 rfl Tryz.underlying28 info3 rfl (by decide) (by omega) (.slice A0_6 l0_6.length c0_6) l0_6 t5 [.int .i64 t5] (fun k_=>(((w.heap.size≤k_∧k_<w1.heap.size)∧k_≠gb1_∧f0_ k_=3))∨w9_.heap.size≤k_) (fun _=>False) rfl rfl ?aP (fun _ hk=>hk.elim) (fun _ hk=>.inr hk) (Kd.aC HO0_6.out (fun _ hk=>.inl hk)) HB.out HB.out.size ?aL ?_;(case aP=>rfl);(case aL=>have:=LM14.out;omega);intro v_ w14_ ho hbb hg hat;clear hat;rw [←Ny8.out] at ho;have hkp:Kept w9_ w14_ (fun k_=>((w.heap.size≤k_∧k_<w1.heap.size)∧k_≠gb1_∧f0_ k_=3)):=Kept.aZ hg (Kept.refl _ _) (fun k_ e_=>.inl (HO0_6.out.1 k_ e_));replace HK:=kt_ HK hkp HS;revert HO0_1 HO3_0 HO6 BK1;refine bC hkp HS ?_;intro HO0_1 HO3_0 HO6 BK1;replace HS:=aHs HS hkp.1;obtain⟨Ao14,co14,ev_⟩:=Kd.aX ho;subst ev_;have HO14:=A_.mk (Kd.aC (ok':=(fun k_=>((w.heap.size≤k_∧k_<w1.heap.size)∧k_≠gb1_∧f0_ k_=3)∨((w9_.heap.size≤k_∧k_<w14_.heap.size)))) (Kd.bP ho) (fun k_ hk_=>by have:=hk_.1;have:=hk_.2.2.1;have:=hk_.2.1;clear hk_;(try dsimp only at *);omega));replace HB:=A_.mk hbb;clear hkp hbb hg ho HO0_6 Q1;have Q1:=aa BK1.out)|((with_reducible refine ae (t:=28) (p:=63) rfl ?_);have qf0:=bf_ BK1.out 6;refine so_ (w1:=(w14_.setCell ⟨gb1_,6,none⟩ (.slice Ao14 y8.length co14))) ?_;intro w15_ hw;clear qf0;obtain⟨hbx,hkp,hbb⟩:=jD hw BK1 HB (ho_ HS);clear hw;replace HK:=kt_ HK hkp HS;revert HO0_1 HO3_0 HO6 HO14;refine bC hkp HS ?_;intro HO0_1 HO3_0 HO6 HO14;replace BK1:=A_.mk hbx;replace HB:=A_.mk hbb;replace HS:=aHs HS hkp.1;clear hkp hbb hbx Q1))
 go_ret
 obtain⟨f_,hf_⟩:=mS_ HO0_1 0 (mS_ HO3_0 1 (mS_ HO6 2 (mR_ HO14 3 (m0_ 4))))
 have hfk_:∀ k_,k_<w1.heap.size→f_ k_<4→k_=gb1_∨f0_ k_<4:=fun k_ h1_ h2_=>by have:=HS.out;rw [hf_] at h2_;repeat' (first|omega|split at h2_)
 first|exact ⟨f_,_,_,_,_,rfl,BK1.out,cS_ HO0_1 HS hf_,cS_ HO3_0 HS hf_,cS_ HO6 HS hf_,cR_ HO14 HS hf_,hfk_,HB.out,HK.out⟩|exact ⟨rfl,f_,_,_,_,_,BK1.out,cS_ HO0_1 HS hf_,cS_ HO3_0 HS hf_,cS_ HO6 HS hf_,cR_ HO14 HS hf_,hfk_,HB.out,HK.out⟩
def gX.f(k:Nat)(a0_0:Int)(l0_1:List (S68))(a0_2:Int):Option ((Int)×(List (S68))×(Int)):=((bg.f k a0_0 l0_1 a0_2).bind fun ⟨t1,t2,t3⟩=>((aY.f k a0_0 l0_1 a0_2).bind fun t4=>(if t4=true then (some (t1,t2,0)) else (some (t1,t2,t3)))))
theorem gX.calls(k:Nat)(a0_0:Int)(A0_1:Option Addr)(c0_1:Nat)(l0_1:List (S68))(a0_2:Int)(r1:Int)(r2:List (S68))(r3:Int)(w:World)(hr0_1:Kd.C k68 w A0_1 l0_1.length l0_1)(hc0_1:l0_1.length≤c0_1)(h:gX.f k a0_0 l0_1 a0_2=some (r1,r2,r3)) :
  Calls Tryz.prog 88 #[.agg #[.int .i64 a0_0,.slice A0_1 l0_1.length c0_1,.int .i64 a0_2]] w fun e w'=>∃ f_:Nat→Nat,∃ v0_:Value,e=.returned (.agg #[.int .i64 r1,v0_,.int .i64 r3])∧Kd.S k68 68 w' w.heap.size (fun k_=>f_ k_=0) v0_ r2∧Below w.heap.size w w':=by
 have HR0_1:=A_.mk hr0_1
 have HC0_1:=A_.mk hc0_1
 clear hr0_1 hc0_1
 have HB:=A_.mk (Below.refl w.heap.size w)
 unfold gX.f at h
 have H:=h
 clear h
 replace H:=oa_ H
 obtain⟨⟨t1,t2,t3⟩,A3,H⟩:=H
 try dsimp only at H
 replace H:=oa_ H
 obtain⟨t4,A6,H⟩:=H
 replace H:=A_.mk H
 have hu36:=Tryz.underlying36
 go_enter Tryz.func88,Tryz.ntmps88
 have HS:=A_.mk (Nat.le_refl w.heap.size)
 go_wp2_with (first|((with_reducible refine gd_ (N:=1) rfl ?_);refine by_ 1 (cs:=#[.int .i64 a0_0,.slice A0_1 l0_1.length c0_1,.int .i64 a0_2]) (t:=36) ?_;intro gb1_ hg w1_ hbox hb;replace HS:=aHg HS hg hbox;replace HB:=aHB HB hb;have BK1:=A_.mk hbox;clear hbox hb hg)|((with_reducible refine gd_ (N:=2) rfl ?_);refine by_ 2 (cs:=#[.int .i64 0,.slice none 0 0,.int .i64 0]) (t:=36) ?_;intro gb2_ hg w2_ hbox hb;replace HS:=aHg HS hg hbox;replace BK1:=aBb BK1 hb;replace HB:=aHB HB hb;have BK2:=A_.mk hbox;clear hbox hb hg;have Q1:=av BK1.out)|((with_reducible refine gc_ (f:=73) rfl ?_);refine gl_ (some 5) Tryz.func73 #[.agg #[.int .i64 a0_0,.slice A0_1 l0_1.length c0_1,.int .i64 a0_2]] ?_;(with_reducible refine (bg.calls k a0_0 _ _ l0_1 a0_2 t1 t2 t3 _ (cb_ HR0_1 HB) HC0_1.out A3.out).mono ?_);rintro e w3_ ⟨f3_,v0_,rfl,ho0_,hb⟩;refine⟨_,rfl,?_⟩;replace HS:=aHs HS hb.size;obtain⟨Ao3_0,co3_0,rfl,HO3_0⟩:=sSn ho0_ HB.out.size;revert BK1 HB BK2;refine aD hb ?_;intro BK1 HB BK2;clear hb ho0_ Q1)|((with_reducible refine gd_ (N:=3) rfl ?_);refine by_ 3 (cs:=#[.int .i64 0,.slice none 0 0,.int .i64 0]) (t:=36) ?_;intro gb4_ hg w4_ hbox hb;replace HS:=aHg HS hg hbox;revert HO3_0 BK1 HB BK2;refine aD hb ?_;intro HO3_0 BK1 HB BK2;have BK4:=A_.mk hbox;clear hbox hb hg;have Q4:=av BK4.out)|((with_reducible refine ae (t:=36) (p:=3) rfl ?_);obtain⟨qf0,qf1,qf2⟩:=eT BK4;refine so_ (w1:=(iN w4_ gb4_ (.int .i64 t1) (.slice Ao3_0 t2.length co3_0) (.int .i64 t3))) ?_;intro w5_ hw;clear qf0 qf1 qf2;obtain⟨hbx,hkp,hbb⟩:=iT hw BK4 HB (ho_ HS);clear hw;revert HO3_0 BK1 BK2;refine bC hkp HS ?_;intro HO3_0 BK1 BK2;replace BK4:=A_.mk hbx;replace HB:=A_.mk hbb;replace HS:=aHs HS hkp.1;clear hkp hbb hbx Q4;have Q1:=av BK1.out))
 refine(aY.calls k a0_0 _ _ l0_1 a0_2 t4 _ (cb_ HR0_1 HB) HC0_1.out A6.out).mono ?_
 rintro e w6_ ⟨rfl,hb⟩
 revert HO3_0 BK2 BK4 HB HS
 refine aD hb ?_
 intro HO3_0 BK2 BK4 HB HS
 clear hb  Q1
 have Q2:=av BK2.out
 have Q4:=av BK4.out
 replace H:=H.out
 by_cases hc1_:t4=true
 case pos =>
  rw [if_pos hc1_] at H
  subst hc1_
  replace H:=jE H
  obtain⟨rfl,rfl,rfl⟩:=H
  go_wp2_with (first|((with_reducible refine ae (t:=3) (p:=8) rfl ?_);have qf0:=bf_ BK4.out 2;refine so_ (w1:=(w6_.setCell ⟨gb4_,2,none⟩ (.int .i64 0))) ?_;intro w7_ hw;clear qf0;obtain⟨hbx,hkp,hbb⟩:=nu hw BK4 HB (ho_ HS);clear hw;replace HO3_0:=aSk HO3_0 hkp HS;replace BK2:=aBk BK2 hkp HS;replace BK4:=A_.mk hbx;replace HB:=A_.mk hbb;replace HS:=aHs HS hkp.1;clear hkp hbb hbx Q2 Q4;have Q2:=av BK2.out;have Q4:=av BK4.out)|((with_reducible refine ae (t:=36) (p:=2) rfl ?_);obtain⟨qf0,qf1,qf2⟩:=eT BK2;refine so_ (w1:=(iN w7_ gb2_ (.int .i64 t1) (.slice Ao3_0 t2.length co3_0) (.int .i64 0))) ?_;intro w8_ hw;clear qf0 qf1 qf2;obtain⟨hbx,hkp,hbb⟩:=iT hw BK2 HB (ho_ HS);clear hw;replace HO3_0:=aSk HO3_0 hkp HS;replace BK2:=A_.mk hbx;replace HB:=A_.mk hbb;replace HS:=aHs HS hkp.1;clear hkp hbb hbx Q2 Q4))
  refine bodyPost_ret (results_cell_row rfl _ _ gb2_ 36 _ (0,0) _ rfl BK2.out Tryz.underlying36 rfl (by kernel_rfl)) rfl ?_
  obtain⟨f_,hf_⟩:=mS_ HO3_0 0 (m0_ 0)
  exact⟨f_,_,rfl,cS_ HO3_0 HS hf_,HB.out⟩
 rw [if_neg hc1_] at H
 replace hc1_:=eq_false_of_ne_true hc1_
 subst hc1_
 replace H:=jE H
 obtain⟨rfl,rfl,rfl⟩:=H
 go_wp2_with (first|((with_reducible refine ae (t:=36) (p:=2) rfl ?_);obtain⟨qf0,qf1,qf2⟩:=eT BK2;refine so_ (w1:=(iN w6_ gb2_ (.int .i64 t1) (.slice Ao3_0 t2.length co3_0) (.int .i64 t3))) ?_;intro w9_ hw;clear qf0 qf1 qf2;obtain⟨hbx,hkp,hbb⟩:=iT hw BK2 HB (ho_ HS);clear hw;replace HO3_0:=aSk HO3_0 hkp HS;replace BK2:=A_.mk hbx;replace HB:=A_.mk hbb;replace HS:=aHs HS hkp.1;clear hkp hbb hbx Q2 Q4))
 refine bodyPost_ret (results_cell_row rfl _ _ gb2_ 36 _ (0,0) _ rfl BK2.out Tryz.underlying36 rfl (by kernel_rfl)) rfl ?_
 obtain⟨f_,hf_⟩:=mS_ HO3_0 0 (m0_ 0)
 exact⟨f_,_,rfl,cS_ HO3_0 HS hf_,HB.out⟩
theorem jV.calls(P0_:Nat→Prop)(g n c:Nat)(l0:List Int)(i:Int)(w0 w:World)(hB:Below w0.heap.size w0 w)(ho:Kd.R (Kd.int .i64) 3 w w0.heap.size P0_ (.slice (some ⟨g,0,none⟩) n c) l0)(h0:0≤i)(h1:i<(n:Int)) :
  Calls Tryz.prog 96 #[.slice (some ⟨g,0,none⟩) n c,.int .i64 i,.int .i64 (wrap64 (i+1))] w fun e w'=>e=.returned (.slice (some ⟨g,0,none⟩) (n-1) c)∧Kd.R (Kd.int .i64) 3 w' w0.heap.size P0_ (.slice (some ⟨g,0,none⟩) (n-1) c) (l0.eraseIdx i.toNat)∧Below w0.heap.size w0 w'∧Kept w w' (fun k_=>k_=g):=by
 obtain⟨m,rfl⟩:∃ m:Nat,i=m:=⟨i.toNat,by omega⟩
 have hnc:=(Kd.eQ ho).2.1
 have hcm:c≤9223372036854775807:=by
  obtain⟨_,inner,hown,_⟩:=ho
  rcases hown.2 with ⟨hv,_⟩ | ⟨g',cap',cur,hv,_,_,_,hcm,_⟩
  ·cases hv
  ·cases hv;exact hcm
 obtain⟨p,rfl⟩:∃ p,n=p+1:=⟨n-1,by omega⟩
 have hm:m<p+1:=by omega
 have hm2:m≤p:=by omega
 have hw:wrap64 ((m:Int)+1)=((m+1:Nat):Int):=by unfold wrap64;omega
 rw [hw]
 have hbase:=hB.size
 have HO:=A_.mk ho
 have HB:=A_.mk hB
 have hne:¬ m=m+1:=by omega
 have hc1:m+1≤p+1:=hm
 have hc2:m≤c:=by omega
 have hc3:m+1≤c:=by omega
 have hc4:m≤m+1:=by omega
 have hc5:m≤p+1:=by omega
 have hi1:(0:Int)≤(m:Int)+1:=by omega
 have hi2:(m:Int)+1≤((p+1:Nat):Int):=by omega
 clear ho hB hw h0 h1
 go_enter Tryz.func96,Tryz.ntmps96
 go_wp2_with fail
 refine dN (n:=8) (S:=fun w'=>True) (ds:=[]) #[F,F,F,F,F,F,F,F] (by kernel_rfl) rfl rfl trivial (fun hHeld=>?_)
 refine pd_ (i:=0) (N:=some 20) #[T,F,F,F,F,F,F,F] rfl ?_
 refine pd_ (i:=1) (N:=some 21) #[T,T,F,F,F,F,F,F] rfl ?_
 refine pd_ (i:=2) (N:=some 22) #[T,T,T,F,F,F,F,F] rfl ?_
 refine pd_ (i:=3) (N:=some 23) #[T,T,T,T,F,F,F,F] rfl ?_
 refine pd_ (i:=4) (N:=some 24) #[T,T,T,T,T,F,F,F] rfl ?_
 refine pd_ (i:=5) (N:=some 25) #[T,T,T,T,T,T,F,F] rfl ?_
 refine on_ (i:=6) (N:=some 26) #[T,T,T,T,T,T,T,F] rfl (fun K hK=>?_)
 refine Kd.l6 (Kd.int .i64) w0.heap.size (by rfl) (.tmp 22) (.tmp 25) 28 3 rfl Tryz.underlying28 (by kernel_rfl) (g:=g) (n:=p+1) (c:=c) (k:=m) (m:=p-m) rfl rfl ?hA (by omega) (Kd.rF HO.out) hm (aV HB.out) hbase ?_
 case hA =>
  by_cases hz:c=m+1
  ·rw [if_pos hz,if_pos hz]
  rw [if_neg hz,if_neg hz];show _=some (Addr.add ⟨g,0,none⟩ ((m+1)*1));rw [kL,Nat.zero_add,Nat.mul_one]
 intro w1 ho hb hg
 refine hK.out _ _ trivial (fun hHeld=>?_)
 clear hK K
 refine nm_ ?_
 refine pd_ (i:=7) (N:=some 0) #[T,T,T,T,T,T,T,T] rfl ?_
 refine fA (by kernel_rfl) ?_
 have hpc:p<c:=by omega
 rw [Nat.add_sub_cancel] at ho
 obtain⟨hN2,hg2,hcs,hfr⟩:=pg (Kd.int .i64) ho hpc [.int .i64 0] rfl
 simp only [show ((Kd.int .i64)).sz=1 from rfl,Nat.mul_one] at hN2 hg2 hcs hfr
 have hcl:∀ ty,(Builtin.clear_ #[28] ty #[.slice (some ⟨g,p,none⟩) 1 (c-p)]).run Tryz.prog w1=.ok (.tuple #[]) (w1.setCells g (p) [.int .i64 0]) :=
  fun ty=>l8 w1 28 3 ty (.int .i64 0) Tryz.underlying28 (fun _=>by kernel_rfl) [.int .i64 0] rfl (by decide) g (p) (c-p) (fun j hj=>hcs j hj) (fun j hj=>hfr _)
 replace hN2:Kd.R (Kd.int .i64) 3 (w1.setCells g (p) [.int .i64 0]) w0.heap.size P0_ (.slice (some ⟨g,0,none⟩) p c) (l0.eraseIdx m):=hN2
 replace hg2:w1.grownBy (w1.setCells g (p) [.int .i64 0]) (some g):=hg2
 generalize w1.setCells g (p) [.int .i64 0]=W2 at hN2 hg2 hcl
 have HN:=A_.mk hN2
 have HG:=A_.mk hg
 have HG2:=A_.mk hg2
 have HB2:=A_.mk (hb.grown hg2 (Nat.le_trans hbase hg.size) (fun k hk=>by injection hk with hk;subst hk;exact(Kd.jG ho) _ (by simp [Value.ownBlock])))
 have hp1:p≤c:=by omega
 have hp2:p+1≤c:=by omega
 have hp3:p≤p+1:=by omega
 have hp4:¬ c=p:=by omega
 clear hN2 hg hg2 hcs hfr ho hb
 go_wp2
 all_goals (go_ret;first|exact ⟨rfl,HN.out,HB2.out,Kept.aZ HG2.out (Kept.aZ HG.out (Kept.drew (Kept.refl w _)) (fun k hk=>.inl (by injection hk with hk;exact hk.symm))) (fun k hk=>.inl (by injection hk with hk;exact hk.symm))⟩|(subst h;exact⟨rfl,HN.out,HB2.out,Kept.aZ HG2.out (Kept.aZ HG.out (Kept.drew (Kept.refl w _)) (fun k hk=>.inl (by injection hk with hk;exact hk.symm))) (fun k hk=>.inl (by injection hk with hk;exact hk.symm))⟩))
theorem kF.calls(gs:Nat)(s:Int)(a0_0:Int)(A0_1:Option Addr)(c0_1:Nat)(l0_1:List Int)(w:World)(hbs:w.heap[gs]?=some (.cells #[.int .i64 s] 3 (0,0))) :
  Calls Tryz.prog 117 #[.agg #[.int .i64 a0_0,.slice A0_1 l0_1.length c0_1],.pointer (some ⟨gs,0,none⟩)] w fun e w'=>e=.returned (.bool (a0_0==s))∧Below w.heap.size w w':=by
 have hu68:=Tryz.underlying68
 have BS:=A_.mk hbs
 have HB:=A_.mk (Below.refl w.heap.size w)
 clear hbs
 go_enter Tryz.func117,Tryz.ntmps117
 go_wp2_with ((with_reducible refine gd_ (N:=2) rfl ?_);refine by_ 2 (cs:=#[.int .i64 a0_0,.slice A0_1 l0_1.length c0_1]) (t:=68) ?_;intro gp hg w4_ hbox hb;have BP:=A_.mk hbox;replace BS:=A_.mk (bb_ BS.out hb);replace HB:=A_.mk (jN HB.out HB.out.size hb);clear hb hbox hg;have q0_:=(bc_ BP.out 0).trans rfl;have q1_:=(bc_ BP.out 1).trans rfl;have q2_:=(bc_ BS.out 0).trans rfl)
 go_ret
 exact⟨rfl,HB.out⟩
def di.l0:Nat→List (S68)→Int→Int→Int→Option (Int)
 | 0,_,_,_,_=>none
 | k+1,x0,s,x7,x8=>if x8<x7 then (if 0≤x8 then (if x8<(x0.length:Int) then (if (ay x0 x8).f0=s then (some x8) else (di.l0 k x0 s x7 (wrap64 (x8+1)))) else (none)) else (none)) else (some (-1))
def di.f(k:Nat)(l0:List (S68))(s:Int):Option (Int):=di.l0 k l0 s (l0.length:Int) 0
theorem di.calls(k:Nat)(A0:Option Addr)(c0:Nat)(l0:List (S68))(gs_:Nat)(as_:Int)(r:Int)(w:World)(hr0:Kd.C k68 w A0 l0.length l0)(hc0:l0.length≤c0)(hbs_:w.heap[gs_]?=some (.cells #[.int .i64 as_] 3 (0,0)))(h:di.f k l0 as_=some r) :
  Calls Tryz.prog 116 #[.slice A0 l0.length c0,.func (.func 117) #[] #[.pointer (some ⟨gs_,0,none⟩)]] w fun e w'=>e=.returned (.int .i64 r)∧Below w.heap.size w w':=by
 have hu68:=Tryz.underlying68
 have HR0:=A_.mk hr0
 have HC0:=A_.mk hc0
 have BS:=A_.mk hbs_
 clear hr0 hc0 hbs_
 have HB:=A_.mk (Below.refl w.heap.size w)
 have H':=A_.mk (show (di.l0 k l0 as_ (l0.length:Int) 0)=some r from h)
 clear h
 go_enter Tryz.func116,Tryz.ntmps116
 go_wp2
 go_loopg [8] k (fun kq v8 w'=>∃ (x8_1:Int),v8=.int .i64 x8_1∧A_ (di.l0 kq l0 as_ (l0.length:Int) x8_1=some r)∧A_ (kq≤k)∧A_ (Below w.heap.size w w'))
 case atStart=>exact ⟨(0),rs_,H',⟨Nat.le_refl _⟩,⟨beY HB.out⟩⟩
 case round =>
  clear H' HB
  obtain⟨x8_1,rfl,HA,HK1,HB⟩:=hrel
  cases gk with
  | zero=>exact absurd HA.out (by simp [di.l0])
  | succ k1 =>
   have H:=HA.out
   clear HA
   simp only [di.l0] at H
   by_cases c3:x8_1<(l0.length:Int)
   rotate_left
   ·rw [if_neg c3] at H
    have c3b0:=decide_eq_false c3
    clear c3
    obtain rfl:=Option.some.inj H
    clear H
    go_wp2
    go_ret
    exact⟨rfl,HB.out⟩
   rw [if_pos c3] at H
   have c3b0:=decide_eq_true c3
   by_cases c4:0≤x8_1
   case neg=>rw [if_neg c4] at H;exact absurd H (by simp)
   rw [if_pos c4,if_pos c3] at H
   have c4b0:=decide_eq_true c4
   have p1:=c4
   have q1:=c3
   clear c3 c4
   obtain⟨ad1,A1_1,c1_1,e1,hx1_0,hx1_1,hl1_1,hi1_1⟩:=iq HR0.out x8_1 p1 q1
   cases e1
   replace hx1_0:=(HB.out.cell (wl_ w _ hx1_0)).trans hx1_0
   replace hx1_1:=(HB.out.cell (wl_ w _ hx1_1)).trans hx1_1
   replace p1:=eq_true p1
   replace q1:=eq_true q1
   by_cases ct:(ay l0 x8_1).f0=as_
   ·rw [if_pos ct] at H
    obtain rfl:=Option.some.inj H
    clear H
    have ctb:=beq_iff_eq.mpr ct
    clear ct
    go_wp2_with fail
    refine(kF.calls gs_ as_ (ay l0 x8_1).f0 _ _ (ay l0 x8_1).f1 _ (bb_ BS.out HB.out)).mono ?_
    rintro e w8_ ⟨rfl,hb⟩
    replace HB:=A_.mk (jN HB.out HB.out.size hb)
    clear hb
    go_wp2
    go_ret
    exact⟨rfl,HB.out⟩
   rw [if_neg ct] at H
   have ctb:=beq_eq_false_iff_ne.mpr ct
   clear ct
   have H':=A_.mk H
   clear H
   go_wp2_with fail
   refine(kF.calls gs_ as_ (ay l0 x8_1).f0 _ _ (ay l0 x8_1).f1 _ (bb_ BS.out HB.out)).mono ?_
   rintro e w8_ ⟨rfl,hb⟩
   replace HB:=A_.mk (jN HB.out HB.out.size hb)
   clear hb
   go_wp2
   go_roundg k1
   case measure=>have:=HK1.out;omega
   case rel=>exact ⟨(wrap64 (x8_1+1)),rs_,H',⟨by have:=HK1.out;omega⟩,HB⟩
theorem qY{α:Type}(d:Kd α){e base g n c m:Nat}{W:World}{ok:Nat→Prop}{xs:List α}(z:α)(HS:Kd.S d e W base ok (.slice (some ⟨g,0,none⟩) n c) xs)(hm:m≤n){A:Addr}(hA:A=⟨g,m*d.sz,none⟩∨m=n) :
  ∃ f,ReadsRow (fun p cs=>(Kd.tag f d).M W base (fun k=>ok k∧k<W.heap.size) p cs) d.sz W (some A) (n-m) (xs.drop m).zipIdx:=by
 obtain⟨hl,_,hC⟩:=Kd.eF HS
 have hn:=hC.2.1
 obtain⟨f,hR⟩:=Kd.ik HS
 refine⟨fun k=>f k-m,by rw [List.length_zipIdx,List.length_drop];omega,by omega,fun hp=>⟨A,rfl,fun j p hj=>?_⟩⟩
 rw [List.getElem?_zipIdx,Nat.zero_add,List.getElem?_drop] at hj
 obtain⟨x,hx,rfl⟩:=Option.map_eq_some_iff.1 hj
 obtain⟨hlt,hx2⟩:=List.getElem?_eq_some_iff.1 hx
 obtain⟨c',hcl,hM,hcc⟩:=Kd.xC hR (z,0) ((m+j:Nat):Int) (by omega) (by omega)
 refine⟨c',hcl,?_,fun i u hu=>?_⟩
 ·have e1:xs.zipIdx.getD ((m+j:Nat):Int).toNat (z,0)=(x,m+j):=by
   rw [List.getD_eq_getElem?_getD,Int.toNat_natCast,List.getElem?_zipIdx,hx];simp
  rw [e1] at hM
  refine d.M_mono (fun k hk=>⟨⟨hk.1.1.1,hk.1.1.2.2.1⟩,?_⟩) hM
  have h2:f k=m+j:=hk.2
  show f k-m=j
  omega
 ·have h3:=hcc i u hu
  rcases hA with rfl|rfl
  ·rw [kL] at h3 ⊢
   rw [Int.toNat_natCast,Nat.zero_add,Nat.add_mul] at h3
   rwa [←Nat.add_assoc]
  ·omega
theorem w_{α:Type}{d:Kd α}{f:Nat→Nat}{base sz n:Nat}{W W1:World}{ok:Nat→Prop}{A:Option Addr}{ys:List (α×Nat)}(h:ReadsRow (fun p cs=>(Kd.tag f d).M W base (fun k=>ok k∧k<W.heap.size) p cs) sz W A n ys)(hg:W.grownBy W1 none) :
  ReadsRow (fun p cs=>(Kd.tag f d).M W1 base (fun k=>ok k∧k<W.heap.size) p cs) sz W1 A n ys:=by
 have hb:Below W.heap.size W W1:=⟨hg.os,hg.tape,hg.output,hg.size,fun k h_=>hg.block k h_ (by simp)⟩
 refine⟨h.1,h.2.1,fun hp=>?_⟩
 obtain⟨ad,e1,h2⟩:=h.2.2 hp
 refine⟨ad,e1,fun j p hj=>?_⟩
 obtain⟨c,h3,h4,h5⟩:=h2 j p hj
 refine⟨c,h3,(Kd.tag f d).M_move (fun k hk=>hb.block k hk.2) h4,fun i u hu=>?_⟩
 exact(hb.cell (wl_ _ _ (h5 i u hu))).trans (h5 i u hu)
theorem kW.calls(P0_:Nat→Prop)(g n c m c2:Nat)(A:Addr)(l0:List S68)(w0 w:World)(hB:Below w0.heap.size w0 w)(ho:Kd.S k68 68 w w0.heap.size P0_ (.slice (some ⟨g,0,none⟩) n c) l0)(hm:m≤n)(hA:A=⟨g,m*2,none⟩∨m=n)(hlim:n*32≤140737488355328) :
  Calls Tryz.prog 118 #[.slice (some A) (n-m) c2] w fun e w'=>∃ v_:Value,e=.returned v_∧Kd.S k68 68 w' w0.heap.size (fun k_=>(P0_ k_∧k_<w.heap.size)∨w.heap.size≤k_) v_ (l0.drop m)∧Below w0.heap.size w0 w'∧Kept w w' (fun _=>False):=by
 obtain⟨f,hread⟩:=qY k68 z68 ho hm hA
 have HRD:=A_.mk hread
 have HB:=A_.mk hB
 have HKP:=A_.mk (Kept.refl w (fun _=>False))
 have HSZ:=A_.mk (Nat.le_refl w.heap.size)
 have HT:=A_.mk (Below.refl w.heap.size w)
 clear hread hB ho
 have hb_:∀ w,(binOp .eql 34 (.slice (some A) (n-m) c2) (.slice none 0 0)).run Tryz.prog w=.ok (.bool false) w:=fun _=>by kernel_rfl
 go_enter Tryz.func118,Tryz.ntmps118
 go_wp2_with (first|((with_reducible refine gd_ (N:=5) rfl ?_);refine Kd.iM (Kd.tag f k68) w0.heap.size 68 ?hg (N:=5) ?hd (xs:=([]:List (S68×Nat))) (inner:=[]) (ok:=(fun k_=>(P0_ k_∧k_<w.heap.size)∨w.heap.size≤k_)) (okp:=fun _=>False) ?hr ?hp (fun _ hk=>hk.elim) (.inr (Nat.le_refl _)) HB.out HB.out.size (by simp) ?_;(case hd=>rfl);(case hg=>rfl);(case hr=>first|(go_simp;done)|(go_simp;rfl));(case hp=>exact (Reps.none _ _));intro v1_ w1_ ho hb hg_ hnew_;have HN:=A_.mk hnew_;have HO:=A_.mk ho;have HG:=A_.mk hg_;have HB1:=A_.mk hb;clear ho hb hg_ hnew_)|((with_reducible refine cz (b:=.append) (xs:=#[.tmp 5,.tmp 6]) rfl ?_);at_builtin;refine Kd.dW (Kd.tag f k68) (Rr:=fun p cs=>(Kd.tag f k68).M w1_ w0.heap.size (fun k_=>P0_ k_∧k_<w.heap.size) p cs) (w0:=w0) w0.heap.size rfl (.tmp 5) (.tmp 6) 34 68 ((.agg #[(.int .i64 0),(.slice none 0 0)])) 32 rfl Tryz.underlying34 info68 rfl (Nat.zero_lt_succ 1) (by omega) v1_ [] (l0.drop m).zipIdx (some A) (n-m) c2 (fun k_=>(P0_ k_∧k_<w.heap.size)∨w.heap.size≤k_) (fun k_=>P0_ k_∧k_<w.heap.size) rfl rfl HO.out ?aR (fun _ _ h=>h) ?aK (fun k_ hk_=>.inr (Nat.le_trans HG.out.size hk_)) HB1.out HB1.out.size ?aL ?_;(case aR=>exact w_ HRD.out HG.out);(case aK=>exact fun k_ hk_=>⟨.inl hk_,fun e_=>by obtain ⟨b_,h1_,h2_⟩:=HN.out;rw [h1_] at e_;cases e_;omega⟩);(case aL=>simp only [List.length_nil];omega);intro v_ w2_ ho hb hg hat;have HO2:=A_.mk ho;have HB2:=A_.mk hb;have HKP2:=A_.mk (Kept.aZ hg (Kept.aZ HG.out HKP.out (fun _ e_=>by cases e_)) (fun k_ e_=>.inr (by obtain ⟨b_,h1_,h2_⟩:=HN.out;rw [h1_] at e_;cases e_;omega)));clear ho hb hg hat))
 go_ret
 exact⟨_,rfl,⟨f,HO2.out⟩,HB2.out,HKP2.out⟩
def gN.f(k:Nat)(a0_0:Int)(l0_1:List (S68))(a0_2:Int)(a1:Int):Option ((Int)×(List (S68))×(Int)×(Bool)):=((bg.f k a0_0 l0_1 a0_2).bind fun ⟨t1,t2,t3⟩=>((di.f k l0_1 a1).bind fun t4=>((aY.f k a0_0 l0_1 a0_2).bind fun t5=>(if t5=true then (if t4<0 then (some (t1,t2,t3,false)) else (if 0≤t4 then (if t4<(t2.length:Int) then (if t2.length*32≤140737488355328 then (some (t1,(t2.drop ((t4).toNat+1)),(mx (wrap64 ((wrap64 (a0_2-t4))-1)) 0),true)) else none) else none) else none)) else (some (t1,t2,t3,false))))))
theorem gN.calls(k:Nat)(a0_0:Int)(A0_1:Option Addr)(c0_1:Nat)(l0_1:List (S68))(a0_2:Int)(a1:Int)(r1:Int)(r2:List (S68))(r3:Int)(r4:Bool)(w:World)(hr0_1:Kd.C k68 w A0_1 l0_1.length l0_1)(hc0_1:l0_1.length≤c0_1)(h:gN.f k a0_0 l0_1 a0_2 a1=some (r1,r2,r3,r4)) :
  Calls Tryz.prog 97 #[.agg #[.int .i64 a0_0,.slice A0_1 l0_1.length c0_1,.int .i64 a0_2],.int .i64 a1] w fun e w'=>∃ f_:Nat→Nat,∃ v0_:Value,e=.returned (.tuple #[.agg #[.int .i64 r1,v0_,.int .i64 r3],.bool r4])∧Kd.S k68 68 w' w.heap.size (fun k_=>f_ k_=0) v0_ r2∧Below w.heap.size w w':=by
 have HR0_1:=A_.mk hr0_1
 have HC0_1:=A_.mk hc0_1
 clear hr0_1 hc0_1
 have HB:=A_.mk (Below.refl w.heap.size w)
 unfold gN.f at h
 have H:=h
 clear h
 replace H:=oa_ H
 obtain⟨⟨t1,t2,t3⟩,A4,H⟩:=H
 try dsimp only at H
 replace H:=oa_ H
 obtain⟨t4,A7,H⟩:=H
 replace H:=oa_ H
 obtain⟨t5,A8,H⟩:=H
 replace H:=A_.mk H
 have hu36:=Tryz.underlying36
 have hmf:∀ (fn:Fn) (first cap:Array Value) (w:World),(Instr.makeFunc fn first cap).run Tryz.prog w=.ok (.func fn first cap) w:=fun _ _ _ _=>rfl
 go_enter Tryz.func97,Tryz.ntmps97
 have HS:=A_.mk (Nat.le_refl w.heap.size)
 go_wp2_with (first|((with_reducible refine gd_ (N:=2) rfl ?_);refine by_ 2 (cs:=#[.int .i64 a0_0,.slice A0_1 l0_1.length c0_1,.int .i64 a0_2]) (t:=36) ?_;intro gb1_ hg w1_ hbox hb;replace HS:=aHg HS hg hbox;replace HB:=aHB HB hb;have BK1:=A_.mk hbox;clear hbox hb hg)|((with_reducible refine gd_ (N:=3) rfl ?_);refine by_ 3 (cs:=#[.int .i64 a1]) (t:=3) ?_;intro gb2_ hg w2_ hbox hb;replace HS:=aHg HS hg hbox;replace BK1:=aBb BK1 hb;replace HB:=aHB HB hb;have BK2:=A_.mk hbox;clear hbox hb hg)|((with_reducible refine gd_ (N:=4) rfl ?_);refine by_ 4 (cs:=#[.int .i64 0,.slice none 0 0,.int .i64 0]) (t:=36) ?_;intro gb3_ hg w3_ hbox hb;replace HS:=aHg HS hg hbox;revert BK1 HB BK2;refine aD hb ?_;intro BK1 HB BK2;have BK3:=A_.mk hbox;clear hbox hb hg;have Q1:=av BK1.out)|((with_reducible refine gc_ (f:=73) rfl ?_);refine gl_ (some 9) Tryz.func73 #[.agg #[.int .i64 a0_0,.slice A0_1 l0_1.length c0_1,.int .i64 a0_2]] ?_;(with_reducible refine (bg.calls k a0_0 _ _ l0_1 a0_2 t1 t2 t3 _ (cb_ HR0_1 HB) HC0_1.out A4.out).mono ?_);rintro e w4_ ⟨f4_,v0_,rfl,ho0_,hb⟩;refine⟨_,rfl,?_⟩;replace HS:=aHs HS hb.size;obtain⟨Ao4_0,co4_0,rfl,HO4_0⟩:=sSn ho0_ HB.out.size;revert BK1 HB BK2 BK3;refine aD hb ?_;intro BK1 HB BK2 BK3;clear hb ho0_ Q1)|((with_reducible refine gd_ (N:=6) rfl ?_);refine by_ 6 (cs:=#[.int .i64 0,.slice none 0 0,.int .i64 0]) (t:=36) ?_;intro gb5_ hg w5_ hbox hb;replace HS:=aHg HS hg hbox;revert HO4_0 BK1 HB BK2 BK3;refine aD hb ?_;intro HO4_0 BK1 HB BK2 BK3;have BK5:=A_.mk hbox;clear hbox hb hg;have Q5:=av BK5.out)|((with_reducible refine ae (t:=36) (p:=6) rfl ?_);obtain⟨qf0,qf1,qf2⟩:=eT BK5;refine so_ (w1:=(iN w5_ gb5_ (.int .i64 t1) (.slice Ao4_0 t2.length co4_0) (.int .i64 t3))) ?_;intro w6_ hw;clear qf0 qf1 qf2;obtain⟨hbx,hkp,hbb⟩:=iT hw BK5 HB (ho_ HS);clear hw;revert HO4_0 BK1 BK2 BK3;refine bC hkp HS ?_;intro HO4_0 BK1 BK2 BK3;replace BK5:=A_.mk hbx;replace HB:=A_.mk hbb;replace HS:=aHs HS hkp.1;clear hkp hbb hbx Q5;have Q1:=av BK1.out))
 refine(di.calls k _ _ l0_1 gb2_ a1 t4 _ (cb_ HR0_1 HB) HC0_1.out BK2.out A7.out).mono ?_
 rintro e w7_ ⟨rfl,hb⟩
 revert HO4_0 BK1 BK2 BK3 BK5 HB HS
 refine aD hb ?_
 intro HO4_0 BK1 BK2 BK3 BK5 HB HS
 clear hb  Q1
 have Q1:=av BK1.out
 go_wp2_with (fail)
 refine(aY.calls k a0_0 _ _ l0_1 a0_2 t5 _ (cb_ HR0_1 HB) HC0_1.out A8.out).mono ?_
 rintro e w8_ ⟨rfl,hb⟩
 revert HO4_0 BK1 BK3 BK5 HB HS
 refine aD hb ?_
 intro HO4_0 BK1 BK3 BK5 HB HS
 clear hb  Q1
 have Q1:=av BK1.out
 have Q3:=av BK3.out
 have Q5:=av BK5.out
 replace H:=H.out
 by_cases hc1_:t5=true
 case neg =>
  rw [if_neg hc1_] at H
  replace hc1_:=eq_false_of_ne_true hc1_
  subst hc1_
  replace H:=mo H
  obtain⟨rfl,rfl,rfl,rfl⟩:=H
  go_wp2_with (first|((with_reducible refine ae (t:=36) (p:=4) rfl ?_);obtain⟨qf0,qf1,qf2⟩:=eT BK3;refine so_ (w1:=(iN w8_ gb3_ (.int .i64 t1) (.slice Ao4_0 t2.length co4_0) (.int .i64 t3))) ?_;intro w14_ hw;clear qf0 qf1 qf2;obtain⟨hbx,hkp,hbb⟩:=iT hw BK3 HB (ho_ HS);clear hw;replace HO4_0:=aSk HO4_0 hkp HS;replace BK3:=A_.mk hbx;replace HB:=A_.mk hbb;replace HS:=aHs HS hkp.1;clear hkp hbb hbx Q1 Q3 Q5))
  refine bodyPost_ret (aM rfl _ _ gb3_ 36 _ (0,0) _ rfl BK3.out Tryz.underlying36 rfl (by kernel_rfl)) rfl ?_
  obtain⟨f_,hf_⟩:=mS_ HO4_0 0 (m0_ 0)
  exact⟨f_,_,rfl,cS_ HO4_0 HS hf_,HB.out⟩
 rw [if_pos hc1_] at H
 subst hc1_
 by_cases hc2_:t4<0
 case pos =>
  rw [if_pos hc2_] at H
  have hc2_b0:=decide_eq_true hc2_
  replace hc2_:=A_.mk hc2_
  replace H:=mo H
  obtain⟨rfl,rfl,rfl,rfl⟩:=H
  go_wp2_with (first|((with_reducible refine ae (t:=36) (p:=4) rfl ?_);obtain⟨qf0,qf1,qf2⟩:=eT BK3;refine so_ (w1:=(iN w8_ gb3_ (.int .i64 t1) (.slice Ao4_0 t2.length co4_0) (.int .i64 t3))) ?_;intro w9_ hw;clear qf0 qf1 qf2;obtain⟨hbx,hkp,hbb⟩:=iT hw BK3 HB (ho_ HS);clear hw;replace HO4_0:=aSk HO4_0 hkp HS;replace BK3:=A_.mk hbx;replace HB:=A_.mk hbb;replace HS:=aHs HS hkp.1;clear hkp hbb hbx Q1 Q3 Q5))
  refine bodyPost_ret (aM rfl _ _ gb3_ 36 _ (0,0) _ rfl BK3.out Tryz.underlying36 rfl (by kernel_rfl)) rfl ?_
  obtain⟨f_,hf_⟩:=mS_ HO4_0 0 (m0_ 0)
  exact⟨f_,_,rfl,cS_ HO4_0 HS hf_,HB.out⟩
 rw [if_neg hc2_] at H
 have hc2_b0:=decide_eq_false hc2_
 replace hc2_:=A_.mk hc2_
 replace H:=ky H
 obtain⟨hp10_,hq10_,H⟩:=H
 have EB10:=A_.mk (And.intro hp10_ hq10_)
 clear hp10_ hq10_
 replace H:=lM H
 obtain⟨LM10,H⟩:=H
 obtain⟨y6,Ny6⟩:=le_ ((t2.drop ((t4).toNat+1)))
 rw [←Ny6.out] at H
 obtain⟨ji7,hji7⟩:∃ q_,q_=(mx (wrap64 ((wrap64 (a0_2-t4))-1)) 0):=⟨_,rfl⟩
 rw [←hji7] at H
 replace hji7:(if (wrap64 ((wrap64 (a0_2-t4))-1))<0 then 0 else (wrap64 ((wrap64 (a0_2-t4))-1)))=ji7:=hji7.symm
 replace H:=mo H
 obtain⟨rfl,rfl,rfl,rfl⟩:=H
 go_wp2_with (fail)
 obtain⟨m10_,hm_⟩:∃ m_:Nat,t4=(m_:Int):=⟨(t4).toNat,by have:=EB10.out;omega⟩
 subst hm_
 obtain⟨gd10_,ed_⟩:=mI HO4_0.out (by have:=EB10.out;omega)
 subst ed_
 have hnc_:=(dS HO4_0)
 have hm1_:m10_<t2.length:=by have:=EB10.out.2;omega
 have hz0_:m10_+1≤t2.length:=by omega
 have hz1_:m10_≤co4_0:=by omega
 have hz2_:m10_+1≤co4_0:=by omega
 have hz3_:(0:Int)≤(m10_:Int)+1:=by omega
 have hz4_:(m10_:Int)+1≤((t2.length:Nat):Int):=by omega
 have hcm_:=xy HO4_0.out
 have hw_:wrap64 ((m10_:Int)+1)=(m10_:Int)+1:=by unfold wrap64;omega
 obtain⟨ax10_,hax_,hay_⟩:∃ q_:Addr,(if co4_0=m10_+1 then (some ⟨gd10_,0,none⟩:Option Addr) else some ⟨gd10_,(m10_+1)*2,none⟩)=some q_∧(q_=⟨gd10_,(m10_+1)*2,none⟩∨m10_+1=t2.length):=by by_cases hz_:co4_0=m10_+1;(· rw [if_pos hz_];exact⟨_,rfl,.inr (by omega)⟩);(· rw [if_neg hz_];exact⟨_,rfl,.inl rfl⟩)
 clear hm1_ hnc_ hcm_
 refine dN (n:=16) (S:=fun w'=>(w'.cell? ⟨gb1_,0,none⟩=some (.int .i64 a0_0)∧w'.cell? ⟨gb1_,1,none⟩=some (.slice A0_1 l0_1.length c0_1)∧w'.cell? ⟨gb1_,2,none⟩=some (.int .i64 a0_2))) (ds:=[15]) #[F,F,F,F,F,F,F,F,F,F,F,F,F,F,F,F] (by kernel_rfl) rfl rfl (av BK1.out) (fun hHeld=>?_)
 clear Q1 Q3 Q5
 have hb:=aV (Below.refl w8_.heap.size w8_)
 replace HS:=aHs HS hb.size
 replace HO4_0:=aSb HO4_0 hb
 replace BK1:=aBb BK1 hb
 replace BK3:=aBb BK3 hb
 replace BK5:=aBb BK5 hb
 replace HB:=aHB HB hb
 clear hb
 generalize w8_.drew=w15d_ at HO4_0 BK1 BK3 BK5 HB HS hHeld ⊢
 refine pd_ (i:=0) (N:=some 22) #[T,F,F,F,F,F,F,F,F,F,F,F,F,F,F,F] rfl ?_
 refine pd_ (i:=2) (N:=some 24) #[T,F,T,F,F,F,F,F,F,F,F,F,F,F,F,F] rfl ?_
 refine pd_ (i:=3) (N:=some 25) #[T,F,T,T,F,F,F,F,F,F,F,F,F,F,F,F] rfl ?_
 refine pd_ (i:=6) (N:=some 28) #[T,F,T,T,F,F,T,F,F,F,F,F,F,F,F,F] rfl ?_
 refine tl_ (i:=7) (N:=some 29) #[T,F,T,T,F,F,T,T,F,F,F,F,F,F,F,F] rfl hHeld ?_
 refine pd_ (i:=8) (N:=some 30) #[T,F,T,T,F,F,T,T,T,F,F,F,F,F,F,F] rfl ?_
 refine pd_ (i:=9) (N:=some 31) #[T,F,T,T,F,F,T,T,T,T,F,F,F,F,F,F] rfl ?_
 refine pd_ (i:=10) (N:=some 32) #[T,F,T,T,F,F,T,T,T,T,T,F,F,F,F,F] rfl ?_
 refine pd_ (i:=11) (N:=some 33) #[T,F,T,T,F,F,T,T,T,T,T,T,F,F,F,F] rfl ?_
 refine on_ (i:=1) (N:=some 23) #[T,T,T,T,F,F,T,T,T,T,T,T,F,F,F,F] rfl (fun K hK=>?_)
 have Q1:=av BK1.out
 have Q3:=av BK3.out
 have Q5:=av BK5.out
 refine kN (w1:=?_) (v:=?_) (by rfl) rfl ?_ ?_
 rotate_left 2
 ·go_simp
  first|rfl|(constructor <;> rfl)
 clear Q1 Q3 Q5
 refine hK.out _ _ (av BK1.out) (fun hHeld=>?_)
 clear hK K
 refine nm_ ?_
 refine pd_ (i:=4) (N:=some 26) #[T,T,T,T,T,F,T,T,T,T,T,T,F,F,F,F] rfl ?_
 refine on_ (i:=5) (N:=some 27) #[T,T,T,T,T,T,T,T,T,T,T,T,F,F,F,F] rfl (fun K hK=>?_)
 refine gz_ Tryz.func118 #[.slice (some ax10_) (t2.length-(m10_+1)) (co4_0-(m10_+1))] ?_
 refine(kW.calls (fun k_=>((w3_.heap.size≤k_∧k_<w4_.heap.size)∧f4_ k_=0)) gd10_ t2.length co4_0 (m10_+1) _ ax10_ t2 w _ HB.out HO4_0.out hz0_ hay_ LM10.out).mono ?_
 rintro e w10_ ⟨v_,rfl,ho,hbb,hkp⟩
 refine⟨_,rfl,?_⟩
 replace hkp:=hkp.mono (S':=fun k_=>k_<0) (fun _ h_=>h_.elim)
 replace ho:=(show _=y6 from Ny6.out.symm) ▸ ho
 revert BK1 BK3 BK5
 refine bC hkp HS ?_
 intro BK1 BK3 BK5
 replace HS:=aHs HS hkp.1
 obtain⟨Ao10,co10,ev_⟩:=Kd.dx ho
 subst ev_
 have HO10:=A_.mk (Kd.dw (ok':=(fun k_=>((w3_.heap.size≤k_∧k_<w4_.heap.size)∧f4_ k_=0)∨((w15d_.heap.size≤k_∧k_<w10_.heap.size)))) (Kd.ik ho) (fun k_ hk_=>by have:=hk_.1;have:=hk_.2.2.1;have:=hk_.2.1;clear hk_;(try dsimp only at *);have:=HS.out;omega))
 replace HB:=A_.mk hbb
 clear hkp hbb ho HO4_0
 refine hK.out _ _ (av BK1.out) (fun hHeld=>?_)
 clear hK K
 refine nm_ ?_
 refine pd_ (i:=12) (N:=some 34) #[T,T,T,T,T,T,T,T,T,T,T,T,T,F,F,F] rfl ?_
 refine on_ (i:=13) (N:=none) #[T,T,T,T,T,T,T,T,T,T,T,T,T,T,F,F] rfl (fun K hK=>?_)
 have Q1:=av BK1.out
 have Q3:=av BK3.out
 have Q5:=av BK5.out
 have qf0:=bf_ BK5.out 1
 obtain⟨w11_,hw⟩:=lw_ ((w10_.setCell ⟨gb5_,1,none⟩ (.slice Ao10 y6.length co10)))
 refine fT (w1:=w11_) (by rfl) rfl ?_ ?_
 ·rw [hw];go_simp;try rfl
 clear qf0 Q1 Q3 Q5
 obtain⟨hbx,hkp,hbb⟩:=nN hw BK5 HB (ho_ HS)
 clear hw
 revert BK1 BK3 HO10
 refine bC hkp HS ?_
 intro BK1 BK3 HO10
 replace BK5:=A_.mk hbx
 replace HB:=A_.mk hbb
 replace HS:=aHs HS hkp.1
 clear hkp hbb hbx
 refine hK.out _ _ (av BK1.out) (fun hHeld=>?_)
 clear hK K
 refine pd_ (i:=14) (N:=some 35) #[T,T,T,T,T,T,T,T,T,T,T,T,T,T,T,F] rfl ?_
 refine gG (i:=15) (N:=none) #[T,T,T,T,T,T,T,T,T,T,T,T,T,T,T,T] rfl rfl (by kernel_rfl) (by decide) (fun K hK=>?_)
 have Q1:=av BK1.out
 have Q3:=av BK3.out
 have Q5:=av BK5.out
 have qf0:=bf_ BK5.out 2
 obtain⟨w12_,hw⟩:=lw_ ((w11_.setCell ⟨gb5_,2,none⟩ (.int .i64 ji7)))
 refine fT (w1:=w12_) (by rfl) rfl ?_ ?_
 ·rw [hw];go_simp;try rfl
 refine hK.out _ _ ?_
 clear hK K qf0 Q1 Q3 Q5
 obtain⟨hbx,hkp,hbb⟩:=nu hw BK5 HB (ho_ HS)
 clear hw
 revert BK1 BK3 HO10
 refine bC hkp HS ?_
 intro BK1 BK3 HO10
 replace BK5:=A_.mk hbx
 replace HB:=A_.mk hbb
 replace HS:=aHs HS hkp.1
 clear hkp hbb hbx
 refine fA (by kernel_rfl) ?_
 have Q3:=av BK3.out
 have Q5:=av BK5.out
 go_wp2_with (first|((with_reducible refine ae (t:=36) (p:=4) rfl ?_);obtain⟨qf0,qf1,qf2⟩:=eT BK3;refine so_ (w1:=(iN w12_ gb3_ (.int .i64 t1) (.slice Ao10 y6.length co10) (.int .i64 ji7))) ?_;intro w13_ hw;clear qf0 qf1 qf2;obtain⟨hbx,hkp,hbb⟩:=iT hw BK3 HB (ho_ HS);clear hw;replace HO10:=aSk HO10 hkp HS;replace BK3:=A_.mk hbx;replace HB:=A_.mk hbb;replace HS:=aHs HS hkp.1;clear hkp hbb hbx Q3 Q5))
 refine bodyPost_ret (aM rfl _ _ gb3_ 36 _ (0,0) _ rfl BK3.out Tryz.underlying36 rfl (by kernel_rfl)) rfl ?_
 obtain⟨f_,hf_⟩:=mS_ HO10 0 (m0_ 0)
 exact⟨f_,_,rfl,cS_ HO10 HS hf_,HB.out⟩
def eP.f(k:Nat)(a0_0:Int)(l0_1:List (S68))(a0_2:Int)(a0_3:Int)(l0_4:List (List Int))(l0_5:List (List Int))(l0_6:List Int):Option ((Bool)×(Int)×(List (S68))×(Int)×(Int)×(List (List Int))×(List (List Int))×(List Int)):=(if (l0_6.length:Int)=0 then (some (false,a0_0,l0_1,a0_2,a0_3,l0_4,l0_5,l0_6)) else (if 0≤(0:Int) then (if (0:Int)<(l0_6.length:Int) then (if 0≤(0:Int) then (if (0:Int)<(l0_6.length:Int) then ((gN.f k a0_0 l0_1 a0_2 (Int.tmod (rd l0_6 (0:Int)) 100)).bind fun ⟨t2,t3,t4,t5⟩=>(if 100≤(rd l0_6 (0:Int)) then ((gX.f k t2 t3 t4).bind fun ⟨t6,t7,t8⟩=>(some (true,t6,t7,t8,a0_3,l0_4,l0_5,(l0_6.eraseIdx ((0:Int)).toNat)))) else (some (true,t2,t3,t4,a0_3,l0_4,l0_5,(l0_6.eraseIdx ((0:Int)).toNat))))) else none) else none) else none) else none))
theorem eP.calls(k:Nat)(gb_:Nat)(f0_:Nat→Nat)(a0_0:Int)(A0_1:Option Addr)(c0_1:Nat)(l0_1:List (S68))(a0_2:Int)(a0_3:Int)(A0_4:Option Addr)(c0_4:Nat)(l0_4:List (List Int))(A0_5:Option Addr)(c0_5:Nat)(l0_5:List (List Int))(A0_6:Option Addr)(c0_6:Nat)(l0_6:List Int)(r1:Bool)(r2:Int)(r3:List (S68))(r4:Int)(r5:Int)(r6:List (List Int))(r7:List (List Int))(r8:List Int)(w w1:World)(hB:Below w.heap.size w w1)(hg:w.heap.size≤gb_)(hbx:w1.heap[gb_]?=some (.cells #[.int .i64 a0_0,.slice A0_1 l0_1.length c0_1,.int .i64 a0_2,.int .i64 a0_3,.slice A0_4 l0_4.length c0_4,.slice A0_5 l0_5.length c0_5,.slice A0_6 l0_6.length c0_6] 39 (0,0)))(hp0_1:Kd.S k68 68 w1 w.heap.size (fun k_=>(w.heap.size≤k_∧k_<w1.heap.size)∧k_≠gb_∧f0_ k_=0) (.slice A0_1 l0_1.length c0_1) l0_1)(hp0_4:Kd.S (Kd.slice 3 (Kd.int .i64)) 28 w1 w.heap.size (fun k_=>(w.heap.size≤k_∧k_<w1.heap.size)∧k_≠gb_∧f0_ k_=1) (.slice A0_4 l0_4.length c0_4) l0_4)(hp0_5:Kd.S (Kd.slice 3 (Kd.int .i64)) 28 w1 w.heap.size (fun k_=>(w.heap.size≤k_∧k_<w1.heap.size)∧k_≠gb_∧f0_ k_=2) (.slice A0_5 l0_5.length c0_5) l0_5)(hp0_6:Kd.R (Kd.int .i64) 3 w1 w.heap.size (fun k_=>(w.heap.size≤k_∧k_<w1.heap.size)∧k_≠gb_∧f0_ k_=3) (.slice A0_6 l0_6.length c0_6) l0_6)(h:eP.f k a0_0 l0_1 a0_2 a0_3 l0_4 l0_5 l0_6=some (r1,r2,r3,r4,r5,r6,r7,r8)) :
  Calls Tryz.prog 57 #[.pointer (some ⟨gb_,0,none⟩)] w1 fun e w'=>∃ f_:Nat→Nat,∃ v0_ v1_ v2_ v3_:Value,e=.returned (.bool r1)∧w'.heap[gb_]?=some (.cells #[.int .i64 r2,v0_,.int .i64 r4,.int .i64 r5,v1_,v2_,v3_] 39 (0,0))∧Kd.S k68 68 w' w.heap.size (fun k_=>(w.heap.size≤k_∧k_<w'.heap.size)∧k_≠gb_∧f_ k_=0) v0_ r3∧Kd.S (Kd.slice 3 (Kd.int .i64)) 28 w' w.heap.size (fun k_=>(w.heap.size≤k_∧k_<w'.heap.size)∧k_≠gb_∧f_ k_=1) v1_ r6∧Kd.S (Kd.slice 3 (Kd.int .i64)) 28 w' w.heap.size (fun k_=>(w.heap.size≤k_∧k_<w'.heap.size)∧k_≠gb_∧f_ k_=2) v2_ r7∧Kd.R (Kd.int .i64) 3 w' w.heap.size (fun k_=>(w.heap.size≤k_∧k_<w'.heap.size)∧k_≠gb_∧f_ k_=3) v3_ r8∧(∀ k_,k_<w1.heap.size→f_ k_<4→k_=gb_∨f0_ k_<4)∧Below w.heap.size w w'∧Kept w1 w' (fun k_=>k_=gb_∨((w.heap.size≤k_∧k_<w1.heap.size)∧k_≠gb_∧f0_ k_<4)):=by
 obtain⟨gb1_,rfl⟩:∃ q_,q_=gb_:=⟨_,rfl⟩
 have HO0_1:=A_.mk hp0_1
 clear hp0_1
 have HO0_4:=A_.mk hp0_4
 clear hp0_4
 have HO0_5:=A_.mk hp0_5
 clear hp0_5
 have HO0_6:=A_.mk hp0_6
 clear hp0_6
 have BK1:=A_.mk hbx
 have HS:=A_.mk (And.intro hB.size (And.intro hg (aI hbx)))
 have HK:=A_.mk (Kept.refl w1 (fun k_=>k_=gb1_∨((w.heap.size≤k_∧k_<w1.heap.size)∧k_≠gb1_∧f0_ k_<4)))
 clear hbx hg
 have HB:=A_.mk hB
 clear hB
 unfold eP.f at h
 have H:=h
 clear h
 by_cases hc1_:(l0_6.length:Int)=0
 case pos =>
  rw [if_pos hc1_] at H
  have hc1_b1:(l0_6.length==0)=true:=by first|simpa using hc1_|(simp at hc1_ ⊢;omega)
  replace hc1_:=iF hc1_
  replace H:=il H
  obtain⟨rfl,rfl,rfl,rfl,rfl,rfl,rfl,rfl⟩:=H
  have hu39:=Tryz.underlying39
  go_enter Tryz.func57,Tryz.ntmps57
  have Q1:=aa BK1.out
  go_wp2
  go_ret
  obtain⟨f_,hf_⟩:=mS_ HO0_1 0 (mS_ HO0_4 1 (mS_ HO0_5 2 (mR_ HO0_6 3 (m0_ 4))))
  have hfk_:∀ k_,k_<w1.heap.size→f_ k_<4→k_=gb1_∨f0_ k_<4:=fun k_ h1_ h2_=>by have:=HS.out;rw [hf_] at h2_;repeat' (first|omega|split at h2_)
  first|exact ⟨f_,_,_,_,_,rfl,BK1.out,cS_ HO0_1 HS hf_,cS_ HO0_4 HS hf_,cS_ HO0_5 HS hf_,cR_ HO0_6 HS hf_,hfk_,HB.out,HK.out⟩|exact ⟨rfl,f_,_,_,_,_,BK1.out,cS_ HO0_1 HS hf_,cS_ HO0_4 HS hf_,cS_ HO0_5 HS hf_,cR_ HO0_6 HS hf_,hfk_,HB.out,HK.out⟩
 rw [if_neg hc1_] at H
 have hc1_b:=iE hc1_
 have hc1_b1:(l0_6.length==0)=false:=by first|simpa using hc1_|(simp at hc1_ ⊢;omega)
 replace H:=ky H
 obtain⟨hp2_,hq2_,H⟩:=H
 have EB2:=A_.mk (And.intro hp2_ hq2_)
 have hn2_:(0<l0_6.length)=True:=eq_true (by omega)
 replace hp2_:=eq_true hp2_
 replace hq2_:=eq_true hq2_
 replace H:=ky H
 obtain⟨hp3_,hq3_,H⟩:=H
 have EB3:=A_.mk (And.intro hp3_ hq3_)
 clear hp3_ hq3_
 obtain⟨y1,Ny1⟩:=le_ ((l0_6.eraseIdx ((0:Int)).toNat))
 rw [←Ny1.out] at H
 replace H:=oa_ H
 obtain⟨⟨t2,t3,t4,t5⟩,A5,H⟩:=H
 try dsimp only at H
 by_cases hc2_:100≤(rd l0_6 (0:Int))
 case pos =>
  rw [if_pos hc2_] at H
  have hc2_b0:=decide_eq_true hc2_
  replace hc2_:=A_.mk hc2_
  replace H:=oa_ H
  obtain⟨⟨t6,t7,t8⟩,A7,H⟩:=H
  try dsimp only at H
  replace H:=il H
  obtain⟨rfl,rfl,rfl,rfl,rfl,rfl,rfl,rfl⟩:=H
  have hu39:=Tryz.underlying39
  go_enter Tryz.func57,Tryz.ntmps57
  have Q1:=aa BK1.out
  obtain⟨gHO0_6_,ed_⟩:=ry HO0_6.out (by have:=EB2.out;omega)
  subst ed_
  have QE2:=(show w1.cell? ⟨gHO0_6_,0,none⟩=some (.int .i64 (rd l0_6 (0:Int))) from nP HO0_6.out EB2.out)
  have QF2:=(show w1.frozen? ⟨gHO0_6_,0,none⟩=false from o6 HO0_6.out EB2.out)
  go_wp2_with (first|((with_reducible refine gc_ (f:=96) rfl ?_);have gd3_:=0;refine gl_ (some 21) Tryz.func96 #[.slice (some ⟨gHO0_6_,0,none⟩) l0_6.length c0_6,.int .i64 (0:Int),.int .i64 1] ?_;refine(kv (by rw [show wrap64 ((0:Int)+1)=1 from (by unfold wrap64;omega)]) (jV.calls (fun k_=>((w.heap.size≤k_∧k_<w1.heap.size)∧k_≠gb1_∧f0_ k_=3)) _ _ _ l0_6 (0:Int) w _ HB.out HO0_6.out EB3.out.1 EB3.out.2)).mono ?_;rintro e w3_ ⟨he_,ho,hb2,hkp⟩;rw [←Ny1.out] at ho;have hl_:=(Kd.eQ ho).1;rw [hl_] at he_ ho;subst he_;clear hl_;refine⟨_,rfl,?_⟩;replace hkp:=Kept.mono (S':=fun k_=>((w.heap.size≤k_∧k_<w1.heap.size)∧k_≠gb1_∧f0_ k_=3)) hkp (fun k_ e_=>by subst e_;exact HO0_6.out.1 _ rfl);replace HK:=kt_ HK hkp HS;replace HO0_1:=aSk HO0_1 hkp HS;replace HO0_4:=aSk HO0_4 hkp HS;replace HO0_5:=aSk HO0_5 hkp HS;replace BK1:=aBk BK1 hkp HS;replace HS:=aHs HS hkp.1;have HO3:=A_.mk ho;replace HB:=A_.mk hb2;clear hkp hb2 ho HO0_6 Q1 QE2 QF2;have Q1:=aa BK1.out)|((with_reducible refine ae (t:=28) (p:=23) rfl ?_);have qf0:=bf_ BK1.out 6;refine so_ (w1:=(w3_.setCell ⟨gb1_,6,none⟩ (.slice (some ⟨gHO0_6_,0,none⟩) y1.length c0_6))) ?_;intro w4_ hw;clear qf0;obtain⟨hbx,hkp,hbb⟩:=jD hw BK1 HB (ho_ HS);clear hw;replace HK:=kt_ HK hkp HS;revert HO0_1 HO0_4 HO0_5 HO3;refine bC hkp HS ?_;intro HO0_1 HO0_4 HO0_5 HO3;replace BK1:=A_.mk hbx;replace HB:=A_.mk hbb;replace HS:=aHs HS hkp.1;clear hkp hbb hbx Q1;have Q1:=aa BK1.out)|((with_reducible refine gc_ (f:=97) rfl ?_);refine gl_ (some 32) Tryz.func97 #[.agg #[.int .i64 a0_0,.slice A0_1 l0_1.length c0_1,.int .i64 a0_2],.int .i64 (Int.tmod (rd l0_6 (0:Int)) 100)] ?_;(with_reducible refine (gN.calls k a0_0 _ _ l0_1 a0_2 (Int.tmod (rd l0_6 (0:Int)) 100) t2 t3 t4 t5 _ (dV HO0_1) (dS HO0_1) A5.out).mono ?_);rintro e w5_ ⟨f5_,v0_,rfl,ho0_,hb⟩;refine⟨_,rfl,?_⟩;replace HS:=aHs HS hb.size;obtain⟨Ao5_0,co5_0,rfl,HO5_0⟩:=sSn ho0_ HB.out.size;revert HK HO0_1 HO0_4 HO0_5 HO3 BK1 HB;refine aD hb ?_;intro HK HO0_1 HO0_4 HO0_5 HO3 BK1 HB;clear hb ho0_ Q1;have Q1:=aa BK1.out)|((with_reducible refine ae (t:=36) (p:=36) rfl ?_);obtain⟨qf0,qf1,qf2⟩:=eT BK1;refine so_ (w1:=(((w5_.setCell ⟨gb1_,0,none⟩ (.int .i64 t2)).setCell ⟨gb1_,1,none⟩ (.slice Ao5_0 t3.length co5_0)).setCell ⟨gb1_,2,none⟩ (.int .i64 t4))) ?_;intro w6_ hw;clear qf0 qf1 qf2;obtain⟨hbx,hkp,hbb⟩:=jd hw BK1 HB (ho_ HS);clear hw;replace HK:=kt_ HK hkp HS;revert HO5_0 HO0_4 HO0_5 HO3;refine bC hkp HS ?_;intro HO5_0 HO0_4 HO0_5 HO3;replace BK1:=A_.mk hbx;replace HB:=A_.mk hbb;replace HS:=aHs HS hkp.1;clear hkp hbb hbx Q1;have Q1:=aa BK1.out)|((with_reducible refine gc_ (f:=88) rfl ?_);refine gl_ (some 44) Tryz.func88 #[.agg #[.int .i64 t2,.slice Ao5_0 t3.length co5_0,.int .i64 t4]] ?_;(with_reducible refine (gX.calls k t2 _ _ t3 t4 t6 t7 t8 _ (dV HO5_0) (dS HO5_0) A7.out).mono ?_);rintro e w7_ ⟨f7_,v0_,rfl,ho0_,hb⟩;refine⟨_,rfl,?_⟩;replace HS:=aHs HS hb.size;obtain⟨Ao7_0,co7_0,rfl,HO7_0⟩:=sSn ho0_ HB.out.size;revert HK HO5_0 HO0_4 HO0_5 HO3 BK1 HB;refine aD hb ?_;intro HK HO5_0 HO0_4 HO0_5 HO3 BK1 HB;clear hb ho0_ Q1;have Q1:=aa BK1.out)|((with_reducible refine ae (t:=36) (p:=46) rfl ?_);obtain⟨qf0,qf1,qf2⟩:=eT BK1;refine so_ (w1:=(((w7_.setCell ⟨gb1_,0,none⟩ (.int .i64 t6)).setCell ⟨gb1_,1,none⟩ (.slice Ao7_0 t7.length co7_0)).setCell ⟨gb1_,2,none⟩ (.int .i64 t8))) ?_;intro w8_ hw;clear qf0 qf1 qf2;obtain⟨hbx,hkp,hbb⟩:=jd hw BK1 HB (ho_ HS);clear hw;replace HK:=kt_ HK hkp HS;revert HO7_0 HO0_4 HO0_5 HO3;refine bC hkp HS ?_;intro HO7_0 HO0_4 HO0_5 HO3;replace BK1:=A_.mk hbx;replace HB:=A_.mk hbb;replace HS:=aHs HS hkp.1;clear hkp hbb hbx Q1))
  go_ret
  obtain⟨f_,hf_⟩:=mS_ HO7_0 0 (mS_ HO0_4 1 (mS_ HO0_5 2 (mR_ HO3 3 (m0_ 4))))
  have hfk_:∀ k_,k_<w1.heap.size→f_ k_<4→k_=gb1_∨f0_ k_<4:=fun k_ h1_ h2_=>by have:=HS.out;rw [hf_] at h2_;repeat' (first|omega|split at h2_)
  first|exact ⟨f_,_,_,_,_,rfl,BK1.out,cS_ HO7_0 HS hf_,cS_ HO0_4 HS hf_,cS_ HO0_5 HS hf_,cR_ HO3 HS hf_,hfk_,HB.out,HK.out⟩|exact ⟨rfl,f_,_,_,_,_,BK1.out,cS_ HO7_0 HS hf_,cS_ HO0_4 HS hf_,cS_ HO0_5 HS hf_,cR_ HO3 HS hf_,hfk_,HB.out,HK.out⟩
 rw [if_neg hc2_] at H
 have hc2_b0:=decide_eq_false hc2_
 replace hc2_:=A_.mk hc2_
 replace H:=il H
 obtain⟨rfl,rfl,rfl,rfl,rfl,rfl,rfl,rfl⟩:=H
 have hu39:=Tryz.underlying39
 go_enter Tryz.func57,Tryz.ntmps57
 have Q1:=aa BK1.out
 obtain⟨gHO0_6_,ed_⟩:=ry HO0_6.out (by have:=EB2.out;omega)
 subst ed_
 have QE2:=(show w1.cell? ⟨gHO0_6_,0,none⟩=some (.int .i64 (rd l0_6 (0:Int))) from nP HO0_6.out EB2.out)
 have QF2:=(show w1.frozen? ⟨gHO0_6_,0,none⟩=false from o6 HO0_6.out EB2.out)
 go_wp2_with (first|((with_reducible refine gc_ (f:=96) rfl ?_);have gd3_:=0;refine gl_ (some 21) Tryz.func96 #[.slice (some ⟨gHO0_6_,0,none⟩) l0_6.length c0_6,.int .i64 (0:Int),.int .i64 1] ?_;refine(kv (by rw [show wrap64 ((0:Int)+1)=1 from (by unfold wrap64;omega)]) (jV.calls (fun k_=>((w.heap.size≤k_∧k_<w1.heap.size)∧k_≠gb1_∧f0_ k_=3)) _ _ _ l0_6 (0:Int) w _ HB.out HO0_6.out EB3.out.1 EB3.out.2)).mono ?_;rintro e w3_ ⟨he_,ho,hb2,hkp⟩;rw [←Ny1.out] at ho;have hl_:=(Kd.eQ ho).1;rw [hl_] at he_ ho;subst he_;clear hl_;refine⟨_,rfl,?_⟩;replace hkp:=Kept.mono (S':=fun k_=>((w.heap.size≤k_∧k_<w1.heap.size)∧k_≠gb1_∧f0_ k_=3)) hkp (fun k_ e_=>by subst e_;exact HO0_6.out.1 _ rfl);replace HK:=kt_ HK hkp HS;replace HO0_1:=aSk HO0_1 hkp HS;replace HO0_4:=aSk HO0_4 hkp HS;replace HO0_5:=aSk HO0_5 hkp HS;replace BK1:=aBk BK1 hkp HS;replace HS:=aHs HS hkp.1;have HO3:=A_.mk ho;replace HB:=A_.mk hb2;clear hkp hb2 ho HO0_6 Q1 QE2 QF2;have Q1:=aa BK1.out)|((with_reducible refine ae (t:=28) (p:=23) rfl ?_);have qf0:=bf_ BK1.out 6;refine so_ (w1:=(w3_.setCell ⟨gb1_,6,none⟩ (.slice (some ⟨gHO0_6_,0,none⟩) y1.length c0_6))) ?_;intro w4_ hw;clear qf0;obtain⟨hbx,hkp,hbb⟩:=jD hw BK1 HB (ho_ HS);clear hw;replace HK:=kt_ HK hkp HS;revert HO0_1 HO0_4 HO0_5 HO3;refine bC hkp HS ?_;intro HO0_1 HO0_4 HO0_5 HO3;replace BK1:=A_.mk hbx;replace HB:=A_.mk hbb;replace HS:=aHs HS hkp.1;clear hkp hbb hbx Q1;have Q1:=aa BK1.out)|((with_reducible refine gc_ (f:=97) rfl ?_);refine gl_ (some 32) Tryz.func97 #[.agg #[.int .i64 a0_0,.slice A0_1 l0_1.length c0_1,.int .i64 a0_2],.int .i64 (Int.tmod (rd l0_6 (0:Int)) 100)] ?_;(with_reducible refine (gN.calls k a0_0 _ _ l0_1 a0_2 (Int.tmod (rd l0_6 (0:Int)) 100) t2 t3 t4 t5 _ (dV HO0_1) (dS HO0_1) A5.out).mono ?_);rintro e w5_ ⟨f5_,v0_,rfl,ho0_,hb⟩;refine⟨_,rfl,?_⟩;replace HS:=aHs HS hb.size;obtain⟨Ao5_0,co5_0,rfl,HO5_0⟩:=sSn ho0_ HB.out.size;revert HK HO0_1 HO0_4 HO0_5 HO3 BK1 HB;refine aD hb ?_;intro HK HO0_1 HO0_4 HO0_5 HO3 BK1 HB;clear hb ho0_ Q1;have Q1:=aa BK1.out)|((with_reducible refine ae (t:=36) (p:=36) rfl ?_);obtain⟨qf0,qf1,qf2⟩:=eT BK1;refine so_ (w1:=(((w5_.setCell ⟨gb1_,0,none⟩ (.int .i64 t2)).setCell ⟨gb1_,1,none⟩ (.slice Ao5_0 t3.length co5_0)).setCell ⟨gb1_,2,none⟩ (.int .i64 t4))) ?_;intro w6_ hw;clear qf0 qf1 qf2;obtain⟨hbx,hkp,hbb⟩:=jd hw BK1 HB (ho_ HS);clear hw;replace HK:=kt_ HK hkp HS;revert HO5_0 HO0_4 HO0_5 HO3;refine bC hkp HS ?_;intro HO5_0 HO0_4 HO0_5 HO3;replace BK1:=A_.mk hbx;replace HB:=A_.mk hbb;replace HS:=aHs HS hkp.1;clear hkp hbb hbx Q1))
 go_ret
 obtain⟨f_,hf_⟩:=mS_ HO5_0 0 (mS_ HO0_4 1 (mS_ HO0_5 2 (mR_ HO3 3 (m0_ 4))))
 have hfk_:∀ k_,k_<w1.heap.size→f_ k_<4→k_=gb1_∨f0_ k_<4:=fun k_ h1_ h2_=>by have:=HS.out;rw [hf_] at h2_;repeat' (first|omega|split at h2_)
 first|exact ⟨f_,_,_,_,_,rfl,BK1.out,cS_ HO5_0 HS hf_,cS_ HO0_4 HS hf_,cS_ HO0_5 HS hf_,cR_ HO3 HS hf_,hfk_,HB.out,HK.out⟩|exact ⟨rfl,f_,_,_,_,_,BK1.out,cS_ HO5_0 HS hf_,cS_ HO0_4 HS hf_,cS_ HO0_5 HS hf_,cR_ HO3 HS hf_,hfk_,HB.out,HK.out⟩
def eH.f(k:Nat)(a0_0:Int)(l0_1:List (S68))(a0_2:Int)(l1:List Int):Option ((Int)×(List (S68))×(Int)×(Bool)):=((bg.f k a0_0 l0_1 a0_2).bind fun ⟨t1,t2,t3⟩=>((aY.f k a0_0 l0_1 a0_2).bind fun t4=>(if t4=true then ((bf.f k l1).bind fun t5=>(if t5=true then (if (l0_1.length:Int)=7 then (some (t1,t2,t3,false)) else ((ai.f l1).bind fun t6=>(if (t2.length+1)*32≤140737488355328 then ((gP.f a0_0).bind fun t8=>(some (t8,(t2++[(⟨a0_0,t6⟩:S68)]),t3,true))) else none))) else (some (t1,t2,t3,false)))) else (some (t1,t2,t3,false)))))
theorem eH.calls(k:Nat)(a0_0:Int)(A0_1:Option Addr)(c0_1:Nat)(l0_1:List (S68))(a0_2:Int)(A1:Option Addr)(c1:Nat)(l1:List Int)(r1:Int)(r2:List (S68))(r3:Int)(r4:Bool)(w:World)(hr0_1:Kd.C k68 w A0_1 l0_1.length l0_1)(hc0_1:l0_1.length≤c0_1)(hr1:Kd.C (Kd.int .i64) w A1 l1.length l1)(hc1:l1.length≤c1)(h:eH.f k a0_0 l0_1 a0_2 l1=some (r1,r2,r3,r4)) :
  Calls Tryz.prog 85 #[.agg #[.int .i64 a0_0,.slice A0_1 l0_1.length c0_1,.int .i64 a0_2],.slice A1 l1.length c1] w fun e w'=>∃ f_:Nat→Nat,∃ v0_:Value,e=.returned (.tuple #[.agg #[.int .i64 r1,v0_,.int .i64 r3],.bool r4])∧Kd.S k68 68 w' w.heap.size (fun k_=>f_ k_=0) v0_ r2∧Below w.heap.size w w':=by
 have HR0_1:=A_.mk hr0_1
 have HC0_1:=A_.mk hc0_1
 clear hr0_1 hc0_1
 have HR1:=A_.mk hr1
 have HC1:=A_.mk hc1
 clear hr1 hc1
 have HB:=A_.mk (Below.refl w.heap.size w)
 unfold eH.f at h
 have H:=h
 clear h
 replace H:=oa_ H
 obtain⟨⟨t1,t2,t3⟩,A3,H⟩:=H
 try dsimp only at H
 replace H:=oa_ H
 obtain⟨t4,A6,H⟩:=H
 replace H:=A_.mk H
 have hu36:=Tryz.underlying36
 go_enter Tryz.func85,Tryz.ntmps85
 have HS:=A_.mk (Nat.le_refl w.heap.size)
 go_wp2_with (first|((with_reducible refine gd_ (N:=2) rfl ?_);refine by_ 2 (cs:=#[.int .i64 a0_0,.slice A0_1 l0_1.length c0_1,.int .i64 a0_2]) (t:=36) ?_;intro gb1_ hg w1_ hbox hb;replace HS:=aHg HS hg hbox;replace HB:=aHB HB hb;have BK1:=A_.mk hbox;clear hbox hb hg)|((with_reducible refine gd_ (N:=4) rfl ?_);refine by_ 4 (cs:=#[.int .i64 0,.slice none 0 0,.int .i64 0]) (t:=36) ?_;intro gb2_ hg w2_ hbox hb;replace HS:=aHg HS hg hbox;replace BK1:=aBb BK1 hb;replace HB:=aHB HB hb;have BK2:=A_.mk hbox;clear hbox hb hg;have Q1:=av BK1.out)|((with_reducible refine gc_ (f:=73) rfl ?_);refine gl_ (some 8) Tryz.func73 #[.agg #[.int .i64 a0_0,.slice A0_1 l0_1.length c0_1,.int .i64 a0_2]] ?_;(with_reducible refine (bg.calls k a0_0 _ _ l0_1 a0_2 t1 t2 t3 _ (cb_ HR0_1 HB) HC0_1.out A3.out).mono ?_);rintro e w3_ ⟨f3_,v0_,rfl,ho0_,hb⟩;refine⟨_,rfl,?_⟩;replace HS:=aHs HS hb.size;obtain⟨Ao3_0,co3_0,rfl,HO3_0⟩:=sSn ho0_ HB.out.size;revert BK1 HB BK2;refine aD hb ?_;intro BK1 HB BK2;clear hb ho0_ Q1)|((with_reducible refine gd_ (N:=6) rfl ?_);refine by_ 6 (cs:=#[.int .i64 0,.slice none 0 0,.int .i64 0]) (t:=36) ?_;intro gb4_ hg w4_ hbox hb;replace HS:=aHg HS hg hbox;revert HO3_0 BK1 HB BK2;refine aD hb ?_;intro HO3_0 BK1 HB BK2;have BK4:=A_.mk hbox;clear hbox hb hg;have Q4:=av BK4.out)|((with_reducible refine ae (t:=36) (p:=6) rfl ?_);obtain⟨qf0,qf1,qf2⟩:=eT BK4;refine so_ (w1:=(iN w4_ gb4_ (.int .i64 t1) (.slice Ao3_0 t2.length co3_0) (.int .i64 t3))) ?_;intro w5_ hw;clear qf0 qf1 qf2;obtain⟨hbx,hkp,hbb⟩:=iT hw BK4 HB (ho_ HS);clear hw;revert HO3_0 BK1 BK2;refine bC hkp HS ?_;intro HO3_0 BK1 BK2;replace BK4:=A_.mk hbx;replace HB:=A_.mk hbb;replace HS:=aHs HS hkp.1;clear hkp hbb hbx Q4;have Q1:=av BK1.out))
 refine(aY.calls k a0_0 _ _ l0_1 a0_2 t4 _ (cb_ HR0_1 HB) HC0_1.out A6.out).mono ?_
 rintro e w6_ ⟨rfl,hb⟩
 revert HO3_0 BK1 BK2 BK4 HB HS
 refine aD hb ?_
 intro HO3_0 BK1 BK2 BK4 HB HS
 clear hb  Q1
 have Q1:=av BK1.out
 have Q2:=av BK2.out
 have Q4:=av BK4.out
 replace H:=H.out
 by_cases hc1_:t4=true
 case neg =>
  rw [if_neg hc1_] at H
  replace hc1_:=eq_false_of_ne_true hc1_
  subst hc1_
  replace H:=mo H
  obtain⟨rfl,rfl,rfl,rfl⟩:=H
  go_wp2_with (first|((with_reducible refine ae (t:=36) (p:=4) rfl ?_);obtain⟨qf0,qf1,qf2⟩:=eT BK2;refine so_ (w1:=(iN w6_ gb2_ (.int .i64 t1) (.slice Ao3_0 t2.length co3_0) (.int .i64 t3))) ?_;intro w16_ hw;clear qf0 qf1 qf2;obtain⟨hbx,hkp,hbb⟩:=iT hw BK2 HB (ho_ HS);clear hw;replace HO3_0:=aSk HO3_0 hkp HS;replace BK2:=A_.mk hbx;replace HB:=A_.mk hbb;replace HS:=aHs HS hkp.1;clear hkp hbb hbx Q1 Q2 Q4))
  refine bodyPost_ret (aM rfl _ _ gb2_ 36 _ (0,0) _ rfl BK2.out Tryz.underlying36 rfl (by kernel_rfl)) rfl ?_
  obtain⟨f_,hf_⟩:=mS_ HO3_0 0 (m0_ 0)
  exact⟨f_,_,rfl,cS_ HO3_0 HS hf_,HB.out⟩
 rw [if_pos hc1_] at H
 subst hc1_
 replace H:=oa_ H
 obtain⟨t5,A7,H⟩:=H
 replace H:=A_.mk H
 go_wp2_with (fail)
 refine(bf.calls k _ _ l1 t5 _ (cb_ HR1 HB) HC1.out A7.out).mono ?_
 rintro e w7_ ⟨rfl,hb⟩
 replace hb:=Drawn0.below hb
 replace HS:=aHs HS hb.size
 replace HO3_0:=aSb HO3_0 hb
 replace BK1:=aBb BK1 hb
 replace BK2:=aBb BK2 hb
 replace BK4:=aBb BK4 hb
 replace HB:=aHB HB hb
 clear hb  Q1 Q2 Q4
 have Q1:=av BK1.out
 have Q2:=av BK2.out
 have Q4:=av BK4.out
 replace H:=H.out
 by_cases hc2_:t5=true
 case neg =>
  rw [if_neg hc2_] at H
  replace hc2_:=eq_false_of_ne_true hc2_
  subst hc2_
  replace H:=mo H
  obtain⟨rfl,rfl,rfl,rfl⟩:=H
  go_wp2_with (first|((with_reducible refine ae (t:=36) (p:=4) rfl ?_);obtain⟨qf0,qf1,qf2⟩:=eT BK2;refine so_ (w1:=(iN w7_ gb2_ (.int .i64 t1) (.slice Ao3_0 t2.length co3_0) (.int .i64 t3))) ?_;intro w15_ hw;clear qf0 qf1 qf2;obtain⟨hbx,hkp,hbb⟩:=iT hw BK2 HB (ho_ HS);clear hw;replace HO3_0:=aSk HO3_0 hkp HS;replace BK2:=A_.mk hbx;replace HB:=A_.mk hbb;replace HS:=aHs HS hkp.1;clear hkp hbb hbx Q1 Q2 Q4))
  refine bodyPost_ret (aM rfl _ _ gb2_ 36 _ (0,0) _ rfl BK2.out Tryz.underlying36 rfl (by kernel_rfl)) rfl ?_
  obtain⟨f_,hf_⟩:=mS_ HO3_0 0 (m0_ 0)
  exact⟨f_,_,rfl,cS_ HO3_0 HS hf_,HB.out⟩
 rw [if_pos hc2_] at H
 subst hc2_
 by_cases hc3_:(l0_1.length:Int)=7
 case pos =>
  rw [if_pos hc3_] at H
  have hc3_b1:(l0_1.length==7)=true:=by first|simpa using hc3_|(simp at hc3_ ⊢;omega)
  replace hc3_:=iF hc3_
  replace H:=mo H
  obtain⟨rfl,rfl,rfl,rfl⟩:=H
  go_wp2_with (first|((with_reducible refine ae (t:=36) (p:=4) rfl ?_);obtain⟨qf0,qf1,qf2⟩:=eT BK2;refine so_ (w1:=(iN w7_ gb2_ (.int .i64 t1) (.slice Ao3_0 t2.length co3_0) (.int .i64 t3))) ?_;intro w8_ hw;clear qf0 qf1 qf2;obtain⟨hbx,hkp,hbb⟩:=iT hw BK2 HB (ho_ HS);clear hw;replace HO3_0:=aSk HO3_0 hkp HS;replace BK2:=A_.mk hbx;replace HB:=A_.mk hbb;replace HS:=aHs HS hkp.1;clear hkp hbb hbx Q1 Q2 Q4))
  refine bodyPost_ret (aM rfl _ _ gb2_ 36 _ (0,0) _ rfl BK2.out Tryz.underlying36 rfl (by kernel_rfl)) rfl ?_
  obtain⟨f_,hf_⟩:=mS_ HO3_0 0 (m0_ 0)
  exact⟨f_,_,rfl,cS_ HO3_0 HS hf_,HB.out⟩
 rw [if_neg hc3_] at H
 have hc3_b:=iE hc3_
 have hc3_b1:(l0_1.length==7)=false:=by first|simpa using hc3_|(simp at hc3_ ⊢;omega)
 replace H:=oa_ H
 obtain⟨t6,A9,H⟩:=H
 replace H:=lM H
 obtain⟨LM10,H⟩:=H
 obtain⟨y7,Ny7⟩:=le_ ((t2++[(⟨a0_0,t6⟩:S68)]))
 rw [←Ny7.out] at H
 replace H:=oa_ H
 obtain⟨t8,A12,H⟩:=H
 replace H:=mo H
 obtain⟨rfl,rfl,rfl,rfl⟩:=H
 go_wp2_with (fail)
 refine dN (n:=11) (S:=fun w'=>(w'.cell? ⟨gb1_,0,none⟩=some (.int .i64 a0_0)∧w'.cell? ⟨gb1_,1,none⟩=some (.slice A0_1 l0_1.length c0_1)∧w'.cell? ⟨gb1_,2,none⟩=some (.int .i64 a0_2))∧(w'.cell? ⟨gb4_,0,none⟩=some (.int .i64 t1)∧w'.cell? ⟨gb4_,1,none⟩=some (.slice Ao3_0 t2.length co3_0)∧w'.cell? ⟨gb4_,2,none⟩=some (.int .i64 t3))) (ds:=[10]) #[F,F,F,F,F,F,F,F,F,F,F] (by kernel_rfl) rfl rfl ⟨av BK1.out,av BK4.out⟩ (fun hHeld=>?_)
 clear Q1 Q2 Q4
 have hb:=aV (Below.refl w7_.heap.size w7_)
 replace HS:=aHs HS hb.size
 replace HO3_0:=aSb HO3_0 hb
 replace BK1:=aBb BK1 hb
 replace BK2:=aBb BK2 hb
 replace BK4:=aBb BK4 hb
 replace HB:=aHB HB hb
 clear hb
 generalize w7_.drew=w17d_ at HO3_0 BK1 BK2 BK4 HB HS hHeld ⊢
 refine pd_ (i:=0) (N:=some 24) #[T,F,F,F,F,F,F,F,F,F,F] rfl ?_
 refine tl_ (i:=1) (N:=some 25) #[T,T,F,F,F,F,F,F,F,F,F] rfl hHeld ?_
 refine pd_ (i:=2) (N:=some 26) #[T,T,T,F,F,F,F,F,F,F,F] rfl ?_
 refine tl_ (i:=3) (N:=some 27) #[T,T,T,T,F,F,F,F,F,F,F] rfl hHeld ?_
 refine pd_ (i:=4) (N:=some 28) #[T,T,T,T,T,F,F,F,F,F,F] rfl ?_
 refine on_ (i:=5) (N:=some 29) #[T,T,T,T,T,T,F,F,F,F,F] rfl (fun K hK=>?_)
 refine gz_ Tryz.func76 #[.slice A1 l1.length c1] ?_
 with_reducible refine (ai.calls _ _ l1 t6 _ (cb_ HR1 HB) HC1.out A9.out).mono ?_
 rintro e w9_ ⟨v0_,rfl,ho0_,hb⟩
 refine⟨_,rfl,?_⟩
 replace HS:=aHs HS hb.size
 obtain⟨Ao9_0,co9_0,rfl,HO9_0⟩:=sRm ho0_ HB.out.size
 revert HO3_0 BK1 BK2 BK4 HB
 refine aD hb ?_
 intro HO3_0 BK1 BK2 BK4 HB
 clear hb ho0_
 refine hK.out _ _ ⟨av BK1.out,av BK4.out⟩ (fun hHeld=>?_)
 clear hK K
 refine nm_ ?_
 refine pd_ (i:=6) (N:=some 30) #[T,T,T,T,T,T,T,F,F,F,F] rfl ?_
 refine on_ (i:=7) (N:=some 31) #[T,T,T,T,T,T,T,T,F,F,F] rfl (fun K hK=>?_)
 refine kN (w1:=?_) (v:=?_) (by rfl) rfl ?_ ?_
 rotate_left 2
 ·go_simp
  constructor
  ·rfl
  ·rfl
 refine hK.out _ _ ⟨av (bl_ BK1.out _),av (bl_ BK4.out _)⟩ (fun hHeld=>?_)
 clear hK K
 refine nm_ ?_
 refine on_ (i:=8) (N:=some 32) #[T,T,T,T,T,T,T,T,T,F,F] rfl (fun K hK=>?_)
 refine Kd.gu k68 (w0:=w) w.heap.size (by rfl) (.tmp 25) (.tmp 31) 34 68 ((.agg #[(.int .i64 0),(.slice none 0 0)])) 32 rfl Tryz.underlying34 info68 rfl (by decide) (by omega) (.slice Ao3_0 t2.length co3_0) t2 (⟨a0_0,t6⟩:S68) [.int .i64 a0_0,.slice Ao9_0 t6.length co9_0] (fun k_=>(((w2_.heap.size≤k_∧k_<w3_.heap.size)∧f3_ k_=0))∨(((w17d_.heap.size≤k_∧k_<w9_.heap.size)))∨w9_.heap.size≤k_) (fun k_=>((w17d_.heap.size≤k_∧k_<w9_.heap.size))) rfl rfl ?aP ?aQ ?aF ?aO HB.out HB.out.size ?aL ?_
 case aP=>exact kJ _ _ _ (⟨a0_0,t6⟩:S68) HO9_0.out
 case aQ=>exact fun k_ hk_=>⟨.inr (.inl hk_),fun e_=>by have:=(Kd.S_R HO3_0.out).1 k_ e_.symm;clear e_;have:=HS.out;omega⟩
 case aF=>exact fun k_ hk_=>.inr (.inr hk_)
 case aO=>exact Kd.dw HO3_0.out (fun k_ hk_=>⟨.inl hk_,fun e_=>by have:=HS.out;omega⟩)
 case aL=>have:=LM10.out;omega
 intro v_ w10_ ho hbb hg hat
 clear hat
 rw [←Ny7.out] at ho
 have hkp:Kept w9_ w10_ (fun k_=>((w2_.heap.size≤k_∧k_<w3_.heap.size)∧f3_ k_=0)):=Kept.aZ hg (Kept.refl _ _) (fun k_ e_=>.inl ((Kd.S_R HO3_0.out).1 k_ e_))
 revert BK1 BK2 BK4
 refine bC hkp HS ?_
 intro BK1 BK2 BK4
 replace HS:=aHs HS hkp.1
 obtain⟨Ao10,co10,ev_⟩:=Kd.dx ho
 subst ev_
 have HO10:=A_.mk (Kd.dw (ok':=(fun k_=>((w2_.heap.size≤k_∧k_<w3_.heap.size)∧f3_ k_=0)∨((w17d_.heap.size≤k_∧k_<w9_.heap.size))∨((w9_.heap.size≤k_∧k_<w10_.heap.size)))) (Kd.ik ho) (fun k_ hk_=>by have:=hk_.1;have:=hk_.2.2.1;have:=hk_.2.1;clear hk_;have:=HS.out;omega))
 replace HB:=A_.mk hbb
 clear hkp hbb hg ho HO3_0 HO9_0
 refine hK.out _ _ ⟨av BK1.out,av BK4.out⟩ (fun hHeld=>?_)
 clear hK K
 refine nm_ ?_
 refine pd_ (i:=9) (N:=some 33) #[T,T,T,T,T,T,T,T,T,T,F] rfl ?_
 refine gG (i:=10) (N:=none) #[T,T,T,T,T,T,T,T,T,T,T] rfl rfl (by kernel_rfl) (by decide) (fun K hK=>?_)
 have Q1:=av BK1.out
 have Q2:=av BK2.out
 have Q4:=av BK4.out
 have qf0:=bf_ BK4.out 1
 obtain⟨w11_,hw⟩:=lw_ ((w10_.setCell ⟨gb4_,1,none⟩ (.slice Ao10 y7.length co10)))
 refine fT (w1:=w11_) (by rfl) rfl ?_ ?_
 ·rw [hw];go_simp;try rfl
 refine hK.out _ _ ?_
 clear hK K qf0 Q1 Q2 Q4
 obtain⟨hbx,hkp,hbb⟩:=nN hw BK4 HB (ho_ HS)
 clear hw
 revert BK1 BK2 HO10
 refine bC hkp HS ?_
 intro BK1 BK2 HO10
 replace BK4:=A_.mk hbx
 replace HB:=A_.mk hbb
 replace HS:=aHs HS hkp.1
 clear hkp hbb hbx
 refine fA (by kernel_rfl) ?_
 have Q1:=av BK1.out
 go_wp2_with (first|((with_reducible refine gc_ (f:=110) rfl ?_);refine gl_ (some 36) Tryz.func110 #[.int .i64 a0_0] ?_;(with_reducible refine (gP.calls a0_0 t8 _ A12.out).mono ?_);rintro e w12_ ⟨rfl,hb⟩;refine⟨_,rfl,?_⟩;replace hb:=Drawn0.below hb;revert BK2 HO10 BK4 HB HS;refine aD hb ?_;intro BK2 HO10 BK4 HB HS;clear hb  Q1;have Q4:=av BK4.out)|((with_reducible refine ae (t:=3) (p:=37) rfl ?_);have qf0:=bf_ BK4.out 0;refine so_ (w1:=(w12_.setCell ⟨gb4_,0,none⟩ (.int .i64 t8))) ?_;intro w13_ hw;clear qf0;obtain⟨hbx,hkp,hbb⟩:=sN hw BK4 HB (ho_ HS);clear hw;replace HO10:=aSk HO10 hkp HS;replace BK2:=aBk BK2 hkp HS;replace BK4:=A_.mk hbx;replace HB:=A_.mk hbb;replace HS:=aHs HS hkp.1;clear hkp hbb hbx Q4;have Q2:=av BK2.out;have Q4:=av BK4.out)|((with_reducible refine ae (t:=36) (p:=4) rfl ?_);obtain⟨qf0,qf1,qf2⟩:=eT BK2;refine so_ (w1:=(iN w13_ gb2_ (.int .i64 t8) (.slice Ao10 y7.length co10) (.int .i64 t3))) ?_;intro w14_ hw;clear qf0 qf1 qf2;obtain⟨hbx,hkp,hbb⟩:=iT hw BK2 HB (ho_ HS);clear hw;replace HO10:=aSk HO10 hkp HS;replace BK2:=A_.mk hbx;replace HB:=A_.mk hbb;replace HS:=aHs HS hkp.1;clear hkp hbb hbx Q2 Q4))
 refine bodyPost_ret (aM rfl _ _ gb2_ 36 _ (0,0) _ rfl BK2.out Tryz.underlying36 rfl (by kernel_rfl)) rfl ?_
 obtain⟨f_,hf_⟩:=mS_ HO10 0 (m0_ 0)
 exact⟨f_,_,rfl,cS_ HO10 HS hf_,HB.out⟩
def iK.f(k:Nat)(l0:List Int)(a1:Int):Option (List Int):=(ai.f l0).bind fun t401=>((bf.f k l0).bind fun t404=>(if t404=true then ((bE.f a1 0 (wrap64 ((wrap64 (8*(l0.length:Int)))-1))).bind fun t405=>(if t405=true then (if 0≤(wrap64 (Int.tdiv a1 8)) then (if (wrap64 (Int.tdiv a1 8))<(t401.length:Int) then (if 0≤(IntKind.u64.wrap (Int.tmod a1 8)) then (some (t401.set ((wrap64 (Int.tdiv a1 8)):Int).toNat (Go.bits .xor .i64 (rd t401 (wrap64 (Int.tdiv a1 8))) (shl .i64 1 (IntKind.u64.wrap (Int.tmod a1 8)))))) else (none)) else (none)) else (none)) else (some t401))) else (some t401)))
theorem iK.calls(k:Nat)(A0:Option Addr)(c0:Nat)(l0:List Int)(a1:Int)(r:List Int)(w:World)(hr0:Kd.C (Kd.int .i64) w A0 l0.length l0)(hc0:l0.length≤c0)(h:iK.f k l0 a1=some r) :
  Calls Tryz.prog 111 #[.slice A0 l0.length c0,.int .i64 a1] w fun e w'=>∃ v0_:Value,e=.returned (v0_)∧Kd.R (Kd.int .i64) 3 w' w.heap.size (fun _=>True) v0_ r∧Below w.heap.size w w':=by
 have HR0:=A_.mk hr0
 have HC0:=A_.mk hc0
 clear hr0 hc0
 have HB:=A_.mk (Below.refl w.heap.size w)
 have H:((ai.f l0).bind fun t401=>((bf.f k l0).bind fun t404=>(if t404=true then ((bE.f a1 0 (wrap64 ((wrap64 (8*(l0.length:Int)))-1))).bind fun t405=>(if t405=true then (if 0≤(wrap64 (Int.tdiv a1 8)) then (if (wrap64 (Int.tdiv a1 8))<(t401.length:Int) then (if 0≤(IntKind.u64.wrap (Int.tmod a1 8)) then (some (t401.set ((wrap64 (Int.tdiv a1 8)):Int).toNat (Go.bits .xor .i64 (rd t401 (wrap64 (Int.tdiv a1 8))) (shl .i64 1 (IntKind.u64.wrap (Int.tmod a1 8)))))) else (none)) else (none)) else (none)) else (some t401))) else (some t401))))=some r:=h
 clear h
 replace H:=oa_ H
 obtain⟨t401,A3,H⟩:=H
 replace H:=oa_ H
 obtain⟨t404,A4,H⟩:=H
 by_cases c5:t404=true
 rotate_left
 ·replace c5:=Bool.eq_false_iff.mpr c5
  subst c5
  have H1:(some t401)=some r:=by rw [if_neg (show ¬ (false=true) by decide)] at H;exact H
  clear H
  have H:=H1
  clear H1
  obtain rfl:=Option.some.inj H
  go_enter Tryz.func111,Tryz.ntmps111
  go_wp2_with (first|((with_reducible refine gc_ (f:=76) rfl ?_);refine gl_ (some 7) Tryz.func76 #[.slice A0 l0.length c0] ?_;(with_reducible refine (ai.calls _ _ l0 t401 _ ?side1 ?side2 A3.out).mono ?_);(case side1=>exact cY (HR0.out));(case side2=>exact HC0.out);rintro e w20 ⟨v402,rfl,ho0,hb⟩;refine⟨_,rfl,?_⟩;have n0_:=A_.mk (Kd.bR ho0 (bz_ (beY HB.out)));have n1_:=A_.mk (bt_ (beY HB.out) hb);clear HB;have HO403:=n0_;have HB:=n1_;clear n0_ n1_;(try clear hb);(try clear hb2);(try clear hk);(try clear hi);(try clear ho0))|((with_reducible refine gc_ (f:=106) rfl ?_);refine gl_ (some 9) Tryz.func106 #[.slice A0 l0.length c0] ?_;(with_reducible refine (bf.calls k _ _ l0 false _ ?side1 ?side2 A4.out).mono ?_);(case side1=>exact cY ((cb_ HR0 HB)));(case side2=>exact HC0.out);rintro e w' ⟨rfl,⟨nd,rfl⟩⟩;refine⟨_,rfl,?_⟩))
  go_ret
  exact⟨_,re_,by (repeat apply rX);exact HO403.out,beY HB.out⟩
 subst c5
 have H1:((bE.f a1 0 (wrap64 ((wrap64 (8*(l0.length:Int)))-1))).bind fun t405=>(if t405=true then (if 0≤(wrap64 (Int.tdiv a1 8)) then (if (wrap64 (Int.tdiv a1 8))<(t401.length:Int) then (if 0≤(IntKind.u64.wrap (Int.tmod a1 8)) then (some (t401.set ((wrap64 (Int.tdiv a1 8)):Int).toNat (Go.bits .xor .i64 (rd t401 (wrap64 (Int.tdiv a1 8))) (shl .i64 1 (IntKind.u64.wrap (Int.tmod a1 8)))))) else (none)) else (none)) else (none)) else (some t401)))=some r:=by rw [if_pos rfl] at H;exact H
 clear H
 have H:=H1
 clear H1
 replace H:=oa_ H
 obtain⟨t405,A6,H⟩:=H
 by_cases c7:t405=true
 rotate_left
 ·replace c7:=Bool.eq_false_iff.mpr c7
  subst c7
  have H1:(some t401)=some r:=by rw [if_neg (show ¬ (false=true) by decide)] at H;exact H
  clear H
  have H:=H1
  clear H1
  obtain rfl:=Option.some.inj H
  go_enter Tryz.func111,Tryz.ntmps111
  go_wp2_with (first|((with_reducible refine gc_ (f:=76) rfl ?_);refine gl_ (some 7) Tryz.func76 #[.slice A0 l0.length c0] ?_;(with_reducible refine (ai.calls _ _ l0 t401 _ ?side1 ?side2 A3.out).mono ?_);(case side1=>exact cY (HR0.out));(case side2=>exact HC0.out);rintro e w19 ⟨v402,rfl,ho0,hb⟩;refine⟨_,rfl,?_⟩;have n0_:=A_.mk (Kd.bR ho0 (bz_ (beY HB.out)));have n1_:=A_.mk (bt_ (beY HB.out) hb);clear HB;have HO403:=n0_;have HB:=n1_;clear n0_ n1_;(try clear hb);(try clear hb2);(try clear hk);(try clear hi);(try clear ho0))|((with_reducible refine gc_ (f:=106) rfl ?_);refine gl_ (some 9) Tryz.func106 #[.slice A0 l0.length c0] ?_;(with_reducible refine (bf.calls k _ _ l0 true _ ?side1 ?side2 A4.out).mono ?_);(case side1=>exact cY ((cb_ HR0 HB)));(case side2=>exact HC0.out);rintro e w' ⟨rfl,⟨nd,rfl⟩⟩;refine⟨_,rfl,?_⟩)|(go_at_call 83;(with_reducible refine (bE.calls a1 0 (wrap64 ((wrap64 (8*(l0.length:Int)))-1)) false _ A6.out).mono ?_);rintro e w' ⟨rfl,⟨nd,rfl⟩⟩))
  go_ret
  exact⟨_,re_,by (repeat apply rX);exact HO403.out,beY HB.out⟩
 subst c7
 have H1:(if 0≤(wrap64 (Int.tdiv a1 8)) then (if (wrap64 (Int.tdiv a1 8))<(t401.length:Int) then (if 0≤(IntKind.u64.wrap (Int.tmod a1 8)) then (some (t401.set ((wrap64 (Int.tdiv a1 8)):Int).toNat (Go.bits .xor .i64 (rd t401 (wrap64 (Int.tdiv a1 8))) (shl .i64 1 (IntKind.u64.wrap (Int.tmod a1 8)))))) else (none)) else (none)) else (none))=some r:=by rw [if_pos rfl] at H;exact H
 clear H
 have H:=H1
 clear H1
 obtain⟨ji8,hji8⟩:∃ j_:Int,(wrap64 (Int.tdiv a1 8))=j_:=⟨_,rfl⟩
 replace H:(if 0≤(ji8) then (if (ji8)<(t401.length:Int) then (if 0≤(IntKind.u64.wrap (Int.tmod a1 8)) then (some (t401.set ((ji8):Int).toNat (Go.bits .xor .i64 (rd t401 (ji8)) (shl .i64 1 (IntKind.u64.wrap (Int.tmod a1 8)))))) else (none)) else (none)) else (none))=some r:=by first|(rw [hji8] at H;exact H)|(simp only [hji8] at H ⊢;exact H)
 (try rw [hji8] at A3)
 (try rw [hji8] at A4)
 (try rw [hji8] at A6)
 have hji8w:(IntKind.i64.wrap (Int.tdiv a1 8))=ji8:=(jg _).trans hji8
 by_cases c9:0≤(ji8)
 rotate_left
 ·rw [if_neg c9] at H
  exact absurd H (by simp)
 rw [if_pos c9] at H
 have c9b0:=decide_eq_true c9
 clear c9
 by_cases c10:(ji8)<(t401.length:Int)
 rotate_left
 ·rw [if_neg c10] at H
  exact absurd H (by simp)
 rw [if_pos c10] at H
 have c10b0:=decide_eq_true c10
 clear c10
 obtain⟨ji11,hji11⟩:∃ j_:Int,(IntKind.u64.wrap (Int.tmod a1 8))=j_:=⟨_,rfl⟩
 replace H:(if 0≤(ji11) then (some (t401.set ((ji8):Int).toNat (Go.bits .xor .i64 (rd t401 (ji8)) (shl .i64 1 (ji11))))) else (none))=some r:=by first|(rw [hji11] at H;exact H)|(simp only [hji11] at H ⊢;exact H)
 (try rw [hji11] at A3)
 (try rw [hji11] at A4)
 (try rw [hji11] at A6)
 by_cases c12:0≤(ji11)
 rotate_left
 ·rw [if_neg c12] at H
  exact absurd H (by simp)
 rw [if_pos c12] at H
 have c12b0:=eq_true c12
 have c12b1:=decide_eq_true c12
 clear c12
 obtain⟨ji13,hji13⟩:∃ j_:Int,(shl .i64 1 (ji11))=j_:=⟨_,rfl⟩
 replace H:(some (t401.set ((ji8):Int).toNat (Go.bits .xor .i64 (rd t401 (ji8)) (ji13))))=some r:=by first|(rw [hji13] at H;exact H)|(simp only [hji13] at H ⊢;exact H)
 (try rw [hji13] at A3)
 (try rw [hji13] at A4)
 (try rw [hji13] at A6)
 have hji13_:(IntKind.i64.wrap (1*2 ^ min (ji11).toNat 64))=ji13:=hji13
 have hji13z:(ji11)≤64→(IntKind.i64.wrap (1*2 ^ (ji11).toNat))=ji13:=o9 hji13
 have hji13u:(IntKind.i64.wrap (2 ^ min (ji11).toNat 64))=ji13:=by have h_:=hji13_;rw [Int.one_mul] at h_;exact h_
 have hji13v:(ji11)≤64→(IntKind.i64.wrap (2 ^ (ji11).toNat))=ji13:=fun hle_=>by have h_:=hji13z hle_;rw [Int.one_mul] at h_;exact h_
 have hji13y:(wrap64 (1*2 ^ min (ji11).toNat 64))=ji13:=(jg _).symm.trans hji13_
 have hji13x:(ji11)≤64→(wrap64 (1*2 ^ (ji11).toNat))=ji13:=fun h_=>(jg _).symm.trans (hji13z h_)
 obtain⟨y407,hy407⟩:∃ y_:List Int,y_=(t401.set ((ji8):Int).toNat (Go.bits .xor .i64 (rd t401 (ji8)) (ji13))):=⟨_,rfl⟩
 replace H:(some y407)=some r:=by first|(rw [hy407];with_reducible exact H)|(have H2_:=(Option.bind_some _ _).symm.trans H;rw [hy407];with_reducible exact H2_)|(have H2_:=(Option.bind_some _ _).symm.trans H;with_reducible exact H2_)|with_reducible exact H|(rw [hy407];exact H)|exact H
 have Ny407:=A_.mk hy407
 clear hy407
 obtain rfl:=Option.some.inj H
 go_enter Tryz.func111,Tryz.ntmps111
 go_wp2_with (first|((with_reducible refine gc_ (f:=76) rfl ?_);refine gl_ (some 7) Tryz.func76 #[.slice A0 l0.length c0] ?_;(with_reducible refine (ai.calls _ _ l0 t401 _ ?side1 ?side2 A3.out).mono ?_);(case side1=>exact cY (HR0.out));(case side2=>exact HC0.out);rintro e w15 ⟨v402,rfl,ho0,hb⟩;refine⟨_,rfl,?_⟩;have n0_:=A_.mk (Kd.bR ho0 (bz_ (beY HB.out)));have n1_:=A_.mk (bt_ (beY HB.out) hb);clear HB;have HO403:=n0_;have HB:=n1_;clear n0_ n1_;(try clear hb);(try clear hb2);(try clear hk);(try clear hi);(try clear ho0))|((with_reducible refine gc_ (f:=106) rfl ?_);refine gl_ (some 9) Tryz.func106 #[.slice A0 l0.length c0] ?_;(with_reducible refine (bf.calls k _ _ l0 true _ ?side1 ?side2 A4.out).mono ?_);(case side1=>exact cY ((cb_ HR0 HB)));(case side2=>exact HC0.out);rintro e w' ⟨rfl,⟨nd,rfl⟩⟩;refine⟨_,rfl,?_⟩;(try (rw [jL w15];generalize hq_:World.drewN w15 _=w15;have n0_:A_ (Kd.R (Kd.int .i64) 3 w15 w.heap.size (fun _=>True) v402 t401):=⟨by rw [←hq_];exact(rY HO403.out)⟩;have n1_:A_ (Below w.heap.size w w15):=⟨by rw [←hq_];exact(beY HB.out)⟩;clear HO403 HB hq_;have HO403:=n0_;have HB:=n1_;clear n0_ n1_)))|(go_at_call 83;(with_reducible refine (bE.calls a1 0 (wrap64 ((wrap64 (8*(l0.length:Int)))-1)) true _ A6.out).mono ?_);rintro e w' ⟨rfl,⟨nd,rfl⟩⟩;(try (rw [jL w15];generalize hq_:World.drewN w15 _=w15;have n0_:A_ (Kd.R (Kd.int .i64) 3 w15 w.heap.size (fun _=>True) v402 t401):=⟨by rw [←hq_];exact(rY HO403.out)⟩;have n1_:A_ (Below w.heap.size w w15):=⟨by rw [←hq_];exact(beY HB.out)⟩;clear HO403 HB hq_;have HO403:=n0_;have HB:=n1_;clear n0_ n1_));obtain⟨Ao16,co16,eo16⟩:=Kd.aX HO403.out;subst eo16;have p406:0≤((ji8):Int):=od_;have q406:(ji8)<(t401.length:Int):=od_;obtain⟨ad406,e406,hx406_0⟩:=Kd.d9 (je HO403) (ji8) p406 q406;cases e406;replace p406:=eq_true p406;replace q406:=eq_true q406;have p14:0≤((ji8):Int):=od_;have q14:((ji8):Int)<((t401.length:Int):Int):=od_;obtain⟨go14,co14,eo14,gb14,gl14,cl14,HG14⟩:=Kd.nS HO403.out (by omega);(first|cases eo14|(injection eo14 with ea_ en_ ec_;(first|subst ea_|(injection ea_ with ea_;subst ea_));subst ec_;clear en_));have GB14:=A_.mk gb14;have GG14:=A_.mk HG14;clear gb14 gl14 HG14;(first|simp only [add_plain] at hx406_0|skip);obtain⟨hx14_0,hf14_0⟩:=Kd.ll 0 HO403.out ((ji8):Int) p14 q14;replace p14:=eq_true p14;replace q14:=eq_true q14;obtain⟨hy17_,hz17_⟩:=Kd.ll 0 HO403.out ((ji8):Int) (od_) (od_);have HP17:=Kd.si HO403.out ((ji8):Int) (Go.bits .xor .i64 (rd t401 (ji8)) (ji13)))|((with_reducible refine ae (t:=3) (p:=28) rfl ?_);refine so_ (w1:=(w15.setCell ⟨go14,((ji8):Int).toNat,none⟩ (.int .i64 (Go.bits .xor .i64 (rd t401 (ji8)) (ji13))))) ?_;intro w18 hw;have hg:w15.grownBy w18 (some go14):=(by rw [hw];exact HP17.2);have hp_:Kd.R (Kd.int .i64) 3 w18 w.heap.size (fun _=>True) (.slice (some ⟨go14,0,none⟩) t401.length co16) y407:=(by rw [hw,Ny407.out];exact HP17.1);clear HP17;have n0_:=A_.mk (hp_);have n1_:=A_.mk ((by rw [hw];exact bs_ (HB.out) GB14.out:Below w.heap.size w w18));clear HO403 HB;have HO403:=n0_;have HB:=n1_;clear n0_ n1_ hg hw hp_))
 go_ret
 exact⟨_,by first|rfl|(simp [dQ,dR] <;> rfl)|(simp only [←hji8,←hji11,←hji13];first|rfl|(simp [dQ,dR] <;> rfl))|(simp [*,dQ,dR] <;> rfl),by (repeat apply rX);exact HO403.out,beY HB.out⟩
def fZ.f(k:Nat)(a0_0:Int)(l0_1:List (S68))(a0_2:Int)(a0_3:Int)(l0_4:List (List Int))(l0_5:List (List Int))(l0_6:List Int)(a1:Int):Option ((Bool)×(Int)×(List (S68))×(Int)×(Int)×(List (List Int))×(List (List Int))×(List Int)):=(if a1<0 then (some (false,a0_0,l0_1,a0_2,a0_3,l0_4,l0_5,l0_6)) else (if (l0_5.length:Int)≤(Int.tmod a1 8) then (some (false,a0_0,l0_1,a0_2,a0_3,l0_4,l0_5,l0_6)) else (if 0≤(Int.tmod a1 8) then (if (Int.tmod a1 8)<(l0_5.length:Int) then (if (wrap64 (8*((fG l0_5 (Int.tmod a1 8)).length:Int)))≤(wrap64 (Int.tdiv a1 8)) then (some (false,a0_0,l0_1,a0_2,a0_3,l0_4,l0_5,l0_6)) else ((iK.f k (fG l0_5 (Int.tmod a1 8)) (wrap64 (Int.tdiv a1 8))).bind fun t1=>(some (true,a0_0,l0_1,a0_2,a0_3,l0_4,(l0_5.set ((Int.tmod a1 8)).toNat t1),l0_6)))) else none) else none)))
theorem fZ.calls(k:Nat)(gb_:Nat)(f0_:Nat→Nat)(a0_0:Int)(A0_1:Option Addr)(c0_1:Nat)(l0_1:List (S68))(a0_2:Int)(a0_3:Int)(A0_4:Option Addr)(c0_4:Nat)(l0_4:List (List Int))(A0_5:Option Addr)(c0_5:Nat)(l0_5:List (List Int))(A0_6:Option Addr)(c0_6:Nat)(l0_6:List Int)(a1:Int)(r1:Bool)(r2:Int)(r3:List (S68))(r4:Int)(r5:Int)(r6:List (List Int))(r7:List (List Int))(r8:List Int)(w w1:World)(hB:Below w.heap.size w w1)(hg:w.heap.size≤gb_)(hbx:w1.heap[gb_]?=some (.cells #[.int .i64 a0_0,.slice A0_1 l0_1.length c0_1,.int .i64 a0_2,.int .i64 a0_3,.slice A0_4 l0_4.length c0_4,.slice A0_5 l0_5.length c0_5,.slice A0_6 l0_6.length c0_6] 39 (0,0)))(hp0_1:Kd.S k68 68 w1 w.heap.size (fun k_=>(w.heap.size≤k_∧k_<w1.heap.size)∧k_≠gb_∧f0_ k_=0) (.slice A0_1 l0_1.length c0_1) l0_1)(hp0_4:Kd.S (Kd.slice 3 (Kd.int .i64)) 28 w1 w.heap.size (fun k_=>(w.heap.size≤k_∧k_<w1.heap.size)∧k_≠gb_∧f0_ k_=1) (.slice A0_4 l0_4.length c0_4) l0_4)(hp0_5:Kd.S (Kd.slice 3 (Kd.int .i64)) 28 w1 w.heap.size (fun k_=>(w.heap.size≤k_∧k_<w1.heap.size)∧k_≠gb_∧f0_ k_=2) (.slice A0_5 l0_5.length c0_5) l0_5)(hp0_6:Kd.R (Kd.int .i64) 3 w1 w.heap.size (fun k_=>(w.heap.size≤k_∧k_<w1.heap.size)∧k_≠gb_∧f0_ k_=3) (.slice A0_6 l0_6.length c0_6) l0_6)(h:fZ.f k a0_0 l0_1 a0_2 a0_3 l0_4 l0_5 l0_6 a1=some (r1,r2,r3,r4,r5,r6,r7,r8)) :
  Calls Tryz.prog 87 #[.pointer (some ⟨gb_,0,none⟩),.int .i64 a1] w1 fun e w'=>∃ f_:Nat→Nat,∃ v0_ v1_ v2_ v3_:Value,e=.returned (.bool r1)∧w'.heap[gb_]?=some (.cells #[.int .i64 r2,v0_,.int .i64 r4,.int .i64 r5,v1_,v2_,v3_] 39 (0,0))∧Kd.S k68 68 w' w.heap.size (fun k_=>(w.heap.size≤k_∧k_<w'.heap.size)∧k_≠gb_∧f_ k_=0) v0_ r3∧Kd.S (Kd.slice 3 (Kd.int .i64)) 28 w' w.heap.size (fun k_=>(w.heap.size≤k_∧k_<w'.heap.size)∧k_≠gb_∧f_ k_=1) v1_ r6∧Kd.S (Kd.slice 3 (Kd.int .i64)) 28 w' w.heap.size (fun k_=>(w.heap.size≤k_∧k_<w'.heap.size)∧k_≠gb_∧f_ k_=2) v2_ r7∧Kd.R (Kd.int .i64) 3 w' w.heap.size (fun k_=>(w.heap.size≤k_∧k_<w'.heap.size)∧k_≠gb_∧f_ k_=3) v3_ r8∧(∀ k_,k_<w1.heap.size→f_ k_<4→k_=gb_∨f0_ k_<4)∧Below w.heap.size w w'∧Kept w1 w' (fun k_=>k_=gb_∨((w.heap.size≤k_∧k_<w1.heap.size)∧k_≠gb_∧f0_ k_<4)):=by
 obtain⟨gb1_,rfl⟩:∃ q_,q_=gb_:=⟨_,rfl⟩
 have HO0_1:=A_.mk hp0_1
 clear hp0_1
 have HO0_4:=A_.mk hp0_4
 clear hp0_4
 have HO0_5:=A_.mk hp0_5
 clear hp0_5
 have HO0_6:=A_.mk hp0_6
 clear hp0_6
 have BK1:=A_.mk hbx
 have HS:=A_.mk (And.intro hB.size (And.intro hg (aI hbx)))
 have HK:=A_.mk (Kept.refl w1 (fun k_=>k_=gb1_∨((w.heap.size≤k_∧k_<w1.heap.size)∧k_≠gb1_∧f0_ k_<4)))
 clear hbx hg
 have HB:=A_.mk hB
 clear hB
 unfold fZ.f at h
 have H:=h
 clear h
 by_cases hc1_:a1<0
 case pos =>
  rw [if_pos hc1_] at H
  have hc1_b0:=decide_eq_true hc1_
  replace hc1_:=A_.mk hc1_
  replace H:=il H
  obtain⟨rfl,rfl,rfl,rfl,rfl,rfl,rfl,rfl⟩:=H
  have hu39:=Tryz.underlying39
  go_enter Tryz.func87,Tryz.ntmps87
  go_wp2
  go_ret
  obtain⟨f_,hf_⟩:=mS_ HO0_1 0 (mS_ HO0_4 1 (mS_ HO0_5 2 (mR_ HO0_6 3 (m0_ 4))))
  have hfk_:∀ k_,k_<w1.heap.size→f_ k_<4→k_=gb1_∨f0_ k_<4:=fun k_ h1_ h2_=>by have:=HS.out;rw [hf_] at h2_;repeat' (first|omega|split at h2_)
  first|exact ⟨f_,_,_,_,_,rfl,BK1.out,cS_ HO0_1 HS hf_,cS_ HO0_4 HS hf_,cS_ HO0_5 HS hf_,cR_ HO0_6 HS hf_,hfk_,HB.out,HK.out⟩|exact ⟨rfl,f_,_,_,_,_,BK1.out,cS_ HO0_1 HS hf_,cS_ HO0_4 HS hf_,cS_ HO0_5 HS hf_,cR_ HO0_6 HS hf_,hfk_,HB.out,HK.out⟩
 rw [if_neg hc1_] at H
 have hc1_b0:=decide_eq_false hc1_
 replace hc1_:=A_.mk hc1_
 by_cases hc2_:(l0_5.length:Int)≤(Int.tmod a1 8)
 case pos =>
  rw [if_pos hc2_] at H
  have hc2_b0:=decide_eq_true hc2_
  have hc2_b1:decide (l0_5.length≤(Int.tmod a1 8))=true:=decide_eq_true (by omega)
  replace H:=il H
  obtain⟨rfl,rfl,rfl,rfl,rfl,rfl,rfl,rfl⟩:=H
  have hu39:=Tryz.underlying39
  go_enter Tryz.func87,Tryz.ntmps87
  have Q1:=aa BK1.out
  go_wp2
  go_ret
  obtain⟨f_,hf_⟩:=mS_ HO0_1 0 (mS_ HO0_4 1 (mS_ HO0_5 2 (mR_ HO0_6 3 (m0_ 4))))
  have hfk_:∀ k_,k_<w1.heap.size→f_ k_<4→k_=gb1_∨f0_ k_<4:=fun k_ h1_ h2_=>by have:=HS.out;rw [hf_] at h2_;repeat' (first|omega|split at h2_)
  first|exact ⟨f_,_,_,_,_,rfl,BK1.out,cS_ HO0_1 HS hf_,cS_ HO0_4 HS hf_,cS_ HO0_5 HS hf_,cR_ HO0_6 HS hf_,hfk_,HB.out,HK.out⟩|exact ⟨rfl,f_,_,_,_,_,BK1.out,cS_ HO0_1 HS hf_,cS_ HO0_4 HS hf_,cS_ HO0_5 HS hf_,cR_ HO0_6 HS hf_,hfk_,HB.out,HK.out⟩
 rw [if_neg hc2_] at H
 have hc2_b0:=decide_eq_false hc2_
 have hc2_b1:decide (l0_5.length≤(Int.tmod a1 8))=false:=decide_eq_false (by omega)
 replace H:=ky H
 obtain⟨hp2_,hq2_,H⟩:=H
 have EB2:=A_.mk (And.intro hp2_ hq2_)
 replace hp2_:=eq_true hp2_
 replace hq2_:=eq_true hq2_
 by_cases hc3_:(wrap64 (8*((fG l0_5 (Int.tmod a1 8)).length:Int)))≤(wrap64 (Int.tdiv a1 8))
 case pos =>
  rw [if_pos hc3_] at H
  have hc3_b0:=decide_eq_true hc3_
  replace H:=il H
  obtain⟨rfl,rfl,rfl,rfl,rfl,rfl,rfl,rfl⟩:=H
  have hu39:=Tryz.underlying39
  go_enter Tryz.func87,Tryz.ntmps87
  have Q1:=aa BK1.out
  obtain⟨gHO0_5_,ed_⟩:=mI HO0_5.out (by have:=EB2.out;omega)
  subst ed_
  obtain⟨A2_0,c2_0,hx_,hl_,hi_⟩:=oh HO0_5.out EB2.out
  have HX2:=A_.mk hx_
  have HD2:=A_.mk hl_
  have HE2:=A_.mk hi_
  clear hx_ hl_ hi_ Q1
  have Q1:=aa BK1.out
  have QE2:=HX2.out
  go_wp2
  go_ret
  obtain⟨f_,hf_⟩:=mS_ HO0_1 0 (mS_ HO0_4 1 (mS_ HO0_5 2 (mR_ HO0_6 3 (m0_ 4))))
  have hfk_:∀ k_,k_<w1.heap.size→f_ k_<4→k_=gb1_∨f0_ k_<4:=fun k_ h1_ h2_=>by have:=HS.out;rw [hf_] at h2_;repeat' (first|omega|split at h2_)
  first|exact ⟨f_,_,_,_,_,rfl,BK1.out,cS_ HO0_1 HS hf_,cS_ HO0_4 HS hf_,cS_ HO0_5 HS hf_,cR_ HO0_6 HS hf_,hfk_,HB.out,HK.out⟩|exact ⟨rfl,f_,_,_,_,_,BK1.out,cS_ HO0_1 HS hf_,cS_ HO0_4 HS hf_,cS_ HO0_5 HS hf_,cR_ HO0_6 HS hf_,hfk_,HB.out,HK.out⟩
 rw [if_neg hc3_] at H
 have hc3_b0:=decide_eq_false hc3_
 replace H:=oa_ H
 obtain⟨t1,A3,H⟩:=H
 obtain⟨y2,Ny2⟩:=le_ ((l0_5.set ((Int.tmod a1 8)).toNat t1))
 rw [←Ny2.out] at H
 replace H:=il H
 obtain⟨rfl,rfl,rfl,rfl,rfl,rfl,rfl,rfl⟩:=H
 have hu39:=Tryz.underlying39
 go_enter Tryz.func87,Tryz.ntmps87
 have Q1:=aa BK1.out
 obtain⟨gHO0_5_,ed_⟩:=mI HO0_5.out (by have:=EB2.out;omega)
 subst ed_
 obtain⟨A2_0,c2_0,hx_,hl_,hi_⟩:=oh HO0_5.out EB2.out
 have HX2:=A_.mk hx_
 have HD2:=A_.mk hl_
 have HE2:=A_.mk hi_
 clear hx_ hl_ hi_ Q1
 have Q1:=aa BK1.out
 have QE2:=HX2.out
 go_wp2_with (fail)
 refine dN (n:=19) (S:=fun w'=>(w'.cell? ⟨gb1_,0,none⟩=some (.int .i64 a0_0)∧w'.cell? ⟨gb1_,1,none⟩=some (.slice A0_1 l0_1.length c0_1)∧w'.cell? ⟨gb1_,2,none⟩=some (.int .i64 a0_2)∧w'.cell? ⟨gb1_,3,none⟩=some (.int .i64 a0_3)∧w'.cell? ⟨gb1_,4,none⟩=some (.slice A0_4 l0_4.length c0_4)∧w'.cell? ⟨gb1_,5,none⟩=some (.slice (some ⟨gHO0_5_,0,none⟩) l0_5.length c0_5)∧w'.cell? ⟨gb1_,6,none⟩=some (.slice A0_6 l0_6.length c0_6))∧(w'.cell? ⟨gHO0_5_,((Int.tmod a1 8)).toNat,none⟩=some (.slice A2_0 (fG l0_5 (Int.tmod a1 8)).length c2_0))) (ds:=[18]) #[F,F,F,F,F,F,F,F,F,F,F,F,F,F,F,F,F,F,F] (by kernel_rfl) rfl rfl ⟨aa BK1.out,HX2.out⟩ (fun hHeld=>?_)
 clear Q1 QE2
 have hb:=aV (Below.refl w1.heap.size w1)
 replace HS:=aHs HS hb.size
 replace HO0_1:=aSb HO0_1 hb
 replace HO0_4:=aSb HO0_4 hb
 replace HO0_5:=aSb HO0_5 hb
 replace HO0_6:=aRb HO0_6 hb
 replace BK1:=aBb BK1 hb
 replace HE2:=A_.mk (Kd.cu HE2.out hb)
 replace HX2:=A_.mk ((hb.cell (wl_ _ _ HX2.out)).trans HX2.out)
 replace HK:=aKb HK hb
 replace HB:=aHB HB hb
 clear hb
 generalize w1.drew=w5d_ at HO0_1 HO0_4 HO0_5 HO0_6 HE2 HX2 HK BK1 HB HS hHeld ⊢
 refine pd_ (i:=0) (N:=some 32) #[T,F,F,F,F,F,F,F,F,F,F,F,F,F,F,F,F,F,F] rfl ?_
 refine pd_ (i:=1) (N:=some 33) #[T,T,F,F,F,F,F,F,F,F,F,F,F,F,F,F,F,F,F] rfl ?_
 refine pd_ (i:=2) (N:=some 34) #[T,T,T,F,F,F,F,F,F,F,F,F,F,F,F,F,F,F,F] rfl ?_
 refine tl_ (i:=3) (N:=some 35) #[T,T,T,T,F,F,F,F,F,F,F,F,F,F,F,F,F,F,F] rfl hHeld ?_
 refine pd_ (i:=4) (N:=some 36) #[T,T,T,T,T,F,F,F,F,F,F,F,F,F,F,F,F,F,F] rfl ?_
 refine pd_ (i:=5) (N:=some 37) #[T,T,T,T,T,T,F,F,F,F,F,F,F,F,F,F,F,F,F] rfl ?_
 refine pd_ (i:=6) (N:=some 38) #[T,T,T,T,T,T,T,F,F,F,F,F,F,F,F,F,F,F,F] rfl ?_
 refine pd_ (i:=7) (N:=some 39) #[T,T,T,T,T,T,T,T,F,F,F,F,F,F,F,F,F,F,F] rfl ?_
 refine pd_ (i:=8) (N:=some 40) #[T,T,T,T,T,T,T,T,T,F,F,F,F,F,F,F,F,F,F] rfl ?_
 refine tl_ (i:=9) (N:=some 41) #[T,T,T,T,T,T,T,T,T,T,F,F,F,F,F,F,F,F,F] rfl hHeld ?_
 refine pd_ (i:=10) (N:=some 42) #[T,T,T,T,T,T,T,T,T,T,T,F,F,F,F,F,F,F,F] rfl ?_
 refine pd_ (i:=11) (N:=some 43) #[T,T,T,T,T,T,T,T,T,T,T,T,F,F,F,F,F,F,F] rfl ?_
 refine pd_ (i:=12) (N:=some 44) #[T,T,T,T,T,T,T,T,T,T,T,T,T,F,F,F,F,F,F] rfl ?_
 refine tl_ (i:=13) (N:=some 45) #[T,T,T,T,T,T,T,T,T,T,T,T,T,T,F,F,F,F,F] rfl hHeld ?_
 refine pd_ (i:=14) (N:=some 46) #[T,T,T,T,T,T,T,T,T,T,T,T,T,T,T,F,F,F,F] rfl ?_
 refine pd_ (i:=15) (N:=some 47) #[T,T,T,T,T,T,T,T,T,T,T,T,T,T,T,T,F,F,F] rfl ?_
 refine on_ (i:=16) (N:=some 48) #[T,T,T,T,T,T,T,T,T,T,T,T,T,T,T,T,T,F,F] rfl (fun K hK=>?_)
 refine gz_ Tryz.func111 #[.slice A2_0 (fG l0_5 (Int.tmod a1 8)).length c2_0,.int .i64 (wrap64 (Int.tdiv a1 8))] ?_
 with_reducible refine (iK.calls k _ _ (fG l0_5 (Int.tmod a1 8)) (wrap64 (Int.tdiv a1 8)) t1 _ HE2.out HD2.out A3.out).mono ?_
 rintro e w3_ ⟨v0_,rfl,ho0_,hb⟩
 refine⟨_,rfl,?_⟩
 replace HS:=aHs HS hb.size
 obtain⟨Ao3_0,co3_0,rfl,HO3_0⟩:=sRm ho0_ HB.out.size
 revert HO0_1 HO0_4 HO0_5 HO0_6 BK1
 refine aD hb ?_
 intro HO0_1 HO0_4 HO0_5 HO0_6 BK1
 replace HE2:=A_.mk (Kd.cu HE2.out hb)
 replace HX2:=A_.mk ((hb.cell (wl_ _ _ HX2.out)).trans HX2.out)
 replace HK:=aKb HK hb
 replace HB:=aHB HB hb
 clear hb ho0_
 refine hK.out _ _ ⟨aa BK1.out,HX2.out⟩ (fun hHeld=>?_)
 clear hK K
 refine nm_ ?_
 refine pd_ (i:=17) (N:=some 49) #[T,T,T,T,T,T,T,T,T,T,T,T,T,T,T,T,T,T,F] rfl ?_
 refine gG (i:=18) (N:=none) #[T,T,T,T,T,T,T,T,T,T,T,T,T,T,T,T,T,T,T] rfl rfl (by kernel_rfl) (by decide) (fun K hK=>?_)
 have Q1:=aa BK1.out
 have QE2:=HX2.out
 have QF_:=yf HO0_5.out EB2.out
 obtain⟨w4_,hw⟩:=lw_ (w3_.setCell ⟨gHO0_5_,((Int.tmod a1 8)).toNat,none⟩ (.slice Ao3_0 t1.length co3_0))
 refine fT (w1:=w4_) (by rfl) rfl ?_ ?_
 ·rw [hw];go_simp;try rfl
 refine hK.out _ _ ?_
 clear hK K Q1 QE2 QF_
 obtain⟨ho,hkp,hbb⟩:=ym hw HO0_5 HO3_0 HB EB2.out (fun k_ h1_ h2_=>by have:=HS.out;(try dsimp only at h1_ h2_);omega)
 clear hw
 rw [←Ny2.out] at ho
 replace HK:=kt_ HK hkp HS
 revert HO0_1 HO0_4 HO0_6 BK1
 refine bC hkp HS ?_
 intro HO0_1 HO0_4 HO0_6 BK1
 replace HS:=aHs HS hkp.1
 have LQHO4:=A_.mk (Kd.eF ho).1.symm
 have HO4:=A_.mk (Kd.dw (ok':=(fun k_=>((w.heap.size≤k_∧k_<w1.heap.size)∧k_≠gb1_∧f0_ k_=2)∨((w5d_.heap.size≤k_∧k_<w3_.heap.size)))) ho (fun k_ hk_=>by (try dsimp only at hk_);omega))
 replace HB:=A_.mk hbb
 clear hkp hbb ho HO0_5 HO3_0
 refine fA (by kernel_rfl) ?_
 go_wp2
 go_ret
 obtain⟨f_,hf_⟩:=mS_ HO0_1 0 (mS_ HO0_4 1 (mS_ HO4 2 (mR_ HO0_6 3 (m0_ 4))))
 have hfk_:∀ k_,k_<w1.heap.size→f_ k_<4→k_=gb1_∨f0_ k_<4:=fun k_ h1_ h2_=>by have:=HS.out;rw [hf_] at h2_;repeat' (first|omega|split at h2_)
 first|exact ⟨f_,_,_,_,_,rfl,BK1.out,cS_ HO0_1 HS hf_,cS_ HO0_4 HS hf_,cS_ HO4 HS hf_,cR_ HO0_6 HS hf_,hfk_,HB.out,HK.out⟩|exact ⟨rfl,f_,_,_,_,_,BK1.out,cS_ HO0_1 HS hf_,cS_ HO0_4 HS hf_,cS_ HO4 HS hf_,cR_ HO0_6 HS hf_,hfk_,HB.out,HK.out⟩
end Go.Proofs.YtmdehehgmnihpaaGreat.PFnExactLinkStep
