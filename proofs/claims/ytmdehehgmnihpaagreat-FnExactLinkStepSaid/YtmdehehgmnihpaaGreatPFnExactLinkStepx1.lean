import Derived.Test.YtmdehehgmnihpaaGreatPFnExactLinkStepx0
namespace Go.Proofs.YtmdehehgmnihpaaGreat.PFnExactLinkStep
open Go.RowKit Go.Proofs.YtmdehehgmnihpaaGreatW.PrintWords Go.Proofs.YtmdehehgmnihpaaGreatW.PrintLast Go.Proofs.YtmdehehgmnihpaaGreatW.PrintMore
attribute [local go_sem] dM dL eu ek dn dm dJ dK
set_option maxHeartbeats 8000000
set_option maxRecDepth 100000
set_option linter.unusedVariables false
set_option linter.unusedSimpArgs false
def dY.f(l0:List Int)(a1:Int):Option (Int):=if (wrap64 (a1-(l0.length:Int)))<0 then (some (-1)) else (some (wrap64 (a1-(l0.length:Int))))
theorem dY.calls(A0:Option Addr)(c0:Nat)(l0:List Int)(a1:Int)(r:Int)(w:World)(hr0:Kd.C (Kd.int .i64) w A0 l0.length l0)(hc0:l0.length≤c0)(h:dY.f l0 a1=some r) :
  Calls Tryz.prog 25 #[.slice A0 l0.length c0,.int .i64 a1] w fun e w'=>e=.returned (.int .i64 r)∧Drawn0 w w':=by
 have HR0:=A_.mk hr0
 have HC0:=A_.mk hc0
 clear hr0 hc0
 have H:(if (wrap64 (a1-(l0.length:Int)))<0 then (some (-1)) else (some (wrap64 (a1-(l0.length:Int)))))=some r:=h
 clear h
 by_cases c3:(wrap64 (a1-(l0.length:Int)))<0
 ·rw [if_pos c3] at H
  have c3b0:=decide_eq_true c3
  clear c3
  obtain rfl:=Option.some.inj H
  go_enter Tryz.func25,Tryz.ntmps25
  go_wp2
  go_ret
  exact dz_
 ·rw [if_neg c3] at H
  have c3b0:=decide_eq_false c3
  clear c3
  obtain rfl:=Option.some.inj H
  go_enter Tryz.func25,Tryz.ntmps25
  go_wp2
  go_ret
  exact dz_
def gU.f(a0_0:Int)(l0_1:List Int)(a1:Int):Option (Int):=(dY.f l0_1 a1).bind fun t102=>(if t102<0 then (some (-1)) else (some t102))
theorem gU.calls(a0_0:Int)(A0_1:Option Addr)(c0_1:Nat)(l0_1:List Int)(a1:Int)(r:Int)(w:World)(hr0_1:Kd.C (Kd.int .i64) w A0_1 l0_1.length l0_1)(hc0_1:l0_1.length≤c0_1)(h:gU.f a0_0 l0_1 a1=some r) :
  Calls Tryz.prog 98 #[.agg #[.int .i64 a0_0,.slice A0_1 l0_1.length c0_1],.int .i64 a1] w fun e w'=>e=.returned (.int .i64 r)∧Below w.heap.size w w':=by
 have hu108:=Tryz.underlying108
 have HR0_1:=A_.mk hr0_1
 have HC0_1:=A_.mk hc0_1
 clear hr0_1 hc0_1
 have HB:=A_.mk (Below.refl w.heap.size w)
 have H:((dY.f l0_1 a1).bind fun t102=>(if t102<0 then (some (-1)) else (some t102)))=some r:=h
 clear h
 replace H:=oa_ H
 obtain⟨t102,A3,H⟩:=H
 by_cases c4:t102<0
 ·rw [if_pos c4] at H
  have c4b0:=decide_eq_true c4
  clear c4
  obtain rfl:=Option.some.inj H
  go_enter Tryz.func98,Tryz.ntmps98
  go_wp2_with (first|((with_reducible refine gd_ (N:=2) rfl ?_);refine by_ 2 (cs:=#[.int .i64 a0_0,.slice A0_1 l0_1.length c0_1]) (t:=108) ?_;intro gb101 hg w5 hbox hb;have n0_:=A_.mk (bt_ (beY HB.out) hb);have n1_:=A_.mk (hbox);have n2_:=A_.mk ((by rw [hg];exact(bz_ (beY HB.out)):w.heap.size≤gb101));have n3_:=A_.mk ((by rw [hg];exact(bz_ (beY HB.out)):w.heap.size≤gb101));clear HB;have HB:=n0_;have BK101:=n1_;have GW101:=n2_;have GE101:=n3_;clear n0_ n1_ n2_ n3_ hb hbox hg;obtain⟨hcz6_0,hcz6_1⟩:=gq BK101;obtain⟨hfz6_0,hfz6_1⟩:=dO BK101)|((with_reducible refine gc_ (f:=25) rfl ?_);refine gl_ (some 8) Tryz.func25 #[.slice A0_1 l0_1.length c0_1,.int .i64 a1] ?_;(with_reducible refine (dY.calls _ _ l0_1 a1 t102 _ ?side1 ?side2 A3.out).mono ?_);(case side1=>exact cY ((cb_ HR0_1 HB)));(case side2=>exact HC0_1.out);rintro e w' ⟨rfl,⟨nd,rfl⟩⟩;refine⟨_,rfl,?_⟩))
  go_ret
  exact⟨re_,(zA_ HB GE101)⟩
 rw [if_neg c4] at H
 have c4b0:=decide_eq_false c4
 clear c4
 obtain rfl:=Option.some.inj H
 go_enter Tryz.func98,Tryz.ntmps98
 go_wp2_with (first|((with_reducible refine gd_ (N:=2) rfl ?_);refine by_ 2 (cs:=#[.int .i64 a0_0,.slice A0_1 l0_1.length c0_1]) (t:=108) ?_;intro gb101 hg w7 hbox hb;have n0_:=A_.mk (bt_ (beY HB.out) hb);have n1_:=A_.mk (hbox);have n2_:=A_.mk ((by rw [hg];exact(bz_ (beY HB.out)):w.heap.size≤gb101));have n3_:=A_.mk ((by rw [hg];exact(bz_ (beY HB.out)):w.heap.size≤gb101));clear HB;have HB:=n0_;have BK101:=n1_;have GW101:=n2_;have GE101:=n3_;clear n0_ n1_ n2_ n3_ hb hbox hg;obtain⟨hcz8_0,hcz8_1⟩:=gq BK101;obtain⟨hfz8_0,hfz8_1⟩:=dO BK101)|((with_reducible refine gc_ (f:=25) rfl ?_);refine gl_ (some 8) Tryz.func25 #[.slice A0_1 l0_1.length c0_1,.int .i64 a1] ?_;(with_reducible refine (dY.calls _ _ l0_1 a1 t102 _ ?side1 ?side2 A3.out).mono ?_);(case side1=>exact cY ((cb_ HR0_1 HB)));(case side2=>exact HC0_1.out);rintro e w' ⟨rfl,⟨nd,rfl⟩⟩;refine⟨_,rfl,?_⟩))
 go_ret
 exact⟨re_,(zA_ HB GE101)⟩
def dh.l0:Nat→List (S108)→Int→Int→Option (Int)
 | 0,_,_,_=>none
 | k+1,x0,x1,x5=>if x5<(x0.length:Int) then (if 0≤x5 then ((gU.f ((fV x0 x5).f0) ((fV x0 x5).f1) x1).bind fun t104=>(if t104<0 then (some (-1)) else (dh.l0 k x0 t104 (wrap64 (x5+1))))) else (none)) else (some x1)
def dh.f(k:Nat)(l0:List (S108))(a1:Int):Option (Int):=if (wrap64 (a1-(l0.length:Int)))<0 then (some (-1)) else (dh.l0 k l0 (wrap64 (a1-(l0.length:Int))) 0)
theorem dh.calls(k:Nat)(A0:Option Addr)(c0:Nat)(l0:List (S108))(a1:Int)(r:Int)(w:World)(hr0:Kd.C k108 w A0 l0.length l0)(hc0:l0.length≤c0)(h:dh.f k l0 a1=some r) :
  Calls Tryz.prog 59 #[.slice A0 l0.length c0,.int .i64 a1] w fun e w'=>e=.returned (.int .i64 r)∧Below w.heap.size w w':=by
 have hu108:=Tryz.underlying108
 have HR0:=A_.mk hr0
 have HC0:=A_.mk hc0
 clear hr0 hc0
 have HB:=A_.mk (Below.refl w.heap.size w)
 have H:(if (wrap64 (a1-(l0.length:Int)))<0 then (some (-1)) else (dh.l0 k l0 (wrap64 (a1-(l0.length:Int))) 0))=some r:=h
 clear h
 by_cases c3:(wrap64 (a1-(l0.length:Int)))<0
 ·rw [if_pos c3] at H
  have c3b0:=decide_eq_true c3
  clear c3
  obtain rfl:=Option.some.inj H
  go_enter Tryz.func59,Tryz.ntmps59
  go_wp2
  go_ret
  exact⟨re_,beY HB.out⟩
 rw [if_neg c3] at H
 have c3b0:=decide_eq_false c3
 clear c3
 have H':=A_.mk H
 clear H
 go_enter Tryz.func59,Tryz.ntmps59
 go_wp2
 go_loopg [1,5] k (fun kq v1 v5 w'=>∃ (x1_1:Int) (x5_1:Int),v1=.int .i64 x1_1∧v5=.int .i64 x5_1∧A_ (dh.l0 kq l0 x1_1 x5_1=some r)∧A_ (kq≤k)∧A_ (Below w.heap.size w w'))
 case atStart=>exact ⟨(wrap64 (a1-(l0.length:Int))),(0),rs_,rs_,H',⟨Nat.le_refl _⟩,⟨beY HB.out⟩⟩
 case round =>
  clear H'
  obtain⟨x1_1,x5_1,rfl,rfl,HA,HK1,HB⟩:=hrel
  cases gk with
  | zero=>exact absurd HA.out (by simp [dh.l0])
  | succ k1 =>
   have H:=HA.out
   clear HA
   simp only [dh.l0] at H
   by_cases c4:x5_1<(l0.length:Int)
   rotate_left
   ·rw [if_neg c4] at H
    have c4b0:=decide_eq_false c4
    clear c4
    obtain rfl:=Option.some.inj H
    go_wp2
    go_ret
    exact⟨re_,beY HB.out⟩
   rw [if_pos c4] at H
   have c4b0:=decide_eq_true c4
   clear c4
   by_cases c5:0≤x5_1
   rotate_left
   ·rw [if_neg c5] at H
    exact absurd H (by simp)
   rw [if_pos c5] at H
   have c5b0:=decide_eq_true c5
   clear c5
   replace H:=oa_ H
   obtain⟨t104,A6,H⟩:=H
   by_cases c7:t104<0
   ·rw [if_pos c7] at H
    have c7b0:=decide_eq_true c7
    clear c7
    obtain rfl:=Option.some.inj H
    have p103:0≤(x5_1:Int):=od_
    have q103:x5_1<(l0.length:Int):=od_
    obtain⟨ad103,A103_1,c103_1,e103,hx103_0,hx103_1,hl103_1,hi103_1⟩:=qh HR0.out x5_1 p103 q103
    cases e103
    replace hx103_0:=(HB.out.cell (wl_ w _ hx103_0)).trans hx103_0
    replace hx103_1:=(HB.out.cell (wl_ w _ hx103_1)).trans hx103_1
    have HR103_1:=A_.mk hi103_1
    have HC103_1:=A_.mk hl103_1
    clear hi103_1 hl103_1
    replace p103:=eq_true p103
    replace q103:=eq_true q103
    go_wp2_with (first|((with_reducible refine gc_ (f:=98) rfl ?_);refine gl_ (some 23) Tryz.func98 #[.agg #[.int .i64 ((fV l0 x5_1).f0),.slice A103_1 ((fV l0 x5_1).f1).length c103_1],.int .i64 x1_1] ?_;(with_reducible refine (gU.calls ((fV l0 x5_1).f0) _ _ ((fV l0 x5_1).f1) x1_1 t104 _ ?side1 ?side2 A6.out).mono ?_);(case side1=>exact cY ((cb_ HR103_1 HB)));(case side2=>exact HC103_1.out);rintro e w8 ⟨rfl,hb⟩;refine⟨_,rfl,?_⟩;have n0_:=A_.mk (bt_ (beY HB.out) hb);clear HB;have HB:=n0_;clear n0_;(try clear hb);(try clear hb2);(try clear hk);(try clear hi)))
    go_ret
    exact⟨re_,beY HB.out⟩
   rw [if_neg c7] at H
   have c7b0:=decide_eq_false c7
   clear c7
   have H':=A_.mk H
   clear H
   have p103:0≤(x5_1:Int):=od_
   have q103:x5_1<(l0.length:Int):=od_
   obtain⟨ad103,A103_1,c103_1,e103,hx103_0,hx103_1,hl103_1,hi103_1⟩:=qh HR0.out x5_1 p103 q103
   cases e103
   replace hx103_0:=(HB.out.cell (wl_ w _ hx103_0)).trans hx103_0
   replace hx103_1:=(HB.out.cell (wl_ w _ hx103_1)).trans hx103_1
   have HR103_1:=A_.mk hi103_1
   have HC103_1:=A_.mk hl103_1
   clear hi103_1 hl103_1
   replace p103:=eq_true p103
   replace q103:=eq_true q103
   go_wp2_with (first|((with_reducible refine gc_ (f:=98) rfl ?_);refine gl_ (some 23) Tryz.func98 #[.agg #[.int .i64 ((fV l0 x5_1).f0),.slice A103_1 ((fV l0 x5_1).f1).length c103_1],.int .i64 x1_1] ?_;(with_reducible refine (gU.calls ((fV l0 x5_1).f0) _ _ ((fV l0 x5_1).f1) x1_1 t104 _ ?side1 ?side2 A6.out).mono ?_);(case side1=>exact cY ((cb_ HR103_1 HB)));(case side2=>exact HC103_1.out);rintro e w9 ⟨rfl,hb⟩;refine⟨_,rfl,?_⟩;have n0_:=A_.mk (bt_ (beY HB.out) hb);clear HB;have HB:=n0_;clear n0_;(try clear hb);(try clear hb2);(try clear hk);(try clear hi)))
   go_roundg k1
   case measure=>have:=HK1.out;omega
   case rel=>exact ⟨(t104),(wrap64 (x5_1+1)),rs_,rs_,H',⟨by have:=HK1.out;omega⟩,⟨beY HB.out⟩⟩
theorem kv{P:Program}{n:Nat}{a b:Array Value}{w:World}{Q:Ending→World→Prop}(h:a=b)(hc:Calls P n a w Q):Calls P n b w Q:=h ▸ hc
theorem Kept.gQ{W W':World}{g:Nat}(h:Kept W W' (fun k_=>k_=g))(j:Nat)(u:Value):Kept W (W'.setCell ⟨g,j,none⟩ u) (fun k_=>k_=g):=h.setCell (.inl rfl) u
theorem ak{W:World}{g t:Nat}{a0 a1:Value}(h:W.heap[g]?=some (.cells #[a0,a1] t (0,0))):W.cell? ⟨g,0,none⟩=some a0∧W.cell? ⟨g,1,none⟩=some a1 :=
 ⟨(bc_ h 0).trans rfl,(bc_ h 1).trans rfl⟩
theorem av{W:World}{g t:Nat}{a0 a1 a2:Value}(h:W.heap[g]?=some (.cells #[a0,a1,a2] t (0,0))):W.cell? ⟨g,0,none⟩=some a0∧W.cell? ⟨g,1,none⟩=some a1∧W.cell? ⟨g,2,none⟩=some a2 :=
 ⟨(bc_ h 0).trans rfl,(bc_ h 1).trans rfl,(bc_ h 2).trans rfl⟩
theorem aa{W:World}{g t:Nat}{a0 a1 a2 a3 a4 a5 a6:Value}(h:W.heap[g]?=some (.cells #[a0,a1,a2,a3,a4,a5,a6] t (0,0))):W.cell? ⟨g,0,none⟩=some a0∧W.cell? ⟨g,1,none⟩=some a1∧W.cell? ⟨g,2,none⟩=some a2∧W.cell? ⟨g,3,none⟩=some a3∧W.cell? ⟨g,4,none⟩=some a4∧W.cell? ⟨g,5,none⟩=some a5∧W.cell? ⟨g,6,none⟩=some a6 :=
 ⟨(bc_ h 0).trans rfl,(bc_ h 1).trans rfl,(bc_ h 2).trans rfl,(bc_ h 3).trans rfl,(bc_ h 4).trans rfl,(bc_ h 5).trans rfl,(bc_ h 6).trans rfl⟩
abbrev jv(W:World)(g:Nat)(v0 v1:Value):World:=((W.setCell ⟨g,0,none⟩ v0).setCell ⟨g,1,none⟩ v1)
theorem jA{w W W':World}{g:Nat}{t:TypeId}{a0 a1 v0 v1:Value}(hw:W'=jv W g v0 v1)(h:A_ (W.heap[g]?=some (.cells #[a0,a1] t (0,0))))(hb:A_ (Below w.heap.size w W))(hge:w.heap.size≤g) :
  W'.heap[g]?=some (.cells #[v0,v1] t (0,0))∧Kept W W' (fun k_=>k_=g)∧Below w.heap.size w W':=by
 subst hw
 exact⟨(bp_ (cs:=#[v0,a1]) (bp_ (cs:=#[a0,a1]) h.out 0 _ rfl) 1 _ rfl),(Kept.gQ (Kept.gQ (Kept.refl _ _) 0 _) 1 _),(bs_ (bs_ hb.out hge) hge)⟩
abbrev iN(W:World)(g:Nat)(v0 v1 v2:Value):World:=(((W.setCell ⟨g,0,none⟩ v0).setCell ⟨g,1,none⟩ v1).setCell ⟨g,2,none⟩ v2)
theorem iT{w W W':World}{g:Nat}{t:TypeId}{a0 a1 a2 v0 v1 v2:Value}(hw:W'=iN W g v0 v1 v2)(h:A_ (W.heap[g]?=some (.cells #[a0,a1,a2] t (0,0))))(hb:A_ (Below w.heap.size w W))(hge:w.heap.size≤g) :
  W'.heap[g]?=some (.cells #[v0,v1,v2] t (0,0))∧Kept W W' (fun k_=>k_=g)∧Below w.heap.size w W':=by
 subst hw
 exact⟨(bp_ (cs:=#[v0,v1,a2]) (bp_ (cs:=#[v0,a1,a2]) (bp_ (cs:=#[a0,a1,a2]) h.out 0 _ rfl) 1 _ rfl) 2 _ rfl),(Kept.gQ (Kept.gQ (Kept.gQ (Kept.refl _ _) 0 _) 1 _) 2 _),(bs_ (bs_ (bs_ hb.out hge) hge) hge)⟩
abbrev iR(W:World)(g:Nat)(v0 v1 v2 v3 v4 v5 v6:Value):World:=(((((((W.setCell ⟨g,0,none⟩ v0).setCell ⟨g,1,none⟩ v1).setCell ⟨g,2,none⟩ v2).setCell ⟨g,3,none⟩ v3).setCell ⟨g,4,none⟩ v4).setCell ⟨g,5,none⟩ v5).setCell ⟨g,6,none⟩ v6)
theorem iV{w W W':World}{g:Nat}{t:TypeId}{a0 a1 a2 a3 a4 a5 a6 v0 v1 v2 v3 v4 v5 v6:Value}(hw:W'=iR W g v0 v1 v2 v3 v4 v5 v6)(h:A_ (W.heap[g]?=some (.cells #[a0,a1,a2,a3,a4,a5,a6] t (0,0))))(hb:A_ (Below w.heap.size w W))(hge:w.heap.size≤g) :
  W'.heap[g]?=some (.cells #[v0,v1,v2,v3,v4,v5,v6] t (0,0))∧Kept W W' (fun k_=>k_=g)∧Below w.heap.size w W':=by
 subst hw
 exact⟨(bp_ (cs:=#[v0,v1,v2,v3,v4,v5,a6]) (bp_ (cs:=#[v0,v1,v2,v3,v4,a5,a6]) (bp_ (cs:=#[v0,v1,v2,v3,a4,a5,a6]) (bp_ (cs:=#[v0,v1,v2,a3,a4,a5,a6]) (bp_ (cs:=#[v0,v1,a2,a3,a4,a5,a6]) (bp_ (cs:=#[v0,a1,a2,a3,a4,a5,a6]) (bp_ (cs:=#[a0,a1,a2,a3,a4,a5,a6]) h.out 0 _ rfl) 1 _ rfl) 2 _ rfl) 3 _ rfl) 4 _ rfl) 5 _ rfl) 6 _ rfl),(Kept.gQ (Kept.gQ (Kept.gQ (Kept.gQ (Kept.gQ (Kept.gQ (Kept.gQ (Kept.refl _ _) 0 _) 1 _) 2 _) 3 _) 4 _) 5 _) 6 _),(bs_ (bs_ (bs_ (bs_ (bs_ (bs_ (bs_ hb.out hge) hge) hge) hge) hge) hge) hge)⟩
theorem wB{w W W':World}{g:Nat}{t:TypeId}{a0 a1 v0:Value}(hw:W'=(W.setCell ⟨g,0,none⟩ v0))(h:A_ (W.heap[g]?=some (.cells #[a0,a1] t (0,0))))(hb:A_ (Below w.heap.size w W))(hge:w.heap.size≤g) :
  W'.heap[g]?=some (.cells #[v0,a1] t (0,0))∧Kept W W' (fun k_=>k_=g)∧Below w.heap.size w W':=by
 subst hw
 exact⟨(bp_ (cs:=#[a0,a1]) h.out 0 _ rfl),(Kept.gQ (Kept.refl _ _) 0 _),(bs_ hb.out hge)⟩
theorem wI{w W W':World}{g:Nat}{t:TypeId}{a0 a1 v0:Value}(hw:W'=(W.setCell ⟨g,1,none⟩ v0))(h:A_ (W.heap[g]?=some (.cells #[a0,a1] t (0,0))))(hb:A_ (Below w.heap.size w W))(hge:w.heap.size≤g) :
  W'.heap[g]?=some (.cells #[a0,v0] t (0,0))∧Kept W W' (fun k_=>k_=g)∧Below w.heap.size w W':=by
 subst hw
 exact⟨(bp_ (cs:=#[a0,a1]) h.out 1 _ rfl),(Kept.gQ (Kept.refl _ _) 1 _),(bs_ hb.out hge)⟩
theorem sN{w W W':World}{g:Nat}{t:TypeId}{a0 a1 a2 v0:Value}(hw:W'=(W.setCell ⟨g,0,none⟩ v0))(h:A_ (W.heap[g]?=some (.cells #[a0,a1,a2] t (0,0))))(hb:A_ (Below w.heap.size w W))(hge:w.heap.size≤g) :
  W'.heap[g]?=some (.cells #[v0,a1,a2] t (0,0))∧Kept W W' (fun k_=>k_=g)∧Below w.heap.size w W':=by
 subst hw
 exact⟨(bp_ (cs:=#[a0,a1,a2]) h.out 0 _ rfl),(Kept.gQ (Kept.refl _ _) 0 _),(bs_ hb.out hge)⟩
theorem nN{w W W':World}{g:Nat}{t:TypeId}{a0 a1 a2 v0:Value}(hw:W'=(W.setCell ⟨g,1,none⟩ v0))(h:A_ (W.heap[g]?=some (.cells #[a0,a1,a2] t (0,0))))(hb:A_ (Below w.heap.size w W))(hge:w.heap.size≤g) :
  W'.heap[g]?=some (.cells #[a0,v0,a2] t (0,0))∧Kept W W' (fun k_=>k_=g)∧Below w.heap.size w W':=by
 subst hw
 exact⟨(bp_ (cs:=#[a0,a1,a2]) h.out 1 _ rfl),(Kept.gQ (Kept.refl _ _) 1 _),(bs_ hb.out hge)⟩
theorem nu{w W W':World}{g:Nat}{t:TypeId}{a0 a1 a2 v0:Value}(hw:W'=(W.setCell ⟨g,2,none⟩ v0))(h:A_ (W.heap[g]?=some (.cells #[a0,a1,a2] t (0,0))))(hb:A_ (Below w.heap.size w W))(hge:w.heap.size≤g) :
  W'.heap[g]?=some (.cells #[a0,a1,v0] t (0,0))∧Kept W W' (fun k_=>k_=g)∧Below w.heap.size w W':=by
 subst hw
 exact⟨(bp_ (cs:=#[a0,a1,a2]) h.out 2 _ rfl),(Kept.gQ (Kept.refl _ _) 2 _),(bs_ hb.out hge)⟩
theorem j6{w W W':World}{g:Nat}{t:TypeId}{a0 a1 a2 a3 a4 a5 a6 v0:Value}(hw:W'=(W.setCell ⟨g,5,none⟩ v0))(h:A_ (W.heap[g]?=some (.cells #[a0,a1,a2,a3,a4,a5,a6] t (0,0))))(hb:A_ (Below w.heap.size w W))(hge:w.heap.size≤g) :
  W'.heap[g]?=some (.cells #[a0,a1,a2,a3,a4,v0,a6] t (0,0))∧Kept W W' (fun k_=>k_=g)∧Below w.heap.size w W':=by
 subst hw
 exact⟨(bp_ (cs:=#[a0,a1,a2,a3,a4,a5,a6]) h.out 5 _ rfl),(Kept.gQ (Kept.refl _ _) 5 _),(bs_ hb.out hge)⟩
theorem jD{w W W':World}{g:Nat}{t:TypeId}{a0 a1 a2 a3 a4 a5 a6 v0:Value}(hw:W'=(W.setCell ⟨g,6,none⟩ v0))(h:A_ (W.heap[g]?=some (.cells #[a0,a1,a2,a3,a4,a5,a6] t (0,0))))(hb:A_ (Below w.heap.size w W))(hge:w.heap.size≤g) :
  W'.heap[g]?=some (.cells #[a0,a1,a2,a3,a4,a5,v0] t (0,0))∧Kept W W' (fun k_=>k_=g)∧Below w.heap.size w W':=by
 subst hw
 exact⟨(bp_ (cs:=#[a0,a1,a2,a3,a4,a5,a6]) h.out 6 _ rfl),(Kept.gQ (Kept.refl _ _) 6 _),(bs_ hb.out hge)⟩
theorem nL{w W W':World}{g:Nat}{t:TypeId}{a0 a1 a2 a3 a4 a5 a6 v0 v1:Value}(hw:W'=((W.setCell ⟨g,3,none⟩ v0).setCell ⟨g,4,none⟩ v1))(h:A_ (W.heap[g]?=some (.cells #[a0,a1,a2,a3,a4,a5,a6] t (0,0))))(hb:A_ (Below w.heap.size w W))(hge:w.heap.size≤g) :
  W'.heap[g]?=some (.cells #[a0,a1,a2,v0,v1,a5,a6] t (0,0))∧Kept W W' (fun k_=>k_=g)∧Below w.heap.size w W':=by
 subst hw
 exact⟨(bp_ (cs:=#[a0,a1,a2,v0,a4,a5,a6]) (bp_ (cs:=#[a0,a1,a2,a3,a4,a5,a6]) h.out 3 _ rfl) 4 _ rfl),(Kept.gQ (Kept.gQ (Kept.refl _ _) 3 _) 4 _),(bs_ (bs_ hb.out hge) hge)⟩
theorem jd{w W W':World}{g:Nat}{t:TypeId}{a0 a1 a2 a3 a4 a5 a6 v0 v1 v2:Value}(hw:W'=(((W.setCell ⟨g,0,none⟩ v0).setCell ⟨g,1,none⟩ v1).setCell ⟨g,2,none⟩ v2))(h:A_ (W.heap[g]?=some (.cells #[a0,a1,a2,a3,a4,a5,a6] t (0,0))))(hb:A_ (Below w.heap.size w W))(hge:w.heap.size≤g) :
  W'.heap[g]?=some (.cells #[v0,v1,v2,a3,a4,a5,a6] t (0,0))∧Kept W W' (fun k_=>k_=g)∧Below w.heap.size w W':=by
 subst hw
 exact⟨(bp_ (cs:=#[v0,v1,a2,a3,a4,a5,a6]) (bp_ (cs:=#[v0,a1,a2,a3,a4,a5,a6]) (bp_ (cs:=#[a0,a1,a2,a3,a4,a5,a6]) h.out 0 _ rfl) 1 _ rfl) 2 _ rfl),(Kept.gQ (Kept.gQ (Kept.gQ (Kept.refl _ _) 0 _) 1 _) 2 _),(bs_ (bs_ (bs_ hb.out hge) hge) hge)⟩
section
variable {α : Type} {d : Kd α} {e base j : Nat} {ok S : Nat → Prop} {W W2 w : World} {v : Value} {xs : List α} {p : Prop} {f : Nat → Nat}
theorem aRk(h:A_ (Kd.R d e W base ok v xs))(hk:Kept W W2 S)(hs:A_ p)(hn:p→∀ k,ok k→¬ S k:=by intro h1_ k_ h2_ h3_;first|omega|(subst h3_;omega)):A_ (Kd.R d e W2 base ok v xs):=⟨Kd.oL h.out hk (hn hs.out)⟩
theorem aRb(h:A_ (Kd.R d e W base ok v xs))(hb:Below W.heap.size W W2):A_ (Kd.R d e W2 base ok v xs):=⟨Kd.mQ h.out hb⟩
theorem aSk(h:A_ (Kd.S d e W base ok v xs))(hk:Kept W W2 S)(hs:A_ p)(hn:p→∀ k,ok k→¬ S k:=by intro h1_ k_ h2_ h3_;first|omega|(subst h3_;omega)):A_ (Kd.S d e W2 base ok v xs):=⟨Kd.ku h.out hk (hn hs.out)⟩
theorem aSb(h:A_ (Kd.S d e W base ok v xs))(hb:Below W.heap.size W W2):A_ (Kd.S d e W2 base ok v xs):=⟨Kd.iY h.out hb⟩
theorem aVk(h:A_ (Kd.V d e W base ok v xs))(hk:Kept W W2 S)(hs:A_ p)(hn:p→∀ k,ok k→¬ S k:=by intro h1_ k_ h2_ h3_;first|omega|(subst h3_;omega)):A_ (Kd.V d e W2 base ok v xs):=⟨Kd.vU h.out hk (hn hs.out)⟩
theorem aVb(h:A_ (Kd.V d e W base ok v xs))(hb:Below W.heap.size W W2):A_ (Kd.V d e W2 base ok v xs):=⟨Kd.wS h.out hb⟩
theorem aNb(h:A_ (Kd.N d e W base ok v xs))(hb:Below W.heap.size W W2):A_ (Kd.N d e W2 base ok v xs):=⟨Kd.jk h.out hb⟩
theorem aRn(h:Kd.R d e W2 W.heap.size (fun k=>f k=j) v xs)(hB:base≤W.heap.size):A_ (Kd.R d e W2 base (fun k_=>(W.heap.size≤k_∧k_<W2.heap.size)∧f k_=j) v xs):=⟨Kd.bR (Kd.aC (Kd.bP h) (fun k_ hk_=>⟨⟨hk_.2.1,hk_.2.2.1⟩,hk_.1⟩)) hB⟩
theorem aRm(h:Kd.R d e W2 W.heap.size ok v xs)(hB:base≤W.heap.size):A_ (Kd.R d e W2 base (fun k_=>(W.heap.size≤k_∧k_<W2.heap.size)) v xs):=⟨Kd.bR (Kd.aC (Kd.bP h) (fun k_ hk_=>⟨hk_.2.1,hk_.2.2.1⟩)) hB⟩
theorem aSn(h:Kd.S d e W2 W.heap.size (fun k=>f k=j) v xs)(hB:base≤W.heap.size):A_ (Kd.S d e W2 base (fun k_=>(W.heap.size≤k_∧k_<W2.heap.size)∧f k_=j) v xs):=⟨Kd.j5 (Kd.dw (Kd.ik h) (fun k_ hk_=>⟨⟨hk_.2.1,hk_.2.2.1⟩,hk_.1⟩)) hB⟩
theorem aSm(h:Kd.S d e W2 W.heap.size ok v xs)(hB:base≤W.heap.size):A_ (Kd.S d e W2 base (fun k_=>(W.heap.size≤k_∧k_<W2.heap.size)) v xs):=⟨Kd.j5 (Kd.dw (Kd.ik h) (fun k_ hk_=>⟨hk_.2.1,hk_.2.2.1⟩)) hB⟩
theorem aVm(h:Kd.V d e W2 W.heap.size (fun k=>W.heap.size≤k) v xs)(hB:base≤W.heap.size):A_ (Kd.V d e W2 base (fun k_=>(W.heap.size≤k_∧k_<W2.heap.size)) v xs):=⟨Kd.wH (Kd.aW (Kd.lg h) (fun k_ hk_=>⟨hk_.1,hk_.2⟩)) hB⟩
theorem sRn(h:Kd.R d e W2 W.heap.size (fun k=>f k=j) v xs)(hB:base≤W.heap.size):∃ A c,v=.slice A xs.length c∧A_ (Kd.R d e W2 base (fun k_=>(W.heap.size≤k_∧k_<W2.heap.size)∧f k_=j) (.slice A xs.length c) xs):=by
  obtain⟨A,c,rfl⟩:=Kd.aX h
  exact⟨A,c,rfl,aRn h hB⟩
theorem sSn(h:Kd.S d e W2 W.heap.size (fun k=>f k=j) v xs)(hB:base≤W.heap.size):∃ A c,v=.slice A xs.length c∧A_ (Kd.S d e W2 base (fun k_=>(W.heap.size≤k_∧k_<W2.heap.size)∧f k_=j) (.slice A xs.length c) xs):=by
  obtain⟨A,c,rfl⟩:=Kd.dx h
  exact⟨A,c,rfl,aSn h hB⟩
theorem sRm(h:Kd.R d e W2 W.heap.size ok v xs)(hB:base≤W.heap.size):∃ A c,v=.slice A xs.length c∧A_ (Kd.R d e W2 base (fun k_=>(W.heap.size≤k_∧k_<W2.heap.size)) (.slice A xs.length c) xs):=by
  obtain⟨A,c,rfl⟩:=Kd.aX h
  exact⟨A,c,rfl,aRm h hB⟩
theorem sSm(h:Kd.S d e W2 W.heap.size ok v xs)(hB:base≤W.heap.size):∃ A c,v=.slice A xs.length c∧A_ (Kd.S d e W2 base (fun k_=>(W.heap.size≤k_∧k_<W2.heap.size)) (.slice A xs.length c) xs):=by
  obtain⟨A,c,rfl⟩:=Kd.dx h
  exact⟨A,c,rfl,aSm h hB⟩
theorem sVm(h:Kd.V d e W2 W.heap.size (fun k=>W.heap.size≤k) v xs)(hB:base≤W.heap.size):∃ A c,v=.slice A xs.length c∧A_ (Kd.V d e W2 base (fun k_=>(W.heap.size≤k_∧k_<W2.heap.size)) (.slice A xs.length c) xs):=by
  obtain⟨A,c,rfl⟩:=Kd.gH h
  exact⟨A,c,rfl,aVm h hB⟩
theorem aBk{g:Nat}{o:Obj}(h:A_ (W.heap[g]?=some o))(hk:Kept W W2 S)(hs:A_ p)(hn:p→¬ S g:=by intro h1_ h2_;omega):A_ (W2.heap[g]?=some o):=⟨(hk.2 _ (aI h.out) (hn hs.out)).trans h.out⟩
theorem aBb{g:Nat}{o:Obj}(h:A_ (W.heap[g]?=some o))(hb:Below W.heap.size W W2):A_ (W2.heap[g]?=some o):=⟨bb_ h.out hb⟩
theorem aHs{q:Prop}(h:A_ p)(hq:q):A_ (p∧q):=⟨⟨h.out,hq⟩⟩
theorem aHB(h:A_ (Below w.heap.size w W))(hb:Below W.heap.size W W2):A_ (Below w.heap.size w W2):=⟨jN h.out h.out.size hb⟩
theorem aHg{g:Nat}{o:Obj}(h:A_ p)(hg:g=W.heap.size)(hb:W2.heap[g]?=some o):A_ (p∧g=W.heap.size∧g<W2.heap.size):=⟨⟨h.out,hg,aI hb⟩⟩
theorem aKb(h:A_ (Kept w W S))(hb:Below W.heap.size W W2):A_ (Kept w W2 S):=⟨h.out.below hb⟩
class TB_ (W W2:World) (P:Prop) (Q:outParam Prop):Prop where out:Below W.heap.size W W2→P→Q
instance tbR_{α:Type}{d:Kd α}{e base:Nat}{ok:Nat→Prop}{W W2:World}{v:Value}{xs:List α}:TB_ W W2 (A_ (Kd.R d e W base ok v xs)) (A_ (Kd.R d e W2 base ok v xs)):=⟨fun hb h=>aRb h hb⟩
instance tbS_{α:Type}{d:Kd α}{e base:Nat}{ok:Nat→Prop}{W W2:World}{v:Value}{xs:List α}:TB_ W W2 (A_ (Kd.S d e W base ok v xs)) (A_ (Kd.S d e W2 base ok v xs)):=⟨fun hb h=>aSb h hb⟩
instance tbV_{α:Type}{d:Kd α}{e base:Nat}{ok:Nat→Prop}{W W2:World}{v:Value}{xs:List α}:TB_ W W2 (A_ (Kd.V d e W base ok v xs)) (A_ (Kd.V d e W2 base ok v xs)):=⟨fun hb h=>aVb h hb⟩
instance tbN_{α:Type}{d:Kd α}{e base:Nat}{ok:Nat→Prop}{W W2:World}{v:Value}{xs:List α}:TB_ W W2 (A_ (Kd.N d e W base ok v xs)) (A_ (Kd.N d e W2 base ok v xs)):=⟨fun hb h=>aNb h hb⟩
instance tbB_{W W2:World}{g:Nat}{o:Obj}:TB_ W W2 (A_ (W.heap[g]?=some o)) (A_ (W2.heap[g]?=some o)):=⟨fun hb h=>aBb h hb⟩
instance tbH_{w W W2:World}:TB_ W W2 (A_ (Below w.heap.size w W)) (A_ (Below w.heap.size w W2)):=⟨fun hb h=>aHB h hb⟩
instance tbK_{w W W2:World}{S:Nat→Prop}:TB_ W W2 (A_ (Kept w W S)) (A_ (Kept w W2 S)):=⟨fun hb h=>aKb h hb⟩
instance(priority:=10) tbS0_{W W2:World}{p:Prop}:TB_ W W2 (A_ p) (A_ (p∧W.heap.size≤W2.heap.size)):=⟨fun hb h=>⟨h.out,hb.size⟩⟩
class TR_ (W W2:World) (G:Prop) (G2:outParam Prop):Prop where out:Below W.heap.size W W2→G2→G
instance(priority:=1) trE_{W W2:World}{G:Prop}:TR_ W W2 G G:=⟨fun _ g=>g⟩
instance trC_{W W2:World}{P Q G G2:Prop}[TB_ W W2 P Q][TR_ W W2 G G2]:TR_ W W2 (P→G) (Q→G2):=⟨fun hb g p=>TR_.out hb (g (TB_.out hb p))⟩
theorem aD{W W2:World}{G G2:Prop}[TR_ W W2 G G2](hb:Below W.heap.size W W2)(g:G2):G:=TR_.out hb g
class TK_ (W W2:World) (S:Nat→Prop) (P:Prop) (Q:outParam Prop) (C:outParam Prop):Prop where out:Kept W W2 S→C→P→Q
instance tkR_{α:Type}{d:Kd α}{e base:Nat}{ok:Nat→Prop}{W W2:World}{v:Value}{xs:List α}{S:Nat→Prop}:TK_ W W2 S (A_ (Kd.R d e W base ok v xs)) (A_ (Kd.R d e W2 base ok v xs)) (∀ k,ok k→¬ S k):=⟨fun hk c h=>⟨Kd.oL h.out hk c⟩⟩
instance tkS_{α:Type}{d:Kd α}{e base:Nat}{ok:Nat→Prop}{W W2:World}{v:Value}{xs:List α}{S:Nat→Prop}:TK_ W W2 S (A_ (Kd.S d e W base ok v xs)) (A_ (Kd.S d e W2 base ok v xs)) (∀ k,ok k→¬ S k):=⟨fun hk c h=>⟨Kd.ku h.out hk c⟩⟩
instance tkV_{α:Type}{d:Kd α}{e base:Nat}{ok:Nat→Prop}{W W2:World}{v:Value}{xs:List α}{S:Nat→Prop}:TK_ W W2 S (A_ (Kd.V d e W base ok v xs)) (A_ (Kd.V d e W2 base ok v xs)) (∀ k,ok k→¬ S k):=⟨fun hk c h=>⟨Kd.vU h.out hk c⟩⟩
instance tkN_{α:Type}{d:Kd α}{e base:Nat}{ok:Nat→Prop}{W W2:World}{v:Value}{xs:List α}{S:Nat→Prop}:TK_ W W2 S (A_ (Kd.N d e W base ok v xs)) (A_ (Kd.N d e W2 base ok v xs)) (∀ k,ok k→¬ S k):=⟨fun hk c h=>⟨Kd.xX h.out hk c⟩⟩
instance tkB_{W W2:World}{S:Nat→Prop}{g:Nat}{o:Obj}:TK_ W W2 S (A_ (W.heap[g]?=some o)) (A_ (W2.heap[g]?=some o)) (¬ S g):=⟨fun hk c h=>⟨(hk.2 _ (aI h.out) c).trans h.out⟩⟩
class TJ_ (W W2:World) (S:Nat→Prop) (G:Prop) (G2:outParam Prop) (C:outParam Prop):Prop where out:Kept W W2 S→C→G2→G
instance(priority:=1) tjE_{W W2:World}{S:Nat→Prop}{G:Prop}:TJ_ W W2 S G G True:=⟨fun _ _ g=>g⟩
instance tjC_{W W2:World}{S:Nat→Prop}{P Q G G2 C C2:Prop}[TK_ W W2 S P Q C][TJ_ W W2 S G G2 C2]:TJ_ W W2 S (P→G) (Q→G2) (C∧C2):=⟨fun hk c g p=>TJ_.out hk c.2 (g (TK_.out hk c.1 p))⟩
theorem bC{W W2:World}{S:Nat→Prop}{G G2 C p:Prop}[TJ_ W W2 S G G2 C](hk:Kept W W2 S)(hs:A_ p)(g:G2)(hc:p→C:=by intro h1_;(repeat' apply And.intro);all_goals first|exact True.intro|(intro k_ h2_ h3_;(try dsimp only at h2_ h3_);first|omega|(subst h3_;omega))|(intro h2_;(try dsimp only at h2_);omega)):G:=TJ_.out hk (hc hs.out) g
theorem m0_(j:Nat):∃ f:Nat→Nat,∀ k,f k=j:=⟨fun _=>j,fun _=>rfl⟩
theorem fb_{g j:Nat}{F:Nat→Nat}(hs:A_ p)(hf:∀ k,f k=F k)(h:p→(∀ k,f k=F k)→f g=j:=by intro h1_ hf_;rw [hf_];(try dsimp only);repeat' (first|omega|split)):f g=j:=h hs.out hf
open Classical
theorem mR_{X:Nat→Nat}(h:A_ (Kd.R d e W base ok v xs))(j:Nat)(g:∃ f:Nat→Nat,∀ k,f k=X k):∃ f:Nat→Nat,∀ k,f k=if ok k then j else X k:=⟨fun k=>if ok k then j else X k,fun _=>rfl⟩
theorem cR_{ok':Nat→Prop}{F:Nat→Nat}(h:A_ (Kd.R d e W base ok v xs))(hs:A_ p)(hf:∀ k,f k=F k)(g:p→(∀ k,f k=F k)→∀ k_,ok k_→ok' k_:=by intro h1_ hf_ k_ h2_;(try dsimp only at h2_ ⊢);(repeat' apply And.intro);all_goals first|omega|(intro he_;subst he_;omega)|(rw [hf_];(try dsimp only);repeat' (first|omega|split))):Kd.R d e W base ok' v xs:=Kd.aC h.out (g hs.out hf)
theorem rz{ok':Nat→Prop}{F:Nat→Nat}(h:A_ (Kd.R d e W base ok v xs))(hs:A_ p)(hf:∀ k,f k=F k)(g:p→(∀ k,f k=F k)→∀ k_,ok k_→ok' k_:=by intro h1_ hf_ k_ h2_;(try dsimp only at h2_ ⊢);(repeat' apply And.intro);all_goals first|omega|(intro he_;subst he_;omega)|(rw [hf_];(try dsimp only);repeat' (first|omega|split))):Kd.V d e W base ok' v xs:=Kd.aW (Kd.R_V h.out) (g hs.out hf)
theorem mS_{X:Nat→Nat}(h:A_ (Kd.S d e W base ok v xs))(j:Nat)(g:∃ f:Nat→Nat,∀ k,f k=X k):∃ f:Nat→Nat,∀ k,f k=if ok k then j else X k:=⟨fun k=>if ok k then j else X k,fun _=>rfl⟩
theorem cS_{ok':Nat→Prop}{F:Nat→Nat}(h:A_ (Kd.S d e W base ok v xs))(hs:A_ p)(hf:∀ k,f k=F k)(g:p→(∀ k,f k=F k)→∀ k_,ok k_→ok' k_:=by intro h1_ hf_ k_ h2_;(try dsimp only at h2_ ⊢);(repeat' apply And.intro);all_goals first|omega|(intro he_;subst he_;omega)|(rw [hf_];(try dsimp only);repeat' (first|omega|split))):Kd.S d e W base ok' v xs:=Kd.dw h.out (g hs.out hf)
theorem lZ{ok':Nat→Prop}{F:Nat→Nat}(h:A_ (Kd.S d e W base ok v xs))(hs:A_ p)(hf:∀ k,f k=F k)(g:p→(∀ k,f k=F k)→∀ k_,ok k_→ok' k_:=by intro h1_ hf_ k_ h2_;(try dsimp only at h2_ ⊢);(repeat' apply And.intro);all_goals first|omega|(intro he_;subst he_;omega)|(rw [hf_];(try dsimp only);repeat' (first|omega|split))):Kd.V d e W base ok' v xs:=Kd.aW (Kd.S_V h.out) (g hs.out hf)
theorem mV_{X:Nat→Nat}(h:A_ (Kd.V d e W base ok v xs))(j:Nat)(g:∃ f:Nat→Nat,∀ k,f k=X k):∃ f:Nat→Nat,∀ k,f k=if ok k then j else X k:=⟨fun k=>if ok k then j else X k,fun _=>rfl⟩
theorem cV_{ok':Nat→Prop}{F:Nat→Nat}(h:A_ (Kd.V d e W base ok v xs))(hs:A_ p)(hf:∀ k,f k=F k)(g:p→(∀ k,f k=F k)→∀ k_,ok k_→ok' k_:=by intro h1_ hf_ k_ h2_;(try dsimp only at h2_ ⊢);(repeat' apply And.intro);all_goals first|omega|(intro he_;subst he_;omega)|(rw [hf_];(try dsimp only);repeat' (first|omega|split))):Kd.V d e W base ok' v xs:=Kd.aW h.out (g hs.out hf)
end
def gm.f(k:Nat)(a0_0:Int)(l0_1:List (S108))(a0_2:Int)(a1:Int):Option ((Int)):=((dh.f k l0_1 a1).bind fun t1=>(if t1<0 then (some (-1)) else (some (t1))))
theorem gm.calls(k:Nat)(a0_0:Int)(A0_1:Option Addr)(c0_1:Nat)(l0_1:List (S108))(a0_2:Int)(a1:Int)(r:Int)(w:World)(hr0_1:Kd.C k108 w A0_1 l0_1.length l0_1)(hc0_1:l0_1.length≤c0_1)(h:gm.f k a0_0 l0_1 a0_2 a1=some r) :
  Calls Tryz.prog 22 #[.agg #[.int .i64 a0_0,.slice A0_1 l0_1.length c0_1,.int .i64 a0_2],.int .i64 a1] w fun e w'=>e=.returned (.int .i64 r)∧Below w.heap.size w w':=by
 have HR0_1:=A_.mk hr0_1
 have HC0_1:=A_.mk hc0_1
 clear hr0_1 hc0_1
 have HB:=A_.mk (Below.refl w.heap.size w)
 unfold gm.f at h
 have H:=h
 clear h
 replace H:=oa_ H
 obtain⟨t1,A2,H⟩:=H
 replace H:=A_.mk H
 have hu24:=Tryz.underlying24
 go_enter Tryz.func22,Tryz.ntmps22
 have HS:=A_.mk (Nat.le_refl w.heap.size)
 go_wp2_with (first|((with_reducible refine gd_ (N:=2) rfl ?_);refine by_ 2 (cs:=#[.int .i64 a0_0,.slice A0_1 l0_1.length c0_1,.int .i64 a0_2]) (t:=24) ?_;intro gb1_ hg w1_ hbox hb;replace HS:=aHg HS hg hbox;replace HB:=aHB HB hb;have BK1:=A_.mk hbox;clear hbox hb hg;have Q1:=av BK1.out))
 refine(dh.calls k _ _ l0_1 a1 t1 _ (cb_ HR0_1 HB) HC0_1.out A2.out).mono ?_
 rintro e w2_ ⟨rfl,hb⟩
 replace HS:=aHs HS hb.size
 replace HB:=aHB HB hb
 clear hb  Q1
 replace H:=H.out
 by_cases hc1_:t1<0
 case pos =>
  rw [if_pos hc1_] at H
  have hc1_b0:=decide_eq_true hc1_
  replace hc1_:=A_.mk hc1_
  replace H:=Option.some.inj H
  subst H
  go_wp2
  go_ret
  exact⟨rfl,HB.out⟩
 rw [if_neg hc1_] at H
 have hc1_b0:=decide_eq_false hc1_
 replace hc1_:=A_.mk hc1_
 replace H:=Option.some.inj H
 subst H
 go_wp2
 go_ret
 exact⟨rfl,HB.out⟩
def cO.l0:Nat→List (List Int)→Int→Int→Option (Int)
 | 0,_,_,_=>none
 | k+1,x0,x1,x5=>if x5<(x0.length:Int) then (if 0≤x5 then ((dY.f (dD x0 x5) x1).bind fun t106=>(if t106<0 then (some (-1)) else (cO.l0 k x0 t106 (wrap64 (x5+1))))) else (none)) else (some x1)
def cO.f(k:Nat)(l0:List (List Int))(a1:Int):Option (Int):=if (wrap64 (a1-(l0.length:Int)))<0 then (some (-1)) else (cO.l0 k l0 (wrap64 (a1-(l0.length:Int))) 0)
theorem cO.calls(k:Nat)(A0:Option Addr)(c0:Nat)(l0:List (List Int))(a1:Int)(r:Int)(w:World)(hr0:Kd.C (Kd.slice 3 (Kd.int .i64)) w A0 l0.length l0)(hc0:l0.length≤c0)(h:cO.f k l0 a1=some r) :
  Calls Tryz.prog 24 #[.slice A0 l0.length c0,.int .i64 a1] w fun e w'=>e=.returned (.int .i64 r)∧Drawn0 w w':=by
 have HR0:=A_.mk hr0
 have HC0:=A_.mk hc0
 clear hr0 hc0
 have H:(if (wrap64 (a1-(l0.length:Int)))<0 then (some (-1)) else (cO.l0 k l0 (wrap64 (a1-(l0.length:Int))) 0))=some r:=h
 clear h
 by_cases c3:(wrap64 (a1-(l0.length:Int)))<0
 ·rw [if_pos c3] at H
  have c3b0:=decide_eq_true c3
  clear c3
  obtain rfl:=Option.some.inj H
  go_enter Tryz.func24,Tryz.ntmps24
  go_wp2
  go_ret
  exact dz_
 rw [if_neg c3] at H
 have c3b0:=decide_eq_false c3
 clear c3
 have H':=A_.mk H
 clear H
 go_enter Tryz.func24,Tryz.ntmps24
 go_wp2
 go_loopg [1,5] k (fun kq v1 v5 w'=>∃ (x1_1:Int) (x5_1:Int),v1=.int .i64 x1_1∧v5=.int .i64 x5_1∧A_ (cO.l0 kq l0 x1_1 x5_1=some r)∧A_ (kq≤k)∧Drawn0 w w')
 case atStart=>exact ⟨(wrap64 (a1-(l0.length:Int))),(0),rs_,rs_,H',⟨Nat.le_refl _⟩,by repeat (first|exact Drawn0.refl _|apply Drawn0.step)⟩
 case round =>
  clear H'
  obtain⟨x1_1,x5_1,rfl,rfl,HA,HK1,⟨m1,rfl⟩⟩:=hrel
  cases gk with
  | zero=>exact absurd HA.out (by simp [cO.l0])
  | succ k1 =>
   have H:=HA.out
   clear HA
   simp only [cO.l0] at H
   by_cases c4:x5_1<(l0.length:Int)
   rotate_left
   ·rw [if_neg c4] at H
    have c4b0:=decide_eq_false c4
    clear c4
    obtain rfl:=Option.some.inj H
    go_wp2
    go_ret
    exact dz_
   rw [if_pos c4] at H
   have c4b0:=decide_eq_true c4
   clear c4
   by_cases c5:0≤x5_1
   rotate_left
   ·rw [if_neg c5] at H
    exact absurd H (by simp)
   rw [if_pos c5] at H
   have c5b0:=decide_eq_true c5
   clear c5
   replace H:=oa_ H
   obtain⟨t106,A6,H⟩:=H
   by_cases c7:t106<0
   ·rw [if_pos c7] at H
    have c7b0:=decide_eq_true c7
    clear c7
    obtain rfl:=Option.some.inj H
    have p105:0≤(x5_1:Int):=od_
    have q105:x5_1<(l0.length:Int):=od_
    obtain⟨ad105,A105_0,c105_0,e105,hx105_0,hl105_0,hi105_0⟩:=ko HR0.out x5_1 p105 q105
    cases e105
    have HR105_0:=A_.mk hi105_0
    have HC105_0:=A_.mk hl105_0
    clear hi105_0 hl105_0
    replace p105:=eq_true p105
    replace q105:=eq_true q105
    go_wp2_with (first|((with_reducible refine gc_ (f:=25) rfl ?_);refine gl_ (some 23) Tryz.func25 #[.slice A105_0 (dD l0 x5_1).length c105_0,.int .i64 x1_1] ?_;(with_reducible refine (dY.calls _ _ (dD l0 x5_1) x1_1 t106 _ ?side1 ?side2 A6.out).mono ?_);(case side1=>exact cY (HR105_0.out));(case side2=>exact HC105_0.out);rintro e w' ⟨rfl,⟨nd,rfl⟩⟩;refine⟨_,rfl,?_⟩))
    go_ret
    exact dz_
   rw [if_neg c7] at H
   have c7b0:=decide_eq_false c7
   clear c7
   have H':=A_.mk H
   clear H
   have p105:0≤(x5_1:Int):=od_
   have q105:x5_1<(l0.length:Int):=od_
   obtain⟨ad105,A105_0,c105_0,e105,hx105_0,hl105_0,hi105_0⟩:=ko HR0.out x5_1 p105 q105
   cases e105
   have HR105_0:=A_.mk hi105_0
   have HC105_0:=A_.mk hl105_0
   clear hi105_0 hl105_0
   replace p105:=eq_true p105
   replace q105:=eq_true q105
   go_wp2_with (first|((with_reducible refine gc_ (f:=25) rfl ?_);refine gl_ (some 23) Tryz.func25 #[.slice A105_0 (dD l0 x5_1).length c105_0,.int .i64 x1_1] ?_;(with_reducible refine (dY.calls _ _ (dD l0 x5_1) x1_1 t106 _ ?side1 ?side2 A6.out).mono ?_);(case side1=>exact cY (HR105_0.out));(case side2=>exact HC105_0.out);rintro e w' ⟨rfl,⟨nd,rfl⟩⟩;refine⟨_,rfl,?_⟩))
   go_roundg k1
   case measure=>have:=HK1.out;omega
   case rel=>exact ⟨(t106),(wrap64 (x5_1+1)),rs_,rs_,H',⟨by have:=HK1.out;omega⟩,by repeat (first|exact Drawn0.refl _|apply Drawn0.step)⟩
def fu.f(k:Nat)(a0_0:Int)(l0_1:List (List Int))(a1:Int):Option ((Int)):=((cO.f k l0_1 a1).bind fun t1=>(if t1<0 then (some (-1)) else (some (t1))))
theorem fu.calls(k:Nat)(a0_0:Int)(A0_1:Option Addr)(c0_1:Nat)(l0_1:List (List Int))(a1:Int)(r:Int)(w:World)(hr0_1:Kd.C (Kd.slice 3 (Kd.int .i64)) w A0_1 l0_1.length l0_1)(hc0_1:l0_1.length≤c0_1)(h:fu.f k a0_0 l0_1 a1=some r) :
  Calls Tryz.prog 23 #[.agg #[.int .i64 a0_0,.slice A0_1 l0_1.length c0_1],.int .i64 a1] w fun e w'=>e=.returned (.int .i64 r)∧Below w.heap.size w w':=by
 have HR0_1:=A_.mk hr0_1
 have HC0_1:=A_.mk hc0_1
 clear hr0_1 hc0_1
 have HB:=A_.mk (Below.refl w.heap.size w)
 unfold fu.f at h
 have H:=h
 clear h
 replace H:=oa_ H
 obtain⟨t1,A2,H⟩:=H
 replace H:=A_.mk H
 have hu27:=Tryz.underlying27
 go_enter Tryz.func23,Tryz.ntmps23
 have HS:=A_.mk (Nat.le_refl w.heap.size)
 go_wp2_with (first|((with_reducible refine gd_ (N:=2) rfl ?_);refine by_ 2 (cs:=#[.int .i64 a0_0,.slice A0_1 l0_1.length c0_1]) (t:=27) ?_;intro gb1_ hg w1_ hbox hb;replace HS:=aHg HS hg hbox;replace HB:=aHB HB hb;have BK1:=A_.mk hbox;clear hbox hb hg;have Q1:=ak BK1.out))
 refine(cO.calls k _ _ l0_1 a1 t1 _ (cb_ HR0_1 HB) HC0_1.out A2.out).mono ?_
 rintro e w2_ ⟨rfl,hb⟩
 replace hb:=Drawn0.below hb
 replace HS:=aHs HS hb.size
 replace HB:=aHB HB hb
 clear hb  Q1
 replace H:=H.out
 by_cases hc1_:t1<0
 case pos =>
  rw [if_pos hc1_] at H
  have hc1_b0:=decide_eq_true hc1_
  replace hc1_:=A_.mk hc1_
  replace H:=Option.some.inj H
  subst H
  go_wp2
  go_ret
  exact⟨rfl,HB.out⟩
 rw [if_neg hc1_] at H
 have hc1_b0:=decide_eq_false hc1_
 replace hc1_:=A_.mk hc1_
 replace H:=Option.some.inj H
 subst H
 go_wp2
 go_ret
 exact⟨rfl,HB.out⟩
def fQ.f(k:Nat)(a0_0:Int)(l0_1:List (S108))(a0_2:Int)(a0_3:Int)(l0_4:List (List Int))(l0_5:List (List Int))(l0_6:List Int)(a1:Int):Option ((Int)):=((gm.f k a0_0 l0_1 a0_2 a1).bind fun t1=>(if t1<0 then (some (-1)) else ((fu.f k a0_3 l0_4 t1).bind fun t2=>(if t2<0 then (some (-1)) else ((cO.f k l0_5 t2).bind fun t3=>(if t3<0 then (some (-1)) else ((dY.f l0_6 t3).bind fun t4=>(if t4<0 then (some (-1)) else (some (t4))))))))))
theorem fQ.calls(k:Nat)(a0_0:Int)(A0_1:Option Addr)(c0_1:Nat)(l0_1:List (S108))(a0_2:Int)(a0_3:Int)(A0_4:Option Addr)(c0_4:Nat)(l0_4:List (List Int))(A0_5:Option Addr)(c0_5:Nat)(l0_5:List (List Int))(A0_6:Option Addr)(c0_6:Nat)(l0_6:List Int)(a1:Int)(r:Int)(w:World)(hr0_1:Kd.C k108 w A0_1 l0_1.length l0_1)(hc0_1:l0_1.length≤c0_1)(hr0_4:Kd.C (Kd.slice 3 (Kd.int .i64)) w A0_4 l0_4.length l0_4)(hc0_4:l0_4.length≤c0_4)(hr0_5:Kd.C (Kd.slice 3 (Kd.int .i64)) w A0_5 l0_5.length l0_5)(hc0_5:l0_5.length≤c0_5)(hr0_6:Kd.C (Kd.int .i64) w A0_6 l0_6.length l0_6)(hc0_6:l0_6.length≤c0_6)(h:fQ.f k a0_0 l0_1 a0_2 a0_3 l0_4 l0_5 l0_6 a1=some r) :
  Calls Tryz.prog 6 #[.agg #[.int .i64 a0_0,.slice A0_1 l0_1.length c0_1,.int .i64 a0_2,.int .i64 a0_3,.slice A0_4 l0_4.length c0_4,.slice A0_5 l0_5.length c0_5,.slice A0_6 l0_6.length c0_6],.int .i64 a1] w fun e w'=>e=.returned (.int .i64 r)∧Below w.heap.size w w':=by
 have HR0_1:=A_.mk hr0_1
 have HC0_1:=A_.mk hc0_1
 clear hr0_1 hc0_1
 have HR0_4:=A_.mk hr0_4
 have HC0_4:=A_.mk hc0_4
 clear hr0_4 hc0_4
 have HR0_5:=A_.mk hr0_5
 have HC0_5:=A_.mk hc0_5
 clear hr0_5 hc0_5
 have HR0_6:=A_.mk hr0_6
 have HC0_6:=A_.mk hc0_6
 clear hr0_6 hc0_6
 have HB:=A_.mk (Below.refl w.heap.size w)
 unfold fQ.f at h
 have H:=h
 clear h
 replace H:=oa_ H
 obtain⟨t1,A2,H⟩:=H
 replace H:=A_.mk H
 have hu30:=Tryz.underlying30
 go_enter Tryz.func6,Tryz.ntmps6
 have HS:=A_.mk (Nat.le_refl w.heap.size)
 go_wp2_with (first|((with_reducible refine gd_ (N:=2) rfl ?_);refine by_ 2 (cs:=#[.int .i64 a0_0,.slice A0_1 l0_1.length c0_1,.int .i64 a0_2,.int .i64 a0_3,.slice A0_4 l0_4.length c0_4,.slice A0_5 l0_5.length c0_5,.slice A0_6 l0_6.length c0_6]) (t:=30) ?_;intro gb1_ hg w1_ hbox hb;replace HS:=aHg HS hg hbox;replace HB:=aHB HB hb;have BK1:=A_.mk hbox;clear hbox hb hg;have Q1:=aa BK1.out))
 refine(gm.calls k a0_0 _ _ l0_1 a0_2 a1 t1 _ (cb_ HR0_1 HB) HC0_1.out A2.out).mono ?_
 rintro e w2_ ⟨rfl,hb⟩
 replace HS:=aHs HS hb.size
 replace BK1:=aBb BK1 hb
 replace HB:=aHB HB hb
 clear hb  Q1
 have Q1:=aa BK1.out
 replace H:=H.out
 by_cases hc1_:t1<0
 case pos =>
  rw [if_pos hc1_] at H
  have hc1_b0:=decide_eq_true hc1_
  replace hc1_:=A_.mk hc1_
  replace H:=Option.some.inj H
  subst H
  go_wp2
  go_ret
  exact⟨rfl,HB.out⟩
 rw [if_neg hc1_] at H
 have hc1_b0:=decide_eq_false hc1_
 replace hc1_:=A_.mk hc1_
 replace H:=oa_ H
 obtain⟨t2,A3,H⟩:=H
 replace H:=A_.mk H
 go_wp2_with (fail)
 refine(fu.calls k a0_3 _ _ l0_4 t1 t2 _ (cb_ HR0_4 HB) HC0_4.out A3.out).mono ?_
 rintro e w3_ ⟨rfl,hb⟩
 replace HS:=aHs HS hb.size
 replace BK1:=aBb BK1 hb
 replace HB:=aHB HB hb
 clear hb  Q1
 have Q1:=aa BK1.out
 replace H:=H.out
 by_cases hc2_:t2<0
 case pos =>
  rw [if_pos hc2_] at H
  have hc2_b0:=decide_eq_true hc2_
  replace hc2_:=A_.mk hc2_
  replace H:=Option.some.inj H
  subst H
  go_wp2
  go_ret
  exact⟨rfl,HB.out⟩
 rw [if_neg hc2_] at H
 have hc2_b0:=decide_eq_false hc2_
 replace hc2_:=A_.mk hc2_
 replace H:=oa_ H
 obtain⟨t3,A4,H⟩:=H
 replace H:=A_.mk H
 go_wp2_with (fail)
 refine(cO.calls k _ _ l0_5 t2 t3 _ (cb_ HR0_5 HB) HC0_5.out A4.out).mono ?_
 rintro e w4_ ⟨rfl,hb⟩
 replace hb:=Drawn0.below hb
 replace HS:=aHs HS hb.size
 replace BK1:=aBb BK1 hb
 replace HB:=aHB HB hb
 clear hb  Q1
 have Q1:=aa BK1.out
 replace H:=H.out
 by_cases hc3_:t3<0
 case pos =>
  rw [if_pos hc3_] at H
  have hc3_b0:=decide_eq_true hc3_
  replace hc3_:=A_.mk hc3_
  replace H:=Option.some.inj H
  subst H
  go_wp2
  go_ret
  exact⟨rfl,HB.out⟩
 rw [if_neg hc3_] at H
 have hc3_b0:=decide_eq_false hc3_
 replace hc3_:=A_.mk hc3_
 replace H:=oa_ H
 obtain⟨t4,A5,H⟩:=H
 replace H:=A_.mk H
 go_wp2_with (fail)
 refine(dY.calls _ _ l0_6 t3 t4 _ (cb_ HR0_6 HB) HC0_6.out A5.out).mono ?_
 rintro e w5_ ⟨rfl,hb⟩
 replace hb:=Drawn0.below hb
 replace HS:=aHs HS hb.size
 replace HB:=aHB HB hb
 clear hb  Q1
 replace H:=H.out
 by_cases hc4_:t4<0
 case pos =>
  rw [if_pos hc4_] at H
  have hc4_b0:=decide_eq_true hc4_
  replace hc4_:=A_.mk hc4_
  replace H:=Option.some.inj H
  subst H
  go_wp2
  go_ret
  exact⟨rfl,HB.out⟩
 rw [if_neg hc4_] at H
 have hc4_b0:=decide_eq_false hc4_
 replace hc4_:=A_.mk hc4_
 replace H:=Option.some.inj H
 subst H
 go_wp2
 go_ret
 exact⟨rfl,HB.out⟩
def df.f(a0_0:Int)(l0_1:List Int):Option (Int×List Int):=(some (([]:List Int):List Int)).bind fun y109=>(if y109.length+l0_1.length<17592186044416 then (some (a0_0,(y109++l0_1))) else (none))
def df.T1:Bool×List (List Nat×List Nat):=(true,[([],[]),([0],[0]),([],[]),([],[]),([3],[3]),([2,4],[2,4]),([1,5],[1,5]),([6,5,0,1,2,3,4,5,6],[6])])
def df.B1:List Nat:=[0,1,0,0,8,28,63,127]
theorem df.tab1:rtab .any (opsOf Tryz.f67 1)=df.T1:=by kernel_rfl
theorem df.bits1:waitsOk df.T1.2 df.B1=true:=by kernel_rfl
theorem df.calls(a0_0:Int)(A0_1:Option Addr)(c0_1:Nat)(l0_1:List Int)(r1:Int)(r2:List Int)(w:World)(hr0_1:Kd.C (Kd.int .i64) w A0_1 l0_1.length l0_1)(hc0_1:l0_1.length≤c0_1)(h:df.f a0_0 l0_1=some (r1,r2)) :
  Calls Tryz.prog 67 #[.agg #[.int .i64 a0_0,.slice A0_1 l0_1.length c0_1]] w fun e w'=>∃ v1_:Value,e=.returned (.agg #[.int .i64 r1,v1_])∧Kd.R (Kd.int .i64) 3 w' w.heap.size (fun _=>True) v1_ r2∧Below w.heap.size w w':=by
 have hu68:=Tryz.underlying68
 have HR0_1:=A_.mk hr0_1
 have HC0_1:=A_.mk hc0_1
 clear hr0_1 hc0_1
 have HB:=A_.mk (Below.refl w.heap.size w)
 have H:((some (([]:List Int):List Int)).bind fun y109=>(if y109.length+l0_1.length<17592186044416 then (some (a0_0,(y109++l0_1))) else (none)))=some (r1,r2):=h
 clear h
 obtain⟨y109,hy109⟩:∃ y_:List Int,y_=(([]:List Int)):=⟨_,rfl⟩
 replace H:(if y109.length+l0_1.length<17592186044416 then (some (a0_0,(y109++l0_1))) else (none))=some (r1,r2):=by first|(rw [hy109];with_reducible exact H)|(have H2_:=(Option.bind_some _ _).symm.trans H;rw [hy109];with_reducible exact H2_)|(have H2_:=(Option.bind_some _ _).symm.trans H;with_reducible exact H2_)|with_reducible exact H|(rw [hy109];exact H)|exact H
 have Ny109:=A_.mk hy109
 clear hy109
 by_cases c2:y109.length+l0_1.length<17592186044416
 rotate_left
 ·rw [if_neg c2] at H
  exact absurd H (by simp)
 rw [if_pos c2] at H
 have LMc2:=A_.mk c2
 clear c2
 obtain⟨y112,hy112⟩:∃ y_:List Int,y_=(y109++l0_1):=⟨_,rfl⟩
 replace H:(some (a0_0,y112))=some (r1,r2):=by first|(rw [hy112];with_reducible exact H)|(have H2_:=(Option.bind_some _ _).symm.trans H;rw [hy112];with_reducible exact H2_)|(have H2_:=(Option.bind_some _ _).symm.trans H;with_reducible exact H2_)|with_reducible exact H|(rw [hy112];exact H)|exact H
 have Ny112:=A_.mk hy112
 clear hy112
 replace H:=lh H
 obtain⟨rfl,rfl⟩:=H
 go_enter Tryz.func67,Tryz.ntmps67
 try go_wp2_with (first|((with_reducible refine gd_ (N:=1) rfl ?_);refine by_ 1 (cs:=#[.int .i64 a0_0,.slice A0_1 l0_1.length c0_1]) (t:=68) ?_;intro gb107 hg w3 hbox hb;have n0_:=A_.mk (bt_ (beY HB.out) hb);have n1_:=A_.mk (hbox);have n2_:=A_.mk ((by rw [hg];exact(bz_ (beY HB.out)):w.heap.size≤gb107));have n3_:=A_.mk ((by rw [hg];exact(bz_ (beY HB.out)):w.heap.size≤gb107));clear HB;have HB:=n0_;have BK107:=n1_;have GW107:=n2_;have GE107:=n3_;clear n0_ n1_ n2_ n3_ hb hbox hg)|((with_reducible refine gd_ (N:=2) rfl ?_);refine by_ 2 (cs:=#[.int .i64 0,.slice none 0 0]) (t:=68) ?_;intro gb108 hg w4 hbox hb;have n0_:=A_.mk (bb_ (bY BK107.out) hb);have n1_:=A_.mk (bt_ ((zA_ HB GE107)) hb);have n2_:=A_.mk (hbox);have n3_:=A_.mk ((by rw [hg];exact(bz_ ((zA_ HB GE107))):w.heap.size≤gb108));have n4_:=A_.mk ((by rw [hg];exact(bz_ ((zA_ HB GE107))):w.heap.size≤gb108));have n5_:=A_.mk ((by rw [hg];exact Nat.ne_of_lt (aI (bY BK107.out)):gb107≠gb108));have n6_:=A_.mk ((by rw [hg];exact Nat.ne_of_gt (aI (bY BK107.out)):gb108≠gb107));clear BK107 HB;have BK107:=n0_;have HB:=n1_;have BK108:=n2_;have GW108:=n3_;have GE108:=n4_;have NB107_108:=n5_;have NB108_107:=n6_;clear n0_ n1_ n2_ n3_ n4_ n5_ n6_ hb hbox hg))
 have n0_:=A_.mk (bw_ BK107.out)
 have n1_:=A_.mk (bw_ BK108.out)
 have n2_:=A_.mk (be_ HB.out)
 clear BK107 BK108 HB
 have BK107:=n0_
 have BK108:=n1_
 have HB:=n2_
 clear n0_ n1_ n2_
 refine dN (n:=8) (S:=fun w'=>w'.cell? ⟨gb107,0,none⟩=some (.int .i64 a0_0)∧w'.cell? ⟨gb107,1,none⟩=some (.slice A0_1 l0_1.length c0_1)) (ds:=[]) #[F,F,F,F,F,F,F,F] (by kernel_rfl) rfl rfl ⟨(bc_ BK107.out 0).trans rfl,(bc_ BK107.out 1).trans rfl⟩ (fun hHeld=>?_);refine jH df.tab1 df.bits1 (fun HT_ HW_=>?_)
 generalize w4.drew=w5 at BK107 BK108 HB hHeld ⊢
 refine pr_ (i:=0) (N:=some 3) #[T,F,F,F,F,F,F,F] rfl HT_.out ?_
 refine pr_ (i:=3) (N:=some 6) #[T,F,F,T,F,F,F,F] rfl HT_.out ?_
 refine tk_ (i:=1) (N:=some 4) #[T,T,F,T,F,F,F,F] rfl HT_.out HW_.out hHeld ?_
 refine tk_ (i:=4) (N:=some 7) #[T,T,F,T,T,F,F,F] rfl HT_.out HW_.out hHeld ?_
 refine ot_ (i:=2) (N:=some 5) #[T,T,T,T,T,F,F,F] rfl HT_.out (fun K hK=>?_)
 refine Kd.fB (Kd.int .i64) _ 3 ?hg (N:=5) ?hd (xs:=([]:List Int)) (inner:=[]) (ok:=fun _=>True) (okp:=fun _=>True) ?hr ?hp (fun _ hk=>hk) trivial (Below.refl _ _) (Nat.le_refl _) (by simp) ?_;(case hd=>rfl);(case hg=>rfl);(case hr=>first|(go_simp;done)|(go_simp;rfl));(case hp=>exact (Reps.none _ _))
 intro v110 w6 ho7 hb hg_ hnew_
 clear hg_ hnew_
 (first|rw [←Ny109.out] at ho7|(simp only [Int.reduceToNat] at ho7;rw [←Ny109.out] at ho7))
 have n0_:=A_.mk (Kd.bR ho7 (bz_ ((zB_ HB GE107 GE108))))
 have n1_:=A_.mk (bb_ (bY BK107.out) hb)
 have n2_:=A_.mk (bb_ (bY BK108.out) hb)
 have n3_:=A_.mk (bt_ ((zB_ HB GE107 GE108)) hb)
 clear BK107 BK108 HB
 have HO111:=n0_
 have BK107:=n1_
 have BK108:=n2_
 have HB:=n3_
 clear n0_ n1_ n2_ n3_ hb ho7
 refine hK.out _ _ ⟨(bc_ BK107.out 0).trans rfl,(bc_ BK107.out 1).trans rfl⟩ (fun hHeld=>?_)
 clear hK K
 refine nm_ ?_
 refine ot_ (i:=5) (N:=some 8) #[T,T,T,T,T,T,F,F] rfl HT_.out (fun K hK=>?_)
 refine Kd.bq (Kd.int .i64) (w0:=w) w.heap.size (by rfl) (.tmp 5) (.tmp 7) 28 3 (.int .i64 0) 8 rfl Tryz.underlying28 info3 rfl (by decide) (by omega) v110 y109 l0_1 _ _ _ (fun _=>True) (fun _=>False) rfl rfl ?aO ?aR (fun _ _ h=>h) (fun _ h=>h.elim) ?aF ?aB ?aS ?aL ?_
 (case aR=>repeat (first|exact (cb_ HR0_1 HB)|(with_reducible refine Kd.fo ?_ _)|(with_reducible refine Kd.fq ?_ _)|(with_reducible refine Kd.gI ?_)))
 (case aB=>exact ((zB_ HB GE107 GE108)))
 (case aF=>exact (fun _ _=>trivial))
 (case aO=>exact (rY HO111.out))
 (case aS=>exact (bz_ ((zB_ HB GE107 GE108))))
 (case aL=>have:=LMc2.out;omega)
 intro v113 w8 ho hb hg hat
 rw [←Ny112.out] at ho
 have n0_:=A_.mk (fC (g:=gb107) (o:=.cells #[.int .i64 a0_0,.slice A0_1 l0_1.length c0_1] 68 (0,0)) (bY BK107.out) hg (Kd.ou HO111.out BK107.out (by decide)))
 have n1_:=A_.mk (fC (g:=gb108) (o:=.cells #[.int .i64 0,.slice none 0 0] 68 (0,0)) (bY BK108.out) hg (Kd.ou HO111.out BK108.out (by decide)))
 have n2_:=A_.mk (hb)
 have n3_:=A_.mk (ho)
 clear BK107 BK108 HB HO111
 have BK107:=n0_
 have BK108:=n1_
 have HB:=n2_
 have HO114:=n3_
 clear n0_ n1_ n2_ n3_ ho hb hg hat
 obtain⟨Ao9,co9,eo9⟩:=Kd.aX HO114.out
 (first|subst eo9|(injection eo9 with f1_ f2_ f3_;have f4_:=f1_.symm;have f5_:=f3_.symm;clear f1_ f2_ f3_;subst f4_;subst f5_))
 refine hK.out _ _ ⟨(bc_ BK107.out 0).trans rfl,(bc_ BK107.out 1).trans rfl⟩ (fun hHeld=>?_)
 clear hK K
 refine nm_ ?_
 refine pr_ (i:=6) (N:=some 9) #[T,T,T,T,T,T,T,F] rfl HT_.out ?_
 refine ot_ (i:=7) (N:=none) #[T,T,T,T,T,T,T,T] rfl HT_.out (fun K hK=>?_)
 have hs10:w8.cell? ⟨gb108,0,none⟩=some (.int .i64 0):=(bc_ BK108.out 0).trans rfl
 have hfs10:=bf_ BK108.out 0
 have hns10_0:=NB107_108.out
 have hms10_0:=NB108_107.out
 have hs11:w8.cell? ⟨gb108,1,none⟩=some (.slice none 0 0):=(bc_ BK108.out 1).trans rfl
 have hfs11:=bf_ BK108.out 1
 have hns11_0:=NB107_108.out
 have hms11_0:=NB108_107.out
 refine fT (w1:=?_) (by rfl) rfl ?_ ?_
 rotate_left
 ·go_simp
  rfl
 refine hK.out _ _ ⟨((cell_far (p:=⟨gb108,_,none⟩) NB107_108.out _).trans (((cell_far (p:=⟨gb108,_,none⟩) NB107_108.out _).trans (hHeld.1)))),((cell_far (p:=⟨gb108,_,none⟩) NB107_108.out _).trans (((cell_far (p:=⟨gb108,_,none⟩) NB107_108.out _).trans (hHeld.2))))⟩ (fun hHeld=>?_)
 clear hK K
 refine fA (lc HT_.out (by kernel_rfl)) ?_
 try go_wp2
 refine bodyPost_ret (results_cell_row rfl _ _ gb108 68 #[.int .i64 a0_0,.slice Ao9 y112.length co9] (0,0) _ rfl (by (repeat apply bX);refine bp_ (cs:=#[.int .i64 a0_0,.slice none 0 0]) ?_ 1 _ rfl;(repeat apply bX);refine bp_ (cs:=#[.int .i64 0,.slice none 0 0]) ?_ 0 _ rfl;(repeat apply bX);exact BK108.out) Tryz.underlying68 rfl (by kernel_rfl)) rfl ?_
 exact⟨_,re_,by (repeat apply rX);exact Kd.aC (Kd.nO (p:=⟨gb108,1,none⟩) (Kd.nO (p:=⟨gb108,0,none⟩) (Kd.mW HO114.out BK108.out (by decide)) (fun _ hk=>hk.2) (.int .i64 a0_0)) (fun _ hk=>hk.2) (.slice Ao9 y112.length co9)) (fun _ hk=>trivial),(zB_ HB GE107 GE108)⟩
def aG.l0:Nat→Int→Int→List (S68)→Int→Int→List (S68)→Int→Option (Int×(List (S68))×Int)
 | 0,_,_,_,_,_,_,_=>none
 | k+1,x4,x116000,x116001,x116002,x118000,x118001,x118002=>if x4<(x116001.length:Int) then (if 0≤x4 then ((df.f ((ay x116001 x4).f0) ((ay x116001 x4).f1)).bind fun bt119=>(if x118001.length<4398046511104 then (aG.l0 k (wrap64 (x4+1)) x116000 x116001 x116002 x118000 (x118001++[(⟨bt119.1,bt119.2⟩:S68)]) x118002) else (none))) else (none)) else (some (x118000,x118001,x118002))
def aG.f(k:Nat)(a0_0:Int)(l0_1:List (S68))(a0_2:Int):Option (Int×(List (S68))×Int):=aG.l0 k 0 a0_0 l0_1 a0_2 a0_0 ([]:List (S68)) a0_2
def aG.T5:Bool×List (List Nat×List Nat):=(true,[([],[]),([0],[0]),([],[]),([2],[2]),([],[]),([3,4],[3,4]),([5],[5]),([6],[6]),([7],[7]),([1,8,7],[1,8]),([0,1,2,3,4,5,6,7,8,9],[]),([10,9,9,0,1,2,3,4,5,6,7,8,9],[9,10])])
def aG.B5:List Nat:=[0,1,0,4,0,28,60,124,252,511,1023,2047]
theorem aG.tab5:rtab .any (opsOf Tryz.f60 5)=aG.T5:=by kernel_rfl
theorem aG.bits5:waitsOk aG.T5.2 aG.B5=true:=by kernel_rfl
theorem aG.calls(k:Nat)(a0_0:Int)(A0_1:Option Addr)(c0_1:Nat)(l0_1:List (S68))(a0_2:Int)(r1:Int)(r2:List (S68))(r3:Int)(w:World)(hr0_1:Kd.C k68 w A0_1 l0_1.length l0_1)(hc0_1:l0_1.length≤c0_1)(h:aG.f k a0_0 l0_1 a0_2=some (r1,r2,r3)) :
  Calls Tryz.prog 60 #[.agg #[.int .i64 a0_0,.slice A0_1 l0_1.length c0_1,.int .i64 a0_2]] w fun e w'=>∃ v1_:Value,e=.returned (.agg #[.int .i64 r1,v1_,.int .i64 r3])∧Kd.S k68 68 w' w.heap.size (fun _=>True) v1_ r2∧Below w.heap.size w w':=by
 have hu36:=Tryz.underlying36
 have hu68:=Tryz.underlying68
 have HR0_1:=A_.mk hr0_1
 have HC0_1:=A_.mk hc0_1
 clear hr0_1 hc0_1
 have HB:=A_.mk (Below.refl w.heap.size w)
 have H:(aG.l0 k 0 a0_0 l0_1 a0_2 a0_0 ([]:List (S68)) a0_2)=some (r1,r2,r3):=h
 clear h
 have H':=A_.mk H
 clear H
 go_enter Tryz.func60,Tryz.ntmps60
 go_wp2_with (first|((with_reducible refine gd_ (N:=1) rfl ?_);refine by_ 1 (cs:=#[.int .i64 a0_0,.slice A0_1 l0_1.length c0_1,.int .i64 a0_2]) (t:=36) ?_;intro gb115 hg w2 hbox hb;have n0_:=A_.mk (bt_ (beY HB.out) hb);have n1_:=A_.mk (hbox);have n2_:=A_.mk ((by rw [hg];exact(bz_ (beY HB.out)):w.heap.size≤gb115));have n3_:=A_.mk ((by rw [hg];exact(bz_ (beY HB.out)):w.heap.size≤gb115));clear HB;have HB:=n0_;have BK115:=n1_;have GW115:=n2_;have GE115:=n3_;clear n0_ n1_ n2_ n3_ hb hbox hg)|((with_reducible refine gd_ (N:=2) rfl ?_);refine by_ 2 (cs:=#[.int .i64 0,.slice none 0 0,.int .i64 0]) (t:=36) ?_;intro gb116 hg w3 hbox hb;have n0_:=A_.mk (bb_ (bY BK115.out) hb);have n1_:=A_.mk (bt_ ((zA_ HB GE115)) hb);have n2_:=A_.mk (hbox);have n3_:=A_.mk ((by rw [hg];exact(bz_ ((zA_ HB GE115))):w.heap.size≤gb116));have n4_:=A_.mk ((by rw [hg];exact(bz_ ((zA_ HB GE115))):w.heap.size≤gb116));have n5_:=A_.mk ((by rw [hg];exact Nat.ne_of_lt (aI (bY BK115.out)):gb115≠gb116));have n6_:=A_.mk ((by rw [hg];exact Nat.ne_of_gt (aI (bY BK115.out)):gb116≠gb115));clear BK115 HB;have BK115:=n0_;have HB:=n1_;have BK116:=n2_;have GW116:=n3_;have GE116:=n4_;have NB115_116:=n5_;have NB116_115:=n6_;clear n0_ n1_ n2_ n3_ n4_ n5_ n6_ hb hbox hg;have hnb4:=NB115_116.out;have hnc4:=NB116_115.out;obtain⟨hcz5_0,hcz5_1,hcz5_2⟩:=lv BK115;obtain⟨hfz5_0,hfz5_1,hfz5_2⟩:=eT BK115)|((with_reducible refine gd_ (N:=3) rfl ?_);refine by_ 3 (cs:=#[.int .i64 0,.slice none 0 0,.int .i64 0]) (t:=36) ?_;intro gb117 hg w6 hbox hb;have n0_:=A_.mk (bb_ (bY BK115.out) hb);have n1_:=A_.mk (bb_ (bY BK116.out) hb);have n2_:=A_.mk (bt_ ((zB_ HB GE115 GE116)) hb);have n3_:=A_.mk (hbox);have n4_:=A_.mk ((by rw [hg];exact(bz_ ((zB_ HB GE115 GE116))):w.heap.size≤gb117));have n5_:=A_.mk ((by rw [hg];exact(bz_ ((zB_ HB GE115 GE116))):w.heap.size≤gb117));have n6_:=A_.mk ((by rw [hg];exact Nat.ne_of_lt (aI (bY BK115.out)):gb115≠gb117));have n7_:=A_.mk ((by rw [hg];exact Nat.ne_of_gt (aI (bY BK115.out)):gb117≠gb115));have n8_:=A_.mk ((by rw [hg];exact Nat.ne_of_lt (aI (bY BK116.out)):gb116≠gb117));have n9_:=A_.mk ((by rw [hg];exact Nat.ne_of_gt (aI (bY BK116.out)):gb117≠gb116));clear BK115 BK116 HB;have BK115:=n0_;have BK116:=n1_;have HB:=n2_;have BK117:=n3_;have GW117:=n4_;have GE117:=n5_;have NB115_117:=n6_;have NB117_115:=n7_;have NB116_117:=n8_;have NB117_116:=n9_;clear n0_ n1_ n2_ n3_ n4_ n5_ n6_ n7_ n8_ n9_ hb hbox hg;have hnb7:=NB117_115.out;have hnc7:=NB115_117.out;have hnb8:=NB117_116.out;have hnc8:=NB116_117.out;obtain⟨hcz9_0,hcz9_1,hcz9_2⟩:=lv BK117;obtain⟨hfz9_0,hfz9_1,hfz9_2⟩:=eT BK117))
 go_loopg [4] k (fun kq v4 w'=>∃ (x4_1:Int) (x118001_1:List (S68)) (u118001:Value),v4=.int .i64 x4_1∧A_ (aG.l0 kq x4_1 a0_0 l0_1 a0_2 a0_0 x118001_1 a0_2=some (r1,r2,r3))∧A_ (kq≤k)∧A_ (Kd.S k68 68 w' w.heap.size (fun _=>True) u118001 x118001_1)∧A_ (w'.heap[gb115]?=some (.cells #[.int .i64 a0_0,(.slice A0_1 l0_1.length c0_1),.int .i64 a0_2] 36 (0,0)))∧A_ (w'.heap[gb116]?=some (.cells #[.int .i64 0,(.slice none 0 0),.int .i64 0] 36 (0,0)))∧A_ (w'.heap[gb117]?=some (.cells #[.int .i64 a0_0,u118001,.int .i64 a0_2] 36 (0,0)))∧A_ (Below w.heap.size w w'))
 case atStart=>exact ⟨(0),(([]:List (S68))),(.slice none 0 0),rs_,H',⟨Nat.le_refl _⟩,⟨by first|exact Kd.kX _ _ _ _ _|exact Kd.lI _ _ _ _ _|exact Kd.jY _ _ _ _ _|exact Kd.lw _ _ _ _ _|exact Kd.jF _ _ _ _ _⟩,⟨by (repeat apply bX);refine bA ?_ NB115_117.out _;(repeat apply bX);refine bA ?_ NB115_117.out _;(repeat apply bX);refine bA ?_ NB115_117.out _;(repeat apply bX);exact BK115.out⟩,⟨by (repeat apply bX);refine bA ?_ NB116_117.out _;(repeat apply bX);refine bA ?_ NB116_117.out _;(repeat apply bX);refine bA ?_ NB116_117.out _;(repeat apply bX);exact BK116.out⟩,⟨by (repeat apply bX);refine bp_ (cs:=#[.int .i64 a0_0,.slice none 0 0,.int .i64 0]) ?_ 2 _ rfl;(repeat apply bX);refine bp_ (cs:=#[.int .i64 a0_0,.slice none 0 0,.int .i64 0]) ?_ 1 _ rfl;(repeat apply bX);refine bp_ (cs:=#[.int .i64 0,.slice none 0 0,.int .i64 0]) ?_ 0 _ rfl;(repeat apply bX);exact BK117.out⟩,⟨(zC_ HB GE115 GE116 GE117)⟩⟩
 case round =>
  clear H'
  obtain⟨x4_1,x118001_1,u118001,rfl,HA,HK1,HO_118001,BK115,BK116,BK117,HB⟩:=hrel
  cases gk with
  | zero=>exact absurd HA.out (by simp [aG.l0])
  | succ k1 =>
   have H:=HA.out
   clear HA
   simp only [aG.l0] at H
   by_cases c10:x4_1<(l0_1.length:Int)
   rotate_left
   ·rw [if_neg c10] at H
    have c10b0:=decide_eq_false c10
    clear c10
    replace H:=jE H
    obtain⟨rfl,rfl,rfl⟩:=H
    have hnb23:=NB115_116.out
    have hnc23:=NB116_115.out
    have hnb24:=NB115_117.out
    have hnc24:=NB117_115.out
    obtain⟨hcz25_0,hcz25_1,hcz25_2,hfz25_0,hfz25_1,hfz25_2⟩:=b3 BK115.out
    have hnb26:=NB117_116.out
    have hnc26:=NB116_117.out
    obtain⟨hcz27_0,hcz27_1,hcz27_2,hfz27_0,hfz27_1,hfz27_2⟩:=b3 BK117.out
    obtain⟨hcz28_0,hcz28_1,hcz28_2,hfz28_0,hfz28_1,hfz28_2⟩:=b3 BK116.out
    obtain⟨Ao29,co29,eo29⟩:=Kd.dx HO_118001.out
    subst eo29
    go_wp2
    refine bodyPost_ret (results_cell_row rfl _ _ gb116 36 #[.int .i64 a0_0,.slice Ao29 x118001_1.length co29,.int .i64 a0_2] (0,0) _ rfl (by (repeat apply bX);refine bp_ (cs:=#[.int .i64 a0_0,.slice Ao29 x118001_1.length co29,.int .i64 0]) ?_ 2 _ rfl;(repeat apply bX);refine bp_ (cs:=#[.int .i64 a0_0,.slice none 0 0,.int .i64 0]) ?_ 1 _ rfl;(repeat apply bX);refine bp_ (cs:=#[.int .i64 0,.slice none 0 0,.int .i64 0]) ?_ 0 _ rfl;(repeat apply bX);exact BK116.out) Tryz.underlying36 rfl (by kernel_rfl)) rfl ?_
    exact⟨_,re_,by (with_reducible repeat (first|apply Kd.dI|apply Kd.dH|apply Kd.d_));exact Kd.dw (Kd.iU (p:=⟨gb116,2,none⟩) (Kd.iU (p:=⟨gb116,1,none⟩) (Kd.iU (p:=⟨gb116,0,none⟩) (Kd.jC HO_118001.out BK116.out (by decide)) (fun _ hk=>hk.2) (.int .i64 a0_0)) (fun _ hk=>hk.2) (.slice Ao29 x118001_1.length co29)) (fun _ hk=>hk.2) (.int .i64 a0_2)) (fun _ hk=>trivial),(zC_ HB GE115 GE116 GE117)⟩
   rw [if_pos c10] at H
   have c10b0:=decide_eq_true c10
   clear c10
   by_cases c11:0≤x4_1
   rotate_left
   ·rw [if_neg c11] at H
    exact absurd H (by simp)
   rw [if_pos c11] at H
   have c11b0:=decide_eq_true c11
   clear c11
   replace H:=ob_ H
   obtain⟨⟨t119,t120⟩,A120,H⟩:=H
   replace H:(if x118001_1.length<4398046511104 then (aG.l0 k1 (wrap64 (x4_1+1)) a0_0 l0_1 a0_2 a0_0 (x118001_1++[(⟨t119,t120⟩:S68)]) a0_2) else (none))=some (r1,r2,r3):=H
   have A12:=A_.mk A120
   clear A120
   by_cases c13:x118001_1.length<4398046511104
   rotate_left
   ·rw [if_neg c13] at H
    exact absurd H (by simp)
   rw [if_pos c13] at H
   have LMc13:=A_.mk c13
   clear c13
   obtain⟨y123,hy123⟩:∃ y_:List (S68),y_=(x118001_1++[(⟨t119,t120⟩:S68)]):=⟨_,rfl⟩
   replace H:(aG.l0 k1 (wrap64 (x4_1+1)) a0_0 l0_1 a0_2 a0_0 y123 a0_2)=some (r1,r2,r3):=by first|(rw [hy123];with_reducible exact H)|(have H2_:=(Option.bind_some _ _).symm.trans H;rw [hy123];with_reducible exact H2_)|(have H2_:=(Option.bind_some _ _).symm.trans H;with_reducible exact H2_)|with_reducible exact H|(rw [hy123];exact H)|exact H
   have Ny123:=A_.mk hy123
   clear hy123
   have H':=A_.mk H
   clear H
   have hnb14:=NB115_116.out
   have hnc14:=NB116_115.out
   have hnb15:=NB115_117.out
   have hnc15:=NB117_115.out
   obtain⟨hcz16_0,hcz16_1,hcz16_2,hfz16_0,hfz16_1,hfz16_2⟩:=b3 BK115.out
   try go_wp2
   have n0_:=A_.mk (Kd.d_ HO_118001.out)
   have n1_:=A_.mk (bw_ BK115.out)
   have n2_:=A_.mk (bw_ BK116.out)
   have n3_:=A_.mk (bw_ BK117.out)
   have n4_:=A_.mk (be_ HB.out)
   clear HO_118001 BK115 BK116 BK117 HB
   have HO_118001:=n0_
   have BK115:=n1_
   have BK116:=n2_
   have BK117:=n3_
   have HB:=n4_
   clear n0_ n1_ n2_ n3_ n4_
   have p118:0≤(x4_1:Int):=od_
   have q118:x4_1<(l0_1.length:Int):=od_
   obtain⟨ad118,A118_1,c118_1,e118,hx118_0,hx118_1,hl118_1,hi118_1⟩:=iq HR0_1.out x4_1 p118 q118
   have hw118_1:=hx118_1
   have hw118_0:=hx118_0
   cases e118
   replace hx118_0:=(HB.out.cell (wl_ w _ hx118_0)).trans hx118_0
   replace hx118_1:=(HB.out.cell (wl_ w _ hx118_1)).trans hx118_1
   have HR118_1:=A_.mk hi118_1
   have HC118_1:=A_.mk hl118_1
   clear hi118_1 hl118_1
   replace p118:=eq_true p118
   replace q118:=eq_true q118
   refine dN (n:=12) (S:=fun w'=>w'.cell? ⟨gb117,0,none⟩=some (.int .i64 a0_0)∧w'.cell? ⟨gb117,1,none⟩=some (u118001)∧w'.cell? ⟨gb117,2,none⟩=some (.int .i64 a0_2)∧w'.cell? ⟨gb115,0,none⟩=some (.int .i64 a0_0)∧w'.cell? ⟨gb115,1,none⟩=some (.slice (some ad118) l0_1.length c0_1)∧w'.cell? ⟨gb115,2,none⟩=some (.int .i64 a0_2)∧w'.cell? (ad118.add ((x4_1).toNat*2))=some (.int .i64 ((ay l0_1 x4_1).f0))∧w'.cell? ⟨(ad118.add ((x4_1).toNat*2)).block,(ad118.add ((x4_1).toNat*2)).off+1,none⟩=some (.slice A118_1 ((ay l0_1 x4_1).f1).length c118_1)) (ds:=[11]) #[F,F,F,F,F,F,F,F,F,F,F,F] (by kernel_rfl) rfl rfl ⟨(bc_ BK117.out 0).trans rfl,(bc_ BK117.out 1).trans rfl,(bc_ BK117.out 2).trans rfl,(bc_ BK115.out 0).trans rfl,(bc_ BK115.out 1).trans rfl,(bc_ BK115.out 2).trans rfl,((HB.out.cell (wl_ w _ hw118_0)).trans hw118_0),((HB.out.cell (wl_ w _ hw118_1)).trans hw118_1)⟩ (fun hHeld=>?_);refine jH aG.tab5 aG.bits5 (fun HT_ HW_=>?_)
   generalize wr.drew=w17 at HO_118001 BK115 BK116 BK117 HB HR118_1 hx118_0 hx118_1 hHeld ⊢
   refine pr_ (i:=0) (N:=some 17) #[T,F,F,F,F,F,F,F,F,F,F,F] rfl HT_.out ?_
   refine pr_ (i:=2) (N:=some 19) #[T,F,T,F,F,F,F,F,F,F,F,F] rfl HT_.out ?_
   refine pr_ (i:=4) (N:=some 21) #[T,F,T,F,T,F,F,F,F,F,F,F] rfl HT_.out ?_
   refine tk_ (i:=1) (N:=some 18) #[T,T,T,F,T,F,F,F,F,F,F,F] rfl HT_.out HW_.out hHeld ?_
   refine tk_ (i:=3) (N:=some 20) #[T,T,T,T,T,F,F,F,F,F,F,F] rfl HT_.out HW_.out hHeld ?_
   refine pr_ (i:=5) (N:=some 22) #[T,T,T,T,T,T,F,F,F,F,F,F] rfl HT_.out ?_
   refine tk_ (i:=6) (N:=some 23) #[T,T,T,T,T,T,T,F,F,F,F,F] rfl HT_.out HW_.out hHeld ?_
   refine ot_ (i:=7) (N:=some 24) #[T,T,T,T,T,T,T,T,F,F,F,F] rfl HT_.out (fun K hK=>?_)
   refine gz_ Tryz.func67 #[.agg #[.int .i64 ((ay l0_1 x4_1).f0),.slice A118_1 ((ay l0_1 x4_1).f1).length c118_1]] ?_
   with_reducible refine (df.calls ((ay l0_1 x4_1).f0) _ _ ((ay l0_1 x4_1).f1) t119 t120 _ ?side1 ?side2 A12.out).mono ?_
   (case side1=>exact cY ((cb_ HR118_1 HB)))
   (case side2=>exact HC118_1.out)
   rintro e w18 ⟨v121,rfl,ho0,hb⟩
   refine⟨_,rfl,?_⟩
   have n0_:=A_.mk (Kd.lH (by (with_reducible repeat (first|apply Kd.dI|apply Kd.dH|apply Kd.d_));exact HO_118001.out) (Kd.jG ho0) hb)
   have n1_:=A_.mk (Kd.bR ho0 (bz_ ((zC_ HB GE115 GE116 GE117))))
   have n2_:=A_.mk (bb_ (bY BK115.out) hb)
   have n3_:=A_.mk (bb_ (bY BK116.out) hb)
   have n4_:=A_.mk (bb_ (bY BK117.out) hb)
   have n5_:=A_.mk (bt_ ((zC_ HB GE115 GE116 GE117)) hb)
   clear HO_118001 BK115 BK116 BK117 HB
   have HO_118001:=n0_
   have HO122:=n1_
   have BK115:=n2_
   have BK116:=n3_
   have BK117:=n4_
   have HB:=n5_
   clear n0_ n1_ n2_ n3_ n4_ n5_
   obtain⟨Ao20,co20,eo20⟩:=Kd.aX HO122.out
   (first|subst eo20|(injection eo20 with f1_ f2_ f3_;have f4_:=f1_.symm;have f5_:=f3_.symm;clear f1_ f2_ f3_;subst f4_;subst f5_))
   refine hK.out _ _ ⟨(bc_ BK117.out 0).trans rfl,(bc_ BK117.out 1).trans rfl,(bc_ BK117.out 2).trans rfl,(bc_ BK115.out 0).trans rfl,(bc_ BK115.out 1).trans rfl,(bc_ BK115.out 2).trans rfl,((HB.out.cell (wl_ w _ hw118_0)).trans hw118_0),((HB.out.cell (wl_ w _ hw118_1)).trans hw118_1)⟩ (fun hHeld=>?_)
   clear hK K
   refine nm_ ?_
   refine ot_ (i:=8) (N:=some 25) #[T,T,T,T,T,T,T,T,T,F,F,F] rfl HT_.out (fun K hK=>?_)
   refine kN (w1:=?_) (v:=?_) (by rfl) rfl ?_ ?_
   rotate_left 2
   ·go_simp
    constructor
    ·rfl
    ·rfl
   refine hK.out _ _ ⟨(bc_ (bl_ BK117.out _) 0).trans rfl,(bc_ (bl_ BK117.out _) 1).trans rfl,(bc_ (bl_ BK117.out _) 2).trans rfl,(bc_ (bl_ BK115.out _) 0).trans rfl,(bc_ (bl_ BK115.out _) 1).trans rfl,(bc_ (bl_ BK115.out _) 2).trans rfl,(World.cell?_alloc_lt _ _ _ (wl_ _ _ (((HB.out.cell (wl_ w _ hw118_0)).trans hw118_0)))).trans (((HB.out.cell (wl_ w _ hw118_0)).trans hw118_0)),(World.cell?_alloc_lt _ _ _ (wl_ _ _ (((HB.out.cell (wl_ w _ hw118_1)).trans hw118_1)))).trans (((HB.out.cell (wl_ w _ hw118_1)).trans hw118_1))⟩ (fun hHeld=>?_)
   clear hK K
   refine nm_ ?_
   refine ot_ (i:=9) (N:=some 26) #[T,T,T,T,T,T,T,T,T,T,F,F] rfl HT_.out (fun K hK=>?_)
   refine Kd.gu k68 (w0:=w) w.heap.size (by rfl) (.tmp 18) (.tmp 25) 34 68 (.agg #[(.int .i64 0),(.slice none 0 0)]) 32 rfl Tryz.underlying34 info68 rfl (by decide) (by omega) u118001 x118001_1 (⟨t119,t120⟩:S68) [.int .i64 t119,.slice Ao20 t120.length co20] (fun _=>True) (fun k_=>some k_=(.slice Ao20 t120.length co20:Value).ownBlock) rfl rfl ?aP (fun k_ hk_=>((Kd.aC (ok':=fun k_=>((fun _=>True)) k_∧some k_≠(u118001:Value).ownBlock) (Kd.ji (HO122.out) (Kd.jO HO_118001.out) (by decide)) (fun k_ hk=>⟨trivial,hk.2⟩))).1 k_ hk_.symm) ?aF ?aO ?aB ?aS ?aL ?_
   (case aP=>exact kJ _ _ _ (⟨t119,t120⟩:S68) (Kd.aC (Kd.jQ rfl (Kd.aC (ok':=fun k_=>((fun _=>True)) k_∧some k_≠(u118001:Value).ownBlock) (Kd.ji (HO122.out) (Kd.jO HO_118001.out) (by decide)) (fun k_ hk=>⟨trivial,hk.2⟩))) (fun _ h_=>h_)))
   (case aB=>exact ((zC_ HB GE115 GE116 GE117)))
   (case aF=>exact (fun _ _=>trivial))
   (case aO=>exact (by (with_reducible repeat (first|apply Kd.dI|apply Kd.dH|apply Kd.d_));exact Kd.dw HO_118001.out (fun k_ hk=>⟨trivial,fun e_=>hk.2 e_⟩)))
   (case aS=>exact (bz_ ((zC_ HB GE115 GE116 GE117))))
   (case aL=>have:=LMc13.out;omega)
   intro v124 w19 ho hb hg hat
   rw [←Ny123.out] at ho
   have n0_:=A_.mk (fC (g:=gb115) (o:=.cells #[.int .i64 a0_0,.slice (some ad118) l0_1.length c0_1,.int .i64 a0_2] 36 (0,0)) (bY BK115.out) hg (Kd.uH HO_118001.out BK115.out (by decide)))
   have n1_:=A_.mk (fC (g:=gb116) (o:=.cells #[.int .i64 0,.slice none 0 0,.int .i64 0] 36 (0,0)) (bY BK116.out) hg (Kd.uH HO_118001.out BK116.out (by decide)))
   have n2_:=A_.mk (fC (g:=gb117) (o:=.cells #[.int .i64 a0_0,u118001,.int .i64 a0_2] 36 (0,0)) (bY BK117.out) hg (Kd.uH HO_118001.out BK117.out (by decide)))
   have n3_:=A_.mk (hb)
   have n4_:=A_.mk (ho)
   clear BK115 BK116 BK117 HB HO_118001 HO122
   have BK115:=n0_
   have BK116:=n1_
   have BK117:=n2_
   have HB:=n3_
   have HO125:=n4_
   clear n0_ n1_ n2_ n3_ n4_ ho hb hg hat
   obtain⟨Ao21,co21,eo21⟩:=Kd.dx HO125.out
   (first|subst eo21|(injection eo21 with f1_ f2_ f3_;have f4_:=f1_.symm;have f5_:=f3_.symm;clear f1_ f2_ f3_;subst f4_;subst f5_))
   refine hK.out _ _ ⟨(bc_ BK117.out 0).trans rfl,(bc_ BK117.out 1).trans rfl,(bc_ BK117.out 2).trans rfl,(bc_ BK115.out 0).trans rfl,(bc_ BK115.out 1).trans rfl,(bc_ BK115.out 2).trans rfl,((HB.out.cell (wl_ w _ hw118_0)).trans hw118_0),((HB.out.cell (wl_ w _ hw118_1)).trans hw118_1)⟩ (fun hHeld=>?_)
   clear hK K
   refine nm_ ?_
   refine pr_ (i:=10) (N:=some 27) #[T,T,T,T,T,T,T,T,T,T,T,F] rfl HT_.out ?_
   refine gG (i:=11) (N:=none) #[T,T,T,T,T,T,T,T,T,T,T,T] rfl rfl (qc HT_.out (by kernel_rfl)) (by decide) (fun K hK=>?_)
   have hs22:w19.cell? ⟨gb117,1,none⟩=some (u118001):=(bc_ BK117.out 1).trans rfl
   have hfs22:=bf_ BK117.out 1
   have hns22_0:=NB115_117.out
   have hns22_1:=NB116_117.out
   have hms22_0:=NB117_115.out
   have hms22_1:=NB117_116.out
   refine fT (w1:=?_) (by rfl) rfl ?_ ?_
   rotate_left
   ·go_simp
    rfl
   refine hK.out _ _ ?_
   clear hK K
   refine fA (lc HT_.out (by kernel_rfl)) ?_
   try go_wp2
   go_roundg k1
   case measure=>have:=HK1.out;omega
   case rel=>exact ⟨(wrap64 (x4_1+1)),(y123),(.slice Ao21 y123.length co21),rs_,H',⟨by have:=HK1.out;omega⟩,⟨by (with_reducible repeat (first|apply Kd.dI|apply Kd.dH|apply Kd.d_));exact Kd.dw (Kd.iU (p:=⟨gb117,1,none⟩) (Kd.jC HO125.out BK117.out (by decide)) (fun _ hk=>hk.2) (.slice Ao21 y123.length co21)) (fun _ hk=>trivial)⟩,⟨by (repeat apply bX);refine bA ?_ NB115_117.out _;(repeat apply bX);exact BK115.out⟩,⟨by (repeat apply bX);refine bA ?_ NB116_117.out _;(repeat apply bX);exact BK116.out⟩,⟨by (repeat apply bX);refine bp_ (cs:=#[.int .i64 a0_0,u118001,.int .i64 a0_2]) ?_ 1 _ rfl;(repeat apply bX);exact BK117.out⟩,⟨(zC_ HB GE115 GE116 GE117)⟩⟩
def aA.l0:Nat→Int→Int→List (List Int)→Int→List (List Int)→Option (Int×(List (List Int)))
 | 0,_,_,_,_,_=>none
 | k+1,x4,x127000,x127001,x129000,x129001=>if x4<(x127001.length:Int) then ((some (([]:List Int):List Int)).bind fun y129=>(if 0≤x4 then (if y129.length+(dD x127001 x4).length<17592186044416 then (if x129001.length<5864062014805 then (aA.l0 k (wrap64 (x4+1)) x127000 x127001 x129000 (x129001++[(y129++(dD x127001 x4))])) else (none)) else (none)) else (none))) else (some (x129000,x129001))
def aA.f(k:Nat)(a0_0:Int)(l0_1:List (List Int)):Option (Int×(List (List Int))):=aA.l0 k 0 a0_0 l0_1 a0_0 ([]:List (List Int))
def aA.T5:Bool×List (List Nat×List Nat):=(true,[([],[]),([0],[0]),([],[]),([],[]),([3],[3]),([],[]),([4,5],[4,5]),([6],[6]),([2,7],[2,7]),([8],[8]),([1,9,8],[1,9]),([0,1,2,3,4,5,6,7,8,9,10],[]),([11,10,10,0,1,2,3,4,5,6,7,8,9,10],[10,11])])
def aA.B5:List Nat:=[0,1,0,0,8,0,56,120,252,508,1023,2047,4095]
theorem aA.tab5:rtab .any (opsOf Tryz.f61 5)=aA.T5:=by kernel_rfl
theorem aA.bits5:waitsOk aA.T5.2 aA.B5=true:=by kernel_rfl
theorem aA.calls(k:Nat)(a0_0:Int)(A0_1:Option Addr)(c0_1:Nat)(l0_1:List (List Int))(r1:Int)(r2:List (List Int))(w:World)(hr0_1:Kd.C (Kd.slice 3 (Kd.int .i64)) w A0_1 l0_1.length l0_1)(hc0_1:l0_1.length≤c0_1)(h:aA.f k a0_0 l0_1=some (r1,r2)) :
  Calls Tryz.prog 61 #[.agg #[.int .i64 a0_0,.slice A0_1 l0_1.length c0_1]] w fun e w'=>∃ v1_:Value,e=.returned (.agg #[.int .i64 r1,v1_])∧Kd.S (Kd.slice 3 (Kd.int .i64)) 28 w' w.heap.size (fun _=>True) v1_ r2∧Below w.heap.size w w':=by
 have hu37:=Tryz.underlying37
 have HR0_1:=A_.mk hr0_1
 have HC0_1:=A_.mk hc0_1
 clear hr0_1 hc0_1
 have HB:=A_.mk (Below.refl w.heap.size w)
 have H:(aA.l0 k 0 a0_0 l0_1 a0_0 ([]:List (List Int)))=some (r1,r2):=h
 clear h
 have H':=A_.mk H
 clear H
 go_enter Tryz.func61,Tryz.ntmps61
 go_wp2_with (first|((with_reducible refine gd_ (N:=1) rfl ?_);refine by_ 1 (cs:=#[.int .i64 a0_0,.slice A0_1 l0_1.length c0_1]) (t:=37) ?_;intro gb126 hg w2 hbox hb;have n0_:=A_.mk (bt_ (beY HB.out) hb);have n1_:=A_.mk (hbox);have n2_:=A_.mk ((by rw [hg];exact(bz_ (beY HB.out)):w.heap.size≤gb126));have n3_:=A_.mk ((by rw [hg];exact(bz_ (beY HB.out)):w.heap.size≤gb126));clear HB;have HB:=n0_;have BK126:=n1_;have GW126:=n2_;have GE126:=n3_;clear n0_ n1_ n2_ n3_ hb hbox hg)|((with_reducible refine gd_ (N:=2) rfl ?_);refine by_ 2 (cs:=#[.int .i64 0,.slice none 0 0]) (t:=37) ?_;intro gb127 hg w3 hbox hb;have n0_:=A_.mk (bb_ (bY BK126.out) hb);have n1_:=A_.mk (bt_ ((zA_ HB GE126)) hb);have n2_:=A_.mk (hbox);have n3_:=A_.mk ((by rw [hg];exact(bz_ ((zA_ HB GE126))):w.heap.size≤gb127));have n4_:=A_.mk ((by rw [hg];exact(bz_ ((zA_ HB GE126))):w.heap.size≤gb127));have n5_:=A_.mk ((by rw [hg];exact Nat.ne_of_lt (aI (bY BK126.out)):gb126≠gb127));have n6_:=A_.mk ((by rw [hg];exact Nat.ne_of_gt (aI (bY BK126.out)):gb127≠gb126));clear BK126 HB;have BK126:=n0_;have HB:=n1_;have BK127:=n2_;have GW127:=n3_;have GE127:=n4_;have NB126_127:=n5_;have NB127_126:=n6_;clear n0_ n1_ n2_ n3_ n4_ n5_ n6_ hb hbox hg;have hnb4:=NB126_127.out;have hnc4:=NB127_126.out;obtain⟨hcz5_0,hcz5_1⟩:=gq BK126;obtain⟨hfz5_0,hfz5_1⟩:=dO BK126)|((with_reducible refine gd_ (N:=3) rfl ?_);refine by_ 3 (cs:=#[.int .i64 0,.slice none 0 0]) (t:=37) ?_;intro gb128 hg w6 hbox hb;have n0_:=A_.mk (bb_ (bY BK126.out) hb);have n1_:=A_.mk (bb_ (bY BK127.out) hb);have n2_:=A_.mk (bt_ ((zB_ HB GE126 GE127)) hb);have n3_:=A_.mk (hbox);have n4_:=A_.mk ((by rw [hg];exact(bz_ ((zB_ HB GE126 GE127))):w.heap.size≤gb128));have n5_:=A_.mk ((by rw [hg];exact(bz_ ((zB_ HB GE126 GE127))):w.heap.size≤gb128));have n6_:=A_.mk ((by rw [hg];exact Nat.ne_of_lt (aI (bY BK126.out)):gb126≠gb128));have n7_:=A_.mk ((by rw [hg];exact Nat.ne_of_gt (aI (bY BK126.out)):gb128≠gb126));have n8_:=A_.mk ((by rw [hg];exact Nat.ne_of_lt (aI (bY BK127.out)):gb127≠gb128));have n9_:=A_.mk ((by rw [hg];exact Nat.ne_of_gt (aI (bY BK127.out)):gb128≠gb127));clear BK126 BK127 HB;have BK126:=n0_;have BK127:=n1_;have HB:=n2_;have BK128:=n3_;have GW128:=n4_;have GE128:=n5_;have NB126_128:=n6_;have NB128_126:=n7_;have NB127_128:=n8_;have NB128_127:=n9_;clear n0_ n1_ n2_ n3_ n4_ n5_ n6_ n7_ n8_ n9_ hb hbox hg;have hnb7:=NB128_126.out;have hnc7:=NB126_128.out;have hnb8:=NB128_127.out;have hnc8:=NB127_128.out;obtain⟨hcz9_0,hcz9_1⟩:=gq BK128;obtain⟨hfz9_0,hfz9_1⟩:=dO BK128))
 go_loopg [4] k (fun kq v4 w'=>∃ (x4_1:Int) (x129001_1:List (List Int)) (u129001:Value),v4=.int .i64 x4_1∧A_ (aA.l0 kq x4_1 a0_0 l0_1 a0_0 x129001_1=some (r1,r2))∧A_ (kq≤k)∧A_ (Kd.S (Kd.slice 3 (Kd.int .i64)) 28 w' w.heap.size (fun _=>True) u129001 x129001_1)∧A_ (w'.heap[gb126]?=some (.cells #[.int .i64 a0_0,(.slice A0_1 l0_1.length c0_1)] 37 (0,0)))∧A_ (w'.heap[gb127]?=some (.cells #[.int .i64 0,(.slice none 0 0)] 37 (0,0)))∧A_ (w'.heap[gb128]?=some (.cells #[.int .i64 a0_0,u129001] 37 (0,0)))∧A_ (Below w.heap.size w w'))
 case atStart=>exact ⟨(0),(([]:List (List Int))),(.slice none 0 0),rs_,H',⟨Nat.le_refl _⟩,⟨by first|exact Kd.kX _ _ _ _ _|exact Kd.lI _ _ _ _ _|exact Kd.jY _ _ _ _ _|exact Kd.lw _ _ _ _ _|exact Kd.jF _ _ _ _ _⟩,⟨by (repeat apply bX);refine bA ?_ NB126_128.out _;(repeat apply bX);refine bA ?_ NB126_128.out _;(repeat apply bX);exact BK126.out⟩,⟨by (repeat apply bX);refine bA ?_ NB127_128.out _;(repeat apply bX);refine bA ?_ NB127_128.out _;(repeat apply bX);exact BK127.out⟩,⟨by (repeat apply bX);refine bp_ (cs:=#[.int .i64 a0_0,.slice none 0 0]) ?_ 1 _ rfl;(repeat apply bX);refine bp_ (cs:=#[.int .i64 0,.slice none 0 0]) ?_ 0 _ rfl;(repeat apply bX);exact BK128.out⟩,⟨(zC_ HB GE126 GE127 GE128)⟩⟩
 case round =>
  clear H'
  obtain⟨x4_1,x129001_1,u129001,rfl,HA,HK1,HO_129001,BK126,BK127,BK128,HB⟩:=hrel
  cases gk with
  | zero=>exact absurd HA.out (by simp [aA.l0])
  | succ k1 =>
   have H:=HA.out
   clear HA
   simp only [aA.l0] at H
   by_cases c10:x4_1<(l0_1.length:Int)
   rotate_left
   ·rw [if_neg c10] at H
    have c10b0:=decide_eq_false c10
    clear c10
    replace H:=lh H
    obtain⟨rfl,rfl⟩:=H
    have hnb25:=NB126_127.out
    have hnc25:=NB127_126.out
    have hnb26:=NB126_128.out
    have hnc26:=NB128_126.out
    obtain⟨hcz27_0,hcz27_1,hfz27_0,hfz27_1⟩:=b2 BK126.out
    have hnb28:=NB128_127.out
    have hnc28:=NB127_128.out
    obtain⟨hcz29_0,hcz29_1,hfz29_0,hfz29_1⟩:=b2 BK128.out
    obtain⟨hcz30_0,hcz30_1,hfz30_0,hfz30_1⟩:=b2 BK127.out
    obtain⟨Ao31,co31,eo31⟩:=Kd.dx HO_129001.out
    subst eo31
    go_wp2
    refine bodyPost_ret (results_cell_row rfl _ _ gb127 37 #[.int .i64 a0_0,.slice Ao31 x129001_1.length co31] (0,0) _ rfl (by (repeat apply bX);refine bp_ (cs:=#[.int .i64 a0_0,.slice none 0 0]) ?_ 1 _ rfl;(repeat apply bX);refine bp_ (cs:=#[.int .i64 0,.slice none 0 0]) ?_ 0 _ rfl;(repeat apply bX);exact BK127.out) Tryz.underlying37 rfl (by kernel_rfl)) rfl ?_
    exact⟨_,re_,by (with_reducible repeat (first|apply Kd.dI|apply Kd.dH|apply Kd.d_));exact Kd.dw (Kd.iU (p:=⟨gb127,1,none⟩) (Kd.iU (p:=⟨gb127,0,none⟩) (Kd.jC HO_129001.out BK127.out (by decide)) (fun _ hk=>hk.2) (.int .i64 a0_0)) (fun _ hk=>hk.2) (.slice Ao31 x129001_1.length co31)) (fun _ hk=>trivial),(zC_ HB GE126 GE127 GE128)⟩
   rw [if_pos c10] at H
   have c10b0:=decide_eq_true c10
   clear c10
   obtain⟨y129,hy129⟩:∃ y_:List Int,y_=(([]:List Int)):=⟨_,rfl⟩
   replace H:(if 0≤x4_1 then (if y129.length+(dD l0_1 x4_1).length<17592186044416 then (if x129001_1.length<5864062014805 then (aA.l0 k1 (wrap64 (x4_1+1)) a0_0 l0_1 a0_0 (x129001_1++[(y129++(dD l0_1 x4_1))])) else (none)) else (none)) else (none))=some (r1,r2):=by first|(rw [hy129];with_reducible exact H)|(have H2_:=(Option.bind_some _ _).symm.trans H;rw [hy129];with_reducible exact H2_)|(have H2_:=(Option.bind_some _ _).symm.trans H;with_reducible exact H2_)|with_reducible exact H|(rw [hy129];exact H)|exact H
   have Ny129:=A_.mk hy129
   clear hy129
   by_cases c11:0≤x4_1
   rotate_left
   ·rw [if_neg c11] at H
    exact absurd H (by simp)
   rw [if_pos c11] at H
   have c11b0:=decide_eq_true c11
   clear c11
   by_cases c12:y129.length+(dD l0_1 x4_1).length<17592186044416
   rotate_left
   ·rw [if_neg c12] at H
    exact absurd H (by simp)
   rw [if_pos c12] at H
   have LMc12:=A_.mk c12
   clear c12
   obtain⟨y133,hy133⟩:∃ y_:List Int,y_=(y129++(dD l0_1 x4_1)):=⟨_,rfl⟩
   replace H:(if x129001_1.length<5864062014805 then (aA.l0 k1 (wrap64 (x4_1+1)) a0_0 l0_1 a0_0 (x129001_1++[y133])) else (none))=some (r1,r2):=by first|(rw [hy133];with_reducible exact H)|(have H2_:=(Option.bind_some _ _).symm.trans H;rw [hy133];with_reducible exact H2_)|(have H2_:=(Option.bind_some _ _).symm.trans H;with_reducible exact H2_)|with_reducible exact H|(rw [hy133];exact H)|exact H
   have Ny133:=A_.mk hy133
   clear hy133
   by_cases c13:x129001_1.length<5864062014805
   rotate_left
   ·rw [if_neg c13] at H
    exact absurd H (by simp)
   rw [if_pos c13] at H
   have LMc13:=A_.mk c13
   clear c13
   obtain⟨y136,hy136⟩:∃ y_:List (List Int),y_=(x129001_1++[y133]):=⟨_,rfl⟩
   replace H:(aA.l0 k1 (wrap64 (x4_1+1)) a0_0 l0_1 a0_0 y136)=some (r1,r2):=by first|(rw [hy136];with_reducible exact H)|(have H2_:=(Option.bind_some _ _).symm.trans H;rw [hy136];with_reducible exact H2_)|(have H2_:=(Option.bind_some _ _).symm.trans H;with_reducible exact H2_)|with_reducible exact H|(rw [hy136];exact H)|exact H
   have Ny136:=A_.mk hy136
   clear hy136
   have H':=A_.mk H
   clear H
   have hnb14:=NB126_127.out
   have hnc14:=NB127_126.out
   have hnb15:=NB126_128.out
   have hnc15:=NB128_126.out
   obtain⟨hcz16_0,hcz16_1,hfz16_0,hfz16_1⟩:=b2 BK126.out
   try go_wp2
   have n0_:=A_.mk (Kd.d_ HO_129001.out)
   have n1_:=A_.mk (bw_ BK126.out)
   have n2_:=A_.mk (bw_ BK127.out)
   have n3_:=A_.mk (bw_ BK128.out)
   have n4_:=A_.mk (be_ HB.out)
   clear HO_129001 BK126 BK127 BK128 HB
   have HO_129001:=n0_
   have BK126:=n1_
   have BK127:=n2_
   have BK128:=n3_
   have HB:=n4_
   clear n0_ n1_ n2_ n3_ n4_
   have p132:0≤(x4_1:Int):=od_
   have q132:x4_1<(l0_1.length:Int):=od_
   obtain⟨ad132,A132_0,c132_0,e132,hx132_0,hl132_0,hi132_0⟩:=ko HR0_1.out x4_1 p132 q132
   have hw132_0:=hx132_0
   cases e132
   replace hx132_0:=(HB.out.cell (wl_ w _ hx132_0)).trans hx132_0
   have HR132_0:=A_.mk hi132_0
   have HC132_0:=A_.mk hl132_0
   clear hi132_0 hl132_0
   replace p132:=eq_true p132
   replace q132:=eq_true q132
   refine dN (n:=13) (S:=fun w'=>w'.cell? ⟨gb128,0,none⟩=some (.int .i64 a0_0)∧w'.cell? ⟨gb128,1,none⟩=some (u129001)∧w'.cell? ⟨gb126,0,none⟩=some (.int .i64 a0_0)∧w'.cell? ⟨gb126,1,none⟩=some (.slice (some ad132) l0_1.length c0_1)∧w'.cell? (ad132.add (x4_1).toNat)=some (.slice A132_0 (dD l0_1 x4_1).length c132_0)) (ds:=[12]) #[F,F,F,F,F,F,F,F,F,F,F,F,F] (by kernel_rfl) rfl rfl ⟨(bc_ BK128.out 0).trans rfl,(bc_ BK128.out 1).trans rfl,(bc_ BK126.out 0).trans rfl,(bc_ BK126.out 1).trans rfl,((HB.out.cell (wl_ w _ hw132_0)).trans hw132_0)⟩ (fun hHeld=>?_);refine jH aA.tab5 aA.bits5 (fun HT_ HW_=>?_)
   generalize wr.drew=w17 at HO_129001 BK126 BK127 BK128 HB HR132_0 hx132_0 hHeld ⊢
   refine pr_ (i:=0) (N:=some 15) #[T,F,F,F,F,F,F,F,F,F,F,F,F] rfl HT_.out ?_
   refine pr_ (i:=3) (N:=some 18) #[T,F,F,T,F,F,F,F,F,F,F,F,F] rfl HT_.out ?_
   refine pr_ (i:=5) (N:=some 20) #[T,F,F,T,F,T,F,F,F,F,F,F,F] rfl HT_.out ?_
   refine tk_ (i:=1) (N:=some 16) #[T,T,F,T,F,T,F,F,F,F,F,F,F] rfl HT_.out HW_.out hHeld ?_
   refine tk_ (i:=4) (N:=some 19) #[T,T,F,T,T,T,F,F,F,F,F,F,F] rfl HT_.out HW_.out hHeld ?_
   refine pr_ (i:=6) (N:=some 21) #[T,T,F,T,T,T,T,F,F,F,F,F,F] rfl HT_.out ?_
   refine tk_ (i:=7) (N:=some 22) #[T,T,F,T,T,T,T,T,F,F,F,F,F] rfl HT_.out HW_.out hHeld ?_
   refine ot_ (i:=2) (N:=some 17) #[T,T,T,T,T,T,T,T,F,F,F,F,F] rfl HT_.out (fun K hK=>?_)
   refine Kd.fB (Kd.int .i64) _ 3 ?hg (N:=17) ?hd (xs:=([]:List Int)) (inner:=[]) (ok:=fun _=>True) (okp:=fun _=>True) ?hr ?hp (fun _ hk=>hk) trivial (Below.refl _ _) (Nat.le_refl _) (by simp) ?_;(case hd=>rfl);(case hg=>rfl);(case hr=>first|(go_simp;done)|(go_simp;rfl));(case hp=>exact (Reps.none _ _))
   intro v130 w18 ho19 hb hg_ hnew_
   clear hg_ hnew_
   (first|rw [←Ny129.out] at ho19|(simp only [Int.reduceToNat] at ho19;rw [←Ny129.out] at ho19))
   have n0_:=A_.mk (Kd.lH (by (with_reducible repeat (first|apply Kd.dI|apply Kd.dH|apply Kd.d_));exact HO_129001.out) (Kd.jG ho19) hb)
   have n1_:=A_.mk (Kd.bR ho19 (bz_ ((zC_ HB GE126 GE127 GE128))))
   have n2_:=A_.mk (bb_ (bY BK126.out) hb)
   have n3_:=A_.mk (bb_ (bY BK127.out) hb)
   have n4_:=A_.mk (bb_ (bY BK128.out) hb)
   have n5_:=A_.mk (bt_ ((zC_ HB GE126 GE127 GE128)) hb)
   clear HO_129001 BK126 BK127 BK128 HB
   have HO_129001:=n0_
   have HO131:=n1_
   have BK126:=n2_
   have BK127:=n3_
   have BK128:=n4_
   have HB:=n5_
   clear n0_ n1_ n2_ n3_ n4_ n5_ hb ho19
   refine hK.out _ _ ⟨(bc_ BK128.out 0).trans rfl,(bc_ BK128.out 1).trans rfl,(bc_ BK126.out 0).trans rfl,(bc_ BK126.out 1).trans rfl,((HB.out.cell (wl_ w _ hw132_0)).trans hw132_0)⟩ (fun hHeld=>?_)
   clear hK K
   refine nm_ ?_
   refine ot_ (i:=8) (N:=some 23) #[T,T,T,T,T,T,T,T,T,F,F,F,F] rfl HT_.out (fun K hK=>?_)
   refine Kd.bq (Kd.int .i64) (w0:=w) w.heap.size (by rfl) (.tmp 17) (.tmp 22) 28 3 (.int .i64 0) 8 rfl Tryz.underlying28 info3 rfl (by decide) (by omega) v130 y129 (dD l0_1 x4_1) _ _ _ (fun _=>True) (fun _=>False) rfl rfl ?aO ?aR (fun _ _ h=>h) (fun _ h=>h.elim) ?aF ?aB ?aS ?aL ?_
   (case aR=>repeat (first|exact (cb_ HR132_0 HB)|(with_reducible refine Kd.fo ?_ _)|(with_reducible refine Kd.fq ?_ _)|(with_reducible refine Kd.gI ?_)))
   (case aB=>exact ((zC_ HB GE126 GE127 GE128)))
   (case aF=>exact (fun _ _=>trivial))
   (case aO=>exact (rY HO131.out))
   (case aS=>exact (bz_ ((zC_ HB GE126 GE127 GE128))))
   (case aL=>have:=LMc12.out;omega)
   intro v134 w20 ho hb hg hat
   rw [←Ny133.out] at ho
   have n0_:=A_.mk (Kd.wP (ok:=(fun _=>True)) (by (with_reducible repeat (first|apply Kd.dI|apply Kd.dH|apply Kd.d_));exact HO_129001.out) hg hat)
   have n1_:=A_.mk (fC (g:=gb126) (o:=.cells #[.int .i64 a0_0,.slice (some ad132) l0_1.length c0_1] 37 (0,0)) (bY BK126.out) hg (Kd.ou HO131.out BK126.out (by decide)))
   have n2_:=A_.mk (fC (g:=gb127) (o:=.cells #[.int .i64 0,.slice none 0 0] 37 (0,0)) (bY BK127.out) hg (Kd.ou HO131.out BK127.out (by decide)))
   have n3_:=A_.mk (fC (g:=gb128) (o:=.cells #[.int .i64 a0_0,u129001] 37 (0,0)) (bY BK128.out) hg (Kd.ou HO131.out BK128.out (by decide)))
   have n4_:=A_.mk (hb)
   have n5_:=A_.mk (ho)
   clear HO_129001 BK126 BK127 BK128 HB HO131
   have HO_129001:=n0_
   have BK126:=n1_
   have BK127:=n2_
   have BK128:=n3_
   have HB:=n4_
   have HO135:=n5_
   clear n0_ n1_ n2_ n3_ n4_ n5_ ho hb hg hat
   obtain⟨Ao22,co22,eo22⟩:=Kd.aX HO135.out
   (first|subst eo22|(injection eo22 with f1_ f2_ f3_;have f4_:=f1_.symm;have f5_:=f3_.symm;clear f1_ f2_ f3_;subst f4_;subst f5_))
   refine hK.out _ _ ⟨(bc_ BK128.out 0).trans rfl,(bc_ BK128.out 1).trans rfl,(bc_ BK126.out 0).trans rfl,(bc_ BK126.out 1).trans rfl,((HB.out.cell (wl_ w _ hw132_0)).trans hw132_0)⟩ (fun hHeld=>?_)
   clear hK K
   refine nm_ ?_
   refine ot_ (i:=9) (N:=some 24) #[T,T,T,T,T,T,T,T,T,T,F,F,F] rfl HT_.out (fun K hK=>?_)
   refine kN (w1:=?_) (v:=?_) (by rfl) rfl ?_ ?_
   rotate_left 2
   ·go_simp
    constructor
    ·rfl
    ·rfl
   refine hK.out _ _ ⟨(bc_ (bl_ BK128.out _) 0).trans rfl,(bc_ (bl_ BK128.out _) 1).trans rfl,(bc_ (bl_ BK126.out _) 0).trans rfl,(bc_ (bl_ BK126.out _) 1).trans rfl,(World.cell?_alloc_lt _ _ _ (wl_ _ _ (((HB.out.cell (wl_ w _ hw132_0)).trans hw132_0)))).trans (((HB.out.cell (wl_ w _ hw132_0)).trans hw132_0))⟩ (fun hHeld=>?_)
   clear hK K
   refine nm_ ?_
   refine ot_ (i:=10) (N:=some 25) #[T,T,T,T,T,T,T,T,T,T,T,F,F] rfl HT_.out (fun K hK=>?_)
   refine Kd.gu (Kd.slice 3 (Kd.int .i64)) (w0:=w) w.heap.size (by rfl) (.tmp 16) (.tmp 24) 25 28 (.slice none 0 0) 24 rfl Tryz.underlying25 info28 rfl (by decide) (by omega) u129001 x129001_1 y133 [.slice Ao22 y133.length co22] (fun _=>True) (fun k_=>some k_=(.slice Ao22 y133.length co22:Value).ownBlock) rfl rfl ?aP (fun k_ hk_=>((Kd.aC (ok':=fun k_=>((fun _=>True)) k_∧some k_≠(u129001:Value).ownBlock) (Kd.ji (HO135.out) (Kd.jO HO_129001.out) (by decide)) (fun k_ hk=>⟨trivial,hk.2⟩))).1 k_ hk_.symm) ?aF ?aO ?aB ?aS ?aL ?_
   (case aP=>exact Kd.mO (Kd.aC (Kd.jQ rfl (Kd.aC (ok':=fun k_=>((fun _=>True)) k_∧some k_≠(u129001:Value).ownBlock) (Kd.ji (HO135.out) (Kd.jO HO_129001.out) (by decide)) (fun k_ hk=>⟨trivial,hk.2⟩))) (fun _ h_=>h_)))
   (case aB=>exact ((zC_ HB GE126 GE127 GE128)))
   (case aF=>exact (fun _ _=>trivial))
   (case aO=>exact (by (with_reducible repeat (first|apply Kd.dI|apply Kd.dH|apply Kd.d_));exact Kd.dw HO_129001.out (fun k_ hk=>⟨trivial,fun e_=>hk.2 e_⟩)))
   (case aS=>exact (bz_ ((zC_ HB GE126 GE127 GE128))))
   (case aL=>have:=LMc13.out;omega)
   intro v137 w21 ho hb hg hat
   rw [←Ny136.out] at ho
   have n0_:=A_.mk (fC (g:=gb126) (o:=.cells #[.int .i64 a0_0,.slice (some ad132) l0_1.length c0_1] 37 (0,0)) (bY BK126.out) hg (Kd.uH HO_129001.out BK126.out (by decide)))
   have n1_:=A_.mk (fC (g:=gb127) (o:=.cells #[.int .i64 0,.slice none 0 0] 37 (0,0)) (bY BK127.out) hg (Kd.uH HO_129001.out BK127.out (by decide)))
   have n2_:=A_.mk (fC (g:=gb128) (o:=.cells #[.int .i64 a0_0,u129001] 37 (0,0)) (bY BK128.out) hg (Kd.uH HO_129001.out BK128.out (by decide)))
   have n3_:=A_.mk (hb)
   have n4_:=A_.mk (ho)
   clear BK126 BK127 BK128 HB HO_129001 HO135
   have BK126:=n0_
   have BK127:=n1_
   have BK128:=n2_
   have HB:=n3_
   have HO138:=n4_
   clear n0_ n1_ n2_ n3_ n4_ ho hb hg hat
   obtain⟨Ao23,co23,eo23⟩:=Kd.dx HO138.out
   (first|subst eo23|(injection eo23 with f1_ f2_ f3_;have f4_:=f1_.symm;have f5_:=f3_.symm;clear f1_ f2_ f3_;subst f4_;subst f5_))
   refine hK.out _ _ ⟨(bc_ BK128.out 0).trans rfl,(bc_ BK128.out 1).trans rfl,(bc_ BK126.out 0).trans rfl,(bc_ BK126.out 1).trans rfl,((HB.out.cell (wl_ w _ hw132_0)).trans hw132_0)⟩ (fun hHeld=>?_)
   clear hK K
   refine nm_ ?_
   refine pr_ (i:=11) (N:=some 26) #[T,T,T,T,T,T,T,T,T,T,T,T,F] rfl HT_.out ?_
   refine gG (i:=12) (N:=none) #[T,T,T,T,T,T,T,T,T,T,T,T,T] rfl rfl (qc HT_.out (by kernel_rfl)) (by decide) (fun K hK=>?_)
   have hs24:w21.cell? ⟨gb128,1,none⟩=some (u129001):=(bc_ BK128.out 1).trans rfl
   have hfs24:=bf_ BK128.out 1
   have hns24_0:=NB126_128.out
   have hns24_1:=NB127_128.out
   have hms24_0:=NB128_126.out
   have hms24_1:=NB128_127.out
   refine fT (w1:=?_) (by rfl) rfl ?_ ?_
   rotate_left
   ·go_simp
    rfl
   refine hK.out _ _ ?_
   clear hK K
   refine fA (lc HT_.out (by kernel_rfl)) ?_
   try go_wp2
   go_roundg k1
   case measure=>have:=HK1.out;omega
   case rel=>exact ⟨(wrap64 (x4_1+1)),(y136),(.slice Ao23 y136.length co23),rs_,H',⟨by have:=HK1.out;omega⟩,⟨by (with_reducible repeat (first|apply Kd.dI|apply Kd.dH|apply Kd.d_));exact Kd.dw (Kd.iU (p:=⟨gb128,1,none⟩) (Kd.jC HO138.out BK128.out (by decide)) (fun _ hk=>hk.2) (.slice Ao23 y136.length co23)) (fun _ hk=>trivial)⟩,⟨by (repeat apply bX);refine bA ?_ NB126_128.out _;(repeat apply bX);exact BK126.out⟩,⟨by (repeat apply bX);refine bA ?_ NB127_128.out _;(repeat apply bX);exact BK127.out⟩,⟨by (repeat apply bX);refine bp_ (cs:=#[.int .i64 a0_0,u129001]) ?_ 1 _ rfl;(repeat apply bX);exact BK128.out⟩,⟨(zC_ HB GE126 GE127 GE128)⟩⟩
end Go.Proofs.YtmdehehgmnihpaaGreat.PFnExactLinkStep
