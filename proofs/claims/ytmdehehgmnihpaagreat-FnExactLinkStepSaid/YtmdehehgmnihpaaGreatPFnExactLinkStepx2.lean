import Derived.Test.YtmdehehgmnihpaaGreatPFnExactLinkStepx1
namespace Go.Proofs.YtmdehehgmnihpaaGreat.PFnExactLinkStep
open Go.RowKit Go.Proofs.YtmdehehgmnihpaaGreatW.PrintWords Go.Proofs.YtmdehehgmnihpaaGreatW.PrintLast Go.Proofs.YtmdehehgmnihpaaGreatW.PrintMore
attribute [local go_sem] dM dL eu ek dn dm dJ dK
set_option maxHeartbeats 8000000
set_option maxRecDepth 100000
set_option linter.unusedVariables false
set_option linter.unusedSimpArgs false
theorem oC{α:Type}{d:Kd α}{e base n c g sz:Nat}{W:World}{ok:Nat→Prop}{ax:Option Addr}{xs:List α}(h0:Kd.V d e W base ok (.slice (some ⟨g,0,none⟩) n c) xs)(hn:1≤n)(hsz:d.sz=sz)(hax:(if c=1 then (some ⟨g,0,none⟩:Option Addr) else some ⟨g,sz,none⟩)=ax):Kd.V d e W base ok (.slice ax (n-1) (c-1)) (xs.drop 1):=by
 obtain⟨rfl,hnc,hF⟩:=Kd.xk h0
 have h1:=Kd.yc (m:=1) hF hn hnc
 have hl:(xs.drop 1).length=xs.length-1:=List.length_drop
 rw [←hl]
 refine Kd.yD (by omega) ?_
 rw [←hax]
 by_cases hc:c=1
 ·rw [if_pos hc] at h1 ⊢
  exact h1
 ·rw [if_neg hc] at h1 ⊢
  have h2:(some (⟨g,0,none⟩:Addr)).map (·.add (1*d.sz))=some ⟨g,sz,none⟩:=by
   show some (Addr.add ⟨g,0,none⟩ (1*d.sz))=_
   rw [kL,Nat.one_mul,Nat.zero_add,hsz]
  rw [h2] at h1
  exact h1
def fG(xs:List (List Int))(i:Int):List Int:=xs.getD i.toNat ([]:List Int)
theorem xL{w:World}{A:Option Addr}{n:Nat}{xs:List (List Int)}(h:Kd.C (Kd.slice 3 (Kd.int .i64)) w A n xs)(i:Int)(h0:0≤i)(h1:i<n):∃ ad A0 c0,A=some ad∧w.cell? (ad.add i.toNat)=some (.slice A0 (fG xs i).length c0)∧(fG xs i).length≤c0∧(Kd.int .i64).C w A0 (fG xs i).length (fG xs i):=by
 obtain⟨ad,c,e,_,hK,hc0⟩:=Kd.qQ h ([]:List Int) i h0 h1
 have hc:∀ j u,c[j]?=some u→w.cell? (ad.add (i.toNat*1+j))=some u:=hc0
 obtain⟨A0,c0,rfl,l0,g0⟩:=hK
 exact⟨ad,A0,c0,e,by have hq:=hc 0 _ rfl;rwa [Nat.mul_one,Nat.add_zero] at hq,l0,g0⟩
theorem oh{w W:World}{e g n c:Nat}{ok:Nat→Prop}{xs:List (List Int)}{j:Int}(h:Kd.S (Kd.slice 3 (Kd.int .i64)) e W w.heap.size ok (.slice (some ⟨g,0,none⟩) n c) xs)(hj:0≤j∧j<(xs.length:Int)) :
  ∃ A c0,W.cell? ⟨g,j.toNat,none⟩=some (.slice A (fG xs j).length c0)∧(fG xs j).length≤c0∧(Kd.int .i64).C W A (fG xs j).length (fG xs j):=by
 obtain⟨hl,_,hC⟩:=Kd.eF h
 obtain⟨ad,c',e1,_,hK,hc0⟩:=Kd.qQ hC ([]:List Int) j hj.1 (by omega)
 injection e1 with e1
 subst e1
 have hc:∀ q u,c'[q]?=some u→W.cell? (Addr.add ⟨g,0,none⟩ (j.toNat*1+q))=some u:=hc0
 obtain⟨A0,c0,rfl,l0,g0⟩:=hK
 refine⟨A0,c0,?_,l0,g0⟩
 have hq:=hc 0 _ rfl
 rw [kL,Nat.mul_one,Nat.add_zero,Nat.zero_add] at hq
 exact hq
theorem yf{w W:World}{e g n c:Nat}{ok:Nat→Prop}{xs:List (List Int)}{j:Int}(h:Kd.S (Kd.slice 3 (Kd.int .i64)) e W w.heap.size ok (.slice (some ⟨g,0,none⟩) n c) xs)(_hj:0≤j∧j<(xs.length:Int)):W.frozen? ⟨g,j.toNat,none⟩=false:=by
 obtain⟨_,_,inner,hown,_⟩:=h
 rcases hown.2 with ⟨hv,_⟩ | ⟨g',cap',cur,hv,_,hh,_⟩
 ·cases hv
 ·cases hv
  exact bf_ hh _
theorem ym{w W W':World}{e g n c:Nat}{ok okp:Nat→Prop}{xs:List (List Int)}{x:List Int}{v:Value}{j:Int}(hw:W'=W.setCell ⟨g,j.toNat,none⟩ v)(h:A_ (Kd.S (Kd.slice 3 (Kd.int .i64)) e W w.heap.size ok (.slice (some ⟨g,0,none⟩) n c) xs))
  (hr:A_ (Kd.R (Kd.int .i64) 3 W w.heap.size okp v x)) (hb:A_ (Below w.heap.size w W)) (hj:0≤j∧j<(xs.length:Int)) (hd:∀ k,okp k→ok k→False) :
  Kd.S (Kd.slice 3 (Kd.int .i64)) e W' w.heap.size (fun k=>ok k∨okp k) (.slice (some ⟨g,0,none⟩) n c) (xs.set j.toNat x)∧Kept W W' (fun k=>ok k)∧Below w.heap.size w W':=by
 subst hw
 have hg:ok g:=(Kd.S_R h.out).1 g rfl
 obtain⟨hl,_,_⟩:=Kd.eF h.out
 obtain⟨A0,c0,hcell,_⟩:=oh h.out hj
 obtain⟨f,hf,hR⟩:=Kd.vF h.out j.toNat okp (fun k hk ho=>hd k hk ho)
 have hM:(Kd.tag f (Kd.slice 3 (Kd.int .i64))).M W w.heap.size okp (x,j.toNat) [v]:=by
  show(Kd.slice 3 (Kd.int .i64)).M W w.heap.size (fun k=>okp k∧f k=j.toNat) x [v]
  exact Kd.mO (Kd.aC hr.out (fun k hk=>⟨hk,hf k hk⟩))
 obtain⟨h1,h2⟩:=Kd.xw (ok:=fun k=>ok k∨okp k) (d:=Kd.tag f (Kd.slice 3 (Kd.int .i64))) (c:=[.slice A0 (fG xs j).length c0]) (seg:=[v]) (j:=0) (okp:=okp) (x':=(x,j.toNat)) (Kd.aC hR (fun _ hk=>.inl hk)) j hj.1 (by omega) rfl (fun q u hq=>by
   cases q with
   | zero=>rw [←Option.some.inj hq];exact(by show W.cell? ⟨g,j.toNat*1+0,none⟩=_;rw [Nat.mul_one,Nat.add_zero];exact hcell)
   | succ q=>cases hq) (Nat.le_refl _) hM (fun k hk=>⟨.inr hk,fun e=>hd k hk (e ▸ hg)⟩)
 have e1:W.setCells g (j.toNat*(Kd.tag f (Kd.slice 3 (Kd.int .i64))).sz+0) [v]=W.setCell ⟨g,j.toNat,none⟩ v:=by
  show W.setCells g (j.toNat*1+0) [v]=_
  rw [Nat.mul_one,Nat.add_zero];rfl
 rw [e1] at h1 h2
 refine⟨⟨f,?_⟩,Kept.setCell (Kept.refl _ _) (.inl hg) _,bs_ hb.out (Kd.u7 h.out _ (by simp [Value.ownBlock]))⟩
 have e2:(xs.set j.toNat x).zipIdx=xs.zipIdx.set j.toNat (x,j.toNat):=by
  apply List.ext_getElem?
  intro i
  simp only [List.getElem?_zipIdx,List.getElem?_set,List.length_zipIdx]
  split
  ·next h=>subst h;split <;> simp_all
  ·rfl
 rw [e2]
 exact h1
theorem mE{w W:World}{a0:Addr}{v0:Value}(hb:Below w.heap.size w W)(h:w.cell? a0=some v0):W.cell? a0=some v0:=(hb.cell (wl_ _ _ h)).trans h
theorem ry{α:Type}{d:Kd α}{e base n c:Nat}{W:World}{ok:Nat→Prop}{A:Option Addr}{xs:List α}(h:Kd.R d e W base ok (.slice A n c) xs)(hn:0<n):∃ g,A=some ⟨g,0,none⟩:=by
 obtain⟨_,inner,hown,_⟩:=h
 rcases hown.2 with ⟨hv,_⟩ | ⟨g',cap',cur,hv,_⟩
 ·cases hv;omega
 ·cases hv;exact⟨_,rfl⟩
theorem nP{W:World}{base e g n c:Nat}{ok:Nat→Prop}{xs:List Int}{j:Int}(h:Kd.R (Kd.int .i64) e W base ok (.slice (some ⟨g,0,none⟩) n c) xs)(hb:0≤j∧j<(xs.length:Int)):W.cell? ⟨g,j.toNat,none⟩=some (.int .i64 (rd xs j)):=by
 obtain⟨rfl,_⟩:=Kd.eQ h
 exact(Kd.ll 0 h j hb.1 hb.2).1
theorem o6{W:World}{base e g n c:Nat}{ok:Nat→Prop}{xs:List Int}{j:Int}(h:Kd.R (Kd.int .i64) e W base ok (.slice (some ⟨g,0,none⟩) n c) xs)(hb:0≤j∧j<(xs.length:Int)):W.frozen? ⟨g,j.toNat,none⟩=false:=by
 obtain⟨rfl,_⟩:=Kd.eQ h
 exact(Kd.ll 0 h j hb.1 hb.2).2
theorem oJ{w W:World}{a0 a1:Addr}{v0 v1:Value}(hb:Below w.heap.size w W)(h:w.cell? a0=some v0∧w.cell? a1=some v1):W.cell? a0=some v0∧W.cell? a1=some v1 :=
 ⟨(hb.cell (wl_ _ _ h.1)).trans h.1,(hb.cell (wl_ _ _ h.2)).trans h.2⟩
theorem jy{P:Program}{fn:Func}{p p' u:Tmp}{ty ty':TypeId}(h:fn.results=#[.cell p ty,.cell p' ty',.tmp u])(tmps:Array Value)(w:World)(g:Nat)(t:TypeId)(cs:Array Value)(fr:Nat×Nat)(d:TypeDesc)
  (hp:tmps.getD p undef=.pointer (some ⟨g,0,none⟩)) (hg:w.heap[g]?=some (.cells cs t fr))
  (hu:P.underlying ty=some d) (hd:(match d with | .struct _ | .array _ _=>true | _=>false)=true) (hi:(P.info? ty).map (·.size)=some cs.size)
  (g':Nat) (t':TypeId) (cs':Array Value) (fr':Nat×Nat) (d':TypeDesc) (hp':tmps.getD p' undef=.pointer (some ⟨g',0,none⟩)) (hg':w.heap[g']?=some (.cells cs' t' fr'))
  (hu':P.underlying ty'=some d') (hd':(match d' with | .struct _ | .array _ _=>true | _=>false)=true) (hi':(P.info? ty').map (·.size)=some cs'.size) :
  (results fn tmps).run P w=.ok (.tuple #[.agg cs,.agg cs',tmps.getD u undef]) w:=by
 have h1:tmps[p]?.getD undef=.pointer (some ⟨g,0,none⟩):=by simpa using hp
 have h2:tmps[p']?.getD undef=.pointer (some ⟨g',0,none⟩):=by simpa using hp'
 simp [results,h,h1,h2,asAddr,run_loadVar_row w g t ty cs fr d hg hu hd hi,run_loadVar_row w g' t' ty' cs' fr' d' hg' hu' hd' hi']
theorem mI{α:Type}{d:Kd α}{e base n c:Nat}{W:World}{ok:Nat→Prop}{A:Option Addr}{xs:List α}(h:Kd.S d e W base ok (.slice A n c) xs)(hn:0<n):∃ g,A=some ⟨g,0,none⟩:=by
 obtain⟨_,inner,hown,_⟩:=Kd.S_R h
 rcases hown.2 with ⟨hv,_⟩ | ⟨g',cap',cur,hv,_⟩
 ·cases hv;omega
 ·cases hv;exact⟨_,rfl⟩
theorem xy{α:Type}{d:Kd α}{e base n c:Nat}{W:World}{ok:Nat→Prop}{A:Option Addr}{xs:List α}(h:Kd.S d e W base ok (.slice A n c) xs):c≤9223372036854775807:=by
 obtain⟨_,inner,hown,_⟩:=Kd.S_R h
 rcases hown.2 with ⟨hv,_⟩ | ⟨g',cap',cur,hv,_,_,_,hcm,_⟩
 ·cases hv;decide
 ·cases hv;exact hcm
def dB.l9:Nat→(List (List Int))→(Int)→(Int)→(List S68)→(Int)→(Int)→(List (List Int))→(List (List Int))→(List Int)→Option ((Int)×(Int)×(List S68)×(Int)×(Int)×(List (List Int))×(List (List Int))×(List Int))
 | 0,_,_,_,_,_,_,_,_,_=>none
 | k+1,l0_5,x9_s4,x9_0,x9_1,x9_2,x9_3,x9_4,x9_5,x9_6=>(if x9_s4<(l0_5.length:Int) then (if 0≤x9_s4 then (if x9_s4<(l0_5.length:Int) then (if (([]:List Int).length+(fG l0_5 x9_s4).length)*8≤140737488355328 then (if (x9_5.length+1)*24≤140737488355328 then (dB.l9 k l0_5 (wrap64 (x9_s4+1)) x9_0 x9_1 x9_2 x9_3 x9_4 (x9_5++[(([]:List Int)++(fG l0_5 x9_s4))]) x9_6) else none) else none) else none) else none) else (some (x9_s4,x9_0,x9_1,x9_2,x9_3,x9_4,x9_5,x9_6)))
def dB.f(k:Nat)(a0_0:Int)(l0_1:List (S68))(a0_2:Int)(a0_3:Int)(l0_4:List (List Int))(l0_5:List (List Int))(l0_6:List Int):Option ((Int)×(List (S68))×(Int)×(Int)×(List (List Int))×(List (List Int))×(List Int)):=((aG.f k a0_0 l0_1 a0_2).bind fun ⟨t1,t2,t3⟩=>((aA.f k a0_3 l0_4).bind fun ⟨t4,t5⟩=>(if (([]:List Int).length+l0_6.length)*8≤140737488355328 then ((dB.l9 k l0_5 0 t1 t2 t3 t4 t5 [] (([]:List Int)++l0_6)).bind fun ⟨z9_s4,z9_0,z9_1,z9_2,z9_3,z9_4,z9_5,z9_6⟩=>(some (z9_0,z9_1,z9_2,z9_3,z9_4,z9_5,z9_6))) else none)))
theorem dB.calls(k:Nat)(a0_0:Int)(A0_1:Option Addr)(c0_1:Nat)(l0_1:List (S68))(a0_2:Int)(a0_3:Int)(A0_4:Option Addr)(c0_4:Nat)(l0_4:List (List Int))(A0_5:Option Addr)(c0_5:Nat)(l0_5:List (List Int))(A0_6:Option Addr)(c0_6:Nat)(l0_6:List Int)(r1:Int)(r2:List (S68))(r3:Int)(r4:Int)(r5:List (List Int))(r6:List (List Int))(r7:List Int)(w:World)(hr0_1:Kd.C k68 w A0_1 l0_1.length l0_1)(hc0_1:l0_1.length≤c0_1)(hr0_4:Kd.C (Kd.slice 3 (Kd.int .i64)) w A0_4 l0_4.length l0_4)(hc0_4:l0_4.length≤c0_4)(hr0_5:Kd.C (Kd.slice 3 (Kd.int .i64)) w A0_5 l0_5.length l0_5)(hc0_5:l0_5.length≤c0_5)(hr0_6:Kd.C (Kd.int .i64) w A0_6 l0_6.length l0_6)(hc0_6:l0_6.length≤c0_6)(h:dB.f k a0_0 l0_1 a0_2 a0_3 l0_4 l0_5 l0_6=some (r1,r2,r3,r4,r5,r6,r7)) :
  Calls Tryz.prog 26 #[.agg #[.int .i64 a0_0,.slice A0_1 l0_1.length c0_1,.int .i64 a0_2,.int .i64 a0_3,.slice A0_4 l0_4.length c0_4,.slice A0_5 l0_5.length c0_5,.slice A0_6 l0_6.length c0_6]] w fun e w'=>∃ f_:Nat→Nat,∃ v0_ v1_ v2_ v3_:Value,e=.returned (.agg #[.int .i64 r1,v0_,.int .i64 r3,.int .i64 r4,v1_,v2_,v3_])∧Kd.S k68 68 w' w.heap.size (fun k_=>f_ k_=0) v0_ r2∧Kd.S (Kd.slice 3 (Kd.int .i64)) 28 w' w.heap.size (fun k_=>f_ k_=1) v1_ r5∧Kd.S (Kd.slice 3 (Kd.int .i64)) 28 w' w.heap.size (fun k_=>f_ k_=2) v2_ r6∧Kd.R (Kd.int .i64) 3 w' w.heap.size (fun k_=>f_ k_=3) v3_ r7∧Below w.heap.size w w':=by
 have HR0_1:=A_.mk hr0_1
 have HC0_1:=A_.mk hc0_1
 clear hr0_1 hc0_1
 have HR0_4:=A_.mk hr0_4
 have HC0_4:=A_.mk hc0_4
 clear hr0_4 hc0_4
 have HR0_5:=A_.mk hr0_5
 have HC0_5:=A_.mk hc0_5
 have HW0_5:=A_.mk hr0_5
 clear hr0_5 hc0_5
 have HR0_6:=A_.mk hr0_6
 have HC0_6:=A_.mk hc0_6
 clear hr0_6 hc0_6
 have HB:=A_.mk (Below.refl w.heap.size w)
 unfold dB.f at h
 have H:=h
 clear h
 replace H:=oa_ H
 obtain⟨⟨t1,t2,t3⟩,A3,H⟩:=H
 try dsimp only at H
 replace H:=oa_ H
 obtain⟨⟨t4,t5⟩,A4,H⟩:=H
 try dsimp only at H
 obtain⟨y6,Ny6⟩:=le_ (([]:List Int))
 rw [←Ny6.out] at H
 replace H:=lM H
 obtain⟨LM6,H⟩:=H
 obtain⟨y7,Ny7⟩:=le_ ((y6++l0_6))
 rw [←Ny7.out] at H
 replace H:=ob_ H
 obtain⟨⟨z9_s4,z9_0,z9_1,z9_2,z9_3,z9_4,z9_5,z9_6⟩,AL_,H⟩:=H
 have HRL9:=A_.mk H
 have AL9:=A_.mk AL_
 clear H AL_
 have hu39:=Tryz.underlying39
 go_enter Tryz.func26,Tryz.ntmps26
 have HS:=A_.mk (Nat.le_refl w.heap.size)
 go_wp2_with (first|((with_reducible refine gd_ (N:=1) rfl ?_);refine by_ 1 (cs:=#[.int .i64 a0_0,.slice A0_1 l0_1.length c0_1,.int .i64 a0_2,.int .i64 a0_3,.slice A0_4 l0_4.length c0_4,.slice A0_5 l0_5.length c0_5,.slice A0_6 l0_6.length c0_6]) (t:=39) ?_;intro gb1_ hg w1_ hbox hb;replace HS:=aHg HS hg hbox;replace HB:=aHB HB hb;have BK1:=A_.mk hbox;clear hbox hb hg)|((with_reducible refine gd_ (N:=2) rfl ?_);refine by_ 2 (cs:=#[.int .i64 0,.slice none 0 0,.int .i64 0,.int .i64 0,.slice none 0 0,.slice none 0 0,.slice none 0 0]) (t:=39) ?_;intro gb2_ hg w2_ hbox hb;replace HS:=aHg HS hg hbox;replace BK1:=aBb BK1 hb;replace HB:=aHB HB hb;have BK2:=A_.mk hbox;clear hbox hb hg))
 refine dN (n:=13) (S:=fun w'=>(w'.cell? ⟨gb1_,0,none⟩=some (.int .i64 a0_0)∧w'.cell? ⟨gb1_,1,none⟩=some (.slice A0_1 l0_1.length c0_1)∧w'.cell? ⟨gb1_,2,none⟩=some (.int .i64 a0_2)∧w'.cell? ⟨gb1_,3,none⟩=some (.int .i64 a0_3)∧w'.cell? ⟨gb1_,4,none⟩=some (.slice A0_4 l0_4.length c0_4)∧w'.cell? ⟨gb1_,5,none⟩=some (.slice A0_5 l0_5.length c0_5)∧w'.cell? ⟨gb1_,6,none⟩=some (.slice A0_6 l0_6.length c0_6))) (ds:=[12]) #[F,F,F,F,F,F,F,F,F,F,F,F,F] (by kernel_rfl) rfl rfl (aa BK1.out) (fun hHeld=>?_)
 have hb:=aV (Below.refl w2_.heap.size w2_)
 revert HS BK1 HB BK2
 refine aD hb ?_
 intro HS BK1 HB BK2
 clear hb
 generalize w2_.drew=w16d_ at BK1 BK2 HB HS hHeld ⊢
 refine pd_ (i:=0) (N:=some 5) #[T,F,F,F,F,F,F,F,F,F,F,F,F] rfl ?_
 refine tl_ (i:=1) (N:=some 6) #[T,T,F,F,F,F,F,F,F,F,F,F,F] rfl hHeld ?_
 refine pd_ (i:=3) (N:=some 8) #[T,T,F,T,F,F,F,F,F,F,F,F,F] rfl ?_
 refine tl_ (i:=4) (N:=some 9) #[T,T,F,T,T,F,F,F,F,F,F,F,F] rfl hHeld ?_
 refine pd_ (i:=7) (N:=some 12) #[T,T,F,T,T,F,F,T,F,F,F,F,F] rfl ?_
 refine tl_ (i:=8) (N:=some 13) #[T,T,F,T,T,F,F,T,T,F,F,F,F] rfl hHeld ?_
 refine mR (σ:=Value×Value×Value×Value×Nat×(Nat→Nat)) 1 #[T,T,T,T,T,T,T,T,T,T,T,T,F] (fun s_=>[(7,.agg #[.int .i64 t1,s_.1,.int .i64 t3]),(10,.agg #[.int .i64 t4,s_.2.1]),(11,s_.2.2.1),(14,s_.2.2.2.1),(15,.agg #[.int .i64 t1,s_.1,.int .i64 t3,.int .i64 t4,s_.2.1,.slice none 0 0,s_.2.2.2.1]),(3,.pointer (some ⟨s_.2.2.2.2.1,0,none⟩))]) (fun s_ w'=>((w'.cell? ⟨gb1_,0,none⟩=some (.int .i64 a0_0)∧w'.cell? ⟨gb1_,1,none⟩=some (.slice A0_1 l0_1.length c0_1)∧w'.cell? ⟨gb1_,2,none⟩=some (.int .i64 a0_2)∧w'.cell? ⟨gb1_,3,none⟩=some (.int .i64 a0_3)∧w'.cell? ⟨gb1_,4,none⟩=some (.slice A0_4 l0_4.length c0_4)∧w'.cell? ⟨gb1_,5,none⟩=some (.slice A0_5 l0_5.length c0_5)∧w'.cell? ⟨gb1_,6,none⟩=some (.slice A0_6 l0_6.length c0_6)))∧w'.heap[gb1_]?=some (.cells #[.int .i64 a0_0,.slice A0_1 l0_1.length c0_1,.int .i64 a0_2,.int .i64 a0_3,.slice A0_4 l0_4.length c0_4,.slice A0_5 l0_5.length c0_5,.slice A0_6 l0_6.length c0_6] 39 (0,0))∧w'.heap[gb2_]?=some (.cells #[.int .i64 0,.slice none 0 0,.int .i64 0,.int .i64 0,.slice none 0 0,.slice none 0 0,.slice none 0 0] 39 (0,0))∧Below w.heap.size w w'∧w16d_.heap.size≤w'.heap.size∧Kd.S k68 68 w' w.heap.size (fun k_=>(w16d_.heap.size≤k_∧k_<w'.heap.size)∧s_.2.2.2.2.2 k_=0) s_.1 t2∧Kd.S (Kd.slice 3 (Kd.int .i64)) 28 w' w.heap.size (fun k_=>(w16d_.heap.size≤k_∧k_<w'.heap.size)∧s_.2.2.2.2.2 k_=1) s_.2.1 t5∧Kd.R (Kd.int .i64) 3 w' w.heap.size (fun k_=>(w16d_.heap.size≤k_∧k_<w'.heap.size)∧s_.2.2.2.2.2 k_=2) s_.2.2.2.1 y7∧w'.heap[s_.2.2.2.2.1]?=some (.cells #[.int .i64 0,.slice none 0 0,.int .i64 0,.int .i64 0,.slice none 0 0,.slice none 0 0,.slice none 0 0] 39 (0,0))∧(w16d_.heap.size≤s_.2.2.2.2.1∧s_.2.2.2.2.1<w'.heap.size∧3≤s_.2.2.2.2.2 s_.2.2.2.2.1)) ?_ ?_
 rotate_left
 ·intro hCont
  refine uW (i:=2) (j:=6) (k:=11) (Ni:=some 7) (Nj:=some 11) (Nk:=some 3) #[T,T,T,T,T,F,F,T,T,F,F,F,F] #[T,T,F,T,T,F,T,T,T,F,F,F,F] #[T,T,F,T,T,F,F,T,T,F,F,T,F] rfl rfl rfl rfl rfl rfl (by kernel_rfl) (by decide) (by decide) (by decide) (fun K hK=>?_) (fun K hK=>?_) (fun K hK=>?_)
  ·skip
   refine gz_ Tryz.func60 #[.agg #[.int .i64 a0_0,.slice A0_1 l0_1.length c0_1,.int .i64 a0_2]] ?_
   with_reducible refine (aG.calls k a0_0 _ _ l0_1 a0_2 t1 t2 t3 _ (cb_ HR0_1 HB) HC0_1.out A3.out).mono ?_
   rintro e w3_ ⟨v1_,rfl,ho0_,hb⟩
   refine⟨_,rfl,?_⟩
   replace HS:=aHs HS hb.size
   obtain⟨Ao3_1,co3_1,rfl,HO3_1⟩:=sSm ho0_ HB.out.size
   revert BK1 BK2 HB
   refine aD hb ?_
   intro BK1 BK2 HB
   clear hb ho0_
   refine hK.out _ _ (aa BK1.out) (fun hHeld=>?_)
   clear hK K
   refine nm_ ?_
   refine uW (i:=5) (j:=6) (k:=11) (Ni:=some 10) (Nj:=some 11) (Nk:=some 3) #[T,T,T,T,T,T,F,T,T,F,F,F,F] #[T,T,T,T,T,F,T,T,T,F,F,F,F] #[T,T,T,T,T,F,F,T,T,F,F,T,F] rfl rfl rfl rfl rfl rfl (by kernel_rfl) (by decide) (by decide) (by decide) (fun K hK=>?_) (fun K hK=>?_) (fun K hK=>?_)
   ·skip
    refine gz_ Tryz.func61 #[.agg #[.int .i64 a0_3,.slice A0_4 l0_4.length c0_4]] ?_
    with_reducible refine (aA.calls k a0_3 _ _ l0_4 t4 t5 _ (cb_ HR0_4 HB) HC0_4.out A4.out).mono ?_
    rintro e w4_ ⟨v1_,rfl,ho0_,hb⟩
    refine⟨_,rfl,?_⟩
    replace HS:=aHs HS hb.size
    obtain⟨Ao4_1,co4_1,rfl,HO4_1⟩:=sSm ho0_ HB.out.size
    revert HO3_1 BK1 BK2 HB
    refine aD hb ?_
    intro HO3_1 BK1 BK2 HB
    clear hb ho0_
    refine hK.out _ _ (aa BK1.out) (fun hHeld=>?_)
    clear hK K
    refine nm_ ?_
    refine jU (i:=6) (j:=11) (Ni:=some 11) (Nj:=some 3) #[T,T,T,T,T,T,T,T,T,F,F,F,F] #[T,T,T,T,T,T,F,T,T,F,F,T,F] rfl rfl rfl rfl (by kernel_rfl) (by decide) (by decide) (fun K hK=>?_) (fun K hK=>?_)
    ·skip
     refine Kd.fB (Kd.int .i64) (w0:=w) w.heap.size 3 (by rfl) (N:=11) rfl (xs:=[]) (inner:=[]) (ok:=fun k_=>w4_.heap.size≤k_) (okp:=fun k_=>w4_.heap.size≤k_) ?lR ?lP (fun _ hk=>hk) (Nat.le_refl _) HB.out HB.out.size (by simp) ?_
     case lR=>first|(go_simp;done)|(go_simp;rfl)
     case lP=>exact (Reps.none _ _)
     intro v_ w5_ ho hbb hg_ hn_
     clear hn_
     rw [←Ny6.out] at ho
     have hkp:Kept w4_ w5_ (fun k_=>k_<0):=Kept.aZ hg_ (Kept.refl _ _) (fun k_ e_=>by cases e_)
     revert HO4_1 HO3_1 BK1 BK2
     refine bC hkp HS ?_
     intro HO4_1 HO3_1 BK1 BK2
     replace HS:=aHs HS hkp.1
     obtain⟨Ao5,co5,ev_⟩:=Kd.aX ho
     subst ev_
     have HO5:=A_.mk (Kd.aC (ok':=(fun k_=>((w4_.heap.size≤k_∧k_<w5_.heap.size)))) (Kd.bP ho) (fun k_ hk_=>⟨hk_.1,hk_.2.2.1⟩))
     replace HB:=A_.mk hbb
     clear hkp hbb hg_ ho
     refine hK.out _ _ (aa BK1.out) (fun hHeld=>?_)
     clear hK K
     refine nm_ ?_
     refine jU (i:=9) (j:=11) (Ni:=some 14) (Nj:=some 3) #[T,T,T,T,T,T,T,T,T,T,F,F,F] #[T,T,T,T,T,T,T,T,T,F,F,T,F] rfl rfl rfl rfl (by kernel_rfl) (by decide) (by decide) (fun K hK=>?_) (fun K hK=>?_)
     ·skip
      refine Kd.bq (Kd.int .i64) (Rr:=fun x_ cs_=>cs_=[.int .i64 x_]) (w0:=w) w.heap.size (by rfl) (.tmp 11) (.tmp 13) 28 3 ((.int .i64 0)) 8 rfl Tryz.underlying28 info3 rfl (by decide) (by omega) (.slice Ao5 y6.length co5) y6 l0_6 _ _ _ (fun k_=>(((w4_.heap.size≤k_∧k_<w5_.heap.size)))∨w5_.heap.size≤k_) (fun _=>False) rfl rfl (Kd.aC HO5.out (fun _ hk=>.inl hk)) (cb_ HR0_6 HB) (fun _ _ h_=>h_) (fun _ hk=>hk.elim) (fun _ hk=>.inr hk) HB.out HB.out.size ?aL ?_
      case aL=>have:=LM6.out;omega
      intro v_ w6_ ho hbb hg hat
      clear hat
      rw [←Ny7.out] at ho
      have hkp:Kept w5_ w6_ (fun k_=>((w4_.heap.size≤k_∧k_<w5_.heap.size))):=Kept.aZ hg (Kept.refl _ _) (fun k_ e_=>.inl (HO5.out.1 k_ e_))
      revert HO4_1 HO3_1 BK1 BK2
      refine bC hkp HS ?_
      intro HO4_1 HO3_1 BK1 BK2
      replace HS:=aHs HS hkp.1
      obtain⟨Ao6,co6,ev_⟩:=Kd.aX ho
      subst ev_
      have HO6:=A_.mk (Kd.aC (ok':=(fun k_=>((w4_.heap.size≤k_∧k_<w5_.heap.size))∨((w5_.heap.size≤k_∧k_<w6_.heap.size)))) (Kd.bP ho) (fun k_ hk_=>by have:=hk_.1;have:=hk_.2.2.1;have:=hk_.2.1;clear hk_;(try dsimp only at *);have:=HS.out;omega))
      replace HB:=A_.mk hbb
      clear hkp hbb hg ho HO5
      refine hK.out _ _ (aa BK1.out) (fun hHeld=>?_)
      clear hK K
      refine nm_ ?_
      refine pd_ (i:=10) (N:=some 15) #[T,T,T,T,T,T,T,T,T,T,T,F,F] rfl ?_
      refine on_ (i:=11) (N:=some 3) #[T,T,T,T,T,T,T,T,T,T,T,T,F] rfl (fun K hK=>?_)
      refine bo_ (N:=3) (cs:=#[.int .i64 0,.slice none 0 0,.int .i64 0,.int .i64 0,.slice none 0 0,.slice none 0 0,.slice none 0 0]) (t:=39) ?_
      intro gb7_ hg w7_ hbox hb
      replace HS:=aHg HS hg hbox
      revert HO4_1 HO3_1 BK1 BK2 HO6 HB
      refine aD hb ?_
      intro HO4_1 HO3_1 BK1 BK2 HO6 HB
      have BK7:=A_.mk hbox
      clear hbox hb hg
      refine hK.out _ _ (aa BK1.out) (fun hHeld=>?_)
      clear hK K
      refine nm_ ?_
      obtain⟨fc_,hf_⟩:=mS_ HO3_1 0 (mS_ HO4_1 1 (mR_ HO6 2 (m0_ 3)))
      exact nj_ (hCont (.slice Ao3_1 t2.length co3_1,.slice Ao4_1 t5.length co4_1,.slice Ao5 y6.length co5,.slice Ao6 y7.length co6,gb7_,fc_) _ ⟨hHeld,BK1.out,BK2.out,HB.out,(ho_ HS),cS_ HO3_1 HS hf_,cS_ HO4_1 HS hf_,cR_ HO6 HS hf_,BK7.out,(show w16d_.heap.size≤gb7_∧gb7_<w7_.heap.size∧3≤fc_ gb7_ from ⟨by have:=HS.out;omega,by have:=HS.out;omega,Nat.le_of_eq (fb_ HS hf_).symm⟩)⟩)
     ·skip
      refine bo_ (N:=3) (cs:=#[.int .i64 0,.slice none 0 0,.int .i64 0,.int .i64 0,.slice none 0 0,.slice none 0 0,.slice none 0 0]) (t:=39) ?_
      intro gb7_ hg w7_ hbox hb
      replace HS:=aHg HS hg hbox
      revert HO4_1 HO3_1 BK1 BK2 HO5 HB
      refine aD hb ?_
      intro HO4_1 HO3_1 BK1 BK2 HO5 HB
      have BK7:=A_.mk hbox
      clear hbox hb hg
      refine hK.out _ _ (aa BK1.out) (fun hHeld=>?_)
      clear hK K
      refine nm_ ?_
      refine on_ (i:=9) (N:=some 14) #[T,T,T,T,T,T,T,T,T,T,F,T,F] rfl (fun K hK=>?_)
      refine Kd.bq (Kd.int .i64) (Rr:=fun x_ cs_=>cs_=[.int .i64 x_]) (w0:=w) w.heap.size (by rfl) (.tmp 11) (.tmp 13) 28 3 ((.int .i64 0)) 8 rfl Tryz.underlying28 info3 rfl (by decide) (by omega) (.slice Ao5 y6.length co5) y6 l0_6 _ _ _ (fun k_=>(((w4_.heap.size≤k_∧k_<w5_.heap.size)))∨w7_.heap.size≤k_) (fun _=>False) rfl rfl (Kd.aC HO5.out (fun _ hk=>.inl hk)) (cb_ HR0_6 HB) (fun _ _ h_=>h_) (fun _ hk=>hk.elim) (fun _ hk=>.inr hk) HB.out HB.out.size ?aL ?_
      case aL=>have:=LM6.out;omega
      intro v_ w6_ ho hbb hg hat
      clear hat
      rw [←Ny7.out] at ho
      have hkp:Kept w7_ w6_ (fun k_=>((w4_.heap.size≤k_∧k_<w5_.heap.size))):=Kept.aZ hg (Kept.refl _ _) (fun k_ e_=>.inl (HO5.out.1 k_ e_))
      revert HO4_1 HO3_1 BK1 BK2 BK7
      refine bC hkp HS ?_
      intro HO4_1 HO3_1 BK1 BK2 BK7
      replace HS:=aHs HS hkp.1
      obtain⟨Ao6,co6,ev_⟩:=Kd.aX ho
      subst ev_
      have HO6:=A_.mk (Kd.aC (ok':=(fun k_=>((w4_.heap.size≤k_∧k_<w5_.heap.size))∨((w7_.heap.size≤k_∧k_<w6_.heap.size)))) (Kd.bP ho) (fun k_ hk_=>by have:=hk_.1;have:=hk_.2.2.1;have:=hk_.2.1;clear hk_;(try dsimp only at *);have:=HS.out;omega))
      replace HB:=A_.mk hbb
      clear hkp hbb hg ho HO5
      refine hK.out _ _ (aa BK1.out) (fun hHeld=>?_)
      clear hK K
      refine nm_ ?_
      refine pd_ (i:=10) (N:=some 15) #[T,T,T,T,T,T,T,T,T,T,T,T,F] rfl ?_
      obtain⟨fc_,hf_⟩:=mS_ HO3_1 0 (mS_ HO4_1 1 (mR_ HO6 2 (m0_ 3)))
      exact nj_ (hCont (.slice Ao3_1 t2.length co3_1,.slice Ao4_1 t5.length co4_1,.slice Ao5 y6.length co5,.slice Ao6 y7.length co6,gb7_,fc_) _ ⟨hHeld,BK1.out,BK2.out,HB.out,(ho_ HS),cS_ HO3_1 HS hf_,cS_ HO4_1 HS hf_,cR_ HO6 HS hf_,BK7.out,(show w16d_.heap.size≤gb7_∧gb7_<w6_.heap.size∧3≤fc_ gb7_ from ⟨by have:=HS.out;omega,by have:=HS.out;omega,Nat.le_of_eq (fb_ HS hf_).symm⟩)⟩)
    ·skip
     refine bo_ (N:=3) (cs:=#[.int .i64 0,.slice none 0 0,.int .i64 0,.int .i64 0,.slice none 0 0,.slice none 0 0,.slice none 0 0]) (t:=39) ?_
     intro gb7_ hg w7_ hbox hb
     replace HS:=aHg HS hg hbox
     revert HO4_1 HO3_1 BK1 BK2 HB
     refine aD hb ?_
     intro HO4_1 HO3_1 BK1 BK2 HB
     have BK7:=A_.mk hbox
     clear hbox hb hg
     refine hK.out _ _ (aa BK1.out) (fun hHeld=>?_)
     clear hK K
     refine nm_ ?_
     refine on_ (i:=6) (N:=some 11) #[T,T,T,T,T,T,T,T,T,F,F,T,F] rfl (fun K hK=>?_)
     refine Kd.fB (Kd.int .i64) (w0:=w) w.heap.size 3 (by rfl) (N:=11) rfl (xs:=[]) (inner:=[]) (ok:=fun k_=>w7_.heap.size≤k_) (okp:=fun k_=>w7_.heap.size≤k_) ?lR ?lP (fun _ hk=>hk) (Nat.le_refl _) HB.out HB.out.size (by simp) ?_
     case lR=>first|(go_simp;done)|(go_simp;rfl)
     case lP=>exact (Reps.none _ _)
     intro v_ w5_ ho hbb hg_ hn_
     clear hn_
     rw [←Ny6.out] at ho
     have hkp:Kept w7_ w5_ (fun k_=>k_<0):=Kept.aZ hg_ (Kept.refl _ _) (fun k_ e_=>by cases e_)
     revert HO4_1 HO3_1 BK1 BK2 BK7
     refine bC hkp HS ?_
     intro HO4_1 HO3_1 BK1 BK2 BK7
     replace HS:=aHs HS hkp.1
     obtain⟨Ao5,co5,ev_⟩:=Kd.aX ho
     subst ev_
     have HO5:=A_.mk (Kd.aC (ok':=(fun k_=>((w7_.heap.size≤k_∧k_<w5_.heap.size)))) (Kd.bP ho) (fun k_ hk_=>⟨hk_.1,hk_.2.2.1⟩))
     replace HB:=A_.mk hbb
     clear hkp hbb hg_ ho
     refine hK.out _ _ (aa BK1.out) (fun hHeld=>?_)
     clear hK K
     refine nm_ ?_
     refine on_ (i:=9) (N:=some 14) #[T,T,T,T,T,T,T,T,T,T,F,T,F] rfl (fun K hK=>?_)
     refine Kd.bq (Kd.int .i64) (Rr:=fun x_ cs_=>cs_=[.int .i64 x_]) (w0:=w) w.heap.size (by rfl) (.tmp 11) (.tmp 13) 28 3 ((.int .i64 0)) 8 rfl Tryz.underlying28 info3 rfl (by decide) (by omega) (.slice Ao5 y6.length co5) y6 l0_6 _ _ _ (fun k_=>(((w7_.heap.size≤k_∧k_<w5_.heap.size)))∨w5_.heap.size≤k_) (fun _=>False) rfl rfl (Kd.aC HO5.out (fun _ hk=>.inl hk)) (cb_ HR0_6 HB) (fun _ _ h_=>h_) (fun _ hk=>hk.elim) (fun _ hk=>.inr hk) HB.out HB.out.size ?aL ?_
     case aL=>have:=LM6.out;omega
     intro v_ w6_ ho hbb hg hat
     clear hat
     rw [←Ny7.out] at ho
     have hkp:Kept w5_ w6_ (fun k_=>((w7_.heap.size≤k_∧k_<w5_.heap.size))):=Kept.aZ hg (Kept.refl _ _) (fun k_ e_=>.inl (HO5.out.1 k_ e_))
     revert HO4_1 HO3_1 BK1 BK2 BK7
     refine bC hkp HS ?_
     intro HO4_1 HO3_1 BK1 BK2 BK7
     replace HS:=aHs HS hkp.1
     obtain⟨Ao6,co6,ev_⟩:=Kd.aX ho
     subst ev_
     have HO6:=A_.mk (Kd.aC (ok':=(fun k_=>((w7_.heap.size≤k_∧k_<w5_.heap.size))∨((w5_.heap.size≤k_∧k_<w6_.heap.size)))) (Kd.bP ho) (fun k_ hk_=>by have:=hk_.1;have:=hk_.2.2.1;have:=hk_.2.1;clear hk_;(try dsimp only at *);have:=HS.out;omega))
     replace HB:=A_.mk hbb
     clear hkp hbb hg ho HO5
     refine hK.out _ _ (aa BK1.out) (fun hHeld=>?_)
     clear hK K
     refine nm_ ?_
     refine pd_ (i:=10) (N:=some 15) #[T,T,T,T,T,T,T,T,T,T,T,T,F] rfl ?_
     obtain⟨fc_,hf_⟩:=mS_ HO3_1 0 (mS_ HO4_1 1 (mR_ HO6 2 (m0_ 3)))
     exact nj_ (hCont (.slice Ao3_1 t2.length co3_1,.slice Ao4_1 t5.length co4_1,.slice Ao5 y6.length co5,.slice Ao6 y7.length co6,gb7_,fc_) _ ⟨hHeld,BK1.out,BK2.out,HB.out,(ho_ HS),cS_ HO3_1 HS hf_,cS_ HO4_1 HS hf_,cR_ HO6 HS hf_,BK7.out,(show w16d_.heap.size≤gb7_∧gb7_<w6_.heap.size∧3≤fc_ gb7_ from ⟨by have:=HS.out;omega,by have:=HS.out;omega,Nat.le_of_eq (fb_ HS hf_).symm⟩)⟩)
   ·skip
    refine Kd.fB (Kd.int .i64) (w0:=w) w.heap.size 3 (by rfl) (N:=11) rfl (xs:=[]) (inner:=[]) (ok:=fun k_=>w3_.heap.size≤k_) (okp:=fun k_=>w3_.heap.size≤k_) ?lR ?lP (fun _ hk=>hk) (Nat.le_refl _) HB.out HB.out.size (by simp) ?_
    case lR=>first|(go_simp;done)|(go_simp;rfl)
    case lP=>exact (Reps.none _ _)
    intro v_ w5_ ho hbb hg_ hn_
    clear hn_
    rw [←Ny6.out] at ho
    have hkp:Kept w3_ w5_ (fun k_=>k_<0):=Kept.aZ hg_ (Kept.refl _ _) (fun k_ e_=>by cases e_)
    revert HO3_1 BK1 BK2
    refine bC hkp HS ?_
    intro HO3_1 BK1 BK2
    replace HS:=aHs HS hkp.1
    obtain⟨Ao5,co5,ev_⟩:=Kd.aX ho
    subst ev_
    have HO5:=A_.mk (Kd.aC (ok':=(fun k_=>((w3_.heap.size≤k_∧k_<w5_.heap.size)))) (Kd.bP ho) (fun k_ hk_=>⟨hk_.1,hk_.2.2.1⟩))
    replace HB:=A_.mk hbb
    clear hkp hbb hg_ ho
    refine hK.out _ _ (aa BK1.out) (fun hHeld=>?_)
    clear hK K
    refine nm_ ?_
    refine jU (i:=5) (j:=11) (Ni:=some 10) (Nj:=some 3) #[T,T,T,T,T,T,T,T,T,F,F,F,F] #[T,T,T,T,T,F,T,T,T,F,F,T,F] rfl rfl rfl rfl (by kernel_rfl) (by decide) (by decide) (fun K hK=>?_) (fun K hK=>?_)
    ·skip
     refine gz_ Tryz.func61 #[.agg #[.int .i64 a0_3,.slice A0_4 l0_4.length c0_4]] ?_
     with_reducible refine (aA.calls k a0_3 _ _ l0_4 t4 t5 _ (cb_ HR0_4 HB) HC0_4.out A4.out).mono ?_
     rintro e w4_ ⟨v1_,rfl,ho0_,hb⟩
     refine⟨_,rfl,?_⟩
     replace HS:=aHs HS hb.size
     obtain⟨Ao4_1,co4_1,rfl,HO4_1⟩:=sSm ho0_ HB.out.size
     revert HO3_1 BK1 BK2 HO5 HB
     refine aD hb ?_
     intro HO3_1 BK1 BK2 HO5 HB
     clear hb ho0_
     refine hK.out _ _ (aa BK1.out) (fun hHeld=>?_)
     clear hK K
     refine nm_ ?_
     refine jU (i:=9) (j:=11) (Ni:=some 14) (Nj:=some 3) #[T,T,T,T,T,T,T,T,T,T,F,F,F] #[T,T,T,T,T,T,T,T,T,F,F,T,F] rfl rfl rfl rfl (by kernel_rfl) (by decide) (by decide) (fun K hK=>?_) (fun K hK=>?_)
     ·skip
      refine Kd.bq (Kd.int .i64) (Rr:=fun x_ cs_=>cs_=[.int .i64 x_]) (w0:=w) w.heap.size (by rfl) (.tmp 11) (.tmp 13) 28 3 ((.int .i64 0)) 8 rfl Tryz.underlying28 info3 rfl (by decide) (by omega) (.slice Ao5 y6.length co5) y6 l0_6 _ _ _ (fun k_=>(((w3_.heap.size≤k_∧k_<w5_.heap.size)))∨w4_.heap.size≤k_) (fun _=>False) rfl rfl (Kd.aC HO5.out (fun _ hk=>.inl hk)) (cb_ HR0_6 HB) (fun _ _ h_=>h_) (fun _ hk=>hk.elim) (fun _ hk=>.inr hk) HB.out HB.out.size ?aL ?_
      case aL=>have:=LM6.out;omega
      intro v_ w6_ ho hbb hg hat
      clear hat
      rw [←Ny7.out] at ho
      have hkp:Kept w4_ w6_ (fun k_=>((w3_.heap.size≤k_∧k_<w5_.heap.size))):=Kept.aZ hg (Kept.refl _ _) (fun k_ e_=>.inl (HO5.out.1 k_ e_))
      revert HO4_1 HO3_1 BK1 BK2
      refine bC hkp HS ?_
      intro HO4_1 HO3_1 BK1 BK2
      replace HS:=aHs HS hkp.1
      obtain⟨Ao6,co6,ev_⟩:=Kd.aX ho
      subst ev_
      have HO6:=A_.mk (Kd.aC (ok':=(fun k_=>((w3_.heap.size≤k_∧k_<w5_.heap.size))∨((w4_.heap.size≤k_∧k_<w6_.heap.size)))) (Kd.bP ho) (fun k_ hk_=>by have:=hk_.1;have:=hk_.2.2.1;have:=hk_.2.1;clear hk_;(try dsimp only at *);have:=HS.out;omega))
      replace HB:=A_.mk hbb
      clear hkp hbb hg ho HO5
      refine hK.out _ _ (aa BK1.out) (fun hHeld=>?_)
      clear hK K
      refine nm_ ?_
      refine pd_ (i:=10) (N:=some 15) #[T,T,T,T,T,T,T,T,T,T,T,F,F] rfl ?_
      refine on_ (i:=11) (N:=some 3) #[T,T,T,T,T,T,T,T,T,T,T,T,F] rfl (fun K hK=>?_)
      refine bo_ (N:=3) (cs:=#[.int .i64 0,.slice none 0 0,.int .i64 0,.int .i64 0,.slice none 0 0,.slice none 0 0,.slice none 0 0]) (t:=39) ?_
      intro gb7_ hg w7_ hbox hb
      replace HS:=aHg HS hg hbox
      revert HO4_1 HO3_1 BK1 BK2 HO6 HB
      refine aD hb ?_
      intro HO4_1 HO3_1 BK1 BK2 HO6 HB
      have BK7:=A_.mk hbox
      clear hbox hb hg
      refine hK.out _ _ (aa BK1.out) (fun hHeld=>?_)
      clear hK K
      refine nm_ ?_
      obtain⟨fc_,hf_⟩:=mS_ HO3_1 0 (mS_ HO4_1 1 (mR_ HO6 2 (m0_ 3)))
      exact nj_ (hCont (.slice Ao3_1 t2.length co3_1,.slice Ao4_1 t5.length co4_1,.slice Ao5 y6.length co5,.slice Ao6 y7.length co6,gb7_,fc_) _ ⟨hHeld,BK1.out,BK2.out,HB.out,(ho_ HS),cS_ HO3_1 HS hf_,cS_ HO4_1 HS hf_,cR_ HO6 HS hf_,BK7.out,(show w16d_.heap.size≤gb7_∧gb7_<w7_.heap.size∧3≤fc_ gb7_ from ⟨by have:=HS.out;omega,by have:=HS.out;omega,Nat.le_of_eq (fb_ HS hf_).symm⟩)⟩)
     ·skip
      refine bo_ (N:=3) (cs:=#[.int .i64 0,.slice none 0 0,.int .i64 0,.int .i64 0,.slice none 0 0,.slice none 0 0,.slice none 0 0]) (t:=39) ?_
      intro gb7_ hg w7_ hbox hb
      replace HS:=aHg HS hg hbox
      revert HO4_1 HO3_1 BK1 BK2 HO5 HB
      refine aD hb ?_
      intro HO4_1 HO3_1 BK1 BK2 HO5 HB
      have BK7:=A_.mk hbox
      clear hbox hb hg
      refine hK.out _ _ (aa BK1.out) (fun hHeld=>?_)
      clear hK K
      refine nm_ ?_
      refine on_ (i:=9) (N:=some 14) #[T,T,T,T,T,T,T,T,T,T,F,T,F] rfl (fun K hK=>?_)
      refine Kd.bq (Kd.int .i64) (Rr:=fun x_ cs_=>cs_=[.int .i64 x_]) (w0:=w) w.heap.size (by rfl) (.tmp 11) (.tmp 13) 28 3 ((.int .i64 0)) 8 rfl Tryz.underlying28 info3 rfl (by decide) (by omega) (.slice Ao5 y6.length co5) y6 l0_6 _ _ _ (fun k_=>(((w3_.heap.size≤k_∧k_<w5_.heap.size)))∨w7_.heap.size≤k_) (fun _=>False) rfl rfl (Kd.aC HO5.out (fun _ hk=>.inl hk)) (cb_ HR0_6 HB) (fun _ _ h_=>h_) (fun _ hk=>hk.elim) (fun _ hk=>.inr hk) HB.out HB.out.size ?aL ?_
      case aL=>have:=LM6.out;omega
      intro v_ w6_ ho hbb hg hat
      clear hat
      rw [←Ny7.out] at ho
      have hkp:Kept w7_ w6_ (fun k_=>((w3_.heap.size≤k_∧k_<w5_.heap.size))):=Kept.aZ hg (Kept.refl _ _) (fun k_ e_=>.inl (HO5.out.1 k_ e_))
      revert HO4_1 HO3_1 BK1 BK2 BK7
      refine bC hkp HS ?_
      intro HO4_1 HO3_1 BK1 BK2 BK7
      replace HS:=aHs HS hkp.1
      obtain⟨Ao6,co6,ev_⟩:=Kd.aX ho
      subst ev_
      have HO6:=A_.mk (Kd.aC (ok':=(fun k_=>((w3_.heap.size≤k_∧k_<w5_.heap.size))∨((w7_.heap.size≤k_∧k_<w6_.heap.size)))) (Kd.bP ho) (fun k_ hk_=>by have:=hk_.1;have:=hk_.2.2.1;have:=hk_.2.1;clear hk_;(try dsimp only at *);have:=HS.out;omega))
      replace HB:=A_.mk hbb
      clear hkp hbb hg ho HO5
      refine hK.out _ _ (aa BK1.out) (fun hHeld=>?_)
      clear hK K
      refine nm_ ?_
      refine pd_ (i:=10) (N:=some 15) #[T,T,T,T,T,T,T,T,T,T,T,T,F] rfl ?_
      obtain⟨fc_,hf_⟩:=mS_ HO3_1 0 (mS_ HO4_1 1 (mR_ HO6 2 (m0_ 3)))
      exact nj_ (hCont (.slice Ao3_1 t2.length co3_1,.slice Ao4_1 t5.length co4_1,.slice Ao5 y6.length co5,.slice Ao6 y7.length co6,gb7_,fc_) _ ⟨hHeld,BK1.out,BK2.out,HB.out,(ho_ HS),cS_ HO3_1 HS hf_,cS_ HO4_1 HS hf_,cR_ HO6 HS hf_,BK7.out,(show w16d_.heap.size≤gb7_∧gb7_<w6_.heap.size∧3≤fc_ gb7_ from ⟨by have:=HS.out;omega,by have:=HS.out;omega,Nat.le_of_eq (fb_ HS hf_).symm⟩)⟩)
    ·skip
     refine bo_ (N:=3) (cs:=#[.int .i64 0,.slice none 0 0,.int .i64 0,.int .i64 0,.slice none 0 0,.slice none 0 0,.slice none 0 0]) (t:=39) ?_
     intro gb7_ hg w7_ hbox hb
     replace HS:=aHg HS hg hbox
     revert HO3_1 BK1 BK2 HO5 HB
     refine aD hb ?_
     intro HO3_1 BK1 BK2 HO5 HB
     have BK7:=A_.mk hbox
     clear hbox hb hg
     refine hK.out _ _ (aa BK1.out) (fun hHeld=>?_)
     clear hK K
     refine nm_ ?_
     refine on_ (i:=5) (N:=some 10) #[T,T,T,T,T,T,T,T,T,F,F,T,F] rfl (fun K hK=>?_)
     refine gz_ Tryz.func61 #[.agg #[.int .i64 a0_3,.slice A0_4 l0_4.length c0_4]] ?_
     with_reducible refine (aA.calls k a0_3 _ _ l0_4 t4 t5 _ (cb_ HR0_4 HB) HC0_4.out A4.out).mono ?_
     rintro e w4_ ⟨v1_,rfl,ho0_,hb⟩
     refine⟨_,rfl,?_⟩
     replace HS:=aHs HS hb.size
     obtain⟨Ao4_1,co4_1,rfl,HO4_1⟩:=sSm ho0_ HB.out.size
     revert HO3_1 BK1 BK2 HO5 HB BK7
     refine aD hb ?_
     intro HO3_1 BK1 BK2 HO5 HB BK7
     clear hb ho0_
     refine hK.out _ _ (aa BK1.out) (fun hHeld=>?_)
     clear hK K
     refine nm_ ?_
     refine on_ (i:=9) (N:=some 14) #[T,T,T,T,T,T,T,T,T,T,F,T,F] rfl (fun K hK=>?_)
     refine Kd.bq (Kd.int .i64) (Rr:=fun x_ cs_=>cs_=[.int .i64 x_]) (w0:=w) w.heap.size (by rfl) (.tmp 11) (.tmp 13) 28 3 ((.int .i64 0)) 8 rfl Tryz.underlying28 info3 rfl (by decide) (by omega) (.slice Ao5 y6.length co5) y6 l0_6 _ _ _ (fun k_=>(((w3_.heap.size≤k_∧k_<w5_.heap.size)))∨w4_.heap.size≤k_) (fun _=>False) rfl rfl (Kd.aC HO5.out (fun _ hk=>.inl hk)) (cb_ HR0_6 HB) (fun _ _ h_=>h_) (fun _ hk=>hk.elim) (fun _ hk=>.inr hk) HB.out HB.out.size ?aL ?_
     case aL=>have:=LM6.out;omega
     intro v_ w6_ ho hbb hg hat
     clear hat
     rw [←Ny7.out] at ho
     have hkp:Kept w4_ w6_ (fun k_=>((w3_.heap.size≤k_∧k_<w5_.heap.size))):=Kept.aZ hg (Kept.refl _ _) (fun k_ e_=>.inl (HO5.out.1 k_ e_))
     revert HO4_1 HO3_1 BK1 BK2 BK7
     refine bC hkp HS ?_
     intro HO4_1 HO3_1 BK1 BK2 BK7
     replace HS:=aHs HS hkp.1
     obtain⟨Ao6,co6,ev_⟩:=Kd.aX ho
     subst ev_
     have HO6:=A_.mk (Kd.aC (ok':=(fun k_=>((w3_.heap.size≤k_∧k_<w5_.heap.size))∨((w4_.heap.size≤k_∧k_<w6_.heap.size)))) (Kd.bP ho) (fun k_ hk_=>by have:=hk_.1;have:=hk_.2.2.1;have:=hk_.2.1;clear hk_;(try dsimp only at *);have:=HS.out;omega))
     replace HB:=A_.mk hbb
     clear hkp hbb hg ho HO5
     refine hK.out _ _ (aa BK1.out) (fun hHeld=>?_)
     clear hK K
     refine nm_ ?_
     refine pd_ (i:=10) (N:=some 15) #[T,T,T,T,T,T,T,T,T,T,T,T,F] rfl ?_
     obtain⟨fc_,hf_⟩:=mS_ HO3_1 0 (mS_ HO4_1 1 (mR_ HO6 2 (m0_ 3)))
     exact nj_ (hCont (.slice Ao3_1 t2.length co3_1,.slice Ao4_1 t5.length co4_1,.slice Ao5 y6.length co5,.slice Ao6 y7.length co6,gb7_,fc_) _ ⟨hHeld,BK1.out,BK2.out,HB.out,(ho_ HS),cS_ HO3_1 HS hf_,cS_ HO4_1 HS hf_,cR_ HO6 HS hf_,BK7.out,(show w16d_.heap.size≤gb7_∧gb7_<w6_.heap.size∧3≤fc_ gb7_ from ⟨by have:=HS.out;omega,by have:=HS.out;omega,Nat.le_of_eq (fb_ HS hf_).symm⟩)⟩)
   ·skip
    refine bo_ (N:=3) (cs:=#[.int .i64 0,.slice none 0 0,.int .i64 0,.int .i64 0,.slice none 0 0,.slice none 0 0,.slice none 0 0]) (t:=39) ?_
    intro gb7_ hg w7_ hbox hb
    replace HS:=aHg HS hg hbox
    revert HO3_1 BK1 BK2 HB
    refine aD hb ?_
    intro HO3_1 BK1 BK2 HB
    have BK7:=A_.mk hbox
    clear hbox hb hg
    refine hK.out _ _ (aa BK1.out) (fun hHeld=>?_)
    clear hK K
    refine nm_ ?_
    refine jU (i:=5) (j:=6) (Ni:=some 10) (Nj:=some 11) #[T,T,T,T,T,T,F,T,T,F,F,T,F] #[T,T,T,T,T,F,T,T,T,F,F,T,F] rfl rfl rfl rfl (by kernel_rfl) (by decide) (by decide) (fun K hK=>?_) (fun K hK=>?_)
    ·skip
     refine gz_ Tryz.func61 #[.agg #[.int .i64 a0_3,.slice A0_4 l0_4.length c0_4]] ?_
     with_reducible refine (aA.calls k a0_3 _ _ l0_4 t4 t5 _ (cb_ HR0_4 HB) HC0_4.out A4.out).mono ?_
     rintro e w4_ ⟨v1_,rfl,ho0_,hb⟩
     refine⟨_,rfl,?_⟩
     replace HS:=aHs HS hb.size
     obtain⟨Ao4_1,co4_1,rfl,HO4_1⟩:=sSm ho0_ HB.out.size
     revert HO3_1 BK1 BK2 HB BK7
     refine aD hb ?_
     intro HO3_1 BK1 BK2 HB BK7
     clear hb ho0_
     refine hK.out _ _ (aa BK1.out) (fun hHeld=>?_)
     clear hK K
     refine nm_ ?_
     refine on_ (i:=6) (N:=some 11) #[T,T,T,T,T,T,T,T,T,F,F,T,F] rfl (fun K hK=>?_)
     refine Kd.fB (Kd.int .i64) (w0:=w) w.heap.size 3 (by rfl) (N:=11) rfl (xs:=[]) (inner:=[]) (ok:=fun k_=>w4_.heap.size≤k_) (okp:=fun k_=>w4_.heap.size≤k_) ?lR ?lP (fun _ hk=>hk) (Nat.le_refl _) HB.out HB.out.size (by simp) ?_
     case lR=>first|(go_simp;done)|(go_simp;rfl)
     case lP=>exact (Reps.none _ _)
     intro v_ w5_ ho hbb hg_ hn_
     clear hn_
     rw [←Ny6.out] at ho
     have hkp:Kept w4_ w5_ (fun k_=>k_<0):=Kept.aZ hg_ (Kept.refl _ _) (fun k_ e_=>by cases e_)
     revert HO4_1 HO3_1 BK1 BK2 BK7
     refine bC hkp HS ?_
     intro HO4_1 HO3_1 BK1 BK2 BK7
     replace HS:=aHs HS hkp.1
     obtain⟨Ao5,co5,ev_⟩:=Kd.aX ho
     subst ev_
     have HO5:=A_.mk (Kd.aC (ok':=(fun k_=>((w4_.heap.size≤k_∧k_<w5_.heap.size)))) (Kd.bP ho) (fun k_ hk_=>⟨hk_.1,hk_.2.2.1⟩))
     replace HB:=A_.mk hbb
     clear hkp hbb hg_ ho
     refine hK.out _ _ (aa BK1.out) (fun hHeld=>?_)
     clear hK K
     refine nm_ ?_
     refine on_ (i:=9) (N:=some 14) #[T,T,T,T,T,T,T,T,T,T,F,T,F] rfl (fun K hK=>?_)
     refine Kd.bq (Kd.int .i64) (Rr:=fun x_ cs_=>cs_=[.int .i64 x_]) (w0:=w) w.heap.size (by rfl) (.tmp 11) (.tmp 13) 28 3 ((.int .i64 0)) 8 rfl Tryz.underlying28 info3 rfl (by decide) (by omega) (.slice Ao5 y6.length co5) y6 l0_6 _ _ _ (fun k_=>(((w4_.heap.size≤k_∧k_<w5_.heap.size)))∨w5_.heap.size≤k_) (fun _=>False) rfl rfl (Kd.aC HO5.out (fun _ hk=>.inl hk)) (cb_ HR0_6 HB) (fun _ _ h_=>h_) (fun _ hk=>hk.elim) (fun _ hk=>.inr hk) HB.out HB.out.size ?aL ?_
     case aL=>have:=LM6.out;omega
     intro v_ w6_ ho hbb hg hat
     clear hat
     rw [←Ny7.out] at ho
     have hkp:Kept w5_ w6_ (fun k_=>((w4_.heap.size≤k_∧k_<w5_.heap.size))):=Kept.aZ hg (Kept.refl _ _) (fun k_ e_=>.inl (HO5.out.1 k_ e_))
     revert HO4_1 HO3_1 BK1 BK2 BK7
     refine bC hkp HS ?_
     intro HO4_1 HO3_1 BK1 BK2 BK7
     replace HS:=aHs HS hkp.1
     obtain⟨Ao6,co6,ev_⟩:=Kd.aX ho
     subst ev_
     have HO6:=A_.mk (Kd.aC (ok':=(fun k_=>((w4_.heap.size≤k_∧k_<w5_.heap.size))∨((w5_.heap.size≤k_∧k_<w6_.heap.size)))) (Kd.bP ho) (fun k_ hk_=>by have:=hk_.1;have:=hk_.2.2.1;have:=hk_.2.1;clear hk_;(try dsimp only at *);have:=HS.out;omega))
     replace HB:=A_.mk hbb
     clear hkp hbb hg ho HO5
     refine hK.out _ _ (aa BK1.out) (fun hHeld=>?_)
     clear hK K
     refine nm_ ?_
     refine pd_ (i:=10) (N:=some 15) #[T,T,T,T,T,T,T,T,T,T,T,T,F] rfl ?_
     obtain⟨fc_,hf_⟩:=mS_ HO3_1 0 (mS_ HO4_1 1 (mR_ HO6 2 (m0_ 3)))
     exact nj_ (hCont (.slice Ao3_1 t2.length co3_1,.slice Ao4_1 t5.length co4_1,.slice Ao5 y6.length co5,.slice Ao6 y7.length co6,gb7_,fc_) _ ⟨hHeld,BK1.out,BK2.out,HB.out,(ho_ HS),cS_ HO3_1 HS hf_,cS_ HO4_1 HS hf_,cR_ HO6 HS hf_,BK7.out,(show w16d_.heap.size≤gb7_∧gb7_<w6_.heap.size∧3≤fc_ gb7_ from ⟨by have:=HS.out;omega,by have:=HS.out;omega,Nat.le_of_eq (fb_ HS hf_).symm⟩)⟩)
    ·skip
     refine Kd.fB (Kd.int .i64) (w0:=w) w.heap.size 3 (by rfl) (N:=11) rfl (xs:=[]) (inner:=[]) (ok:=fun k_=>w7_.heap.size≤k_) (okp:=fun k_=>w7_.heap.size≤k_) ?lR ?lP (fun _ hk=>hk) (Nat.le_refl _) HB.out HB.out.size (by simp) ?_
     case lR=>first|(go_simp;done)|(go_simp;rfl)
     case lP=>exact (Reps.none _ _)
     intro v_ w5_ ho hbb hg_ hn_
     clear hn_
     rw [←Ny6.out] at ho
     have hkp:Kept w7_ w5_ (fun k_=>k_<0):=Kept.aZ hg_ (Kept.refl _ _) (fun k_ e_=>by cases e_)
     revert HO3_1 BK1 BK2 BK7
     refine bC hkp HS ?_
     intro HO3_1 BK1 BK2 BK7
     replace HS:=aHs HS hkp.1
     obtain⟨Ao5,co5,ev_⟩:=Kd.aX ho
     subst ev_
     have HO5:=A_.mk (Kd.aC (ok':=(fun k_=>((w7_.heap.size≤k_∧k_<w5_.heap.size)))) (Kd.bP ho) (fun k_ hk_=>⟨hk_.1,hk_.2.2.1⟩))
     replace HB:=A_.mk hbb
     clear hkp hbb hg_ ho
     refine hK.out _ _ (aa BK1.out) (fun hHeld=>?_)
     clear hK K
     refine nm_ ?_
     refine on_ (i:=5) (N:=some 10) #[T,T,T,T,T,T,T,T,T,F,F,T,F] rfl (fun K hK=>?_)
     refine gz_ Tryz.func61 #[.agg #[.int .i64 a0_3,.slice A0_4 l0_4.length c0_4]] ?_
     with_reducible refine (aA.calls k a0_3 _ _ l0_4 t4 t5 _ (cb_ HR0_4 HB) HC0_4.out A4.out).mono ?_
     rintro e w4_ ⟨v1_,rfl,ho0_,hb⟩
     refine⟨_,rfl,?_⟩
     replace HS:=aHs HS hb.size
     obtain⟨Ao4_1,co4_1,rfl,HO4_1⟩:=sSm ho0_ HB.out.size
     revert HO3_1 BK1 BK2 BK7 HO5 HB
     refine aD hb ?_
     intro HO3_1 BK1 BK2 BK7 HO5 HB
     clear hb ho0_
     refine hK.out _ _ (aa BK1.out) (fun hHeld=>?_)
     clear hK K
     refine nm_ ?_
     refine on_ (i:=9) (N:=some 14) #[T,T,T,T,T,T,T,T,T,T,F,T,F] rfl (fun K hK=>?_)
     refine Kd.bq (Kd.int .i64) (Rr:=fun x_ cs_=>cs_=[.int .i64 x_]) (w0:=w) w.heap.size (by rfl) (.tmp 11) (.tmp 13) 28 3 ((.int .i64 0)) 8 rfl Tryz.underlying28 info3 rfl (by decide) (by omega) (.slice Ao5 y6.length co5) y6 l0_6 _ _ _ (fun k_=>(((w7_.heap.size≤k_∧k_<w5_.heap.size)))∨w4_.heap.size≤k_) (fun _=>False) rfl rfl (Kd.aC HO5.out (fun _ hk=>.inl hk)) (cb_ HR0_6 HB) (fun _ _ h_=>h_) (fun _ hk=>hk.elim) (fun _ hk=>.inr hk) HB.out HB.out.size ?aL ?_
     case aL=>have:=LM6.out;omega
     intro v_ w6_ ho hbb hg hat
     clear hat
     rw [←Ny7.out] at ho
     have hkp:Kept w4_ w6_ (fun k_=>((w7_.heap.size≤k_∧k_<w5_.heap.size))):=Kept.aZ hg (Kept.refl _ _) (fun k_ e_=>.inl (HO5.out.1 k_ e_))
     revert HO4_1 HO3_1 BK1 BK2 BK7
     refine bC hkp HS ?_
     intro HO4_1 HO3_1 BK1 BK2 BK7
     replace HS:=aHs HS hkp.1
     obtain⟨Ao6,co6,ev_⟩:=Kd.aX ho
     subst ev_
     have HO6:=A_.mk (Kd.aC (ok':=(fun k_=>((w7_.heap.size≤k_∧k_<w5_.heap.size))∨((w4_.heap.size≤k_∧k_<w6_.heap.size)))) (Kd.bP ho) (fun k_ hk_=>by have:=hk_.1;have:=hk_.2.2.1;have:=hk_.2.1;clear hk_;(try dsimp only at *);have:=HS.out;omega))
     replace HB:=A_.mk hbb
     clear hkp hbb hg ho HO5
     refine hK.out _ _ (aa BK1.out) (fun hHeld=>?_)
     clear hK K
     refine nm_ ?_
     refine pd_ (i:=10) (N:=some 15) #[T,T,T,T,T,T,T,T,T,T,T,T,F] rfl ?_
     obtain⟨fc_,hf_⟩:=mS_ HO3_1 0 (mS_ HO4_1 1 (mR_ HO6 2 (m0_ 3)))
     exact nj_ (hCont (.slice Ao3_1 t2.length co3_1,.slice Ao4_1 t5.length co4_1,.slice Ao5 y6.length co5,.slice Ao6 y7.length co6,gb7_,fc_) _ ⟨hHeld,BK1.out,BK2.out,HB.out,(ho_ HS),cS_ HO3_1 HS hf_,cS_ HO4_1 HS hf_,cR_ HO6 HS hf_,BK7.out,(show w16d_.heap.size≤gb7_∧gb7_<w6_.heap.size∧3≤fc_ gb7_ from ⟨by have:=HS.out;omega,by have:=HS.out;omega,Nat.le_of_eq (fb_ HS hf_).symm⟩)⟩)
  ·skip
   refine Kd.fB (Kd.int .i64) (w0:=w) w.heap.size 3 (by rfl) (N:=11) rfl (xs:=[]) (inner:=[]) (ok:=fun k_=>w16d_.heap.size≤k_) (okp:=fun k_=>w16d_.heap.size≤k_) ?lR ?lP (fun _ hk=>hk) (Nat.le_refl _) HB.out HB.out.size (by simp) ?_
   case lR=>first|(go_simp;done)|(go_simp;rfl)
   case lP=>exact (Reps.none _ _)
   intro v_ w5_ ho hbb hg_ hn_
   clear hn_
   rw [←Ny6.out] at ho
   have hkp:Kept w16d_ w5_ (fun k_=>k_<0):=Kept.aZ hg_ (Kept.refl _ _) (fun k_ e_=>by cases e_)
   replace BK1:=aBk BK1 hkp HS
   replace BK2:=aBk BK2 hkp HS
   replace HS:=aHs HS hkp.1
   obtain⟨Ao5,co5,ev_⟩:=Kd.aX ho
   subst ev_
   have HO5:=A_.mk (Kd.aC (ok':=(fun k_=>((w16d_.heap.size≤k_∧k_<w5_.heap.size)))) (Kd.bP ho) (fun k_ hk_=>⟨hk_.1,hk_.2.2.1⟩))
   replace HB:=A_.mk hbb
   clear hkp hbb hg_ ho
   refine hK.out _ _ (aa BK1.out) (fun hHeld=>?_)
   clear hK K
   refine nm_ ?_
   refine jU (i:=2) (j:=11) (Ni:=some 7) (Nj:=some 3) #[T,T,T,T,T,F,T,T,T,F,F,F,F] #[T,T,F,T,T,F,T,T,T,F,F,T,F] rfl rfl rfl rfl (by kernel_rfl) (by decide) (by decide) (fun K hK=>?_) (fun K hK=>?_)
   ·skip
    refine gz_ Tryz.func60 #[.agg #[.int .i64 a0_0,.slice A0_1 l0_1.length c0_1,.int .i64 a0_2]] ?_
    with_reducible refine (aG.calls k a0_0 _ _ l0_1 a0_2 t1 t2 t3 _ (cb_ HR0_1 HB) HC0_1.out A3.out).mono ?_
    rintro e w3_ ⟨v1_,rfl,ho0_,hb⟩
    refine⟨_,rfl,?_⟩
    replace HS:=aHs HS hb.size
    obtain⟨Ao3_1,co3_1,rfl,HO3_1⟩:=sSm ho0_ HB.out.size
    revert BK1 BK2 HO5 HB
    refine aD hb ?_
    intro BK1 BK2 HO5 HB
    clear hb ho0_
    refine hK.out _ _ (aa BK1.out) (fun hHeld=>?_)
    clear hK K
    refine nm_ ?_
    refine jU (i:=5) (j:=11) (Ni:=some 10) (Nj:=some 3) #[T,T,T,T,T,T,T,T,T,F,F,F,F] #[T,T,T,T,T,F,T,T,T,F,F,T,F] rfl rfl rfl rfl (by kernel_rfl) (by decide) (by decide) (fun K hK=>?_) (fun K hK=>?_)
    ·skip
     refine gz_ Tryz.func61 #[.agg #[.int .i64 a0_3,.slice A0_4 l0_4.length c0_4]] ?_
     with_reducible refine (aA.calls k a0_3 _ _ l0_4 t4 t5 _ (cb_ HR0_4 HB) HC0_4.out A4.out).mono ?_
     rintro e w4_ ⟨v1_,rfl,ho0_,hb⟩
     refine⟨_,rfl,?_⟩
     replace HS:=aHs HS hb.size
     obtain⟨Ao4_1,co4_1,rfl,HO4_1⟩:=sSm ho0_ HB.out.size
     revert HO3_1 BK1 BK2 HO5 HB
     refine aD hb ?_
     intro HO3_1 BK1 BK2 HO5 HB
     clear hb ho0_
     refine hK.out _ _ (aa BK1.out) (fun hHeld=>?_)
     clear hK K
     refine nm_ ?_
     refine jU (i:=9) (j:=11) (Ni:=some 14) (Nj:=some 3) #[T,T,T,T,T,T,T,T,T,T,F,F,F] #[T,T,T,T,T,T,T,T,T,F,F,T,F] rfl rfl rfl rfl (by kernel_rfl) (by decide) (by decide) (fun K hK=>?_) (fun K hK=>?_)
     ·skip
      refine Kd.bq (Kd.int .i64) (Rr:=fun x_ cs_=>cs_=[.int .i64 x_]) (w0:=w) w.heap.size (by rfl) (.tmp 11) (.tmp 13) 28 3 ((.int .i64 0)) 8 rfl Tryz.underlying28 info3 rfl (by decide) (by omega) (.slice Ao5 y6.length co5) y6 l0_6 _ _ _ (fun k_=>(((w16d_.heap.size≤k_∧k_<w5_.heap.size)))∨w4_.heap.size≤k_) (fun _=>False) rfl rfl (Kd.aC HO5.out (fun _ hk=>.inl hk)) (cb_ HR0_6 HB) (fun _ _ h_=>h_) (fun _ hk=>hk.elim) (fun _ hk=>.inr hk) HB.out HB.out.size ?aL ?_
      case aL=>have:=LM6.out;omega
      intro v_ w6_ ho hbb hg hat
      clear hat
      rw [←Ny7.out] at ho
      have hkp:Kept w4_ w6_ (fun k_=>((w16d_.heap.size≤k_∧k_<w5_.heap.size))):=Kept.aZ hg (Kept.refl _ _) (fun k_ e_=>.inl (HO5.out.1 k_ e_))
      revert HO4_1 HO3_1 BK1 BK2
      refine bC hkp HS ?_
      intro HO4_1 HO3_1 BK1 BK2
      replace HS:=aHs HS hkp.1
      obtain⟨Ao6,co6,ev_⟩:=Kd.aX ho
      subst ev_
      have HO6:=A_.mk (Kd.aC (ok':=(fun k_=>((w16d_.heap.size≤k_∧k_<w5_.heap.size))∨((w4_.heap.size≤k_∧k_<w6_.heap.size)))) (Kd.bP ho) (fun k_ hk_=>by have:=hk_.1;have:=hk_.2.2.1;have:=hk_.2.1;clear hk_;(try dsimp only at *);have:=HS.out;omega))
      replace HB:=A_.mk hbb
      clear hkp hbb hg ho HO5
      refine hK.out _ _ (aa BK1.out) (fun hHeld=>?_)
      clear hK K
      refine nm_ ?_
      refine pd_ (i:=10) (N:=some 15) #[T,T,T,T,T,T,T,T,T,T,T,F,F] rfl ?_
      refine on_ (i:=11) (N:=some 3) #[T,T,T,T,T,T,T,T,T,T,T,T,F] rfl (fun K hK=>?_)
      refine bo_ (N:=3) (cs:=#[.int .i64 0,.slice none 0 0,.int .i64 0,.int .i64 0,.slice none 0 0,.slice none 0 0,.slice none 0 0]) (t:=39) ?_
      intro gb7_ hg w7_ hbox hb
      replace HS:=aHg HS hg hbox
      revert HO4_1 HO3_1 BK1 BK2 HO6 HB
      refine aD hb ?_
      intro HO4_1 HO3_1 BK1 BK2 HO6 HB
      have BK7:=A_.mk hbox
      clear hbox hb hg
      refine hK.out _ _ (aa BK1.out) (fun hHeld=>?_)
      clear hK K
      refine nm_ ?_
      obtain⟨fc_,hf_⟩:=mS_ HO3_1 0 (mS_ HO4_1 1 (mR_ HO6 2 (m0_ 3)))
      exact nj_ (hCont (.slice Ao3_1 t2.length co3_1,.slice Ao4_1 t5.length co4_1,.slice Ao5 y6.length co5,.slice Ao6 y7.length co6,gb7_,fc_) _ ⟨hHeld,BK1.out,BK2.out,HB.out,(ho_ HS),cS_ HO3_1 HS hf_,cS_ HO4_1 HS hf_,cR_ HO6 HS hf_,BK7.out,(show w16d_.heap.size≤gb7_∧gb7_<w7_.heap.size∧3≤fc_ gb7_ from ⟨by have:=HS.out;omega,by have:=HS.out;omega,Nat.le_of_eq (fb_ HS hf_).symm⟩)⟩)
     ·skip
      refine bo_ (N:=3) (cs:=#[.int .i64 0,.slice none 0 0,.int .i64 0,.int .i64 0,.slice none 0 0,.slice none 0 0,.slice none 0 0]) (t:=39) ?_
      intro gb7_ hg w7_ hbox hb
      replace HS:=aHg HS hg hbox
      revert HO4_1 HO3_1 BK1 BK2 HO5 HB
      refine aD hb ?_
      intro HO4_1 HO3_1 BK1 BK2 HO5 HB
      have BK7:=A_.mk hbox
      clear hbox hb hg
      refine hK.out _ _ (aa BK1.out) (fun hHeld=>?_)
      clear hK K
      refine nm_ ?_
      refine on_ (i:=9) (N:=some 14) #[T,T,T,T,T,T,T,T,T,T,F,T,F] rfl (fun K hK=>?_)
      refine Kd.bq (Kd.int .i64) (Rr:=fun x_ cs_=>cs_=[.int .i64 x_]) (w0:=w) w.heap.size (by rfl) (.tmp 11) (.tmp 13) 28 3 ((.int .i64 0)) 8 rfl Tryz.underlying28 info3 rfl (by decide) (by omega) (.slice Ao5 y6.length co5) y6 l0_6 _ _ _ (fun k_=>(((w16d_.heap.size≤k_∧k_<w5_.heap.size)))∨w7_.heap.size≤k_) (fun _=>False) rfl rfl (Kd.aC HO5.out (fun _ hk=>.inl hk)) (cb_ HR0_6 HB) (fun _ _ h_=>h_) (fun _ hk=>hk.elim) (fun _ hk=>.inr hk) HB.out HB.out.size ?aL ?_
      case aL=>have:=LM6.out;omega
      intro v_ w6_ ho hbb hg hat
      clear hat
      rw [←Ny7.out] at ho
      have hkp:Kept w7_ w6_ (fun k_=>((w16d_.heap.size≤k_∧k_<w5_.heap.size))):=Kept.aZ hg (Kept.refl _ _) (fun k_ e_=>.inl (HO5.out.1 k_ e_))
      revert HO4_1 HO3_1 BK1 BK2 BK7
      refine bC hkp HS ?_
      intro HO4_1 HO3_1 BK1 BK2 BK7
      replace HS:=aHs HS hkp.1
      obtain⟨Ao6,co6,ev_⟩:=Kd.aX ho
      subst ev_
      have HO6:=A_.mk (Kd.aC (ok':=(fun k_=>((w16d_.heap.size≤k_∧k_<w5_.heap.size))∨((w7_.heap.size≤k_∧k_<w6_.heap.size)))) (Kd.bP ho) (fun k_ hk_=>by have:=hk_.1;have:=hk_.2.2.1;have:=hk_.2.1;clear hk_;(try dsimp only at *);have:=HS.out;omega))
      replace HB:=A_.mk hbb
      clear hkp hbb hg ho HO5
      refine hK.out _ _ (aa BK1.out) (fun hHeld=>?_)
      clear hK K
      refine nm_ ?_
      refine pd_ (i:=10) (N:=some 15) #[T,T,T,T,T,T,T,T,T,T,T,T,F] rfl ?_
      obtain⟨fc_,hf_⟩:=mS_ HO3_1 0 (mS_ HO4_1 1 (mR_ HO6 2 (m0_ 3)))
      exact nj_ (hCont (.slice Ao3_1 t2.length co3_1,.slice Ao4_1 t5.length co4_1,.slice Ao5 y6.length co5,.slice Ao6 y7.length co6,gb7_,fc_) _ ⟨hHeld,BK1.out,BK2.out,HB.out,(ho_ HS),cS_ HO3_1 HS hf_,cS_ HO4_1 HS hf_,cR_ HO6 HS hf_,BK7.out,(show w16d_.heap.size≤gb7_∧gb7_<w6_.heap.size∧3≤fc_ gb7_ from ⟨by have:=HS.out;omega,by have:=HS.out;omega,Nat.le_of_eq (fb_ HS hf_).symm⟩)⟩)
    ·skip
     refine bo_ (N:=3) (cs:=#[.int .i64 0,.slice none 0 0,.int .i64 0,.int .i64 0,.slice none 0 0,.slice none 0 0,.slice none 0 0]) (t:=39) ?_
     intro gb7_ hg w7_ hbox hb
     replace HS:=aHg HS hg hbox
     revert HO3_1 BK1 BK2 HO5 HB
     refine aD hb ?_
     intro HO3_1 BK1 BK2 HO5 HB
     have BK7:=A_.mk hbox
     clear hbox hb hg
     refine hK.out _ _ (aa BK1.out) (fun hHeld=>?_)
     clear hK K
     refine nm_ ?_
     refine on_ (i:=5) (N:=some 10) #[T,T,T,T,T,T,T,T,T,F,F,T,F] rfl (fun K hK=>?_)
     refine gz_ Tryz.func61 #[.agg #[.int .i64 a0_3,.slice A0_4 l0_4.length c0_4]] ?_
     with_reducible refine (aA.calls k a0_3 _ _ l0_4 t4 t5 _ (cb_ HR0_4 HB) HC0_4.out A4.out).mono ?_
     rintro e w4_ ⟨v1_,rfl,ho0_,hb⟩
     refine⟨_,rfl,?_⟩
     replace HS:=aHs HS hb.size
     obtain⟨Ao4_1,co4_1,rfl,HO4_1⟩:=sSm ho0_ HB.out.size
     revert HO3_1 BK1 BK2 HO5 HB BK7
     refine aD hb ?_
     intro HO3_1 BK1 BK2 HO5 HB BK7
     clear hb ho0_
     refine hK.out _ _ (aa BK1.out) (fun hHeld=>?_)
     clear hK K
     refine nm_ ?_
     refine on_ (i:=9) (N:=some 14) #[T,T,T,T,T,T,T,T,T,T,F,T,F] rfl (fun K hK=>?_)
     refine Kd.bq (Kd.int .i64) (Rr:=fun x_ cs_=>cs_=[.int .i64 x_]) (w0:=w) w.heap.size (by rfl) (.tmp 11) (.tmp 13) 28 3 ((.int .i64 0)) 8 rfl Tryz.underlying28 info3 rfl (by decide) (by omega) (.slice Ao5 y6.length co5) y6 l0_6 _ _ _ (fun k_=>(((w16d_.heap.size≤k_∧k_<w5_.heap.size)))∨w4_.heap.size≤k_) (fun _=>False) rfl rfl (Kd.aC HO5.out (fun _ hk=>.inl hk)) (cb_ HR0_6 HB) (fun _ _ h_=>h_) (fun _ hk=>hk.elim) (fun _ hk=>.inr hk) HB.out HB.out.size ?aL ?_
     case aL=>have:=LM6.out;omega
     intro v_ w6_ ho hbb hg hat
     clear hat
     rw [←Ny7.out] at ho
     have hkp:Kept w4_ w6_ (fun k_=>((w16d_.heap.size≤k_∧k_<w5_.heap.size))):=Kept.aZ hg (Kept.refl _ _) (fun k_ e_=>.inl (HO5.out.1 k_ e_))
     revert HO4_1 HO3_1 BK1 BK2 BK7
     refine bC hkp HS ?_
     intro HO4_1 HO3_1 BK1 BK2 BK7
     replace HS:=aHs HS hkp.1
     obtain⟨Ao6,co6,ev_⟩:=Kd.aX ho
     subst ev_
     have HO6:=A_.mk (Kd.aC (ok':=(fun k_=>((w16d_.heap.size≤k_∧k_<w5_.heap.size))∨((w4_.heap.size≤k_∧k_<w6_.heap.size)))) (Kd.bP ho) (fun k_ hk_=>by have:=hk_.1;have:=hk_.2.2.1;have:=hk_.2.1;clear hk_;(try dsimp only at *);have:=HS.out;omega))
     replace HB:=A_.mk hbb
     clear hkp hbb hg ho HO5
     refine hK.out _ _ (aa BK1.out) (fun hHeld=>?_)
     clear hK K
     refine nm_ ?_
     refine pd_ (i:=10) (N:=some 15) #[T,T,T,T,T,T,T,T,T,T,T,T,F] rfl ?_
     obtain⟨fc_,hf_⟩:=mS_ HO3_1 0 (mS_ HO4_1 1 (mR_ HO6 2 (m0_ 3)))
     exact nj_ (hCont (.slice Ao3_1 t2.length co3_1,.slice Ao4_1 t5.length co4_1,.slice Ao5 y6.length co5,.slice Ao6 y7.length co6,gb7_,fc_) _ ⟨hHeld,BK1.out,BK2.out,HB.out,(ho_ HS),cS_ HO3_1 HS hf_,cS_ HO4_1 HS hf_,cR_ HO6 HS hf_,BK7.out,(show w16d_.heap.size≤gb7_∧gb7_<w6_.heap.size∧3≤fc_ gb7_ from ⟨by have:=HS.out;omega,by have:=HS.out;omega,Nat.le_of_eq (fb_ HS hf_).symm⟩)⟩)
   ·skip
    refine bo_ (N:=3) (cs:=#[.int .i64 0,.slice none 0 0,.int .i64 0,.int .i64 0,.slice none 0 0,.slice none 0 0,.slice none 0 0]) (t:=39) ?_
    intro gb7_ hg w7_ hbox hb
    replace HS:=aHg HS hg hbox
    revert BK1 BK2 HO5 HB
    refine aD hb ?_
    intro BK1 BK2 HO5 HB
    have BK7:=A_.mk hbox
    clear hbox hb hg
    refine hK.out _ _ (aa BK1.out) (fun hHeld=>?_)
    clear hK K
    refine nm_ ?_
    refine on_ (i:=2) (N:=some 7) #[T,T,T,T,T,F,T,T,T,F,F,T,F] rfl (fun K hK=>?_)
    refine gz_ Tryz.func60 #[.agg #[.int .i64 a0_0,.slice A0_1 l0_1.length c0_1,.int .i64 a0_2]] ?_
    with_reducible refine (aG.calls k a0_0 _ _ l0_1 a0_2 t1 t2 t3 _ (cb_ HR0_1 HB) HC0_1.out A3.out).mono ?_
    rintro e w3_ ⟨v1_,rfl,ho0_,hb⟩
    refine⟨_,rfl,?_⟩
    replace HS:=aHs HS hb.size
    obtain⟨Ao3_1,co3_1,rfl,HO3_1⟩:=sSm ho0_ HB.out.size
    revert BK1 BK2 HO5 HB BK7
    refine aD hb ?_
    intro BK1 BK2 HO5 HB BK7
    clear hb ho0_
    refine hK.out _ _ (aa BK1.out) (fun hHeld=>?_)
    clear hK K
    refine nm_ ?_
    refine on_ (i:=5) (N:=some 10) #[T,T,T,T,T,T,T,T,T,F,F,T,F] rfl (fun K hK=>?_)
    refine gz_ Tryz.func61 #[.agg #[.int .i64 a0_3,.slice A0_4 l0_4.length c0_4]] ?_
    with_reducible refine (aA.calls k a0_3 _ _ l0_4 t4 t5 _ (cb_ HR0_4 HB) HC0_4.out A4.out).mono ?_
    rintro e w4_ ⟨v1_,rfl,ho0_,hb⟩
    refine⟨_,rfl,?_⟩
    replace HS:=aHs HS hb.size
    obtain⟨Ao4_1,co4_1,rfl,HO4_1⟩:=sSm ho0_ HB.out.size
    revert HO3_1 BK1 BK2 HO5 HB BK7
    refine aD hb ?_
    intro HO3_1 BK1 BK2 HO5 HB BK7
    clear hb ho0_
    refine hK.out _ _ (aa BK1.out) (fun hHeld=>?_)
    clear hK K
    refine nm_ ?_
    refine on_ (i:=9) (N:=some 14) #[T,T,T,T,T,T,T,T,T,T,F,T,F] rfl (fun K hK=>?_)
    refine Kd.bq (Kd.int .i64) (Rr:=fun x_ cs_=>cs_=[.int .i64 x_]) (w0:=w) w.heap.size (by rfl) (.tmp 11) (.tmp 13) 28 3 ((.int .i64 0)) 8 rfl Tryz.underlying28 info3 rfl (by decide) (by omega) (.slice Ao5 y6.length co5) y6 l0_6 _ _ _ (fun k_=>(((w16d_.heap.size≤k_∧k_<w5_.heap.size)))∨w4_.heap.size≤k_) (fun _=>False) rfl rfl (Kd.aC HO5.out (fun _ hk=>.inl hk)) (cb_ HR0_6 HB) (fun _ _ h_=>h_) (fun _ hk=>hk.elim) (fun _ hk=>.inr hk) HB.out HB.out.size ?aL ?_
    case aL=>have:=LM6.out;omega
    intro v_ w6_ ho hbb hg hat
    clear hat
    rw [←Ny7.out] at ho
    have hkp:Kept w4_ w6_ (fun k_=>((w16d_.heap.size≤k_∧k_<w5_.heap.size))):=Kept.aZ hg (Kept.refl _ _) (fun k_ e_=>.inl (HO5.out.1 k_ e_))
    revert HO4_1 HO3_1 BK1 BK2 BK7
    refine bC hkp HS ?_
    intro HO4_1 HO3_1 BK1 BK2 BK7
    replace HS:=aHs HS hkp.1
    obtain⟨Ao6,co6,ev_⟩:=Kd.aX ho
    subst ev_
    have HO6:=A_.mk (Kd.aC (ok':=(fun k_=>((w16d_.heap.size≤k_∧k_<w5_.heap.size))∨((w4_.heap.size≤k_∧k_<w6_.heap.size)))) (Kd.bP ho) (fun k_ hk_=>by have:=hk_.1;have:=hk_.2.2.1;have:=hk_.2.1;clear hk_;(try dsimp only at *);have:=HS.out;omega))
    replace HB:=A_.mk hbb
    clear hkp hbb hg ho HO5
    refine hK.out _ _ (aa BK1.out) (fun hHeld=>?_)
    clear hK K
    refine nm_ ?_
    refine pd_ (i:=10) (N:=some 15) #[T,T,T,T,T,T,T,T,T,T,T,T,F] rfl ?_
    obtain⟨fc_,hf_⟩:=mS_ HO3_1 0 (mS_ HO4_1 1 (mR_ HO6 2 (m0_ 3)))
    exact nj_ (hCont (.slice Ao3_1 t2.length co3_1,.slice Ao4_1 t5.length co4_1,.slice Ao5 y6.length co5,.slice Ao6 y7.length co6,gb7_,fc_) _ ⟨hHeld,BK1.out,BK2.out,HB.out,(ho_ HS),cS_ HO3_1 HS hf_,cS_ HO4_1 HS hf_,cR_ HO6 HS hf_,BK7.out,(show w16d_.heap.size≤gb7_∧gb7_<w6_.heap.size∧3≤fc_ gb7_ from ⟨by have:=HS.out;omega,by have:=HS.out;omega,Nat.le_of_eq (fb_ HS hf_).symm⟩)⟩)
  ·skip
   refine bo_ (N:=3) (cs:=#[.int .i64 0,.slice none 0 0,.int .i64 0,.int .i64 0,.slice none 0 0,.slice none 0 0,.slice none 0 0]) (t:=39) ?_
   intro gb7_ hg w7_ hbox hb
   replace HS:=aHg HS hg hbox
   revert BK1 BK2 HB
   refine aD hb ?_
   intro BK1 BK2 HB
   have BK7:=A_.mk hbox
   clear hbox hb hg
   refine hK.out _ _ (aa BK1.out) (fun hHeld=>?_)
   clear hK K
   refine nm_ ?_
   refine jU (i:=2) (j:=6) (Ni:=some 7) (Nj:=some 11) #[T,T,T,T,T,F,F,T,T,F,F,T,F] #[T,T,F,T,T,F,T,T,T,F,F,T,F] rfl rfl rfl rfl (by kernel_rfl) (by decide) (by decide) (fun K hK=>?_) (fun K hK=>?_)
   ·skip
    refine gz_ Tryz.func60 #[.agg #[.int .i64 a0_0,.slice A0_1 l0_1.length c0_1,.int .i64 a0_2]] ?_
    with_reducible refine (aG.calls k a0_0 _ _ l0_1 a0_2 t1 t2 t3 _ (cb_ HR0_1 HB) HC0_1.out A3.out).mono ?_
    rintro e w3_ ⟨v1_,rfl,ho0_,hb⟩
    refine⟨_,rfl,?_⟩
    replace HS:=aHs HS hb.size
    obtain⟨Ao3_1,co3_1,rfl,HO3_1⟩:=sSm ho0_ HB.out.size
    revert BK1 BK2 HB BK7
    refine aD hb ?_
    intro BK1 BK2 HB BK7
    clear hb ho0_
    refine hK.out _ _ (aa BK1.out) (fun hHeld=>?_)
    clear hK K
    refine nm_ ?_
    refine jU (i:=5) (j:=6) (Ni:=some 10) (Nj:=some 11) #[T,T,T,T,T,T,F,T,T,F,F,T,F] #[T,T,T,T,T,F,T,T,T,F,F,T,F] rfl rfl rfl rfl (by kernel_rfl) (by decide) (by decide) (fun K hK=>?_) (fun K hK=>?_)
    ·skip
     refine gz_ Tryz.func61 #[.agg #[.int .i64 a0_3,.slice A0_4 l0_4.length c0_4]] ?_
     with_reducible refine (aA.calls k a0_3 _ _ l0_4 t4 t5 _ (cb_ HR0_4 HB) HC0_4.out A4.out).mono ?_
     rintro e w4_ ⟨v1_,rfl,ho0_,hb⟩
     refine⟨_,rfl,?_⟩
     replace HS:=aHs HS hb.size
     obtain⟨Ao4_1,co4_1,rfl,HO4_1⟩:=sSm ho0_ HB.out.size
     revert HO3_1 BK1 BK2 HB BK7
     refine aD hb ?_
     intro HO3_1 BK1 BK2 HB BK7
     clear hb ho0_
     refine hK.out _ _ (aa BK1.out) (fun hHeld=>?_)
     clear hK K
     refine nm_ ?_
     refine on_ (i:=6) (N:=some 11) #[T,T,T,T,T,T,T,T,T,F,F,T,F] rfl (fun K hK=>?_)
     refine Kd.fB (Kd.int .i64) (w0:=w) w.heap.size 3 (by rfl) (N:=11) rfl (xs:=[]) (inner:=[]) (ok:=fun k_=>w4_.heap.size≤k_) (okp:=fun k_=>w4_.heap.size≤k_) ?lR ?lP (fun _ hk=>hk) (Nat.le_refl _) HB.out HB.out.size (by simp) ?_
     case lR=>first|(go_simp;done)|(go_simp;rfl)
     case lP=>exact (Reps.none _ _)
     intro v_ w5_ ho hbb hg_ hn_
     clear hn_
     rw [←Ny6.out] at ho
     have hkp:Kept w4_ w5_ (fun k_=>k_<0):=Kept.aZ hg_ (Kept.refl _ _) (fun k_ e_=>by cases e_)
     revert HO4_1 HO3_1 BK1 BK2 BK7
     refine bC hkp HS ?_
     intro HO4_1 HO3_1 BK1 BK2 BK7
     replace HS:=aHs HS hkp.1
     obtain⟨Ao5,co5,ev_⟩:=Kd.aX ho
     subst ev_
     have HO5:=A_.mk (Kd.aC (ok':=(fun k_=>((w4_.heap.size≤k_∧k_<w5_.heap.size)))) (Kd.bP ho) (fun k_ hk_=>⟨hk_.1,hk_.2.2.1⟩))
     replace HB:=A_.mk hbb
     clear hkp hbb hg_ ho
     refine hK.out _ _ (aa BK1.out) (fun hHeld=>?_)
     clear hK K
     refine nm_ ?_
     refine on_ (i:=9) (N:=some 14) #[T,T,T,T,T,T,T,T,T,T,F,T,F] rfl (fun K hK=>?_)
     refine Kd.bq (Kd.int .i64) (Rr:=fun x_ cs_=>cs_=[.int .i64 x_]) (w0:=w) w.heap.size (by rfl) (.tmp 11) (.tmp 13) 28 3 ((.int .i64 0)) 8 rfl Tryz.underlying28 info3 rfl (by decide) (by omega) (.slice Ao5 y6.length co5) y6 l0_6 _ _ _ (fun k_=>(((w4_.heap.size≤k_∧k_<w5_.heap.size)))∨w5_.heap.size≤k_) (fun _=>False) rfl rfl (Kd.aC HO5.out (fun _ hk=>.inl hk)) (cb_ HR0_6 HB) (fun _ _ h_=>h_) (fun _ hk=>hk.elim) (fun _ hk=>.inr hk) HB.out HB.out.size ?aL ?_
     case aL=>have:=LM6.out;omega
     intro v_ w6_ ho hbb hg hat
     clear hat
     rw [←Ny7.out] at ho
     have hkp:Kept w5_ w6_ (fun k_=>((w4_.heap.size≤k_∧k_<w5_.heap.size))):=Kept.aZ hg (Kept.refl _ _) (fun k_ e_=>.inl (HO5.out.1 k_ e_))
     revert HO4_1 HO3_1 BK1 BK2 BK7
     refine bC hkp HS ?_
     intro HO4_1 HO3_1 BK1 BK2 BK7
     replace HS:=aHs HS hkp.1
     obtain⟨Ao6,co6,ev_⟩:=Kd.aX ho
     subst ev_
     have HO6:=A_.mk (Kd.aC (ok':=(fun k_=>((w4_.heap.size≤k_∧k_<w5_.heap.size))∨((w5_.heap.size≤k_∧k_<w6_.heap.size)))) (Kd.bP ho) (fun k_ hk_=>by have:=hk_.1;have:=hk_.2.2.1;have:=hk_.2.1;clear hk_;(try dsimp only at *);have:=HS.out;omega))
     replace HB:=A_.mk hbb
     clear hkp hbb hg ho HO5
     refine hK.out _ _ (aa BK1.out) (fun hHeld=>?_)
     clear hK K
     refine nm_ ?_
     refine pd_ (i:=10) (N:=some 15) #[T,T,T,T,T,T,T,T,T,T,T,T,F] rfl ?_
     obtain⟨fc_,hf_⟩:=mS_ HO3_1 0 (mS_ HO4_1 1 (mR_ HO6 2 (m0_ 3)))
     exact nj_ (hCont (.slice Ao3_1 t2.length co3_1,.slice Ao4_1 t5.length co4_1,.slice Ao5 y6.length co5,.slice Ao6 y7.length co6,gb7_,fc_) _ ⟨hHeld,BK1.out,BK2.out,HB.out,(ho_ HS),cS_ HO3_1 HS hf_,cS_ HO4_1 HS hf_,cR_ HO6 HS hf_,BK7.out,(show w16d_.heap.size≤gb7_∧gb7_<w6_.heap.size∧3≤fc_ gb7_ from ⟨by have:=HS.out;omega,by have:=HS.out;omega,Nat.le_of_eq (fb_ HS hf_).symm⟩)⟩)
    ·skip
     refine Kd.fB (Kd.int .i64) (w0:=w) w.heap.size 3 (by rfl) (N:=11) rfl (xs:=[]) (inner:=[]) (ok:=fun k_=>w3_.heap.size≤k_) (okp:=fun k_=>w3_.heap.size≤k_) ?lR ?lP (fun _ hk=>hk) (Nat.le_refl _) HB.out HB.out.size (by simp) ?_
     case lR=>first|(go_simp;done)|(go_simp;rfl)
     case lP=>exact (Reps.none _ _)
     intro v_ w5_ ho hbb hg_ hn_
     clear hn_
     rw [←Ny6.out] at ho
     have hkp:Kept w3_ w5_ (fun k_=>k_<0):=Kept.aZ hg_ (Kept.refl _ _) (fun k_ e_=>by cases e_)
     revert HO3_1 BK1 BK2 BK7
     refine bC hkp HS ?_
     intro HO3_1 BK1 BK2 BK7
     replace HS:=aHs HS hkp.1
     obtain⟨Ao5,co5,ev_⟩:=Kd.aX ho
     subst ev_
     have HO5:=A_.mk (Kd.aC (ok':=(fun k_=>((w3_.heap.size≤k_∧k_<w5_.heap.size)))) (Kd.bP ho) (fun k_ hk_=>⟨hk_.1,hk_.2.2.1⟩))
     replace HB:=A_.mk hbb
     clear hkp hbb hg_ ho
     refine hK.out _ _ (aa BK1.out) (fun hHeld=>?_)
     clear hK K
     refine nm_ ?_
     refine on_ (i:=5) (N:=some 10) #[T,T,T,T,T,T,T,T,T,F,F,T,F] rfl (fun K hK=>?_)
     refine gz_ Tryz.func61 #[.agg #[.int .i64 a0_3,.slice A0_4 l0_4.length c0_4]] ?_
     with_reducible refine (aA.calls k a0_3 _ _ l0_4 t4 t5 _ (cb_ HR0_4 HB) HC0_4.out A4.out).mono ?_
     rintro e w4_ ⟨v1_,rfl,ho0_,hb⟩
     refine⟨_,rfl,?_⟩
     replace HS:=aHs HS hb.size
     obtain⟨Ao4_1,co4_1,rfl,HO4_1⟩:=sSm ho0_ HB.out.size
     revert HO3_1 BK1 BK2 BK7 HO5 HB
     refine aD hb ?_
     intro HO3_1 BK1 BK2 BK7 HO5 HB
     clear hb ho0_
     refine hK.out _ _ (aa BK1.out) (fun hHeld=>?_)
     clear hK K
     refine nm_ ?_
     refine on_ (i:=9) (N:=some 14) #[T,T,T,T,T,T,T,T,T,T,F,T,F] rfl (fun K hK=>?_)
     refine Kd.bq (Kd.int .i64) (Rr:=fun x_ cs_=>cs_=[.int .i64 x_]) (w0:=w) w.heap.size (by rfl) (.tmp 11) (.tmp 13) 28 3 ((.int .i64 0)) 8 rfl Tryz.underlying28 info3 rfl (by decide) (by omega) (.slice Ao5 y6.length co5) y6 l0_6 _ _ _ (fun k_=>(((w3_.heap.size≤k_∧k_<w5_.heap.size)))∨w4_.heap.size≤k_) (fun _=>False) rfl rfl (Kd.aC HO5.out (fun _ hk=>.inl hk)) (cb_ HR0_6 HB) (fun _ _ h_=>h_) (fun _ hk=>hk.elim) (fun _ hk=>.inr hk) HB.out HB.out.size ?aL ?_
     case aL=>have:=LM6.out;omega
     intro v_ w6_ ho hbb hg hat
     clear hat
     rw [←Ny7.out] at ho
     have hkp:Kept w4_ w6_ (fun k_=>((w3_.heap.size≤k_∧k_<w5_.heap.size))):=Kept.aZ hg (Kept.refl _ _) (fun k_ e_=>.inl (HO5.out.1 k_ e_))
     revert HO4_1 HO3_1 BK1 BK2 BK7
     refine bC hkp HS ?_
     intro HO4_1 HO3_1 BK1 BK2 BK7
     replace HS:=aHs HS hkp.1
     obtain⟨Ao6,co6,ev_⟩:=Kd.aX ho
     subst ev_
     have HO6:=A_.mk (Kd.aC (ok':=(fun k_=>((w3_.heap.size≤k_∧k_<w5_.heap.size))∨((w4_.heap.size≤k_∧k_<w6_.heap.size)))) (Kd.bP ho) (fun k_ hk_=>by have:=hk_.1;have:=hk_.2.2.1;have:=hk_.2.1;clear hk_;(try dsimp only at *);have:=HS.out;omega))
     replace HB:=A_.mk hbb
     clear hkp hbb hg ho HO5
     refine hK.out _ _ (aa BK1.out) (fun hHeld=>?_)
     clear hK K
     refine nm_ ?_
     refine pd_ (i:=10) (N:=some 15) #[T,T,T,T,T,T,T,T,T,T,T,T,F] rfl ?_
     obtain⟨fc_,hf_⟩:=mS_ HO3_1 0 (mS_ HO4_1 1 (mR_ HO6 2 (m0_ 3)))
     exact nj_ (hCont (.slice Ao3_1 t2.length co3_1,.slice Ao4_1 t5.length co4_1,.slice Ao5 y6.length co5,.slice Ao6 y7.length co6,gb7_,fc_) _ ⟨hHeld,BK1.out,BK2.out,HB.out,(ho_ HS),cS_ HO3_1 HS hf_,cS_ HO4_1 HS hf_,cR_ HO6 HS hf_,BK7.out,(show w16d_.heap.size≤gb7_∧gb7_<w6_.heap.size∧3≤fc_ gb7_ from ⟨by have:=HS.out;omega,by have:=HS.out;omega,Nat.le_of_eq (fb_ HS hf_).symm⟩)⟩)
   ·skip
    refine Kd.fB (Kd.int .i64) (w0:=w) w.heap.size 3 (by rfl) (N:=11) rfl (xs:=[]) (inner:=[]) (ok:=fun k_=>w7_.heap.size≤k_) (okp:=fun k_=>w7_.heap.size≤k_) ?lR ?lP (fun _ hk=>hk) (Nat.le_refl _) HB.out HB.out.size (by simp) ?_
    case lR=>first|(go_simp;done)|(go_simp;rfl)
    case lP=>exact (Reps.none _ _)
    intro v_ w5_ ho hbb hg_ hn_
    clear hn_
    rw [←Ny6.out] at ho
    have hkp:Kept w7_ w5_ (fun k_=>k_<0):=Kept.aZ hg_ (Kept.refl _ _) (fun k_ e_=>by cases e_)
    revert BK1 BK2 BK7
    refine bC hkp HS ?_
    intro BK1 BK2 BK7
    replace HS:=aHs HS hkp.1
    obtain⟨Ao5,co5,ev_⟩:=Kd.aX ho
    subst ev_
    have HO5:=A_.mk (Kd.aC (ok':=(fun k_=>((w7_.heap.size≤k_∧k_<w5_.heap.size)))) (Kd.bP ho) (fun k_ hk_=>⟨hk_.1,hk_.2.2.1⟩))
    replace HB:=A_.mk hbb
    clear hkp hbb hg_ ho
    refine hK.out _ _ (aa BK1.out) (fun hHeld=>?_)
    clear hK K
    refine nm_ ?_
    refine on_ (i:=2) (N:=some 7) #[T,T,T,T,T,F,T,T,T,F,F,T,F] rfl (fun K hK=>?_)
    refine gz_ Tryz.func60 #[.agg #[.int .i64 a0_0,.slice A0_1 l0_1.length c0_1,.int .i64 a0_2]] ?_
    with_reducible refine (aG.calls k a0_0 _ _ l0_1 a0_2 t1 t2 t3 _ (cb_ HR0_1 HB) HC0_1.out A3.out).mono ?_
    rintro e w3_ ⟨v1_,rfl,ho0_,hb⟩
    refine⟨_,rfl,?_⟩
    replace HS:=aHs HS hb.size
    obtain⟨Ao3_1,co3_1,rfl,HO3_1⟩:=sSm ho0_ HB.out.size
    revert BK1 BK2 BK7 HO5 HB
    refine aD hb ?_
    intro BK1 BK2 BK7 HO5 HB
    clear hb ho0_
    refine hK.out _ _ (aa BK1.out) (fun hHeld=>?_)
    clear hK K
    refine nm_ ?_
    refine on_ (i:=5) (N:=some 10) #[T,T,T,T,T,T,T,T,T,F,F,T,F] rfl (fun K hK=>?_)
    refine gz_ Tryz.func61 #[.agg #[.int .i64 a0_3,.slice A0_4 l0_4.length c0_4]] ?_
    with_reducible refine (aA.calls k a0_3 _ _ l0_4 t4 t5 _ (cb_ HR0_4 HB) HC0_4.out A4.out).mono ?_
    rintro e w4_ ⟨v1_,rfl,ho0_,hb⟩
    refine⟨_,rfl,?_⟩
    replace HS:=aHs HS hb.size
    obtain⟨Ao4_1,co4_1,rfl,HO4_1⟩:=sSm ho0_ HB.out.size
    revert HO3_1 BK1 BK2 BK7 HO5 HB
    refine aD hb ?_
    intro HO3_1 BK1 BK2 BK7 HO5 HB
    clear hb ho0_
    refine hK.out _ _ (aa BK1.out) (fun hHeld=>?_)
    clear hK K
    refine nm_ ?_
    refine on_ (i:=9) (N:=some 14) #[T,T,T,T,T,T,T,T,T,T,F,T,F] rfl (fun K hK=>?_)
    refine Kd.bq (Kd.int .i64) (Rr:=fun x_ cs_=>cs_=[.int .i64 x_]) (w0:=w) w.heap.size (by rfl) (.tmp 11) (.tmp 13) 28 3 ((.int .i64 0)) 8 rfl Tryz.underlying28 info3 rfl (by decide) (by omega) (.slice Ao5 y6.length co5) y6 l0_6 _ _ _ (fun k_=>(((w7_.heap.size≤k_∧k_<w5_.heap.size)))∨w4_.heap.size≤k_) (fun _=>False) rfl rfl (Kd.aC HO5.out (fun _ hk=>.inl hk)) (cb_ HR0_6 HB) (fun _ _ h_=>h_) (fun _ hk=>hk.elim) (fun _ hk=>.inr hk) HB.out HB.out.size ?aL ?_
    case aL=>have:=LM6.out;omega
    intro v_ w6_ ho hbb hg hat
    clear hat
    rw [←Ny7.out] at ho
    have hkp:Kept w4_ w6_ (fun k_=>((w7_.heap.size≤k_∧k_<w5_.heap.size))):=Kept.aZ hg (Kept.refl _ _) (fun k_ e_=>.inl (HO5.out.1 k_ e_))
    revert HO4_1 HO3_1 BK1 BK2 BK7
    refine bC hkp HS ?_
    intro HO4_1 HO3_1 BK1 BK2 BK7
    replace HS:=aHs HS hkp.1
    obtain⟨Ao6,co6,ev_⟩:=Kd.aX ho
    subst ev_
    have HO6:=A_.mk (Kd.aC (ok':=(fun k_=>((w7_.heap.size≤k_∧k_<w5_.heap.size))∨((w4_.heap.size≤k_∧k_<w6_.heap.size)))) (Kd.bP ho) (fun k_ hk_=>by have:=hk_.1;have:=hk_.2.2.1;have:=hk_.2.1;clear hk_;(try dsimp only at *);have:=HS.out;omega))
    replace HB:=A_.mk hbb
    clear hkp hbb hg ho HO5
    refine hK.out _ _ (aa BK1.out) (fun hHeld=>?_)
    clear hK K
    refine nm_ ?_
    refine pd_ (i:=10) (N:=some 15) #[T,T,T,T,T,T,T,T,T,T,T,T,F] rfl ?_
    obtain⟨fc_,hf_⟩:=mS_ HO3_1 0 (mS_ HO4_1 1 (mR_ HO6 2 (m0_ 3)))
    exact nj_ (hCont (.slice Ao3_1 t2.length co3_1,.slice Ao4_1 t5.length co4_1,.slice Ao5 y6.length co5,.slice Ao6 y7.length co6,gb7_,fc_) _ ⟨hHeld,BK1.out,BK2.out,HB.out,(ho_ HS),cS_ HO3_1 HS hf_,cS_ HO4_1 HS hf_,cR_ HO6 HS hf_,BK7.out,(show w16d_.heap.size≤gb7_∧gb7_<w6_.heap.size∧3≤fc_ gb7_ from ⟨by have:=HS.out;omega,by have:=HS.out;omega,Nat.le_of_eq (fb_ HS hf_).symm⟩)⟩)
 rintro⟨z0_,z1_,z2_,z3_,gb7_,fj16_⟩ w16j_ ⟨hHeld,m0_,m1_,m2_,m3_,m4_,m5_,m6_,m7_,m8_⟩
 replace BK1:=A_.mk m0_
 replace BK2:=A_.mk m1_
 replace HB:=A_.mk m2_
 replace HS:=aHs HS m3_
 obtain⟨Ao3_1,co3_1,ev_⟩:=Kd.dx m4_
 replace ev_:z0_=_:=ev_
 subst ev_
 have HO3_1:=A_.mk (show Kd.S k68 68 w16j_ w.heap.size (fun k_=>((w16d_.heap.size≤k_∧k_<w16j_.heap.size)∧fj16_ k_=0)) (.slice Ao3_1 t2.length co3_1) t2 from m4_)
 obtain⟨Ao4_1,co4_1,ev_⟩:=Kd.dx m5_
 replace ev_:z1_=_:=ev_
 subst ev_
 have HO4_1:=A_.mk (show Kd.S (Kd.slice 3 (Kd.int .i64)) 28 w16j_ w.heap.size (fun k_=>((w16d_.heap.size≤k_∧k_<w16j_.heap.size)∧fj16_ k_=1)) (.slice Ao4_1 t5.length co4_1) t5 from m5_)
 obtain⟨Ao6,co6,ev_⟩:=Kd.aX m6_
 replace ev_:z3_=_:=ev_
 subst ev_
 have HO6:=A_.mk (show Kd.R (Kd.int .i64) 3 w16j_ w.heap.size (fun k_=>((w16d_.heap.size≤k_∧k_<w16j_.heap.size)∧fj16_ k_=2)) (.slice Ao6 y7.length co6) y7 from m6_)
 have BK7:=A_.mk (show w16j_.heap[gb7_]?=some (.cells #[.int .i64 0,.slice none 0 0,.int .i64 0,.int .i64 0,.slice none 0 0,.slice none 0 0,.slice none 0 0] 39 (0,0)) from m7_)
 replace HS:=aHs HS (show w16d_.heap.size≤gb7_∧gb7_<w16j_.heap.size∧3≤fj16_ gb7_ from m8_)
 clear m0_ m1_ m2_ m3_ m4_ m5_ m6_ m7_ m8_
 refine lD (a':=?_) ?_ ?_
 rotate_left
 ·simp only [putAll,Act.put,List.setIfInBounds_toArray,List.set_cons_zero,List.set_cons_succ]
  rfl
 refine gG (i:=12) (N:=none) #[T,T,T,T,T,T,T,T,T,T,T,T,T] rfl rfl (by kernel_rfl) (by decide) (fun K hK=>?_)
 have Q1:=aa BK1.out
 have Q2:=aa BK2.out
 have Q7:=aa BK7.out
 obtain⟨qf0,qf1,qf2,qf3,qf4,qf5,qf6⟩:=gM BK7
 obtain⟨w8_,hw⟩:=lw_ ((iR w16j_ gb7_ (.int .i64 t1) (.slice Ao3_1 t2.length co3_1) (.int .i64 t3) (.int .i64 t4) (.slice Ao4_1 t5.length co4_1) (.slice none 0 0) (.slice Ao6 y7.length co6)))
 refine fT (w1:=w8_) (by rfl) rfl ?_ ?_
 ·rw [hw];go_simp;try rfl
 refine hK.out _ _ ?_
 clear hK K qf0 qf1 qf2 qf3 qf4 qf5 qf6 Q1 Q2 Q7
 obtain⟨hbx,hkp,hbb⟩:=iV hw BK7 HB (ho_ HS)
 clear hw
 revert BK1 BK2 HO3_1 HO4_1 HO6
 refine bC hkp HS ?_
 intro BK1 BK2 HO3_1 HO4_1 HO6
 replace BK7:=A_.mk hbx
 replace HB:=A_.mk hbb
 replace HS:=aHs HS hkp.1
 clear hkp hbb hbx
 refine fA (by kernel_rfl) ?_
 have Q1:=aa BK1.out
 have Q2:=aa BK2.out
 have Q7:=aa BK7.out
 go_wp2
 obtain⟨fp17_,hfp_⟩:=mS_ HO3_1 0 (mS_ HO4_1 1 (mR_ HO6 3 (m0_ 4)))
 have hfb1_:fp17_ gb1_=4:=fb_ HS hfp_
 have hfb2_:fp17_ gb2_=4:=fb_ HS hfp_
 have hfb7_:fp17_ gb7_=4:=fb_ HS hfp_
 go_loopg [4] k (fun kq v4 w'=>∃ (fx9_:Nat→Nat) (Ax9_1:Option Addr) (Ax9_4:Option Addr) (Ax9_5:Option Addr) (Ax9_6:Option Addr) (cx9_1:Nat) (cx9_4:Nat) (cx9_5:Nat) (cx9_6:Nat) (x9_s4:Int) (x9_0:Int) (x9_1:List S68) (x9_2:Int) (x9_3:Int) (x9_4:List (List Int)) (x9_5:List (List Int)) (x9_6:List Int),v4=.int .i64 x9_s4∧A_ (dB.l9 kq l0_5 x9_s4 x9_0 x9_1 x9_2 x9_3 x9_4 x9_5 x9_6=some (z9_s4,z9_0,z9_1,z9_2,z9_3,z9_4,z9_5,z9_6))∧A_ (kq≤k)∧A_ (w'.heap[gb7_]?=some (.cells #[.int .i64 x9_0,.slice Ax9_1 x9_1.length cx9_1,.int .i64 x9_2,.int .i64 x9_3,.slice Ax9_4 x9_4.length cx9_4,.slice Ax9_5 x9_5.length cx9_5,.slice Ax9_6 x9_6.length cx9_6] 39 (0,0)))∧A_ (Kd.S k68 68 w' w.heap.size (fun k_=>(w.heap.size≤k_∧k_<w'.heap.size)∧fx9_ k_=0) (.slice Ax9_1 x9_1.length cx9_1) x9_1)∧A_ (Kd.S (Kd.slice 3 (Kd.int .i64)) 28 w' w.heap.size (fun k_=>(w.heap.size≤k_∧k_<w'.heap.size)∧fx9_ k_=1) (.slice Ax9_4 x9_4.length cx9_4) x9_4)∧A_ (Kd.S (Kd.slice 3 (Kd.int .i64)) 28 w' w.heap.size (fun k_=>(w.heap.size≤k_∧k_<w'.heap.size)∧fx9_ k_=2) (.slice Ax9_5 x9_5.length cx9_5) x9_5)∧A_ (Kd.R (Kd.int .i64) 3 w' w.heap.size (fun k_=>(w.heap.size≤k_∧k_<w'.heap.size)∧fx9_ k_=3) (.slice Ax9_6 x9_6.length cx9_6) x9_6)∧A_ (w'.heap[gb1_]?=some (.cells #[.int .i64 a0_0,.slice A0_1 l0_1.length c0_1,.int .i64 a0_2,.int .i64 a0_3,.slice A0_4 l0_4.length c0_4,.slice A0_5 l0_5.length c0_5,.slice A0_6 l0_6.length c0_6] 39 (0,0)))∧A_ (w'.heap[gb2_]?=some (.cells #[.int .i64 0,.slice none 0 0,.int .i64 0,.int .i64 0,.slice none 0 0,.slice none 0 0,.slice none 0 0] 39 (0,0)))∧A_ (4≤fx9_ gb7_)∧A_ (4≤fx9_ gb1_)∧A_ (4≤fx9_ gb2_)∧A_ (Below w.heap.size w w')∧A_ (w8_.heap.size≤w'.heap.size))
 case atStart=>exact ⟨fp17_,Ao3_1,Ao4_1,none,Ao6,co3_1,co4_1,0,co6,0,t1,t2,t3,t4,t5,[],y7,rs_,AL9,⟨Nat.le_refl _⟩,BK7,⟨cS_ HO3_1 HS hfp_⟩,⟨cS_ HO4_1 HS hfp_⟩,⟨Kd.kX _ _ _ _ _⟩,⟨cR_ HO6 HS hfp_⟩,BK1,BK2,⟨Nat.le_of_eq hfb7_.symm⟩,⟨Nat.le_of_eq hfb1_.symm⟩,⟨Nat.le_of_eq hfb2_.symm⟩,HB,⟨Nat.le_refl _⟩⟩
 case round =>
  clear AL9 HB BK1 BK2 BK7 HO3_1 HO4_1 HO6 Q1 Q2 Q7 hfp_ hfb1_ hfb2_ hfb7_
  obtain⟨fx9_,Ax9_1,Ax9_4,Ax9_5,Ax9_6,cx9_1,cx9_4,cx9_5,cx9_6,x9_s4,x9_0,x9_1,x9_2,x9_3,x9_4,x9_5,x9_6,rfl,HA,HKL9,BK7,HOx9_1,HOx9_4,HOx9_5,HOx9_6,BK1,BK2,HG7_,HG1_,HG2_,HB,HSL_⟩:=hrel
  rename World=>wq9_
  replace HS:=aHs HS HSL_.out
  clear HSL_
  replace HS:=aHs HS HG7_.out
  clear HG7_
  replace HS:=aHs HS HG1_.out
  clear HG1_
  replace HS:=aHs HS HG2_.out
  clear HG2_
  cases gk with
  | zero=>exact absurd HA.out (by simp [dB.l9])
  | succ kq9_ =>
   have H:=HA.out
   clear HA
   simp only [dB.l9] at H
   have Q1:=aa BK1.out
   have Q2:=aa BK2.out
   have Q7:=aa BK7.out
   by_cases hc2_:x9_s4<(l0_5.length:Int)
   case pos =>
    rw [if_pos hc2_] at H
    have hc2_b0:=decide_eq_true hc2_
    have hc2_b1:decide (x9_s4<l0_5.length)=true:=decide_eq_true (by omega)
    obtain⟨y8,Ny8⟩:=le_ (([]:List Int))
    rw [←Ny8.out] at H
    replace H:=ky H
    obtain⟨hp11_,hq11_,H⟩:=H
    have EB11:=A_.mk (And.intro hp11_ hq11_)
    obtain⟨ad11_,A11_0,c11_0,eA_,hx0_,hl0_,hi0_⟩:=xL HW0_5.out x9_s4 hp11_ hq11_
    subst eA_
    have HX11:=A_.mk hx0_
    have HE11_0:=A_.mk hi0_
    have HD11_0:=A_.mk hl0_
    clear hx0_ hl0_ hi0_
    replace hp11_:=eq_true hp11_
    replace hq11_:=eq_true hq11_
    replace H:=lM H
    obtain⟨LM12,H⟩:=H
    obtain⟨y9,Ny9⟩:=le_ ((y8++(fG l0_5 x9_s4)))
    rw [←Ny9.out] at H
    replace H:=lM H
    obtain⟨LM13,H⟩:=H
    obtain⟨y10,Ny10⟩:=le_ ((x9_5++[y9]))
    rw [←Ny10.out] at H
    have HA:=A_.mk H
    clear H
    go_wp2_with (fail)
    refine dN (n:=13) (S:=fun w'=>(w'.cell? ⟨gb1_,0,none⟩=some (.int .i64 a0_0)∧w'.cell? ⟨gb1_,1,none⟩=some (.slice A0_1 l0_1.length c0_1)∧w'.cell? ⟨gb1_,2,none⟩=some (.int .i64 a0_2)∧w'.cell? ⟨gb1_,3,none⟩=some (.int .i64 a0_3)∧w'.cell? ⟨gb1_,4,none⟩=some (.slice A0_4 l0_4.length c0_4)∧w'.cell? ⟨gb1_,5,none⟩=some (.slice (some ad11_) l0_5.length c0_5)∧w'.cell? ⟨gb1_,6,none⟩=some (.slice A0_6 l0_6.length c0_6))∧(w'.cell? ⟨gb7_,0,none⟩=some (.int .i64 x9_0)∧w'.cell? ⟨gb7_,1,none⟩=some (.slice Ax9_1 x9_1.length cx9_1)∧w'.cell? ⟨gb7_,2,none⟩=some (.int .i64 x9_2)∧w'.cell? ⟨gb7_,3,none⟩=some (.int .i64 x9_3)∧w'.cell? ⟨gb7_,4,none⟩=some (.slice Ax9_4 x9_4.length cx9_4)∧w'.cell? ⟨gb7_,5,none⟩=some (.slice Ax9_5 x9_5.length cx9_5)∧w'.cell? ⟨gb7_,6,none⟩=some (.slice Ax9_6 x9_6.length cx9_6))∧(w'.cell? (ad11_.add (x9_s4).toNat)=some (.slice A11_0 (fG l0_5 x9_s4).length c11_0))) (ds:=[12]) #[F,F,F,F,F,F,F,F,F,F,F,F,F] (by kernel_rfl) rfl rfl ⟨aa BK1.out,aa BK7.out,mE (aV HB.out) HX11.out⟩ (fun hHeld=>?_)
    clear Q1 Q2 Q7
    have hb:=aV (Below.refl wq9_.heap.size wq9_)
    replace HS:=aHs HS hb.size
    replace HOx9_1:=aSb HOx9_1 hb
    replace HOx9_4:=aSb HOx9_4 hb
    replace HOx9_5:=aSb HOx9_5 hb
    replace HOx9_6:=aRb HOx9_6 hb
    replace BK1:=aBb BK1 hb
    replace BK2:=aBb BK2 hb
    replace BK7:=aBb BK7 hb
    replace HB:=aHB HB hb
    clear hb
    generalize wq9_.drew=w18d_ at HOx9_1 HOx9_4 HOx9_5 HOx9_6 BK1 BK2 BK7 HB HS hHeld ⊢
    refine pd_ (i:=0) (N:=some 23) #[T,F,F,F,F,F,F,F,F,F,F,F,F] rfl ?_
    refine tl_ (i:=1) (N:=some 24) #[T,T,F,F,F,F,F,F,F,F,F,F,F] rfl hHeld ?_
    refine pd_ (i:=3) (N:=some 26) #[T,T,F,T,F,F,F,F,F,F,F,F,F] rfl ?_
    refine tl_ (i:=4) (N:=some 27) #[T,T,F,T,T,F,F,F,F,F,F,F,F] rfl hHeld ?_
    refine pd_ (i:=5) (N:=some 28) #[T,T,F,T,T,T,F,F,F,F,F,F,F] rfl ?_
    refine pd_ (i:=6) (N:=some 29) #[T,T,F,T,T,T,T,F,F,F,F,F,F] rfl ?_
    refine tl_ (i:=7) (N:=some 30) #[T,T,F,T,T,T,T,T,F,F,F,F,F] rfl hHeld ?_
    refine on_ (i:=2) (N:=some 25) #[T,T,T,T,T,T,T,T,F,F,F,F,F] rfl (fun K hK=>?_)
    refine Kd.fB (Kd.int .i64) (w0:=w) w.heap.size 3 (by rfl) (N:=25) rfl (xs:=[]) (inner:=[]) (ok:=fun k_=>w18d_.heap.size≤k_) (okp:=fun k_=>w18d_.heap.size≤k_) ?lR ?lP (fun _ hk=>hk) (Nat.le_refl _) HB.out HB.out.size (by simp) ?_
    case lR=>first|(go_simp;done)|(go_simp;rfl)
    case lP=>exact (Reps.none _ _)
    intro v_ w10_ ho hbb hg_ hn_
    clear hn_
    rw [←Ny8.out] at ho
    have hkp:Kept w18d_ w10_ (fun k_=>k_<0):=Kept.aZ hg_ (Kept.refl _ _) (fun k_ e_=>by cases e_)
    revert HOx9_1 HOx9_4 HOx9_5 HOx9_6 BK1 BK2 BK7
    refine bC hkp HS ?_
    intro HOx9_1 HOx9_4 HOx9_5 HOx9_6 BK1 BK2 BK7
    replace HS:=aHs HS hkp.1
    obtain⟨Ao10,co10,ev_⟩:=Kd.aX ho
    subst ev_
    have HO10:=A_.mk (Kd.aC (ok':=(fun k_=>((w18d_.heap.size≤k_∧k_<w10_.heap.size)))) (Kd.bP ho) (fun k_ hk_=>⟨hk_.1,hk_.2.2.1⟩))
    replace HB:=A_.mk hbb
    clear hkp hbb hg_ ho
    refine hK.out _ _ ⟨aa BK1.out,aa BK7.out,mE HB.out HX11.out⟩ (fun hHeld=>?_)
    clear hK K
    refine nm_ ?_
    refine on_ (i:=8) (N:=some 31) #[T,T,T,T,T,T,T,T,T,F,F,F,F] rfl (fun K hK=>?_)
    refine Kd.bq (Kd.int .i64) (Rr:=fun x_ cs_=>cs_=[.int .i64 x_]) (w0:=w) w.heap.size (by rfl) (.tmp 25) (.tmp 30) 28 3 ((.int .i64 0)) 8 rfl Tryz.underlying28 info3 rfl (by decide) (by omega) (.slice Ao10 y8.length co10) y8 (fG l0_5 x9_s4) _ _ _ (fun k_=>(((w18d_.heap.size≤k_∧k_<w10_.heap.size)))∨w10_.heap.size≤k_) (fun _=>False) rfl rfl (Kd.aC HO10.out (fun _ hk=>.inl hk)) (cb_ HE11_0 HB) (fun _ _ h_=>h_) (fun _ hk=>hk.elim) (fun _ hk=>.inr hk) HB.out HB.out.size ?aL ?_
    case aL=>have:=LM12.out;omega
    intro v_ w12_ ho hbb hg hat
    clear hat
    rw [←Ny9.out] at ho
    have hkp:Kept w10_ w12_ (fun k_=>((w18d_.heap.size≤k_∧k_<w10_.heap.size))):=Kept.aZ hg (Kept.refl _ _) (fun k_ e_=>.inl (HO10.out.1 k_ e_))
    revert HOx9_1 HOx9_4 HOx9_5 HOx9_6 BK1 BK2 BK7
    refine bC hkp HS ?_
    intro HOx9_1 HOx9_4 HOx9_5 HOx9_6 BK1 BK2 BK7
    replace HS:=aHs HS hkp.1
    obtain⟨Ao12,co12,ev_⟩:=Kd.aX ho
    subst ev_
    have HO12:=A_.mk (Kd.aC (ok':=(fun k_=>((w18d_.heap.size≤k_∧k_<w10_.heap.size))∨((w10_.heap.size≤k_∧k_<w12_.heap.size)))) (Kd.bP ho) (fun k_ hk_=>by have:=hk_.1;have:=hk_.2.2.1;have:=hk_.2.1;clear hk_;(try dsimp only at *);have:=HS.out;omega))
    replace HB:=A_.mk hbb
    clear hkp hbb hg ho HO10
    refine hK.out _ _ ⟨aa BK1.out,aa BK7.out,mE HB.out HX11.out⟩ (fun hHeld=>?_)
    clear hK K
    refine nm_ ?_
    refine on_ (i:=9) (N:=some 32) #[T,T,T,T,T,T,T,T,T,T,F,F,F] rfl (fun K hK=>?_)
    refine kN (w1:=?_) (v:=?_) (by rfl) rfl ?_ ?_
    rotate_left 2
    ·go_simp
     constructor
     ·rfl
     ·rfl
    refine hK.out _ _ ⟨aa (bl_ BK1.out _),aa (bl_ BK7.out _),mE (ba_ HB.out _) HX11.out⟩ (fun hHeld=>?_)
    clear hK K
    refine nm_ ?_
    refine on_ (i:=10) (N:=some 33) #[T,T,T,T,T,T,T,T,T,T,T,F,F] rfl (fun K hK=>?_)
    refine Kd.gu (Kd.slice 3 (Kd.int .i64)) (w0:=w) w.heap.size (by rfl) (.tmp 24) (.tmp 32) 25 28 ((.slice none 0 0)) 24 rfl Tryz.underlying25 info28 rfl (by decide) (by omega) (.slice Ax9_5 x9_5.length cx9_5) x9_5 y9 [.slice Ao12 y9.length co12] (fun k_=>(((w.heap.size≤k_∧k_<wq9_.heap.size)∧fx9_ k_=2))∨(((w18d_.heap.size≤k_∧k_<w10_.heap.size))∨((w10_.heap.size≤k_∧k_<w12_.heap.size)))∨w12_.heap.size≤k_) (fun k_=>((w18d_.heap.size≤k_∧k_<w10_.heap.size))∨((w10_.heap.size≤k_∧k_<w12_.heap.size))) rfl rfl ?aP ?aQ ?aF ?aO HB.out HB.out.size ?aL ?_
    case aP=>exact Kd.mO HO12.out
    case aQ=>exact fun k_ hk_=>⟨.inr (.inl hk_),fun e_=>by have:=(Kd.S_R HOx9_5.out).1 k_ e_.symm;clear e_;have:=HS.out;omega⟩
    case aF=>exact fun k_ hk_=>.inr (.inr hk_)
    case aO=>exact Kd.dw HOx9_5.out (fun k_ hk_=>⟨.inl hk_,fun e_=>by have:=HS.out;omega⟩)
    case aL=>have:=LM13.out;omega
    intro v_ w13_ ho hbb hg hat
    clear hat
    rw [←Ny10.out] at ho
    have hkp:Kept w12_ w13_ (fun k_=>((w.heap.size≤k_∧k_<wq9_.heap.size)∧fx9_ k_=2)):=Kept.aZ hg (Kept.refl _ _) (fun k_ e_=>.inl ((Kd.S_R HOx9_5.out).1 k_ e_))
    revert HOx9_1 HOx9_4 HOx9_6 BK1 BK2 BK7
    refine bC hkp HS ?_
    intro HOx9_1 HOx9_4 HOx9_6 BK1 BK2 BK7
    replace HS:=aHs HS hkp.1
    obtain⟨Ao13,co13,ev_⟩:=Kd.dx ho
    subst ev_
    have HO13:=A_.mk (Kd.dw (ok':=(fun k_=>((w.heap.size≤k_∧k_<wq9_.heap.size)∧fx9_ k_=2)∨((w18d_.heap.size≤k_∧k_<w10_.heap.size))∨((w10_.heap.size≤k_∧k_<w12_.heap.size))∨((w12_.heap.size≤k_∧k_<w13_.heap.size)))) (Kd.ik ho) (fun k_ hk_=>by have:=hk_.1;have:=hk_.2.2.1;have:=hk_.2.1;clear hk_;have:=HS.out;omega))
    replace HB:=A_.mk hbb
    clear hkp hbb hg ho HOx9_5 HO12
    refine hK.out _ _ ⟨aa BK1.out,aa BK7.out,mE HB.out HX11.out⟩ (fun hHeld=>?_)
    clear hK K
    refine nm_ ?_
    refine pd_ (i:=11) (N:=some 34) #[T,T,T,T,T,T,T,T,T,T,T,T,F] rfl ?_
    refine gG (i:=12) (N:=none) #[T,T,T,T,T,T,T,T,T,T,T,T,T] rfl rfl (by kernel_rfl) (by decide) (fun K hK=>?_)
    have Q1:=aa BK1.out
    have Q2:=aa BK2.out
    have Q7:=aa BK7.out
    have qf0:=bf_ BK7.out 5
    obtain⟨w14_,hw⟩:=lw_ ((w13_.setCell ⟨gb7_,5,none⟩ (.slice Ao13 y10.length co13)))
    refine fT (w1:=w14_) (by rfl) rfl ?_ ?_
    ·rw [hw];go_simp;try rfl
    refine hK.out _ _ ?_
    clear hK K qf0 Q1 Q2 Q7
    obtain⟨hbx,hkp,hbb⟩:=j6 hw BK7 HB (ho_ HS)
    clear hw
    revert HOx9_1 HOx9_4 HOx9_6 BK1 BK2 HO13
    refine bC hkp HS ?_
    intro HOx9_1 HOx9_4 HOx9_6 BK1 BK2 HO13
    replace BK7:=A_.mk hbx
    replace HB:=A_.mk hbb
    replace HS:=aHs HS hkp.1
    clear hkp hbb hbx
    refine fA (by kernel_rfl) ?_
    have Q1:=aa BK1.out
    have Q2:=aa BK2.out
    have Q7:=aa BK7.out
    go_wp2
    obtain⟨fp19_,hfp_⟩:=mS_ HOx9_1 0 (mS_ HOx9_4 1 (mS_ HO13 2 (mR_ HOx9_6 3 (m0_ 4))))
    have hfb1_:fp19_ gb1_=4:=fb_ HS hfp_
    have hfb2_:fp19_ gb2_=4:=fb_ HS hfp_
    have hfb7_:fp19_ gb7_=4:=fb_ HS hfp_
    go_roundg kq9_
    case measure=>have:=HKL9.out;omega
    case rel=>exact ⟨fp19_,Ax9_1,Ax9_4,Ao13,Ax9_6,cx9_1,cx9_4,co13,cx9_6,(wrap64 (x9_s4+1)),x9_0,x9_1,x9_2,x9_3,x9_4,y10,x9_6,rs_,HA,⟨by have:=HKL9.out;omega⟩,BK7,⟨cS_ HOx9_1 HS hfp_⟩,⟨cS_ HOx9_4 HS hfp_⟩,⟨cS_ HO13 HS hfp_⟩,⟨cR_ HOx9_6 HS hfp_⟩,BK1,BK2,⟨Nat.le_of_eq hfb7_.symm⟩,⟨Nat.le_of_eq hfb1_.symm⟩,⟨Nat.le_of_eq hfb2_.symm⟩,HB,⟨(ho_ HS)⟩⟩
   rw [if_neg hc2_] at H
   have hc2_b0:=decide_eq_false hc2_
   have hc2_b1:decide (x9_s4<l0_5.length)=false:=decide_eq_false (by omega)
   replace H:=il H
   obtain⟨rfl,rfl,rfl,rfl,rfl,rfl,rfl,rfl⟩:=H
   have H:=HRL9.out
   clear HRL9
   (try dsimp only at H)
   replace H:=qo H
   obtain⟨rfl,rfl,rfl,rfl,rfl,rfl,rfl⟩:=H
   go_wp2_with (first|((with_reducible refine ae (t:=39) (p:=2) rfl ?_);obtain⟨qf0,qf1,qf2,qf3,qf4,qf5,qf6⟩:=gM BK2;refine so_ (w1:=(iR wq9_ gb2_ (.int .i64 x9_0) (.slice Ax9_1 x9_1.length cx9_1) (.int .i64 x9_2) (.int .i64 x9_3) (.slice Ax9_4 x9_4.length cx9_4) (.slice Ax9_5 x9_5.length cx9_5) (.slice Ax9_6 x9_6.length cx9_6))) ?_;intro w15_ hw;clear qf0 qf1 qf2 qf3 qf4 qf5 qf6;obtain⟨hbx,hkp,hbb⟩:=iV hw BK2 HB (ho_ HS);clear hw;revert HOx9_1 HOx9_4 HOx9_5 HOx9_6;refine bC hkp HS ?_;intro HOx9_1 HOx9_4 HOx9_5 HOx9_6;replace BK2:=A_.mk hbx;replace HB:=A_.mk hbb;replace HS:=aHs HS hkp.1;clear hkp hbb hbx Q1 Q2 Q7))
   refine bodyPost_ret (results_cell_row rfl _ _ gb2_ 39 _ (0,0) _ rfl BK2.out Tryz.underlying39 rfl (by kernel_rfl)) rfl ?_
   obtain⟨f_,hf_⟩:=mS_ HOx9_1 0 (mS_ HOx9_4 1 (mS_ HOx9_5 2 (mR_ HOx9_6 3 (m0_ 0))))
   exact⟨f_,_,_,_,_,rfl,cS_ HOx9_1 HS hf_,cS_ HOx9_4 HS hf_,cS_ HOx9_5 HS hf_,cR_ HOx9_6 HS hf_,HB.out⟩
def bI.f(a0:Int)(a1:Int)(a2:Int):Option (Bool):=if a0 ≥ a1 then (some (decide (a0≤a2))) else (some false)
theorem bI.calls(a0:Int)(a1:Int)(a2:Int)(r:Bool)(w:World)(h:bI.f a0 a1 a2=some r) :
  Calls Tryz.prog 28 #[.int .i64 a0,.int .i64 a1,.int .i64 a2] w fun e w'=>e=.returned (.bool r)∧Drawn0 w w':=by
 have H:(if a0 ≥ a1 then (some (decide (a0≤a2))) else (some false))=some r:=h
 clear h
 by_cases c4:a0 ≥ a1
 ·rw [if_pos c4] at H
  have c4b0:=decide_eq_true c4
  clear c4
  obtain rfl:=Option.some.inj H
  go_enter Tryz.func28,Tryz.ntmps28
  go_wp2
  go_ret
  exact dz_
 ·rw [if_neg c4] at H
  have c4b0:=decide_eq_false c4
  clear c4
  obtain rfl:=Option.some.inj H
  go_enter Tryz.func28,Tryz.ntmps28
  go_wp2
  go_ret
  exact dz_
def aj.l0:Nat→List Int→Int→Option (Bool)
 | 0,_,_=>none
 | k+1,x0,x3=>if x3<(x0.length:Int) then (if 0≤x3 then ((bI.f (rd x0 x3) 0 255).bind fun t140=>(if t140=true then (aj.l0 k x0 (wrap64 (x3+1))) else (some false))) else (none)) else (some (decide ((x0.length:Int)≤40)))
def aj.f(k:Nat)(l0:List Int):Option (Bool):=aj.l0 k l0 0
theorem aj.calls(k:Nat)(A0:Option Addr)(c0:Nat)(l0:List Int)(r:Bool)(w:World)(hr0:Kd.C (Kd.int .i64) w A0 l0.length l0)(hc0:l0.length≤c0)(h:aj.f k l0=some r) :
  Calls Tryz.prog 64 #[.slice A0 l0.length c0] w fun e w'=>e=.returned (.bool r)∧Drawn0 w w':=by
 have HR0:=A_.mk hr0
 have HC0:=A_.mk hc0
 clear hr0 hc0
 have H:(aj.l0 k l0 0)=some r:=h
 clear h
 have H':=A_.mk H
 clear H
 go_enter Tryz.func64,Tryz.ntmps64
 go_wp2
 go_loopg [3] k (fun kq v3 w'=>∃ (x3_1:Int),v3=.int .i64 x3_1∧A_ (aj.l0 kq l0 x3_1=some r)∧A_ (kq≤k)∧Drawn0 w w')
 case atStart=>exact ⟨(0),rs_,H',⟨Nat.le_refl _⟩,by repeat (first|exact Drawn0.refl _|apply Drawn0.step)⟩
 case round =>
  clear H'
  obtain⟨x3_1,rfl,HA,HK1,⟨m1,rfl⟩⟩:=hrel
  cases gk with
  | zero=>exact absurd HA.out (by simp [aj.l0])
  | succ k1 =>
   have H:=HA.out
   clear HA
   simp only [aj.l0] at H
   by_cases c2:x3_1<(l0.length:Int)
   rotate_left
   ·rw [if_neg c2] at H
    have c2b0:=decide_eq_false c2
    clear c2
    obtain rfl:=Option.some.inj H
    go_wp2
    go_ret
    exact dz_
   rw [if_pos c2] at H
   have c2b0:=decide_eq_true c2
   clear c2
   by_cases c3:0≤x3_1
   rotate_left
   ·rw [if_neg c3] at H
    exact absurd H (by simp)
   rw [if_pos c3] at H
   have c3b0:=decide_eq_true c3
   clear c3
   replace H:=oa_ H
   obtain⟨t140,A4,H⟩:=H
   by_cases c5:t140=true
   rotate_left
   ·replace c5:=Bool.eq_false_iff.mpr c5
    subst c5
    have H1:(some false)=some r:=by rw [if_neg (show ¬ (false=true) by decide)] at H;exact H
    clear H
    have H:=H1
    clear H1
    obtain rfl:=Option.some.inj H
    have p139:0≤(x3_1:Int):=od_
    have q139:x3_1<(l0.length:Int):=od_
    obtain⟨ad139,e139,hx139_0⟩:=Kd.d9 HR0.out x3_1 p139 q139
    cases e139
    replace p139:=eq_true p139
    replace q139:=eq_true q139
    go_wp2_with (first|((with_reducible refine gc_ (f:=28) rfl ?_);refine gl_ (some 14) Tryz.func28 #[.int .i64 (rd l0 x3_1),.int .i64 0,.int .i64 255] ?_;(with_reducible refine (bI.calls (rd l0 x3_1) 0 255 false _ A4.out).mono ?_);rintro e w' ⟨rfl,⟨nd,rfl⟩⟩;refine⟨_,rfl,?_⟩))
    go_ret
    exact dz_
   subst c5
   have H1:(aj.l0 k1 l0 (wrap64 (x3_1+1)))=some r:=by rw [if_pos rfl] at H;exact H
   clear H
   have H:=H1
   clear H1
   have H':=A_.mk H
   clear H
   have p139:0≤(x3_1:Int):=od_
   have q139:x3_1<(l0.length:Int):=od_
   obtain⟨ad139,e139,hx139_0⟩:=Kd.d9 HR0.out x3_1 p139 q139
   cases e139
   replace p139:=eq_true p139
   replace q139:=eq_true q139
   go_wp2_with (first|((with_reducible refine gc_ (f:=28) rfl ?_);refine gl_ (some 14) Tryz.func28 #[.int .i64 (rd l0 x3_1),.int .i64 0,.int .i64 255] ?_;(with_reducible refine (bI.calls (rd l0 x3_1) 0 255 true _ A4.out).mono ?_);rintro e w' ⟨rfl,⟨nd,rfl⟩⟩;refine⟨_,rfl,?_⟩))
   go_roundg k1
   case measure=>have:=HK1.out;omega
   case rel=>exact ⟨(wrap64 (x3_1+1)),rs_,H',⟨by have:=HK1.out;omega⟩,by repeat (first|exact Drawn0.refl _|apply Drawn0.step)⟩
def aN.f(a0:Int):Option (Bool):=(bI.f a0 0 15).bind fun t141=>(some t141)
theorem aN.calls(a0:Int)(r:Bool)(w:World)(h:aN.f a0=some r) :
  Calls Tryz.prog 65 #[.int .i64 a0] w fun e w'=>e=.returned (.bool r)∧Drawn0 w w':=by
 have H:((bI.f a0 0 15).bind fun t141=>(some t141))=some r:=h
 clear h
 replace H:=oa_ H
 obtain⟨t141,A2,H⟩:=H
 obtain rfl:=Option.some.inj H
 go_enter Tryz.func65,Tryz.ntmps65
 go_wp2_with (first|((with_reducible refine gc_ (f:=28) rfl ?_);refine gl_ (some 4) Tryz.func28 #[.int .i64 a0,.int .i64 0,.int .i64 15] ?_;(with_reducible refine (bI.calls a0 0 15 t141 _ A2.out).mono ?_);rintro e w' ⟨rfl,⟨nd,rfl⟩⟩;refine⟨_,rfl,?_⟩))
 go_ret
 exact dz_
def bD.f(a0:Int)(a1:Int):Option (Int):=(aN.f a0).bind fun t142=>(if t142=true then ((aN.f a1).bind fun t143=>(if t143=true then (some (Int.tmod (wrap64 ((wrap64 (a1-a0))+16)) 16)) else (some (-1)))) else (some (-1)))
theorem bD.calls(a0:Int)(a1:Int)(r:Int)(w:World)(h:bD.f a0 a1=some r) :
  Calls Tryz.prog 99 #[.int .i64 a0,.int .i64 a1] w fun e w'=>e=.returned (.int .i64 r)∧Drawn0 w w':=by
 have H:((aN.f a0).bind fun t142=>(if t142=true then ((aN.f a1).bind fun t143=>(if t143=true then (some (Int.tmod (wrap64 ((wrap64 (a1-a0))+16)) 16)) else (some (-1)))) else (some (-1))))=some r:=h
 clear h
 replace H:=oa_ H
 obtain⟨t142,A3,H⟩:=H
 by_cases c4:t142=true
 rotate_left
 ·replace c4:=Bool.eq_false_iff.mpr c4
  subst c4
  have H1:(some (-1))=some r:=by rw [if_neg (show ¬ (false=true) by decide)] at H;exact H
  clear H
  have H:=H1
  clear H1
  obtain rfl:=Option.some.inj H
  go_enter Tryz.func99,Tryz.ntmps99
  go_wp2_with (first|((with_reducible refine gc_ (f:=65) rfl ?_);refine gl_ (some 6) Tryz.func65 #[.int .i64 a0] ?_;(with_reducible refine (aN.calls a0 false _ A3.out).mono ?_);rintro e w' ⟨rfl,⟨nd,rfl⟩⟩;refine⟨_,rfl,?_⟩))
  go_ret
  exact dz_
 subst c4
 have H1:((aN.f a1).bind fun t143=>(if t143=true then (some (Int.tmod (wrap64 ((wrap64 (a1-a0))+16)) 16)) else (some (-1))))=some r:=by rw [if_pos rfl] at H;exact H
 clear H
 have H:=H1
 clear H1
 replace H:=oa_ H
 obtain⟨t143,A5,H⟩:=H
 by_cases c6:t143=true
 rotate_left
 ·replace c6:=Bool.eq_false_iff.mpr c6
  subst c6
  have H1:(some (-1))=some r:=by rw [if_neg (show ¬ (false=true) by decide)] at H;exact H
  clear H
  have H:=H1
  clear H1
  obtain rfl:=Option.some.inj H
  go_enter Tryz.func99,Tryz.ntmps99
  go_wp2_with (first|((with_reducible refine gc_ (f:=65) rfl ?_);refine gl_ (some 6) Tryz.func65 #[.int .i64 a0] ?_;(with_reducible refine (aN.calls a0 true _ A3.out).mono ?_);rintro e w' ⟨rfl,⟨nd,rfl⟩⟩;refine⟨_,rfl,?_⟩)|(go_at_call 65;(with_reducible refine (aN.calls a1 false _ A5.out).mono ?_);rintro e w' ⟨rfl,⟨nd,rfl⟩⟩))
  go_ret
  exact dz_
 subst c6
 have H1:(some (Int.tmod (wrap64 ((wrap64 (a1-a0))+16)) 16))=some r:=by rw [if_pos rfl] at H;exact H
 clear H
 have H:=H1
 clear H1
 obtain rfl:=Option.some.inj H
 go_enter Tryz.func99,Tryz.ntmps99
 go_wp2_with (first|((with_reducible refine gc_ (f:=65) rfl ?_);refine gl_ (some 6) Tryz.func65 #[.int .i64 a0] ?_;(with_reducible refine (aN.calls a0 true _ A3.out).mono ?_);rintro e w' ⟨rfl,⟨nd,rfl⟩⟩;refine⟨_,rfl,?_⟩)|(go_at_call 65;(with_reducible refine (aN.calls a1 true _ A5.out).mono ?_);rintro e w' ⟨rfl,⟨nd,rfl⟩⟩))
 go_ret
 exact dz_
mutual
def au.j0:Nat→Int→Bool→Int→List (S68)→Int→Option (Bool)
 | 0,_,_,_,_,_=>none
 | k+1,x3,x22,x145000,x145001,x145002=>if x22=true then (some false) else (au.l0 k x3 0 x145000 x145001 x145002)
def au.l0:Nat→Int→Int→Int→List (S68)→Int→Option (Bool)
 | 0,_,_,_,_,_=>none
 | k+1,x3,x4,x145000,x145001,x145002=>if x4<x3 then (if 0≤x4 then (if x4<(x145001.length:Int) then ((bD.f ((ay x145001 x4).f0) x145000).bind fun t148=>(if t148=(wrap64 (x3-x4)) then ((aj.f k ((ay x145001 x4).f1)).bind fun t150=>(if t150=true then (au.l0 k x3 (wrap64 (x4+1)) x145000 x145001 x145002) else (some false))) else (some false))) else (none)) else (none)) else (some true)
end
def au.f(k:Nat)(a0_0:Int)(l0_1:List (S68))(a0_2:Int):Option (Bool):=(aN.f a0_0).bind fun t145=>(if t145=true then (if (l0_1.length:Int) > 7 then (au.j0 k (l0_1.length:Int) true a0_0 l0_1 a0_2) else ((bI.f a0_2 0 (l0_1.length:Int)).bind fun t146=>(au.j0 k (l0_1.length:Int) (!t146) a0_0 l0_1 a0_2))) else (au.j0 k (l0_1.length:Int) true a0_0 l0_1 a0_2))
theorem au.calls(k:Nat)(a0_0:Int)(A0_1:Option Addr)(c0_1:Nat)(l0_1:List (S68))(a0_2:Int)(r:Bool)(w:World)(hr0_1:Kd.C k68 w A0_1 l0_1.length l0_1)(hc0_1:l0_1.length≤c0_1)(h:au.f k a0_0 l0_1 a0_2=some r) :
  Calls Tryz.prog 62 #[.agg #[.int .i64 a0_0,.slice A0_1 l0_1.length c0_1,.int .i64 a0_2]] w fun e w'=>e=.returned (.bool r)∧Below w.heap.size w w':=by
 have hu36:=Tryz.underlying36
 have HR0_1:=A_.mk hr0_1
 have HC0_1:=A_.mk hc0_1
 clear hr0_1 hc0_1
 have HB:=A_.mk (Below.refl w.heap.size w)
 have H:((aN.f a0_0).bind fun t145=>(if t145=true then (if (l0_1.length:Int) > 7 then (au.j0 k (l0_1.length:Int) true a0_0 l0_1 a0_2) else ((bI.f a0_2 0 (l0_1.length:Int)).bind fun t146=>(au.j0 k (l0_1.length:Int) (!t146) a0_0 l0_1 a0_2))) else (au.j0 k (l0_1.length:Int) true a0_0 l0_1 a0_2)))=some r:=h
 clear h
 have HC2:=A_.mk H
 clear H
 go_enter Tryz.func62,Tryz.ntmps62
 go_upto_region 2 with (first|((with_reducible refine gd_ (N:=1) rfl ?_);refine by_ 1 (cs:=#[.int .i64 a0_0,.slice A0_1 l0_1.length c0_1,.int .i64 a0_2]) (t:=36) ?_;intro gb144 hg w3 hbox hb;have n0_:=A_.mk (bt_ (beY HB.out) hb);have n1_:=A_.mk (hbox);have n2_:=A_.mk ((by rw [hg];exact(bz_ (beY HB.out)):w.heap.size≤gb144));have n3_:=A_.mk ((by rw [hg];exact(bz_ (beY HB.out)):w.heap.size≤gb144));clear HB;have HB:=n0_;have BK144:=n1_;have GW144:=n2_;have GE144:=n3_;clear n0_ n1_ n2_ n3_ hb hbox hg;obtain⟨hcz4_0,hcz4_1,hcz4_2⟩:=lv BK144;obtain⟨hfz4_0,hfz4_1,hfz4_2⟩:=eT BK144))
 repeat (go_quiet (first|((with_reducible refine gd_ (N:=1) rfl ?_);refine by_ 1 (cs:=#[.int .i64 a0_0,.slice A0_1 l0_1.length c0_1,.int .i64 a0_2]) (t:=36) ?_;intro gb144 hg w3 hbox hb;have n0_:=A_.mk (bt_ (beY HB.out) hb);have n1_:=A_.mk (hbox);have n2_:=A_.mk ((by rw [hg];exact(bz_ (beY HB.out)):w.heap.size≤gb144));have n3_:=A_.mk ((by rw [hg];exact(bz_ (beY HB.out)):w.heap.size≤gb144));clear HB;have HB:=n0_;have BK144:=n1_;have GW144:=n2_;have GE144:=n3_;clear n0_ n1_ n2_ n3_ hb hbox hg;obtain⟨hcz4_0,hcz4_1,hcz4_2⟩:=lv BK144;obtain⟨hfz4_0,hfz4_1,hfz4_2⟩:=eT BK144));go_upto_region 2 with (first|((with_reducible refine gd_ (N:=1) rfl ?_);refine by_ 1 (cs:=#[.int .i64 a0_0,.slice A0_1 l0_1.length c0_1,.int .i64 a0_2]) (t:=36) ?_;intro gb144 hg w3 hbox hb;have n0_:=A_.mk (bt_ (beY HB.out) hb);have n1_:=A_.mk (hbox);have n2_:=A_.mk ((by rw [hg];exact(bz_ (beY HB.out)):w.heap.size≤gb144));have n3_:=A_.mk ((by rw [hg];exact(bz_ (beY HB.out)):w.heap.size≤gb144));clear HB;have HB:=n0_;have BK144:=n1_;have GW144:=n2_;have GE144:=n3_;clear n0_ n1_ n2_ n3_ hb hbox hg;obtain⟨hcz4_0,hcz4_1,hcz4_2⟩:=lv BK144;obtain⟨hfz4_0,hfz4_1,hfz4_2⟩:=eT BK144)))
 (try simp only [Act.put,List.setIfInBounds_toArray,List.set_cons_zero,List.set_cons_succ])
 go_cut [22] (fun v22 wc=>∃ (kq:Nat) (x22_1:Bool),v22=.bool x22_1∧A_ (au.j0 kq (l0_1.length:Int) x22_1 a0_0 l0_1 a0_2=some r)∧A_ (kq≤k)∧A_ (wc.heap[gb144]?=some (.cells #[.int .i64 a0_0,(.slice A0_1 l0_1.length c0_1),.int .i64 a0_2] 36 (0,0)))∧A_ (Below w.heap.size w wc))
 case first =>
  have H:=HC2.out
  clear HC2
  replace H:=oa_ H
  obtain⟨t145,A5,H⟩:=H
  by_cases c6:t145=true
  rotate_left
  ·replace c6:=Bool.eq_false_iff.mpr c6
   subst c6
   have H1:(au.j0 k (l0_1.length:Int) true a0_0 l0_1 a0_2)=some r:=by rw [if_neg (show ¬ (false=true) by decide)] at H;exact H
   clear H
   have H:=H1
   clear H1
   have H':=A_.mk H
   clear H
   obtain⟨hcz11_0,hcz11_1,hcz11_2,hfz11_0,hfz11_1,hfz11_2⟩:=b3 BK144.out
   go_wp2_with (first|(go_at_call 65;(with_reducible refine (aN.calls a0_0 false _ A5.out).mono ?_);rintro e w' ⟨rfl,⟨nd,rfl⟩⟩;(try exact dw_)))
   repeat (go_quiet (first|(go_at_call 65;(with_reducible refine (aN.calls a0_0 false _ A5.out).mono ?_);rintro e w' ⟨rfl,⟨nd,rfl⟩⟩;(try exact dw_)));try go_wp2_with (first|(go_at_call 65;(with_reducible refine (aN.calls a0_0 false _ A5.out).mono ?_);rintro e w' ⟨rfl,⟨nd,rfl⟩⟩;(try exact dw_))))
   go_meet
   case rel=>exact ⟨_,(true),rs_,H',⟨by first|omega|exact Nat.le_refl _⟩,⟨by (repeat apply bX);exact BK144.out⟩,⟨(zA_ HB GE144)⟩⟩
  subst c6
  have H1:(if (l0_1.length:Int) > 7 then (au.j0 k (l0_1.length:Int) true a0_0 l0_1 a0_2) else ((bI.f a0_2 0 (l0_1.length:Int)).bind fun t146=>(au.j0 k (l0_1.length:Int) (!t146) a0_0 l0_1 a0_2)))=some r:=by rw [if_pos rfl] at H;exact H
  clear H
  have H:=H1
  clear H1
  by_cases c7:(l0_1.length:Int) > 7
  ·rw [if_pos c7] at H
   have c7b0:=decide_eq_true c7
   have c7b1:decide (7<l0_1.length)=true:=decide_eq_true (by omega)
   clear c7
   (first|rw [c7b0]|(simp only [jg,xm];rw [c7b0])|skip)
   have H':=A_.mk H
   clear H
   obtain⟨hcz8_0,hcz8_1,hcz8_2,hfz8_0,hfz8_1,hfz8_2⟩:=b3 BK144.out
   go_wp2_with (first|(go_at_call 65;(with_reducible refine (aN.calls a0_0 true _ A5.out).mono ?_);rintro e w' ⟨rfl,⟨nd,rfl⟩⟩;(try exact dw_)))
   repeat (go_quiet (first|(go_at_call 65;(with_reducible refine (aN.calls a0_0 true _ A5.out).mono ?_);rintro e w' ⟨rfl,⟨nd,rfl⟩⟩;(try exact dw_)));try go_wp2_with (first|(go_at_call 65;(with_reducible refine (aN.calls a0_0 true _ A5.out).mono ?_);rintro e w' ⟨rfl,⟨nd,rfl⟩⟩;(try exact dw_))))
   go_meet
   case rel=>exact ⟨_,(true),rs_,H',⟨by first|omega|exact Nat.le_refl _⟩,⟨by (repeat apply bX);exact BK144.out⟩,⟨(zA_ HB GE144)⟩⟩
  rw [if_neg c7] at H
  have c7b0:=decide_eq_false c7
  have c7b1:decide (7<l0_1.length)=false:=decide_eq_false (by omega)
  clear c7
  (first|rw [c7b0]|(simp only [jg,xm];rw [c7b0])|skip)
  replace H:=oa_ H
  obtain⟨t146,A9,H⟩:=H
  have H':=A_.mk H
  clear H
  obtain⟨hcz10_0,hcz10_1,hcz10_2,hfz10_0,hfz10_1,hfz10_2⟩:=b3 BK144.out
  go_wp2_with (first|(go_at_call 65;(with_reducible refine (aN.calls a0_0 true _ A5.out).mono ?_);rintro e w' ⟨rfl,⟨nd,rfl⟩⟩;(try exact dw_))|(go_at_call 28;(with_reducible refine (bI.calls a0_2 0 (l0_1.length:Int) t146 _ A9.out).mono ?_);rintro e w' ⟨rfl,⟨nd,rfl⟩⟩;(try exact dw_)))
  repeat (go_quiet (first|(go_at_call 65;(with_reducible refine (aN.calls a0_0 true _ A5.out).mono ?_);rintro e w' ⟨rfl,⟨nd,rfl⟩⟩;(try exact dw_))|(go_at_call 28;(with_reducible refine (bI.calls a0_2 0 (l0_1.length:Int) t146 _ A9.out).mono ?_);rintro e w' ⟨rfl,⟨nd,rfl⟩⟩;(try exact dw_)));try go_wp2_with (first|(go_at_call 65;(with_reducible refine (aN.calls a0_0 true _ A5.out).mono ?_);rintro e w' ⟨rfl,⟨nd,rfl⟩⟩;(try exact dw_))|(go_at_call 28;(with_reducible refine (bI.calls a0_2 0 (l0_1.length:Int) t146 _ A9.out).mono ?_);rintro e w' ⟨rfl,⟨nd,rfl⟩⟩;(try exact dw_))))
  go_meet
  case rel=>exact ⟨_,(!t146),rs_,H',⟨by first|omega|exact Nat.le_refl _⟩,⟨by (repeat apply bX);exact BK144.out⟩,⟨(zA_ HB GE144)⟩⟩
 case rest =>
  clear HC2
  obtain⟨kq,x22_1,rfl,HA,HJ1,BK144,HB⟩:=hcut
  cases kq with
  | zero=>exact absurd HA.out (by simp [au.j0])
  | succ kj1 =>
   have H:=HA.out
   clear HA
   simp only [au.j0] at H
   by_cases c12:x22_1=true
   ·subst c12
    have H1:(some false)=some r:=by rw [if_pos rfl] at H;exact H
    clear H
    have H:=H1
    clear H1
    obtain rfl:=Option.some.inj H
    go_wp2
    repeat (go_quiet (fail);try go_wp2)
    go_ret
    exact⟨re_,(zA_ HB GE144)⟩
   replace c12:=Bool.eq_false_iff.mpr c12
   subst c12
   have H1:(au.l0 kj1 (l0_1.length:Int) 0 a0_0 l0_1 a0_2)=some r:=by rw [if_neg (show ¬ (false=true) by decide)] at H;exact H
   clear H
   have H:=H1
   clear H1
   have H':=A_.mk H
   clear H
   go_wp2
   repeat (go_quiet (fail);try go_wp2)
   go_loopg [4] kj1 (fun kq v4 w'=>∃ (x4_2:Int),v4=.int .i64 x4_2∧A_ (au.l0 kq (l0_1.length:Int) x4_2 a0_0 l0_1 a0_2=some r)∧A_ (kq≤kj1)∧A_ (w'.heap[gb144]?=some (.cells #[.int .i64 a0_0,(.slice A0_1 l0_1.length c0_1),.int .i64 a0_2] 36 (0,0)))∧A_ (Below w.heap.size w w'))
   case atStart=>exact ⟨(0),rs_,H',⟨Nat.le_refl _⟩,⟨by (repeat apply bX);exact BK144.out⟩,⟨(zA_ HB GE144)⟩⟩
   case round =>
    clear H'
    obtain⟨x4_2,rfl,HA,HK2,BK144,HB⟩:=hrel
    cases gk with
    | zero=>exact absurd HA.out (by simp [au.l0])
    | succ k2 =>
     have H:=HA.out
     clear HA
     simp only [au.l0] at H
     by_cases c13:x4_2<(l0_1.length:Int)
     rotate_left
     ·rw [if_neg c13] at H
      have c13b0:=decide_eq_false c13
      clear c13
      obtain rfl:=Option.some.inj H
      go_wp2
      repeat (go_quiet (fail);try go_wp2)
      go_ret
      exact⟨re_,(zA_ HB GE144)⟩
     rw [if_pos c13] at H
     have c13b0:=decide_eq_true c13
     clear c13
     by_cases c14:0≤x4_2
     rotate_left
     ·rw [if_neg c14] at H
      exact absurd H (by simp)
     rw [if_pos c14] at H
     have c14b0:=decide_eq_true c14
     clear c14
     by_cases c15:x4_2<(l0_1.length:Int)
     rotate_left
     ·rw [if_neg c15] at H
      exact absurd H (by simp)
     rw [if_pos c15] at H
     have c15b0:=decide_eq_true c15
     clear c15
     replace H:=oa_ H
     obtain⟨t148,A16,H⟩:=H
     by_cases c17:t148=(wrap64 ((l0_1.length:Int)-x4_2))
     rotate_left
     ·rw [if_neg c17] at H
      have c17b0:=beq_eq_false_iff_ne.mpr c17
      have c17b0w:(t148==(IntKind.i64.wrap ((l0_1.length:Int)-x4_2)))=false:=by simp only [jg];exact c17b0
      have c17b1:=bne_iff_ne.mpr c17
      have c17b1w:(t148 != (IntKind.i64.wrap ((l0_1.length:Int)-x4_2)))=true:=by simp only [jg];exact c17b1
      obtain rfl:=Option.some.inj H
      obtain⟨hcz22_0,hcz22_1,hcz22_2,hfz22_0,hfz22_1,hfz22_2⟩:=b3 BK144.out
      have p147:0≤(x4_2:Int):=od_
      have q147:x4_2<(l0_1.length:Int):=od_
      obtain⟨ad147,A147_1,c147_1,e147,hx147_0,hx147_1,hl147_1,hi147_1⟩:=iq HR0_1.out x4_2 p147 q147
      cases e147
      replace hx147_0:=(HB.out.cell (wl_ w _ hx147_0)).trans hx147_0
      replace hx147_1:=(HB.out.cell (wl_ w _ hx147_1)).trans hx147_1
      have HR147_1:=A_.mk hi147_1
      have HC147_1:=A_.mk hl147_1
      clear hi147_1 hl147_1
      replace p147:=eq_true p147
      replace q147:=eq_true q147
      go_wp2_with (first|(go_at_call 99;(with_reducible refine (bD.calls ((ay l0_1 x4_2).f0) a0_0 t148 _ A16.out).mono ?_);rintro e w' ⟨rfl,⟨nd,rfl⟩⟩;(try exact dw_)))
      repeat (go_quiet (first|(go_at_call 99;(with_reducible refine (bD.calls ((ay l0_1 x4_2).f0) a0_0 t148 _ A16.out).mono ?_);rintro e w' ⟨rfl,⟨nd,rfl⟩⟩;(try exact dw_)));try go_wp2_with (first|(go_at_call 99;(with_reducible refine (bD.calls ((ay l0_1 x4_2).f0) a0_0 t148 _ A16.out).mono ?_);rintro e w' ⟨rfl,⟨nd,rfl⟩⟩;(try exact dw_))))
      go_ret
      exact⟨re_,(zA_ HB GE144)⟩
     rw [if_pos c17] at H
     have c17b0:=beq_iff_eq.mpr c17
     have c17b0w:(t148==(IntKind.i64.wrap ((l0_1.length:Int)-x4_2)))=true:=by simp only [jg];exact c17b0
     have c17b1:=bne_eq_false_iff_eq.mpr c17
     have c17b1w:(t148 != (IntKind.i64.wrap ((l0_1.length:Int)-x4_2)))=false:=by simp only [jg];exact c17b1
     clear c17
     replace H:=oa_ H
     obtain⟨t150,A18,H⟩:=H
     by_cases c19:t150=true
     rotate_left
     ·replace c19:=Bool.eq_false_iff.mpr c19
      subst c19
      have H1:(some false)=some r:=by rw [if_neg (show ¬ (false=true) by decide)] at H;exact H
      clear H
      have H:=H1
      clear H1
      obtain rfl:=Option.some.inj H
      obtain⟨hcz21_0,hcz21_1,hcz21_2,hfz21_0,hfz21_1,hfz21_2⟩:=b3 BK144.out
      have p147:0≤(x4_2:Int):=od_
      have q147:x4_2<(l0_1.length:Int):=od_
      obtain⟨ad147,A147_1,c147_1,e147,hx147_0,hx147_1,hl147_1,hi147_1⟩:=iq HR0_1.out x4_2 p147 q147
      cases e147
      replace hx147_0:=(HB.out.cell (wl_ w _ hx147_0)).trans hx147_0
      replace hx147_1:=(HB.out.cell (wl_ w _ hx147_1)).trans hx147_1
      have HR147_1:=A_.mk hi147_1
      have HC147_1:=A_.mk hl147_1
      clear hi147_1 hl147_1
      replace p147:=eq_true p147
      replace q147:=eq_true q147
      go_wp2_with (first|(go_at_call 99;(with_reducible refine (bD.calls ((ay l0_1 x4_2).f0) a0_0 t148 _ A16.out).mono ?_);rintro e w' ⟨rfl,⟨nd,rfl⟩⟩;(try exact dw_);have p149:0≤(x4_2:Int):=od_;have q149:x4_2<(l0_1.length:Int):=od_;obtain⟨ad149,A149_1,c149_1,e149,hx149_0,hx149_1,hl149_1,hi149_1⟩:=iq HR0_1.out x4_2 p149 q149;obtain rfl:ad147=ad149:=(by injection e149);replace hx149_0:=(HB.out.cell (wl_ w _ hx149_0)).trans hx149_0;replace hx149_1:=(HB.out.cell (wl_ w _ hx149_1)).trans hx149_1;have HR149_1:=A_.mk hi149_1;have HC149_1:=A_.mk hl149_1;clear hi149_1 hl149_1;replace p149:=eq_true p149;replace q149:=eq_true q149;have ea_:=Option.some.inj (hx147_1.symm.trans hx149_1);injection ea_ with ea_ en_ ec_;subst ea_;subst ec_;clear en_)|(go_at_call 64;(with_reducible refine (aj.calls k2 _ _ ((ay l0_1 x4_2).f1) false _ ?side1 ?side2 A18.out).mono ?_);(case side1=>repeat (first|exact (Kd.cu HR149_1.out ((zA_ HB GE144)))|(with_reducible refine Kd.fo ?_ _)|(with_reducible refine Kd.fq ?_ _)|(with_reducible refine Kd.gI ?_)));(case side2=>exact HC149_1.out);rintro e w' ⟨rfl,⟨nd,rfl⟩⟩;(try exact dw_)))
      repeat (go_quiet (first|(go_at_call 99;(with_reducible refine (bD.calls ((ay l0_1 x4_2).f0) a0_0 t148 _ A16.out).mono ?_);rintro e w' ⟨rfl,⟨nd,rfl⟩⟩;(try exact dw_))|(go_at_call 64;(with_reducible refine (aj.calls k2 _ _ ((ay l0_1 x4_2).f1) false _ ?side1 ?side2 A18.out).mono ?_);(case side1=>repeat (first|exact (Kd.cu HR147_1.out ((zA_ HB GE144)))|(with_reducible refine Kd.fo ?_ _)|(with_reducible refine Kd.fq ?_ _)|(with_reducible refine Kd.gI ?_)));(case side2=>exact HC147_1.out);rintro e w' ⟨rfl,⟨nd,rfl⟩⟩;(try exact dw_)));try go_wp2_with (first|(go_at_call 99;(with_reducible refine (bD.calls ((ay l0_1 x4_2).f0) a0_0 t148 _ A16.out).mono ?_);rintro e w' ⟨rfl,⟨nd,rfl⟩⟩;(try exact dw_))|(go_at_call 64;(with_reducible refine (aj.calls k2 _ _ ((ay l0_1 x4_2).f1) false _ ?side1 ?side2 A18.out).mono ?_);(case side1=>repeat (first|exact (Kd.cu HR147_1.out ((zA_ HB GE144)))|(with_reducible refine Kd.fo ?_ _)|(with_reducible refine Kd.fq ?_ _)|(with_reducible refine Kd.gI ?_)));(case side2=>exact HC147_1.out);rintro e w' ⟨rfl,⟨nd,rfl⟩⟩;(try exact dw_))))
      go_ret
      exact⟨re_,(zA_ HB GE144)⟩
     subst c19
     have H1:(au.l0 k2 (l0_1.length:Int) (wrap64 (x4_2+1)) a0_0 l0_1 a0_2)=some r:=by rw [if_pos rfl] at H;exact H
     clear H
     have H:=H1
     clear H1
     have H':=A_.mk H
     clear H
     obtain⟨hcz20_0,hcz20_1,hcz20_2,hfz20_0,hfz20_1,hfz20_2⟩:=b3 BK144.out
     have p147:0≤(x4_2:Int):=od_
     have q147:x4_2<(l0_1.length:Int):=od_
     obtain⟨ad147,A147_1,c147_1,e147,hx147_0,hx147_1,hl147_1,hi147_1⟩:=iq HR0_1.out x4_2 p147 q147
     cases e147
     replace hx147_0:=(HB.out.cell (wl_ w _ hx147_0)).trans hx147_0
     replace hx147_1:=(HB.out.cell (wl_ w _ hx147_1)).trans hx147_1
     have HR147_1:=A_.mk hi147_1
     have HC147_1:=A_.mk hl147_1
     clear hi147_1 hl147_1
     replace p147:=eq_true p147
     replace q147:=eq_true q147
     go_wp2_with (first|(go_at_call 99;(with_reducible refine (bD.calls ((ay l0_1 x4_2).f0) a0_0 t148 _ A16.out).mono ?_);rintro e w' ⟨rfl,⟨nd,rfl⟩⟩;(try exact dw_);have p149:0≤(x4_2:Int):=od_;have q149:x4_2<(l0_1.length:Int):=od_;obtain⟨ad149,A149_1,c149_1,e149,hx149_0,hx149_1,hl149_1,hi149_1⟩:=iq HR0_1.out x4_2 p149 q149;obtain rfl:ad147=ad149:=(by injection e149);replace hx149_0:=(HB.out.cell (wl_ w _ hx149_0)).trans hx149_0;replace hx149_1:=(HB.out.cell (wl_ w _ hx149_1)).trans hx149_1;have HR149_1:=A_.mk hi149_1;have HC149_1:=A_.mk hl149_1;clear hi149_1 hl149_1;replace p149:=eq_true p149;replace q149:=eq_true q149;have ea_:=Option.some.inj (hx147_1.symm.trans hx149_1);injection ea_ with ea_ en_ ec_;subst ea_;subst ec_;clear en_)|(go_at_call 64;(with_reducible refine (aj.calls k2 _ _ ((ay l0_1 x4_2).f1) true _ ?side1 ?side2 A18.out).mono ?_);(case side1=>repeat (first|exact (Kd.cu HR149_1.out ((zA_ HB GE144)))|(with_reducible refine Kd.fo ?_ _)|(with_reducible refine Kd.fq ?_ _)|(with_reducible refine Kd.gI ?_)));(case side2=>exact HC149_1.out);rintro e w' ⟨rfl,⟨nd,rfl⟩⟩;(try exact dw_)))
     repeat (go_quiet (first|(go_at_call 99;(with_reducible refine (bD.calls ((ay l0_1 x4_2).f0) a0_0 t148 _ A16.out).mono ?_);rintro e w' ⟨rfl,⟨nd,rfl⟩⟩;(try exact dw_))|(go_at_call 64;(with_reducible refine (aj.calls k2 _ _ ((ay l0_1 x4_2).f1) true _ ?side1 ?side2 A18.out).mono ?_);(case side1=>repeat (first|exact (Kd.cu HR147_1.out ((zA_ HB GE144)))|(with_reducible refine Kd.fo ?_ _)|(with_reducible refine Kd.fq ?_ _)|(with_reducible refine Kd.gI ?_)));(case side2=>exact HC147_1.out);rintro e w' ⟨rfl,⟨nd,rfl⟩⟩;(try exact dw_)));try go_wp2_with (first|(go_at_call 99;(with_reducible refine (bD.calls ((ay l0_1 x4_2).f0) a0_0 t148 _ A16.out).mono ?_);rintro e w' ⟨rfl,⟨nd,rfl⟩⟩;(try exact dw_))|(go_at_call 64;(with_reducible refine (aj.calls k2 _ _ ((ay l0_1 x4_2).f1) true _ ?side1 ?side2 A18.out).mono ?_);(case side1=>repeat (first|exact (Kd.cu HR147_1.out ((zA_ HB GE144)))|(with_reducible refine Kd.fo ?_ _)|(with_reducible refine Kd.fq ?_ _)|(with_reducible refine Kd.gI ?_)));(case side2=>exact HC147_1.out);rintro e w' ⟨rfl,⟨nd,rfl⟩⟩;(try exact dw_))))
     go_roundg k2
     case measure=>have:=HJ1.out;have:=HK2.out;omega
     case rel=>exact ⟨(wrap64 (x4_2+1)),rs_,H',⟨by have:=HJ1.out;have:=HK2.out;omega⟩,⟨by (repeat apply bX);exact BK144.out⟩,⟨(zA_ HB GE144)⟩⟩
def bv.l0:Nat→Int→Int→List (List Int)→Option (Bool)
 | 0,_,_,_=>none
 | k+1,x3,x152000,x152001=>if x3<(x152001.length:Int) then (if 0≤x3 then ((aj.f k (dD x152001 x3)).bind fun t153=>(if t153=true then (bv.l0 k (wrap64 (x3+1)) x152000 x152001) else (some false))) else (none)) else ((aN.f x152000).bind fun t154=>(if t154=true then (some (decide ((x152001.length:Int)≤1000))) else (some false)))
def bv.f(k:Nat)(a0_0:Int)(l0_1:List (List Int)):Option (Bool):=bv.l0 k 0 a0_0 l0_1
theorem bv.calls(k:Nat)(a0_0:Int)(A0_1:Option Addr)(c0_1:Nat)(l0_1:List (List Int))(r:Bool)(w:World)(hr0_1:Kd.C (Kd.slice 3 (Kd.int .i64)) w A0_1 l0_1.length l0_1)(hc0_1:l0_1.length≤c0_1)(h:bv.f k a0_0 l0_1=some r) :
  Calls Tryz.prog 63 #[.agg #[.int .i64 a0_0,.slice A0_1 l0_1.length c0_1]] w fun e w'=>e=.returned (.bool r)∧Below w.heap.size w w':=by
 have hu37:=Tryz.underlying37
 have HR0_1:=A_.mk hr0_1
 have HC0_1:=A_.mk hc0_1
 clear hr0_1 hc0_1
 have HB:=A_.mk (Below.refl w.heap.size w)
 have H:(bv.l0 k 0 a0_0 l0_1)=some r:=h
 clear h
 have H':=A_.mk H
 clear H
 go_enter Tryz.func63,Tryz.ntmps63
 go_wp2_with (first|((with_reducible refine gd_ (N:=1) rfl ?_);(try (refine bn (by rfl) ?_;dsimp only));refine by_ 1 (cs:=#[.int .i64 a0_0,.slice A0_1 l0_1.length c0_1]) (t:=37) ?_;intro gb151 hg w2 hbox hb;have n0_:=A_.mk (bt_ (beY HB.out) hb);have n1_:=A_.mk (hbox);have n2_:=A_.mk ((by rw [hg];exact(bz_ (beY HB.out)):w.heap.size≤gb151));have n3_:=A_.mk ((by rw [hg];exact(bz_ (beY HB.out)):w.heap.size≤gb151));clear HB;have HB:=n0_;have BK151:=n1_;have GW151:=n2_;have GE151:=n3_;clear n0_ n1_ n2_ n3_ hb hbox hg))
 go_loopg [3] k (fun kq v3 w'=>∃ (x3_1:Int),v3=.int .i64 x3_1∧A_ (bv.l0 kq x3_1 a0_0 l0_1=some r)∧A_ (kq≤k)∧A_ (w'.heap[gb151]?=some (.cells #[.int .i64 a0_0,(.slice A0_1 l0_1.length c0_1)] 37 (0,0)))∧A_ (Below w.heap.size w w'))
 case atStart=>exact ⟨(0),rs_,H',⟨Nat.le_refl _⟩,⟨by (repeat apply bX);exact BK151.out⟩,⟨(zA_ HB GE151)⟩⟩
 case round =>
  clear H'
  obtain⟨x3_1,rfl,HA,HK1,BK151,HB⟩:=hrel
  cases gk with
  | zero=>exact absurd HA.out (by simp [bv.l0])
  | succ k1 =>
   have H:=HA.out
   clear HA
   simp only [bv.l0] at H
   by_cases c3:x3_1<(l0_1.length:Int)
   rotate_left
   ·rw [if_neg c3] at H
    have c3b0:=decide_eq_false c3
    clear c3
    replace H:=oa_ H
    obtain⟨t154,A9,H⟩:=H
    by_cases c10:t154=true
    ·subst c10
     have H1:(some (decide ((l0_1.length:Int)≤1000)))=some r:=by rw [if_pos rfl] at H;exact H
     clear H
     have H:=H1
     clear H1
     obtain rfl:=Option.some.inj H
     obtain⟨hcz11_0,hcz11_1,hfz11_0,hfz11_1⟩:=b2 BK151.out
     go_wp2_with (first|((with_reducible refine gc_ (f:=65) rfl ?_);refine gl_ (some 20) Tryz.func65 #[.int .i64 a0_0] ?_;(with_reducible refine (aN.calls a0_0 true _ A9.out).mono ?_);rintro e w' ⟨rfl,⟨nd,rfl⟩⟩;refine⟨_,rfl,?_⟩))
     go_ret
     exact⟨re_,(zA_ HB GE151)⟩
    replace c10:=Bool.eq_false_iff.mpr c10
    subst c10
    have H1:(some false)=some r:=by rw [if_neg (show ¬ (false=true) by decide)] at H;exact H
    clear H
    have H:=H1
    clear H1
    obtain rfl:=Option.some.inj H
    obtain⟨hcz12_0,hcz12_1,hfz12_0,hfz12_1⟩:=b2 BK151.out
    go_wp2_with (first|((with_reducible refine gc_ (f:=65) rfl ?_);refine gl_ (some 20) Tryz.func65 #[.int .i64 a0_0] ?_;(with_reducible refine (aN.calls a0_0 false _ A9.out).mono ?_);rintro e w' ⟨rfl,⟨nd,rfl⟩⟩;refine⟨_,rfl,?_⟩))
    go_ret
    exact⟨re_,(zA_ HB GE151)⟩
   rw [if_pos c3] at H
   have c3b0:=decide_eq_true c3
   clear c3
   by_cases c4:0≤x3_1
   rotate_left
   ·rw [if_neg c4] at H
    exact absurd H (by simp)
   rw [if_pos c4] at H
   have c4b0:=decide_eq_true c4
   clear c4
   replace H:=oa_ H
   obtain⟨t153,A5,H⟩:=H
   by_cases c6:t153=true
   rotate_left
   ·replace c6:=Bool.eq_false_iff.mpr c6
    subst c6
    have H1:(some false)=some r:=by rw [if_neg (show ¬ (false=true) by decide)] at H;exact H
    clear H
    have H:=H1
    clear H1
    obtain rfl:=Option.some.inj H
    obtain⟨hcz8_0,hcz8_1,hfz8_0,hfz8_1⟩:=b2 BK151.out
    have p152:0≤(x3_1:Int):=od_
    have q152:x3_1<(l0_1.length:Int):=od_
    obtain⟨ad152,A152_0,c152_0,e152,hx152_0,hl152_0,hi152_0⟩:=ko HR0_1.out x3_1 p152 q152
    cases e152
    replace hx152_0:=(HB.out.cell (wl_ w _ hx152_0)).trans hx152_0
    have HR152_0:=A_.mk hi152_0
    have HC152_0:=A_.mk hl152_0
    clear hi152_0 hl152_0
    replace p152:=eq_true p152
    replace q152:=eq_true q152
    go_wp2_with (first|((with_reducible refine gc_ (f:=64) rfl ?_);refine gl_ (some 16) Tryz.func64 #[.slice A152_0 (dD l0_1 x3_1).length c152_0] ?_;(with_reducible refine (aj.calls k1 _ _ (dD l0_1 x3_1) false _ ?side1 ?side2 A5.out).mono ?_);(case side1=>exact cY ((cb_ HR152_0 HB)));(case side2=>exact HC152_0.out);rintro e w' ⟨rfl,⟨nd,rfl⟩⟩;refine⟨_,rfl,?_⟩))
    go_ret
    exact⟨re_,(zA_ HB GE151)⟩
   subst c6
   have H1:(bv.l0 k1 (wrap64 (x3_1+1)) a0_0 l0_1)=some r:=by rw [if_pos rfl] at H;exact H
   clear H
   have H:=H1
   clear H1
   have H':=A_.mk H
   clear H
   obtain⟨hcz7_0,hcz7_1,hfz7_0,hfz7_1⟩:=b2 BK151.out
   have p152:0≤(x3_1:Int):=od_
   have q152:x3_1<(l0_1.length:Int):=od_
   obtain⟨ad152,A152_0,c152_0,e152,hx152_0,hl152_0,hi152_0⟩:=ko HR0_1.out x3_1 p152 q152
   cases e152
   replace hx152_0:=(HB.out.cell (wl_ w _ hx152_0)).trans hx152_0
   have HR152_0:=A_.mk hi152_0
   have HC152_0:=A_.mk hl152_0
   clear hi152_0 hl152_0
   replace p152:=eq_true p152
   replace q152:=eq_true q152
   go_wp2_with (first|((with_reducible refine gc_ (f:=64) rfl ?_);refine gl_ (some 16) Tryz.func64 #[.slice A152_0 (dD l0_1 x3_1).length c152_0] ?_;(with_reducible refine (aj.calls k1 _ _ (dD l0_1 x3_1) true _ ?side1 ?side2 A5.out).mono ?_);(case side1=>exact cY ((cb_ HR152_0 HB)));(case side2=>exact HC152_0.out);rintro e w' ⟨rfl,⟨nd,rfl⟩⟩;refine⟨_,rfl,?_⟩))
   go_roundg k1
   case measure=>have:=HK1.out;omega
   case rel=>exact ⟨(wrap64 (x3_1+1)),rs_,H',⟨by have:=HK1.out;omega⟩,⟨by (repeat apply bX);exact BK151.out⟩,⟨(zA_ HB GE151)⟩⟩
def bK.l4:Nat→(List (List Int))→(Bool)→(Int)→Option ((Bool)×(Bool)×(Int))
 | 0,_,_,_=>none
 | k+1,l0_5,x4_s2,x4_s3=>(if x4_s3<(l0_5.length:Int) then (if 0≤x4_s3 then (if x4_s3<(l0_5.length:Int) then ((aj.f k (fG l0_5 x4_s3)).bind fun t3=>(if t3=true then (bK.l4 k l0_5 x4_s2 (wrap64 (x4_s3+1))) else (some (false,x4_s2,x4_s3)))) else none) else none) else (some (true,x4_s2,x4_s3)))
def bK.l7:Nat→(List Int)→(Bool)→(Int)→Option ((Bool)×(Bool)×(Int))
 | 0,_,_,_=>none
 | k+1,l0_6,x7_s2,x7_s4=>(if x7_s4<(l0_6.length:Int) then (if 0≤x7_s4 then (if x7_s4<(l0_6.length:Int) then ((aN.f (rd l0_6 x7_s4)).bind fun t4=>(if t4=true then (bK.l7 k l0_6 x7_s2 (wrap64 (x7_s4+1))) else ((aN.f (wrap64 ((rd l0_6 x7_s4)-100))).bind fun t5=>(if t5=true then (bK.l7 k l0_6 x7_s2 (wrap64 (x7_s4+1))) else (some (false,x7_s2,x7_s4)))))) else none) else none) else (some (true,x7_s2,x7_s4)))
def bK.f(k:Nat)(a0_0:Int)(l0_1:List (S68))(a0_2:Int)(a0_3:Int)(l0_4:List (List Int))(l0_5:List (List Int))(l0_6:List Int):Option ((Bool)):=((au.f k a0_0 l0_1 a0_2).bind fun t1=>(if t1=true then ((bv.f k a0_3 l0_4).bind fun t2=>(if t2=true then (if 8<(l0_5.length:Int) then (some (false)) else (if 8<(l0_6.length:Int) then (some (false)) else ((bK.l4 k l0_5 false 0).bind fun ⟨z4_b,z4_s2,z4_s3⟩=>(if z4_b=true then ((bK.l7 k l0_6 z4_s2 0).bind fun ⟨z7_b,z7_s2,z7_s4⟩=>(if z7_b=true then (some (true)) else (some (false)))) else (some (false)))))) else (some (false)))) else (some (false))))
theorem bK.calls(k:Nat)(a0_0:Int)(A0_1:Option Addr)(c0_1:Nat)(l0_1:List (S68))(a0_2:Int)(a0_3:Int)(A0_4:Option Addr)(c0_4:Nat)(l0_4:List (List Int))(A0_5:Option Addr)(c0_5:Nat)(l0_5:List (List Int))(A0_6:Option Addr)(c0_6:Nat)(l0_6:List Int)(r:Bool)(w:World)(hr0_1:Kd.C k68 w A0_1 l0_1.length l0_1)(hc0_1:l0_1.length≤c0_1)(hr0_4:Kd.C (Kd.slice 3 (Kd.int .i64)) w A0_4 l0_4.length l0_4)(hc0_4:l0_4.length≤c0_4)(hr0_5:Kd.C (Kd.slice 3 (Kd.int .i64)) w A0_5 l0_5.length l0_5)(hc0_5:l0_5.length≤c0_5)(hr0_6:Kd.C (Kd.int .i64) w A0_6 l0_6.length l0_6)(hc0_6:l0_6.length≤c0_6)(h:bK.f k a0_0 l0_1 a0_2 a0_3 l0_4 l0_5 l0_6=some r) :
  Calls Tryz.prog 27 #[.agg #[.int .i64 a0_0,.slice A0_1 l0_1.length c0_1,.int .i64 a0_2,.int .i64 a0_3,.slice A0_4 l0_4.length c0_4,.slice A0_5 l0_5.length c0_5,.slice A0_6 l0_6.length c0_6]] w fun e w'=>e=.returned (.bool r)∧Below w.heap.size w w':=by
 have HR0_1:=A_.mk hr0_1
 have HC0_1:=A_.mk hc0_1
 clear hr0_1 hc0_1
 have HR0_4:=A_.mk hr0_4
 have HC0_4:=A_.mk hc0_4
 clear hr0_4 hc0_4
 have HR0_5:=A_.mk hr0_5
 have HC0_5:=A_.mk hc0_5
 have HW0_5:=A_.mk hr0_5
 clear hr0_5 hc0_5
 have HR0_6:=A_.mk hr0_6
 have HC0_6:=A_.mk hc0_6
 have HW0_6:=A_.mk hr0_6
 clear hr0_6 hc0_6
 have HB:=A_.mk (Below.refl w.heap.size w)
 unfold bK.f at h
 have H:=h
 clear h
 replace H:=oa_ H
 obtain⟨t1,A2,H⟩:=H
 replace H:=A_.mk H
 have hu39:=Tryz.underlying39
 go_enter Tryz.func27,Tryz.ntmps27
 have HS:=A_.mk (Nat.le_refl w.heap.size)
 go_wp2_with (first|((with_reducible refine gd_ (N:=1) rfl ?_);refine by_ 1 (cs:=#[.int .i64 a0_0,.slice A0_1 l0_1.length c0_1,.int .i64 a0_2,.int .i64 a0_3,.slice A0_4 l0_4.length c0_4,.slice A0_5 l0_5.length c0_5,.slice A0_6 l0_6.length c0_6]) (t:=39) ?_;intro gb1_ hg w1_ hbox hb;replace HS:=aHg HS hg hbox;replace HB:=aHB HB hb;have BK1:=A_.mk hbox;clear hbox hb hg;have Q1:=aa BK1.out))
 refine(au.calls k a0_0 _ _ l0_1 a0_2 t1 _ (cb_ HR0_1 HB) HC0_1.out A2.out).mono ?_
 rintro e w2_ ⟨rfl,hb⟩
 replace HS:=aHs HS hb.size
 replace BK1:=aBb BK1 hb
 replace HB:=aHB HB hb
 clear hb  Q1
 have Q1:=aa BK1.out
 replace H:=H.out
 by_cases hc1_:t1=true
 case neg =>
  rw [if_neg hc1_] at H
  replace hc1_:=eq_false_of_ne_true hc1_
  subst hc1_
  replace H:=Option.some.inj H
  subst H
  go_wp2
  go_ret
  exact⟨rfl,HB.out⟩
 rw [if_pos hc1_] at H
 subst hc1_
 replace H:=oa_ H
 obtain⟨t2,A3,H⟩:=H
 replace H:=A_.mk H
 go_wp2_with (fail)
 refine(bv.calls k a0_3 _ _ l0_4 t2 _ (cb_ HR0_4 HB) HC0_4.out A3.out).mono ?_
 rintro e w3_ ⟨rfl,hb⟩
 replace HS:=aHs HS hb.size
 replace BK1:=aBb BK1 hb
 replace HB:=aHB HB hb
 clear hb  Q1
 have Q1:=aa BK1.out
 replace H:=H.out
 by_cases hc2_:t2=true
 case neg =>
  rw [if_neg hc2_] at H
  replace hc2_:=eq_false_of_ne_true hc2_
  subst hc2_
  replace H:=Option.some.inj H
  subst H
  go_wp2
  go_ret
  exact⟨rfl,HB.out⟩
 rw [if_pos hc2_] at H
 subst hc2_
 by_cases hc3_:8<(l0_5.length:Int)
 case pos =>
  rw [if_pos hc3_] at H
  have hc3_b0:=decide_eq_true hc3_
  have hc3_b1:decide (8<l0_5.length)=true:=decide_eq_true (by omega)
  replace hc3_:=A_.mk hc3_
  replace H:=Option.some.inj H
  subst H
  go_wp2
  go_ret
  exact⟨rfl,HB.out⟩
 rw [if_neg hc3_] at H
 have hc3_b0:=decide_eq_false hc3_
 have hc3_b1:decide (8<l0_5.length)=false:=decide_eq_false (by omega)
 replace hc3_:=A_.mk hc3_
 by_cases hc4_:8<(l0_6.length:Int)
 case pos =>
  rw [if_pos hc4_] at H
  have hc4_b0:=decide_eq_true hc4_
  have hc4_b1:decide (8<l0_6.length)=true:=decide_eq_true (by omega)
  replace hc4_:=A_.mk hc4_
  replace H:=Option.some.inj H
  subst H
  go_wp2
  go_ret
  exact⟨rfl,HB.out⟩
 rw [if_neg hc4_] at H
 have hc4_b0:=decide_eq_false hc4_
 have hc4_b1:decide (8<l0_6.length)=false:=decide_eq_false (by omega)
 replace hc4_:=A_.mk hc4_
 replace H:=ob_ H
 obtain⟨⟨z4_b,z4_s2,z4_s3⟩,AL_,H⟩:=H
 have HRL4:=A_.mk H
 have AL4:=A_.mk AL_
 clear H AL_
 go_wp2
 obtain⟨fp11_,hfp_⟩:=m0_ 0
 have hfb1_:fp11_ gb1_=0:=hfp_ _
 go_loopg [2,3] k (fun kq v2 v3 w'=>∃ (fx4_:Nat→Nat)   (x4_s2:Bool) (x4_s3:Int),v2=.bool x4_s2∧v3=.int .i64 x4_s3∧A_ (bK.l4 kq l0_5 x4_s2 x4_s3=some (z4_b,z4_s2,z4_s3))∧A_ (kq≤k)∧A_ (w'.heap[gb1_]?=some (.cells #[.int .i64 a0_0,.slice A0_1 l0_1.length c0_1,.int .i64 a0_2,.int .i64 a0_3,.slice A0_4 l0_4.length c0_4,.slice A0_5 l0_5.length c0_5,.slice A0_6 l0_6.length c0_6] 39 (0,0)))∧A_ (0≤fx4_ gb1_)∧A_ (Below w.heap.size w w')∧A_ (w3_.heap.size≤w'.heap.size))
 case atStart=>exact ⟨fp11_,false,0,rs_,rs_,AL4,⟨Nat.le_refl _⟩,BK1,⟨Nat.le_of_eq hfb1_.symm⟩,HB,⟨Nat.le_refl _⟩⟩
 case round =>
  clear AL4 HB BK1 Q1 hfp_ hfb1_
  obtain⟨fx4_,x4_s2,x4_s3,rfl,rfl,HA,HKL4,BK1,HG1_,HB,HSL_⟩:=hrel
  rename World=>wq4_
  replace HS:=aHs HS HSL_.out
  clear HSL_
  replace HS:=aHs HS HG1_.out
  clear HG1_
  cases gk with
  | zero=>exact absurd HA.out (by simp [bK.l4])
  | succ kq4_ =>
   have H:=HA.out
   clear HA
   simp only [bK.l4] at H
   have Q1:=aa BK1.out
   by_cases hc5_:x4_s3<(l0_5.length:Int)
   case neg =>
    rw [if_neg hc5_] at H
    have hc5_b0:=decide_eq_false hc5_
    have hc5_b1:decide (x4_s3<l0_5.length)=false:=decide_eq_false (by omega)
    replace H:=jE H
    obtain⟨rfl,rfl,rfl⟩:=H
    have H:=HRL4.out
    clear HRL4
    (try dsimp only at H)
    rw [if_pos rfl] at H
    replace H:=ob_ H
    obtain⟨⟨z7_b,z7_s2,z7_s4⟩,AL_,H⟩:=H
    have HRL7:=A_.mk H
    have AL7:=A_.mk AL_
    clear H AL_
    go_wp2
    obtain⟨fp12_,hfp_⟩:=m0_ 0
    have hfb1_:fp12_ gb1_=0:=hfp_ _
    go_loopg [2,4] k (fun kq v2 v4 w'=>∃ (fx7_:Nat→Nat)   (x7_s2:Bool) (x7_s4:Int),v2=.bool x7_s2∧v4=.int .i64 x7_s4∧A_ (bK.l7 kq l0_6 x7_s2 x7_s4=some (z7_b,z7_s2,z7_s4))∧A_ (kq≤k)∧A_ (w'.heap[gb1_]?=some (.cells #[.int .i64 a0_0,.slice A0_1 l0_1.length c0_1,.int .i64 a0_2,.int .i64 a0_3,.slice A0_4 l0_4.length c0_4,.slice A0_5 l0_5.length c0_5,.slice A0_6 l0_6.length c0_6] 39 (0,0)))∧A_ (0≤fx7_ gb1_)∧A_ (Below w.heap.size w w')∧A_ (wq4_.heap.size≤w'.heap.size))
    case atStart=>exact ⟨fp12_,x4_s2,0,rs_,rs_,AL7,⟨Nat.le_refl _⟩,BK1,⟨Nat.le_of_eq hfb1_.symm⟩,HB,⟨Nat.le_refl _⟩⟩
    case round =>
     clear AL7 HB BK1 Q1 hfp_ hfb1_
     obtain⟨fx7_,x7_s2,x7_s4,rfl,rfl,HA,HKL7,BK1,HG1_,HB,HSL_⟩:=hrel
     rename World=>wq7_
     replace HS:=aHs HS HSL_.out
     clear HSL_
     replace HS:=aHs HS HG1_.out
     clear HG1_
     cases gk with
     | zero=>exact absurd HA.out (by simp [bK.l7])
     | succ kq7_ =>
      have H:=HA.out
      clear HA
      simp only [bK.l7] at H
      have Q1:=aa BK1.out
      by_cases hc6_:x7_s4<(l0_6.length:Int)
      case neg =>
       rw [if_neg hc6_] at H
       have hc6_b0:=decide_eq_false hc6_
       have hc6_b1:decide (x7_s4<l0_6.length)=false:=decide_eq_false (by omega)
       replace H:=jE H
       obtain⟨rfl,rfl,rfl⟩:=H
       have H:=HRL7.out
       clear HRL7
       (try dsimp only at H)
       rw [if_pos rfl] at H
       replace H:=Option.some.inj H
       subst H
       go_wp2
       go_ret
       exact⟨rfl,HB.out⟩
      rw [if_pos hc6_] at H
      have hc6_b0:=decide_eq_true hc6_
      have hc6_b1:decide (x7_s4<l0_6.length)=true:=decide_eq_true (by omega)
      replace H:=ky H
      obtain⟨hp8_,hq8_,H⟩:=H
      have EB8:=A_.mk (And.intro hp8_ hq8_)
      obtain⟨ad8_,eA_,hx0_⟩:=Kd.d9 HW0_6.out x7_s4 hp8_ hq8_
      subst eA_
      have HX8:=A_.mk hx0_
      clear hx0_
      replace hp8_:=eq_true hp8_
      replace hq8_:=eq_true hq8_
      replace H:=oa_ H
      obtain⟨t4,A9,H⟩:=H
      replace H:=A_.mk H
      clear Q1
      have Q1:=aa BK1.out
      have QE8:=mE HB.out HX8.out
      go_wp2_with (fail)
      refine(aN.calls (rd l0_6 x7_s4) t4 _ A9.out).mono ?_
      rintro e w9_ ⟨rfl,hb⟩
      replace hb:=Drawn0.below hb
      replace HS:=aHs HS hb.size
      replace BK1:=aBb BK1 hb
      replace HB:=aHB HB hb
      clear hb  Q1 QE8
      have Q1:=aa BK1.out
      have QE8:=mE HB.out HX8.out
      replace H:=H.out
      by_cases hc7_:t4=true
      case pos =>
       rw [if_pos hc7_] at H
       subst hc7_
       have HA:=A_.mk H
       clear H
       go_wp2
       obtain⟨fp13_,hfp_⟩:=m0_ 0
       have hfb1_:fp13_ gb1_=0:=hfp_ _
       go_roundg kq7_
       case measure=>have:=HKL7.out;omega
       case rel=>exact ⟨fp13_,x7_s2,(wrap64 (x7_s4+1)),rs_,rs_,HA,⟨by have:=HKL7.out;omega⟩,BK1,⟨Nat.le_of_eq hfb1_.symm⟩,HB,⟨(ho_ HS)⟩⟩
      rw [if_neg hc7_] at H
      replace hc7_:=eq_false_of_ne_true hc7_
      subst hc7_
      replace H:=oa_ H
      obtain⟨t5,A10,H⟩:=H
      replace H:=A_.mk H
      clear Q1 QE8
      have Q1:=aa BK1.out
      have QE8:=mE HB.out HX8.out
      go_wp2_with (fail)
      refine(aN.calls (wrap64 ((rd l0_6 x7_s4)-100)) t5 _ A10.out).mono ?_
      rintro e w10_ ⟨rfl,hb⟩
      replace hb:=Drawn0.below hb
      replace HS:=aHs HS hb.size
      replace BK1:=aBb BK1 hb
      replace HB:=aHB HB hb
      clear hb  Q1 QE8
      have Q1:=aa BK1.out
      have QE8:=mE HB.out HX8.out
      replace H:=H.out
      by_cases hc8_:t5=true
      case pos =>
       rw [if_pos hc8_] at H
       subst hc8_
       have HA:=A_.mk H
       clear H
       go_wp2
       obtain⟨fp14_,hfp_⟩:=m0_ 0
       have hfb1_:fp14_ gb1_=0:=hfp_ _
       go_roundg kq7_
       case measure=>have:=HKL7.out;omega
       case rel=>exact ⟨fp14_,x7_s2,(wrap64 (x7_s4+1)),rs_,rs_,HA,⟨by have:=HKL7.out;omega⟩,BK1,⟨Nat.le_of_eq hfb1_.symm⟩,HB,⟨(ho_ HS)⟩⟩
      rw [if_neg hc8_] at H
      replace hc8_:=eq_false_of_ne_true hc8_
      subst hc8_
      replace H:=jE H
      obtain⟨rfl,rfl,rfl⟩:=H
      have H:=HRL7.out
      clear HRL7
      (try dsimp only at H)
      rw [if_neg (by decide)] at H
      replace H:=Option.some.inj H
      subst H
      go_wp2
      go_ret
      exact⟨rfl,HB.out⟩
   rw [if_pos hc5_] at H
   have hc5_b0:=decide_eq_true hc5_
   have hc5_b1:decide (x4_s3<l0_5.length)=true:=decide_eq_true (by omega)
   replace H:=ky H
   obtain⟨hp5_,hq5_,H⟩:=H
   have EB5:=A_.mk (And.intro hp5_ hq5_)
   obtain⟨ad5_,A5_0,c5_0,eA_,hx0_,hl0_,hi0_⟩:=xL HW0_5.out x4_s3 hp5_ hq5_
   subst eA_
   have HX5:=A_.mk hx0_
   have HE5_0:=A_.mk hi0_
   have HD5_0:=A_.mk hl0_
   clear hx0_ hl0_ hi0_
   replace hp5_:=eq_true hp5_
   replace hq5_:=eq_true hq5_
   replace H:=oa_ H
   obtain⟨t3,A6,H⟩:=H
   replace H:=A_.mk H
   clear Q1
   have Q1:=aa BK1.out
   have QE5:=mE HB.out HX5.out
   go_wp2_with (fail)
   refine(aj.calls kq4_ _ _ (fG l0_5 x4_s3) t3 _ (cb_ HE5_0 HB) HD5_0.out A6.out).mono ?_
   rintro e w6_ ⟨rfl,hb⟩
   replace hb:=Drawn0.below hb
   replace HS:=aHs HS hb.size
   replace BK1:=aBb BK1 hb
   replace HB:=aHB HB hb
   clear hb  Q1 QE5
   have Q1:=aa BK1.out
   have QE5:=mE HB.out HX5.out
   replace H:=H.out
   by_cases hc9_:t3=true
   case pos =>
    rw [if_pos hc9_] at H
    subst hc9_
    have HA:=A_.mk H
    clear H
    go_wp2
    obtain⟨fp15_,hfp_⟩:=m0_ 0
    have hfb1_:fp15_ gb1_=0:=hfp_ _
    go_roundg kq4_
    case measure=>have:=HKL4.out;omega
    case rel=>exact ⟨fp15_,x4_s2,(wrap64 (x4_s3+1)),rs_,rs_,HA,⟨by have:=HKL4.out;omega⟩,BK1,⟨Nat.le_of_eq hfb1_.symm⟩,HB,⟨(ho_ HS)⟩⟩
   rw [if_neg hc9_] at H
   replace hc9_:=eq_false_of_ne_true hc9_
   subst hc9_
   replace H:=jE H
   obtain⟨rfl,rfl,rfl⟩:=H
   have H:=HRL4.out
   clear HRL4
   (try dsimp only at H)
   rw [if_neg (by decide)] at H
   replace H:=Option.some.inj H
   subst H
   go_wp2
   go_ret
   exact⟨rfl,HB.out⟩
def eO.f(a0:Int):Option (Int):=(aN.f a0).bind fun t155=>(if t155=true then (some (Int.tmod (wrap64 (a0+1)) 16)) else (some (-1)))
theorem eO.calls(a0:Int)(r:Int)(w:World)(h:eO.f a0=some r) :
  Calls Tryz.prog 66 #[.int .i64 a0] w fun e w'=>e=.returned (.int .i64 r)∧Drawn0 w w':=by
 have H:((aN.f a0).bind fun t155=>(if t155=true then (some (Int.tmod (wrap64 (a0+1)) 16)) else (some (-1))))=some r:=h
 clear h
 replace H:=oa_ H
 obtain⟨t155,A2,H⟩:=H
 by_cases c3:t155=true
 ·subst c3
  have H1:(some (Int.tmod (wrap64 (a0+1)) 16))=some r:=by rw [if_pos rfl] at H;exact H
  clear H
  have H:=H1
  clear H1
  obtain rfl:=Option.some.inj H
  go_enter Tryz.func66,Tryz.ntmps66
  go_wp2_with (first|((with_reducible refine gc_ (f:=65) rfl ?_);refine gl_ (some 4) Tryz.func65 #[.int .i64 a0] ?_;(with_reducible refine (aN.calls a0 true _ A2.out).mono ?_);rintro e w' ⟨rfl,⟨nd,rfl⟩⟩;refine⟨_,rfl,?_⟩))
  go_ret
  exact dz_
 ·replace c3:=Bool.eq_false_iff.mpr c3
  subst c3
  have H1:(some (-1))=some r:=by rw [if_neg (show ¬ (false=true) by decide)] at H;exact H
  clear H
  have H:=H1
  clear H1
  obtain rfl:=Option.some.inj H
  go_enter Tryz.func66,Tryz.ntmps66
  go_wp2_with (first|((with_reducible refine gc_ (f:=65) rfl ?_);refine gl_ (some 4) Tryz.func65 #[.int .i64 a0] ?_;(with_reducible refine (aN.calls a0 false _ A2.out).mono ?_);rintro e w' ⟨rfl,⟨nd,rfl⟩⟩;refine⟨_,rfl,?_⟩))
  go_ret
  exact dz_
def fO.f(k:Nat)(a0_0:Int)(l0_1:List (S68))(a0_2:Int)(l1:List Int):Option ((Int)×(List (S68))×(Int)×(Bool)):=((aG.f k a0_0 l0_1 a0_2).bind fun ⟨t1,t2,t3⟩=>((au.f k a0_0 l0_1 a0_2).bind fun t4=>(if t4=true then ((aj.f k l1).bind fun t5=>(if t5=true then (if (l0_1.length:Int)=7 then (some (t1,t2,t3,false)) else (if (([]:List Int).length+l1.length)*8≤140737488355328 then (if (t2.length+1)*32≤140737488355328 then ((eO.f a0_0).bind fun t9=>(some (t9,(t2++[(⟨a0_0,(([]:List Int)++l1)⟩:S68)]),t3,true))) else none) else none)) else (some (t1,t2,t3,false)))) else (some (t1,t2,t3,false)))))
theorem fO.calls(k:Nat)(a0_0:Int)(A0_1:Option Addr)(c0_1:Nat)(l0_1:List (S68))(a0_2:Int)(A1:Option Addr)(c1:Nat)(l1:List Int)(r1:Int)(r2:List (S68))(r3:Int)(r4:Bool)(w:World)(hr0_1:Kd.C k68 w A0_1 l0_1.length l0_1)(hc0_1:l0_1.length≤c0_1)(hr1:Kd.C (Kd.int .i64) w A1 l1.length l1)(hc1:l1.length≤c1)(h:fO.f k a0_0 l0_1 a0_2 l1=some (r1,r2,r3,r4)) :
  Calls Tryz.prog 29 #[.agg #[.int .i64 a0_0,.slice A0_1 l0_1.length c0_1,.int .i64 a0_2],.slice A1 l1.length c1] w fun e w'=>∃ v0_:Value,e=.returned (.tuple #[.agg #[.int .i64 r1,v0_,.int .i64 r3],.bool r4])∧Kd.V k68 68 w' w.heap.size (fun k_=>w.heap.size≤k_) v0_ r2∧Below w.heap.size w w':=by
 have HR0_1:=A_.mk hr0_1
 have HC0_1:=A_.mk hc0_1
 clear hr0_1 hc0_1
 have HR1:=A_.mk hr1
 have HC1:=A_.mk hc1
 clear hr1 hc1
 have HB:=A_.mk (Below.refl w.heap.size w)
 unfold fO.f at h
 have H:=h
 clear h
 replace H:=oa_ H
 obtain⟨⟨t1,t2,t3⟩,A3,H⟩:=H
 try dsimp only at H
 replace H:=oa_ H
 obtain⟨t4,A6,H⟩:=H
 replace H:=A_.mk H
 have hu36:=Tryz.underlying36
 go_enter Tryz.func29,Tryz.ntmps29
 have HS:=A_.mk (Nat.le_refl w.heap.size)
 go_wp2_with (first|((with_reducible refine gd_ (N:=2) rfl ?_);refine by_ 2 (cs:=#[.int .i64 a0_0,.slice A0_1 l0_1.length c0_1,.int .i64 a0_2]) (t:=36) ?_;intro gb1_ hg w1_ hbox hb;replace HS:=aHg HS hg hbox;replace HB:=aHB HB hb;have BK1:=A_.mk hbox;clear hbox hb hg)|((with_reducible refine gd_ (N:=4) rfl ?_);refine by_ 4 (cs:=#[.int .i64 0,.slice none 0 0,.int .i64 0]) (t:=36) ?_;intro gb2_ hg w2_ hbox hb;replace HS:=aHg HS hg hbox;replace BK1:=aBb BK1 hb;replace HB:=aHB HB hb;have BK2:=A_.mk hbox;clear hbox hb hg;have Q1:=av BK1.out)|((with_reducible refine gc_ (f:=60) rfl ?_);refine gl_ (some 8) Tryz.func60 #[.agg #[.int .i64 a0_0,.slice A0_1 l0_1.length c0_1,.int .i64 a0_2]] ?_;(with_reducible refine (aG.calls k a0_0 _ _ l0_1 a0_2 t1 t2 t3 _ (cb_ HR0_1 HB) HC0_1.out A3.out).mono ?_);rintro e w3_ ⟨v1_,rfl,ho0_,hb⟩;refine⟨_,rfl,?_⟩;replace HS:=aHs HS hb.size;obtain⟨Ao3_1,co3_1,rfl,HO3_1⟩:=sSm ho0_ HB.out.size;revert BK1 HB BK2;refine aD hb ?_;intro BK1 HB BK2;clear hb ho0_ Q1)|((with_reducible refine gd_ (N:=6) rfl ?_);refine by_ 6 (cs:=#[.int .i64 0,.slice none 0 0,.int .i64 0]) (t:=36) ?_;intro gb4_ hg w4_ hbox hb;replace HS:=aHg HS hg hbox;revert HO3_1 BK1 HB BK2;refine aD hb ?_;intro HO3_1 BK1 HB BK2;have BK4:=A_.mk hbox;clear hbox hb hg;have Q4:=av BK4.out)|((with_reducible refine ae (t:=36) (p:=6) rfl ?_);obtain⟨qf0,qf1,qf2⟩:=eT BK4;refine so_ (w1:=(iN w4_ gb4_ (.int .i64 t1) (.slice Ao3_1 t2.length co3_1) (.int .i64 t3))) ?_;intro w5_ hw;clear qf0 qf1 qf2;obtain⟨hbx,hkp,hbb⟩:=iT hw BK4 HB (ho_ HS);clear hw;revert HO3_1 BK1 BK2;refine bC hkp HS ?_;intro HO3_1 BK1 BK2;replace BK4:=A_.mk hbx;replace HB:=A_.mk hbb;replace HS:=aHs HS hkp.1;clear hkp hbb hbx Q4;have Q1:=av BK1.out))
 refine(au.calls k a0_0 _ _ l0_1 a0_2 t4 _ (cb_ HR0_1 HB) HC0_1.out A6.out).mono ?_
 rintro e w6_ ⟨rfl,hb⟩
 revert HO3_1 BK1 BK2 BK4 HB HS
 refine aD hb ?_
 intro HO3_1 BK1 BK2 BK4 HB HS
 clear hb  Q1
 have Q1:=av BK1.out
 have Q2:=av BK2.out
 have Q4:=av BK4.out
 replace H:=H.out
 by_cases hc1_:t4=true
 case neg =>
  rw [if_neg hc1_] at H
  replace hc1_:=eq_false_of_ne_true hc1_
  subst hc1_
  replace H:=mo H
  obtain⟨rfl,rfl,rfl,rfl⟩:=H
  go_wp2_with (first|((with_reducible refine ae (t:=36) (p:=4) rfl ?_);obtain⟨qf0,qf1,qf2⟩:=eT BK2;refine so_ (w1:=(iN w6_ gb2_ (.int .i64 t1) (.slice Ao3_1 t2.length co3_1) (.int .i64 t3))) ?_;intro w17_ hw;clear qf0 qf1 qf2;obtain⟨hbx,hkp,hbb⟩:=iT hw BK2 HB (ho_ HS);clear hw;replace HO3_1:=aSk HO3_1 hkp HS;replace BK2:=A_.mk hbx;replace HB:=A_.mk hbb;replace HS:=aHs HS hkp.1;clear hkp hbb hbx Q1 Q2 Q4))
  refine bodyPost_ret (aM rfl _ _ gb2_ 36 _ (0,0) _ rfl BK2.out Tryz.underlying36 rfl (by kernel_rfl)) rfl ?_
  exact⟨_,rfl,Kd.aW (Kd.S_V HO3_1.out) (hk_ HS),HB.out⟩
 rw [if_pos hc1_] at H
 subst hc1_
 replace H:=oa_ H
 obtain⟨t5,A7,H⟩:=H
 replace H:=A_.mk H
 go_wp2_with (fail)
 refine(aj.calls k _ _ l1 t5 _ (cb_ HR1 HB) HC1.out A7.out).mono ?_
 rintro e w7_ ⟨rfl,hb⟩
 replace hb:=Drawn0.below hb
 replace HS:=aHs HS hb.size
 replace HO3_1:=aSb HO3_1 hb
 replace BK1:=aBb BK1 hb
 replace BK2:=aBb BK2 hb
 replace BK4:=aBb BK4 hb
 replace HB:=aHB HB hb
 clear hb  Q1 Q2 Q4
 have Q1:=av BK1.out
 have Q2:=av BK2.out
 have Q4:=av BK4.out
 replace H:=H.out
 by_cases hc2_:t5=true
 case neg =>
  rw [if_neg hc2_] at H
  replace hc2_:=eq_false_of_ne_true hc2_
  subst hc2_
  replace H:=mo H
  obtain⟨rfl,rfl,rfl,rfl⟩:=H
  go_wp2_with (first|((with_reducible refine ae (t:=36) (p:=4) rfl ?_);obtain⟨qf0,qf1,qf2⟩:=eT BK2;refine so_ (w1:=(iN w7_ gb2_ (.int .i64 t1) (.slice Ao3_1 t2.length co3_1) (.int .i64 t3))) ?_;intro w16_ hw;clear qf0 qf1 qf2;obtain⟨hbx,hkp,hbb⟩:=iT hw BK2 HB (ho_ HS);clear hw;replace HO3_1:=aSk HO3_1 hkp HS;replace BK2:=A_.mk hbx;replace HB:=A_.mk hbb;replace HS:=aHs HS hkp.1;clear hkp hbb hbx Q1 Q2 Q4))
  refine bodyPost_ret (aM rfl _ _ gb2_ 36 _ (0,0) _ rfl BK2.out Tryz.underlying36 rfl (by kernel_rfl)) rfl ?_
  exact⟨_,rfl,Kd.aW (Kd.S_V HO3_1.out) (hk_ HS),HB.out⟩
 rw [if_pos hc2_] at H
 subst hc2_
 by_cases hc3_:(l0_1.length:Int)=7
 case pos =>
  rw [if_pos hc3_] at H
  have hc3_b1:(l0_1.length==7)=true:=by first|simpa using hc3_|(simp at hc3_ ⊢;omega)
  replace hc3_:=iF hc3_
  replace H:=mo H
  obtain⟨rfl,rfl,rfl,rfl⟩:=H
  go_wp2_with (first|((with_reducible refine ae (t:=36) (p:=4) rfl ?_);obtain⟨qf0,qf1,qf2⟩:=eT BK2;refine so_ (w1:=(iN w7_ gb2_ (.int .i64 t1) (.slice Ao3_1 t2.length co3_1) (.int .i64 t3))) ?_;intro w8_ hw;clear qf0 qf1 qf2;obtain⟨hbx,hkp,hbb⟩:=iT hw BK2 HB (ho_ HS);clear hw;replace HO3_1:=aSk HO3_1 hkp HS;replace BK2:=A_.mk hbx;replace HB:=A_.mk hbb;replace HS:=aHs HS hkp.1;clear hkp hbb hbx Q1 Q2 Q4))
  refine bodyPost_ret (aM rfl _ _ gb2_ 36 _ (0,0) _ rfl BK2.out Tryz.underlying36 rfl (by kernel_rfl)) rfl ?_
  exact⟨_,rfl,Kd.aW (Kd.S_V HO3_1.out) (hk_ HS),HB.out⟩
 rw [if_neg hc3_] at H
 have hc3_b:=iE hc3_
 have hc3_b1:(l0_1.length==7)=false:=by first|simpa using hc3_|(simp at hc3_ ⊢;omega)
 obtain⟨y6,Ny6⟩:=le_ (([]:List Int))
 rw [←Ny6.out] at H
 replace H:=lM H
 obtain⟨LM10,H⟩:=H
 obtain⟨y7,Ny7⟩:=le_ ((y6++l1))
 rw [←Ny7.out] at H
 replace H:=lM H
 obtain⟨LM11,H⟩:=H
 obtain⟨y8,Ny8⟩:=le_ ((t2++[(⟨a0_0,y7⟩:S68)]))
 rw [←Ny8.out] at H
 replace H:=oa_ H
 obtain⟨t9,A13,H⟩:=H
 replace H:=mo H
 obtain⟨rfl,rfl,rfl,rfl⟩:=H
 go_wp2_with (fail)
 refine dN (n:=12) (S:=fun w'=>(w'.cell? ⟨gb1_,0,none⟩=some (.int .i64 a0_0)∧w'.cell? ⟨gb1_,1,none⟩=some (.slice A0_1 l0_1.length c0_1)∧w'.cell? ⟨gb1_,2,none⟩=some (.int .i64 a0_2))∧(w'.cell? ⟨gb4_,0,none⟩=some (.int .i64 t1)∧w'.cell? ⟨gb4_,1,none⟩=some (.slice Ao3_1 t2.length co3_1)∧w'.cell? ⟨gb4_,2,none⟩=some (.int .i64 t3))) (ds:=[11]) #[F,F,F,F,F,F,F,F,F,F,F,F] (by kernel_rfl) rfl rfl ⟨av BK1.out,av BK4.out⟩ (fun hHeld=>?_)
 clear Q1 Q2 Q4
 have hb:=aV (Below.refl w7_.heap.size w7_)
 replace HS:=aHs HS hb.size
 replace HO3_1:=aSb HO3_1 hb
 replace BK1:=aBb BK1 hb
 replace BK2:=aBb BK2 hb
 replace BK4:=aBb BK4 hb
 replace HB:=aHB HB hb
 clear hb
 generalize w7_.drew=w18d_ at HO3_1 BK1 BK2 BK4 HB HS hHeld ⊢
 refine pd_ (i:=0) (N:=some 24) #[T,F,F,F,F,F,F,F,F,F,F,F] rfl ?_
 refine tl_ (i:=1) (N:=some 25) #[T,T,F,F,F,F,F,F,F,F,F,F] rfl hHeld ?_
 refine pd_ (i:=2) (N:=some 26) #[T,T,T,F,F,F,F,F,F,F,F,F] rfl ?_
 refine tl_ (i:=3) (N:=some 27) #[T,T,T,T,F,F,F,F,F,F,F,F] rfl hHeld ?_
 refine pd_ (i:=5) (N:=some 29) #[T,T,T,T,F,T,F,F,F,F,F,F] rfl ?_
 refine on_ (i:=4) (N:=some 28) #[T,T,T,T,T,T,F,F,F,F,F,F] rfl (fun K hK=>?_)
 refine Kd.fB (Kd.int .i64) (w0:=w) w.heap.size 3 (by rfl) (N:=28) rfl (xs:=[]) (inner:=[]) (ok:=fun k_=>w18d_.heap.size≤k_) (okp:=fun k_=>w18d_.heap.size≤k_) ?lR ?lP (fun _ hk=>hk) (Nat.le_refl _) HB.out HB.out.size (by simp) ?_
 case lR=>first|(go_simp;done)|(go_simp;rfl)
 case lP=>exact (Reps.none _ _)
 intro v_ w9_ ho hbb hg_ hn_
 clear hn_
 rw [←Ny6.out] at ho
 have hkp:Kept w18d_ w9_ (fun k_=>k_<0):=Kept.aZ hg_ (Kept.refl _ _) (fun k_ e_=>by cases e_)
 revert HO3_1 BK1 BK2 BK4
 refine bC hkp HS ?_
 intro HO3_1 BK1 BK2 BK4
 replace HS:=aHs HS hkp.1
 obtain⟨Ao9,co9,ev_⟩:=Kd.aX ho
 subst ev_
 have HO9:=A_.mk (Kd.aC (ok':=(fun k_=>((w18d_.heap.size≤k_∧k_<w9_.heap.size)))) (Kd.bP ho) (fun k_ hk_=>⟨hk_.1,hk_.2.2.1⟩))
 replace HB:=A_.mk hbb
 clear hkp hbb hg_ ho
 refine hK.out _ _ ⟨av BK1.out,av BK4.out⟩ (fun hHeld=>?_)
 clear hK K
 refine nm_ ?_
 refine on_ (i:=6) (N:=some 30) #[T,T,T,T,T,T,T,F,F,F,F,F] rfl (fun K hK=>?_)
 refine Kd.bq (Kd.int .i64) (Rr:=fun x_ cs_=>cs_=[.int .i64 x_]) (w0:=w) w.heap.size (by rfl) (.tmp 28) (.tmp 29) 28 3 ((.int .i64 0)) 8 rfl Tryz.underlying28 info3 rfl (by decide) (by omega) (.slice Ao9 y6.length co9) y6 l1 _ _ _ (fun k_=>(((w18d_.heap.size≤k_∧k_<w9_.heap.size)))∨w9_.heap.size≤k_) (fun _=>False) rfl rfl (Kd.aC HO9.out (fun _ hk=>.inl hk)) (cb_ HR1 HB) (fun _ _ h_=>h_) (fun _ hk=>hk.elim) (fun _ hk=>.inr hk) HB.out HB.out.size ?aL ?_
 case aL=>have:=LM10.out;omega
 intro v_ w10_ ho hbb hg hat
 clear hat
 rw [←Ny7.out] at ho
 have hkp:Kept w9_ w10_ (fun k_=>((w18d_.heap.size≤k_∧k_<w9_.heap.size))):=Kept.aZ hg (Kept.refl _ _) (fun k_ e_=>.inl (HO9.out.1 k_ e_))
 revert HO3_1 BK1 BK2 BK4
 refine bC hkp HS ?_
 intro HO3_1 BK1 BK2 BK4
 replace HS:=aHs HS hkp.1
 obtain⟨Ao10,co10,ev_⟩:=Kd.aX ho
 subst ev_
 have HO10:=A_.mk (Kd.aC (ok':=(fun k_=>((w18d_.heap.size≤k_∧k_<w9_.heap.size))∨((w9_.heap.size≤k_∧k_<w10_.heap.size)))) (Kd.bP ho) (fun k_ hk_=>by have:=hk_.1;have:=hk_.2.2.1;have:=hk_.2.1;clear hk_;(try dsimp only at *);have:=HS.out;omega))
 replace HB:=A_.mk hbb
 clear hkp hbb hg ho HO9
 refine hK.out _ _ ⟨av BK1.out,av BK4.out⟩ (fun hHeld=>?_)
 clear hK K
 refine nm_ ?_
 refine pd_ (i:=7) (N:=some 31) #[T,T,T,T,T,T,T,T,F,F,F,F] rfl ?_
 refine on_ (i:=8) (N:=some 32) #[T,T,T,T,T,T,T,T,T,F,F,F] rfl (fun K hK=>?_)
 refine kN (w1:=?_) (v:=?_) (by rfl) rfl ?_ ?_
 rotate_left 2
 ·go_simp
  constructor
  ·rfl
  ·rfl
 refine hK.out _ _ ⟨av (bl_ BK1.out _),av (bl_ BK4.out _)⟩ (fun hHeld=>?_)
 clear hK K
 refine nm_ ?_
 refine on_ (i:=9) (N:=some 33) #[T,T,T,T,T,T,T,T,T,T,F,F] rfl (fun K hK=>?_)
 refine Kd.gu k68 (w0:=w) w.heap.size (by rfl) (.tmp 25) (.tmp 32) 34 68 ((.agg #[(.int .i64 0),(.slice none 0 0)])) 32 rfl Tryz.underlying34 info68 rfl (by decide) (by omega) (.slice Ao3_1 t2.length co3_1) t2 (⟨a0_0,y7⟩:S68) [.int .i64 a0_0,.slice Ao10 y7.length co10] (fun k_=>(((w2_.heap.size≤k_∧k_<w3_.heap.size)))∨(((w18d_.heap.size≤k_∧k_<w9_.heap.size))∨((w9_.heap.size≤k_∧k_<w10_.heap.size)))∨w10_.heap.size≤k_) (fun k_=>((w18d_.heap.size≤k_∧k_<w9_.heap.size))∨((w9_.heap.size≤k_∧k_<w10_.heap.size))) rfl rfl ?aP ?aQ ?aF ?aO HB.out HB.out.size ?aL ?_
 case aP=>exact kJ _ _ _ (⟨a0_0,y7⟩:S68) HO10.out
 case aQ=>exact fun k_ hk_=>⟨.inr (.inl hk_),fun e_=>by have:=(Kd.S_R HO3_1.out).1 k_ e_.symm;clear e_;have:=HS.out;omega⟩
 case aF=>exact fun k_ hk_=>.inr (.inr hk_)
 case aO=>exact Kd.dw HO3_1.out (fun k_ hk_=>⟨.inl hk_,fun e_=>by have:=HS.out;omega⟩)
 case aL=>have:=LM11.out;omega
 intro v_ w11_ ho hbb hg hat
 clear hat
 rw [←Ny8.out] at ho
 have hkp:Kept w10_ w11_ (fun k_=>((w2_.heap.size≤k_∧k_<w3_.heap.size))):=Kept.aZ hg (Kept.refl _ _) (fun k_ e_=>.inl ((Kd.S_R HO3_1.out).1 k_ e_))
 revert BK1 BK2 BK4
 refine bC hkp HS ?_
 intro BK1 BK2 BK4
 replace HS:=aHs HS hkp.1
 obtain⟨Ao11,co11,ev_⟩:=Kd.dx ho
 subst ev_
 have HO11:=A_.mk (Kd.dw (ok':=(fun k_=>((w2_.heap.size≤k_∧k_<w3_.heap.size))∨((w18d_.heap.size≤k_∧k_<w9_.heap.size))∨((w9_.heap.size≤k_∧k_<w10_.heap.size))∨((w10_.heap.size≤k_∧k_<w11_.heap.size)))) (Kd.ik ho) (fun k_ hk_=>by have:=hk_.1;have:=hk_.2.2.1;have:=hk_.2.1;clear hk_;have:=HS.out;omega))
 replace HB:=A_.mk hbb
 clear hkp hbb hg ho HO3_1 HO10
 refine hK.out _ _ ⟨av BK1.out,av BK4.out⟩ (fun hHeld=>?_)
 clear hK K
 refine nm_ ?_
 refine pd_ (i:=10) (N:=some 34) #[T,T,T,T,T,T,T,T,T,T,T,F] rfl ?_
 refine gG (i:=11) (N:=none) #[T,T,T,T,T,T,T,T,T,T,T,T] rfl rfl (by kernel_rfl) (by decide) (fun K hK=>?_)
 have Q1:=av BK1.out
 have Q2:=av BK2.out
 have Q4:=av BK4.out
 have qf0:=bf_ BK4.out 1
 obtain⟨w12_,hw⟩:=lw_ ((w11_.setCell ⟨gb4_,1,none⟩ (.slice Ao11 y8.length co11)))
 refine fT (w1:=w12_) (by rfl) rfl ?_ ?_
 ·rw [hw];go_simp;try rfl
 refine hK.out _ _ ?_
 clear hK K qf0 Q1 Q2 Q4
 obtain⟨hbx,hkp,hbb⟩:=nN hw BK4 HB (ho_ HS)
 clear hw
 revert BK1 BK2 HO11
 refine bC hkp HS ?_
 intro BK1 BK2 HO11
 replace BK4:=A_.mk hbx
 replace HB:=A_.mk hbb
 replace HS:=aHs HS hkp.1
 clear hkp hbb hbx
 refine fA (by kernel_rfl) ?_
 have Q1:=av BK1.out
 go_wp2_with (first|((with_reducible refine gc_ (f:=66) rfl ?_);refine gl_ (some 37) Tryz.func66 #[.int .i64 a0_0] ?_;(with_reducible refine (eO.calls a0_0 t9 _ A13.out).mono ?_);rintro e w13_ ⟨rfl,hb⟩;refine⟨_,rfl,?_⟩;replace hb:=Drawn0.below hb;revert BK2 HO11 BK4 HB HS;refine aD hb ?_;intro BK2 HO11 BK4 HB HS;clear hb  Q1;have Q4:=av BK4.out)|((with_reducible refine ae (t:=3) (p:=38) rfl ?_);have qf0:=bf_ BK4.out 0;refine so_ (w1:=(w13_.setCell ⟨gb4_,0,none⟩ (.int .i64 t9))) ?_;intro w14_ hw;clear qf0;obtain⟨hbx,hkp,hbb⟩:=sN hw BK4 HB (ho_ HS);clear hw;replace HO11:=aSk HO11 hkp HS;replace BK2:=aBk BK2 hkp HS;replace BK4:=A_.mk hbx;replace HB:=A_.mk hbb;replace HS:=aHs HS hkp.1;clear hkp hbb hbx Q4;have Q2:=av BK2.out;have Q4:=av BK4.out)|((with_reducible refine ae (t:=36) (p:=4) rfl ?_);obtain⟨qf0,qf1,qf2⟩:=eT BK2;refine so_ (w1:=(iN w14_ gb2_ (.int .i64 t9) (.slice Ao11 y8.length co11) (.int .i64 t3))) ?_;intro w15_ hw;clear qf0 qf1 qf2;obtain⟨hbx,hkp,hbb⟩:=iT hw BK2 HB (ho_ HS);clear hw;replace HO11:=aSk HO11 hkp HS;replace BK2:=A_.mk hbx;replace HB:=A_.mk hbb;replace HS:=aHs HS hkp.1;clear hkp hbb hbx Q2 Q4))
 refine bodyPost_ret (aM rfl _ _ gb2_ 36 _ (0,0) _ rfl BK2.out Tryz.underlying36 rfl (by kernel_rfl)) rfl ?_
 exact⟨_,rfl,Kd.aW (Kd.S_V HO11.out) (hk_ HS),HB.out⟩
end Go.Proofs.YtmdehehgmnihpaaGreat.PFnExactLinkStep
