import Derived.Test.YtmdehehgmnihpaaGreatProg
import Derived.Test.YtmdehehgmnihpaaGreatV
import Derived.Below
import Derived.Deep.Draws
import Derived.Deep.AppendLies
import Derived.Maps.AppendAt
import Derived.OwnWalk
import Derived.Laws.BytesArg
import Derived.Laws.MakeOwn
import Derived.Laws.OwnMore
import Derived.Deep.OwnRows
import Derived.Tactics
import Derived.Lib.ConvBytes
import Derived.Laws.Slices
import Derived.WalkKit
import Derived.KernelRfl
import Derived.RowKit3
import Derived.Deep.LoopGhost
import Derived.Deep.QuietTactic
import Derived.BigQuiet
import Derived.WideLaws
import Derived.Deep.DeepCutAuto
import Derived.Deep.CutBlock
import Derived.Deep.RegionHeld3
import Derived.Laws.Rows
import Derived.Lib.AppendStr
import Derived.ArgAppend
import Derived.Laws.IdiomCopy
import Derived.OrdersHeld
import Derived.Laws.BitsLemmas
import Derived.RowKit
namespace Go.Proofs.YtmdehehgmnihpaaGreat.PFnExactLinkStep
open Go.RowKit Go.Proofs.YtmdehehgmnihpaaGreatW.PrintWords Go.Proofs.YtmdehehgmnihpaaGreatW.PrintLast Go.Proofs.YtmdehehgmnihpaaGreatW.PrintMore
attribute [local go_sem] dM dL eu ek dn dm dJ dK
set_option linter.unusedVariables false
set_option linter.unusedSimpArgs false
def errW:Option Int→Value
 | none=>.nilIface
 | some c=>.iface 0 (.int .i64 c)
theorem dQ:errW none=.nilIface:=rfl
theorem dR(c:Int):errW (some c)=.iface 0 (.int .i64 c):=rfl
theorem info3:(Tryz.prog.info? 3).map (fun i=>(i.zero,i.size,i.bytes))=some (some (.int .i64 0),1,8):=by kernel_rfl
theorem info28:(Tryz.prog.info? 28).map (fun i=>(i.zero,i.size,i.bytes))=some (some (.slice none 0 0),1,24):=by kernel_rfl
theorem info68:(Tryz.prog.info? 68).map (fun i=>(i.zero,i.size,i.bytes))=some (some (.agg #[(.int .i64 0),(.slice none 0 0)]),2,32):=by kernel_rfl
-- the values' own types
def dD(xs:List (List Int))(i:Int):(List Int):=xs.getD i.toNat ([]:List Int)
theorem ko{w:World}{A:Option Addr}{n:Nat}{xs:List (List Int)}(h:Kd.C (Kd.slice 3 (Kd.int .i64)) w A n xs)(i:Int)(h0:0≤i)(h1:i<n):∃ ad A0 c0,A=some ad∧w.cell? (ad.add i.toNat)=some (.slice A0 (dD xs i).length c0)∧(dD xs i).length≤c0∧(Kd.int .i64).C w A0 (dD xs i).length (dD xs i):=by
 obtain⟨ad,c,e,_,hK,hc0⟩:=Kd.qQ h ([]:List Int) i h0 h1
 have hc:∀ j u,c[j]?=some u→w.cell? (ad.add (i.toNat*1+j))=some u:=hc0
 obtain⟨A0,c0,rfl,l0,g0⟩:=hK
 exact⟨ad,A0,c0,e,by have hq:=hc 0 _ rfl;rwa [Nat.mul_one,Nat.add_zero] at hq,l0,g0⟩
structure S68 where
 f0:Int
 f1:(List Int)
def z68:S68:=⟨(0:Int),([]:List Int)⟩
def k68:Kd S68:=Kd.iso (Kd.pair (Kd.int .i64) (Kd.slice 3 (Kd.int .i64))) (fun x:S68=>(x.f0,x.f1))
theorem vO{w:World}{x:S68}{cs:List Value}(h:k68.K w x cs):∃ A1 c1,cs=[.int .i64 x.f0,.slice A1 x.f1.length c1]∧x.f1.length≤c1∧(Kd.int .i64).C w A1 x.f1.length x.f1:=by
 obtain⟨_,_,rfl,rfl,⟨A1,c1,rfl,l1,g1⟩⟩:=h
 exact⟨A1,c1,rfl,l1,g1⟩
theorem lT{w:World}{base:Nat}{ok:Nat→Prop}{x:S68}{cs:List Value}(h:k68.M w base ok x cs):∃ v1,cs=[.int .i64 x.f0,v1]∧(Kd.int .i64).R 3 w base ok v1 x.f1:=by
 obtain⟨_,_,rfl,rfl,⟨v1,rfl,g1⟩⟩:=h
 exact⟨v1,rfl,g1⟩
theorem kJ(w:World)(base:Nat)(ok:Nat→Prop)(x:S68){v1:Value}(g1:(Kd.int .i64).R 3 w base ok v1 x.f1):k68.M w base ok x [.int .i64 x.f0,v1]:=⟨[.int .i64 x.f0],[v1],rfl,rfl,⟨v1,rfl,g1⟩⟩
def ay(xs:List S68)(i:Int):S68:=xs.getD i.toNat z68
theorem iq{w:World}{A:Option Addr}{n:Nat}{xs:List S68}(h:Kd.C k68 w A n xs)(i:Int)(h0:0≤i)(h1:i<n):∃ ad A1 c1,A=some ad∧w.cell? (ad.add (i.toNat*2))=some (.int .i64 (ay xs i).f0)∧w.cell? ⟨(ad.add (i.toNat*2)).block,(ad.add (i.toNat*2)).off+1,none⟩=some (.slice A1 (ay xs i).f1.length c1)∧(ay xs i).f1.length≤c1∧(Kd.int .i64).C w A1 (ay xs i).f1.length (ay xs i).f1:=by
 obtain⟨ad,c,e,_,hK,hc0⟩:=Kd.qQ h z68 i h0 h1
 have hc:∀ j u,c[j]?=some u→w.cell? (ad.add (i.toNat*2+j))=some u:=hc0
 obtain⟨A1,c1,rfl,l1,g1⟩:=vO hK
 exact⟨ad,A1,c1,e,hc 0 _ rfl,by rw [←pO _ _ 1 (by omega)];exact hc 1 _ rfl,l1,g1⟩
structure S108 where
 f0:Int
 f1:(List Int)
def z108:S108:=⟨(0:Int),([]:List Int)⟩
def k108:Kd S108:=Kd.iso (Kd.pair (Kd.int .i64) (Kd.slice 3 (Kd.int .i64))) (fun x:S108=>(x.f0,x.f1))
theorem tL{w:World}{x:S108}{cs:List Value}(h:k108.K w x cs):∃ A1 c1,cs=[.int .i64 x.f0,.slice A1 x.f1.length c1]∧x.f1.length≤c1∧(Kd.int .i64).C w A1 x.f1.length x.f1:=by
 obtain⟨_,_,rfl,rfl,⟨A1,c1,rfl,l1,g1⟩⟩:=h
 exact⟨A1,c1,rfl,l1,g1⟩
def fV(xs:List S108)(i:Int):S108:=xs.getD i.toNat z108
theorem qh{w:World}{A:Option Addr}{n:Nat}{xs:List S108}(h:Kd.C k108 w A n xs)(i:Int)(h0:0≤i)(h1:i<n):∃ ad A1 c1,A=some ad∧w.cell? (ad.add (i.toNat*2))=some (.int .i64 (fV xs i).f0)∧w.cell? ⟨(ad.add (i.toNat*2)).block,(ad.add (i.toNat*2)).off+1,none⟩=some (.slice A1 (fV xs i).f1.length c1)∧(fV xs i).f1.length≤c1∧(Kd.int .i64).C w A1 (fV xs i).f1.length (fV xs i).f1:=by
 obtain⟨ad,c,e,_,hK,hc0⟩:=Kd.qQ h z108 i h0 h1
 have hc:∀ j u,c[j]?=some u→w.cell? (ad.add (i.toNat*2+j))=some u:=hc0
 obtain⟨A1,c1,rfl,l1,g1⟩:=tL hK
 exact⟨ad,A1,c1,e,hc 0 _ rfl,by rw [←pO _ _ 1 (by omega)];exact hc 1 _ rfl,l1,g1⟩
class Stp (w:outParam World) (w':World):Prop where
 b:Below w.heap.size w w'
instance(w:World)(o:Obj):Stp w (w.alloc o):=⟨ba_ (Below.refl _ _) o⟩
instance(w:World):Stp w w.drew:=⟨aV (Below.refl _ _)⟩
instance(w:World)(n:Nat):Stp w (w.drewN n):=⟨bd_ (Below.refl _ _) n⟩
theorem bX{w w':World}[s:Stp w w']{g:Nat}{o:Obj}(h:w.heap[g]?=some o):w'.heap[g]?=some o:=bb_ h s.b
theorem rX{α:Type}{d:Kd α}{e:Nat}{w w':World}[s:Stp w w']{base:Nat}{ok:Nat→Prop}{v:Value}{xs:List α}(h:Kd.R d e w base ok v xs):Kd.R d e w' base ok v xs:=Kd.mQ h s.b
abbrev T:Bool:=true
abbrev F:Bool:=false
theorem pS:(∀ (a:Act) (n:Nat) (v:Value),a.put (some n) v={ a with tmps:=a.tmps.setIfInBounds n v })∧(∀ (xs:List Value) (i:Nat) (a:Value),xs.toArray.setIfInBounds i a=(xs.set i a).toArray)∧(∀ (a:Value) (l:List Value) (b:Value),(a :: l).set 0 b=b :: l)∧(∀ (a:Value) (l:List Value) (n:Nat) (b:Value),(a :: l).set (n+1) b=a :: l.set n b)∧(∀ x:Int,IntKind.i64.wrap x=wrap64 x):=⟨fun _ _ _=>rfl,fun _ _ _=>List.setIfInBounds_toArray ..,fun _ _ _=>List.set_cons_zero ..,fun _ _ _ _=>List.set_cons_succ ..,fun _=>jg _⟩
class Stps (w w':World):Prop where
 b:Below w.heap.size w w'
instance(w:World):Stps w w:=⟨Below.refl _ _⟩
instance(w w':World)(o:Obj)[s:Stps w w']:Stps w (w'.alloc o):=⟨ba_ s.b o⟩
instance(w w':World)[s:Stps w w']:Stps w w'.drew:=⟨aV s.b⟩
instance(w w':World)(n:Nat)[s:Stps w w']:Stps w (w'.drewN n):=⟨bd_ s.b n⟩
theorem bY{w w':World}[s:Stps w w']{g:Nat}{o:Obj}(h:w.heap[g]?=some o):w'.heap[g]?=some o:=bb_ h s.b
theorem rY{α:Type}{d:Kd α}{e:Nat}{w w':World}[s:Stps w w']{base:Nat}{ok:Nat→Prop}{v:Value}{xs:List α}(h:Kd.R d e w base ok v xs):Kd.R d e w' base ok v xs:=Kd.mQ h s.b
theorem beY{w0 w1 w2:World}[s:Stps w1 w2](h:Below w0.heap.size w0 w1):Below w0.heap.size w0 w2:=jN h h.size s.b
theorem cY{α:Type}{d:Kd α}{w w':World}[s:Stps w w']{A:Option Addr}{n:Nat}{xs:List α}(h:Kd.C d w A n xs):Kd.C d w' A n xs:=Kd.cu h s.b
theorem b2{w:World}{g t:Nat}{a0 a1:Value}(h:w.heap[g]?=some (.cells #[a0,a1] t (0,0))):w.cell? ⟨g,0,none⟩=some a0∧w.cell? ⟨g,1,none⟩=some a1∧w.frozen? ⟨g,0,none⟩=false∧w.frozen? ⟨g,1,none⟩=false:=⟨(bc_ h 0).trans rfl,(bc_ h 1).trans rfl,bf_ h 0,bf_ h 1⟩
theorem b3{w:World}{g t:Nat}{a0 a1 a2:Value}(h:w.heap[g]?=some (.cells #[a0,a1,a2] t (0,0))):w.cell? ⟨g,0,none⟩=some a0∧w.cell? ⟨g,1,none⟩=some a1∧w.cell? ⟨g,2,none⟩=some a2∧w.frozen? ⟨g,0,none⟩=false∧w.frozen? ⟨g,1,none⟩=false∧w.frozen? ⟨g,2,none⟩=false:=⟨(bc_ h 0).trans rfl,(bc_ h 1).trans rfl,(bc_ h 2).trans rfl,bf_ h 0,bf_ h 1,bf_ h 2⟩
end Go.Proofs.YtmdehehgmnihpaaGreat.PFnExactLinkStep
