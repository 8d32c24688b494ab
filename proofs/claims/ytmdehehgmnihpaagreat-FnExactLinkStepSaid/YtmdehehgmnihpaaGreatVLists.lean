/- Plain lemmas on lists and whole numbers that the pure statements of this seat use. No program, no condition. -/
import Derived.Test.YtmdehehgmnihpaaGreatV
import Derived.Laws.BitsLemmas
namespace Go.Proofs.YtmdehehgmnihpaaGreatX
open Go.RowKit Go.Proofs.YtmdehehgmnihpaaGreatW.PrintWords
theorem bN(i:Nat)(h:i<9223372036854775807):wrap64 ((i:Int)+1)=((i+1:Nat):Int):=by unfold wrap64;omega
theorem dG(x:Int)(h : -9223372036854775808≤x∧x≤9223372036854775807):wrap64 x=x:=by unfold wrap64;omega
theorem xM(l:List Int)(i:Nat):rd l (i:Int)=l.getD i 0:=rfl
theorem kY(l:List Int)(i:Nat)(h:i<l.length):rd l (i:Int)=l[i]:=by
  rw [xM];simp [h]
theorem dU{α:Type}(l:List α)(i:Nat)(h:i<l.length):l.drop i=l[i] :: l.drop (i+1):=by
  rw [List.drop_eq_getElem_cons h]
theorem fD{α:Type}(l:List α)(i:Nat)(h:l.length≤i):l.drop i=[]:=List.drop_eq_nil_of_le h
theorem kH(a b:List Int)(i:Nat)(ha:i<a.length)(hb:i<b.length):a.drop i=b.drop i↔rd a (i:Int)=rd b (i:Int)∧a.drop (i+1)=b.drop (i+1):=by
  rw [dU a i ha,dU b i hb,kY a i ha,kY b i hb,List.cons.injEq]
theorem o7{α:Type}(x:List α)(i:Nat)(v:α)(h:i<x.length):(x.set i v).take (i+1)=x.take i++[v]:=by
  apply List.ext_getElem?
  intro j
  by_cases hj:j<i+1
  · rw [List.getElem?_take_of_lt hj]
    by_cases hji:j=i
    · subst hji
      rw [List.getElem?_append_right (by simp;omega)]
      simp [h,Nat.min_eq_left (Nat.le_of_lt h)]
    · rw [List.getElem?_append_left (by simp;omega),List.getElem?_take_of_lt (by omega),List.getElem?_set_ne (by omega)]
  · rw [List.getElem?_eq_none (by simp;omega),List.getElem?_eq_none (by simp;omega)]
theorem kU{α:Type}(l:List α)(i:Nat)(h:i<l.length):l.take (i+1)=l.take i++[l[i]]:=by
  rw [List.take_succ_eq_append_getElem h]
theorem kS{α:Type}(l:List α)(i:Nat)(h:l.length≤i):l.take i=l:=List.take_of_length_le h
theorem lS{α:Type}(x l:List α)(i:Nat)(v:α)(hx:i<x.length)(hl:i<l.length)(ht:x.take i=l.take i)(hv:v=l[i]):(x.set i v).take (i+1)=l.take (i+1):=by
  rw [o7 x i v hx,kU l i hl,ht,hv]
theorem mV{α:Type}(x l:List α)(i:Nat)(hx:x.length=l.length)(hi:i=l.length)(ht:x.take i=l.take i):x=l:=by
  rw [kS x i (by omega),kS l i (by omega)] at ht
  exact ht
theorem yB(x:Int)(m:Nat)(hm:m<9223372036854775808):0≤Go.bits .and .i64 x (m:Int)∧Go.bits .and .i64 x (m:Int)≤(m:Int):=by
  have h:(BitVec.ofInt IntKind.i64.bits x &&& BitVec.ofInt IntKind.i64.bits (m:Int)).toNat≤m:=by
    rw [BitVec.toNat_and]
    refine Nat.le_trans Nat.and_le_right ?_
    rw [BitVec.ofInt_natCast,BitVec.toNat_ofNat]
    exact Nat.mod_le _ _
  have e:Go.bits .and .i64 x (m:Int)=IntKind.i64.wrap ((BitVec.ofInt IntKind.i64.bits x &&& BitVec.ofInt IntKind.i64.bits (m:Int)).toNat:Int):=rfl
  generalize (BitVec.ofInt IntKind.i64.bits x &&& BitVec.ofInt IntKind.i64.bits (m:Int)).toNat=q at h e
  rw [e,IntKind.wrap_i64]
  omega
theorem xR(x n:Int)(hx:0≤x)(hn:0<n):0≤Int.tmod x n∧Int.tmod x n<n:=by
  rw [Int.tmod_eq_emod_of_nonneg hx]
  exact⟨Int.emod_nonneg _ (by omega),Int.emod_lt_of_pos _ hn⟩
theorem kZ{α:Type}(l:List α)(i:Nat)(h:i<l.length)(q:α→Bool)(hp:q l[i]=true):(l.drop i).any q=true:=by
  rw [dU l i h,List.any_cons,hp,Bool.true_or]
theorem lJ{α:Type}(l:List α)(i:Nat)(h:i<l.length)(q:α→Bool)(hp:¬ q l[i]=true):(l.drop i).any q=(l.drop (i+1)).any q:=by
  rw [dU l i h,List.any_cons,Bool.eq_false_iff.mpr hp,Bool.false_or]
theorem yI(x y z:Int):x≤Go.Proofs.YtmdehehgmnihpaaGreatW.PrintWords.mn y z↔x≤y∧x≤z:=by
  unfold Go.Proofs.YtmdehehgmnihpaaGreatW.PrintWords.mn
  split <;> omega
theorem jI(i:Nat):((i:Int)).toNat=i:=rfl
end Go.Proofs.YtmdehehgmnihpaaGreatX
