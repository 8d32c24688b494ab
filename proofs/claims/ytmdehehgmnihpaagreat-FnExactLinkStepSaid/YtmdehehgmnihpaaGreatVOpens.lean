/- How an argument of any plain type (whole numbers, slices of such, structs of such, nested) is opened for a row: what a reading of its cells as data gives for the printed words' kinds. No condition. -/
import Derived.Test.YtmdehehgmnihpaaGreatV
import Derived.Deep.Slices
import Derived.OpenShut
import Derived.ChangeOld
namespace Go.Proofs.YtmdehehgmnihpaaGreatX
open Go.RowKit Go.Proofs.YtmdehehgmnihpaaGreatW.PrintWords Go.WideShapes Go.ChangeShapes
structure Opens {α:Type} (P:Program) (t:TypeId) (d:Kd α) (Wf:α→Prop):Prop where
  one:P.cellsOf t=d.sz
  two:∀ (H:Type) (enc:TypeId×Value→H) (w:World) (base:Nat) (held:Bool) (fuel:Nat) (cs:List Value) (x:DataW H×List MemPlace),
    DataW.trod enc P w base (fun _=>true) held fuel t cs=some x→∃ y:α,d.K w y cs∧Wf y
structure OpensF {β:Type} (P:Program) (fs:List Field) (off:Nat) (d:Kd β) (Wf:β→Prop):Prop where
  two:∀ (H:Type) (enc:TypeId×Value→H) (w:World) (base:Nat) (held:Bool) (fuel:Nat) (cs:List Value),
    (∀ f∈fs,∃ x,DataW.trod enc P w base (fun _=>true) held fuel f.type ((cs.drop f.offset).take (P.cellsOf f.type))=some x)→cs.length=off+d.sz→∃ y:β,d.K w y (cs.drop off)∧Wf y
theorem iO{P:Program}{t:TypeId}{k:IntKind}(ht:P.underlying t=some (.int k))(hc:P.cellsOf t=1):Opens P t (Kd.int k) (fun n=>(Lit.int k n).wf=true):=by
  refine⟨hc,fun H enc w base held fuel cs x h=>?_⟩
  cases fuel with
  | zero=>simp [DataW.trod] at h
  | succ n =>
    unfold DataW.trod at h
    rw [ht] at h
    split at h <;> simp_all
    obtain⟨⟨rfl,hw⟩,_⟩:=h
    exact⟨_,rfl,hw⟩
theorem iX{α:Type}{P:Program}{t e:TypeId}{d:Kd α}{Wf:α→Prop}(ht:P.underlying t=some (.slice e))(hc:P.cellsOf t=1)(he:Opens P e d Wf) :
    Opens P t (Kd.slice e d) (fun xs=>xs.length≤9223372036854775807∧∀ x∈xs,Wf x):=by
  refine⟨hc,fun H enc w base held fuel cs x h=>?_⟩
  rcases Go.Deep.open_slice ht h with ⟨rfl,_⟩ | ⟨a,len,cap,m,n,D,Pl,rfl,_,hl,hm,hmm,_,hx⟩
  · exact ⟨[],⟨none,0,rfl,Nat.le_refl _,rfl,by simp,fun h0=>absurd h0 (by simp)⟩,by simp,by simp⟩
  · simp only [if_true] at hmm
    subst m
    have hy:∀ i,i<len→∃ y:α,Wf y∧∃ c,c.length=d.sz∧d.K w y c∧∀ j u,c[j]?=some u→w.cell? (a.add (i*d.sz+j))=some u:=by
      intro i hi
      obtain⟨cs',h1,h2⟩:=hx i (by omega)
      obtain⟨y,hK,hW⟩:=he.two H enc w base held n cs' _ h2
      obtain⟨_,hlen,hcell⟩:=World.cells?_some h1
      rw [he.one] at hlen hcell
      refine⟨y,hW,cs',hlen,hK,fun j u hu=>?_⟩
      have hj:j<d.sz:=by rw [←hlen];exact(List.getElem?_eq_some_iff.1 hu).1
      rw [←Go.Deep.add_add,hcell j hj,hu]
    have hne:len=0∨∃ f:Nat→α,∀ i,i<len→Wf (f i)∧∃ c,c.length=d.sz∧d.K w (f i) c∧∀ j u,c[j]?=some u→w.cell? (a.add (i*d.sz+j))=some u:=by
      rcases Nat.eq_zero_or_pos len with h0|h0
      · exact Or.inl h0
      · right
        obtain⟨y0,_⟩:=hy 0 h0
        haveI:Inhabited α:=⟨y0⟩
        exact Go.Deep.choose_lt hy
    rcases hne with rfl | ⟨f,hf⟩
    · refine ⟨[],⟨some a,cap,rfl,Nat.zero_le _,rfl,by simp,fun h0=>absurd h0 (by simp)⟩,by simp,by simp⟩
    · have hlen:((List.range len).map f).length=len:=by simp
      have hmax:len≤9223372036854775807:=by unfold maxLen at hm;omega
      refine⟨(List.range len).map f,⟨some a,cap,?_,?_,rfl,?_,fun _=>⟨a,rfl,?_⟩⟩,?_,?_⟩
      · rw [hlen]
      · rw [hlen];exact hl
      · rw [hlen];exact hmax
      · intro j p hp
        obtain⟨hj,hp⟩:=List.getElem?_eq_some_iff.1 hp
        rw [hlen] at hj
        have e:p=f j:=by rw [←hp];simp
        subst e
        exact(hf j hj).2
      · rw [hlen];exact hmax
      · intro p hp
        obtain⟨j,hj,rfl⟩:=List.mem_map.1 hp
        exact(hf j (List.mem_range.1 hj)).1
theorem kC{α:Type}{P:Program}{f:Field}{off:Nat}{d:Kd α}{Wf:α→Prop}(ho:f.offset=off)(h:Opens P f.type d Wf):OpensF P [f] off d Wf:=by
  refine⟨fun H enc w base held fuel cs hx hl=>?_⟩
  obtain⟨x,hx⟩:=hx f (by simp)
  rw [ho,h.one,List.take_of_length_le (by simp [hl])] at hx
  exact h.two H enc w base held fuel _ _ hx
theorem iH{α β:Type}{P:Program}{f:Field}{fs:List Field}{off:Nat}{d:Kd α}{d':Kd β}{Wf:α→Prop}{Wf':β→Prop}(ho:f.offset=off)(h:Opens P f.type d Wf)(h':OpensF P fs (off+d.sz) d' Wf') :
    OpensF P (f :: fs) off (Kd.pair d d') (fun y=>Wf y.1∧Wf' y.2):=by
  refine⟨fun H enc w base held fuel cs hx hl=>?_⟩
  have hl':cs.length=off+(d.sz+d'.sz):=hl
  obtain⟨x,h0⟩:=hx f (by simp)
  rw [ho,h.one] at h0
  obtain⟨y,hK,hW⟩:=h.two H enc w base held fuel _ _ h0
  obtain⟨y',hK',hW'⟩:=h'.two H enc w base held fuel cs (fun g hg=>hx g (by simp [hg])) (by omega)
  refine⟨(y,y'),⟨_,_,?_,hK,hK'⟩,hW,hW'⟩
  rw [←List.drop_drop,List.take_append_drop]
theorem mG{α β:Type}{P:Program}{t:TypeId}{fs:Array Field}{d:Kd β}{Wf:β→Prop}{e:α→β}{g:β→α}(ht:P.underlying t=some (.struct fs))(hc:P.cellsOf t=d.sz)(hg:∀ y,e (g y)=y)
    (h:OpensF P fs.toList 0 d Wf):Opens P t (Kd.iso d e) (fun x=>Wf (e x)):=by
  refine⟨hc,fun H enc w base held fuel cs x hx=>?_⟩
  obtain⟨xs,n,_,_,hlen,hsz,hf⟩:=DataW.trod_struct ht hx
  obtain⟨y,hK,hW⟩:=h.two H enc w base held n cs (fun f hfm=>by
    obtain⟨i,hi⟩:=List.getElem?_of_mem hfm
    have hi2:fs[i]?=some f:=by rw [←hi];simp
    have hlt:i<xs.length:=by rw [hsz];exact(Array.getElem?_eq_some_iff.1 hi2).1
    exact⟨xs[i],by rw [hf i f hi2];exact List.getElem?_eq_getElem hlt⟩) (by rw [hlen,hc];simp)
  refine⟨g y,?_,?_⟩
  · show d.K w (e (g y)) cs
    rw [hg];simpa using hK
  · show Wf (e (g y))
    rw [hg];exact hW
theorem kI{β:Type}{P:Program}{t:TypeId}{fs:Array Field}{d:Kd β}{Wf:β→Prop}(ht:P.underlying t=some (.struct fs))(hc:P.cellsOf t=d.sz)
    (h:OpensF P fs.toList 0 d Wf):Opens P t d Wf:=by
  obtain⟨h1,h2⟩:=mG (e:=fun y:β=>y) (g:=fun y=>y) ht hc (fun _=>rfl) h
  exact⟨h1,fun H enc w base held fuel cs x hx=>h2 H enc w base held fuel cs x hx⟩
theorem q8{α H:Type}{enc:TypeId×Value→H}{P:Program}{w:World}{r:Reach}{b0 base:Nat}{held:Bool}{t:TypeId}{fs:Array Field}{d:Kd α}{Wf:α→Prop}{v:Value}{dt:DataW H}{p:List MemPlace}
    (hs:P.underlying t=some (.struct fs)) (hO:Opens P t d Wf) (hv:Value.okWide P w r b0 t v) (h:DataW.Trod enc P w base (fun _=>true) held t v dt p) :
    ∃ (cs:Array Value) (y:α),v=.agg cs∧d.K w y cs.toList∧Wf y:=by
  obtain⟨cs,rfl,_⟩:=okWide_struct hs hv
  obtain⟨fuel,hf⟩:=h
  obtain⟨y,hK,hW⟩:=hO.two H enc w base held fuel _ _ hf
  exact⟨cs,y,rfl,hK,hW⟩
theorem open_row{α H:Type}{enc:TypeId×Value→H}{P:Program}{w:World}{r:Reach}{b0 base:Nat}{held:Bool}{t e:TypeId}{d:Kd α}{Wf:List α→Prop}{v:Value}{dt:DataW H}{p:List MemPlace}
    (hs:P.underlying t=some (.slice e)) (hO:Opens P t (Kd.slice e d) Wf) (hv:Value.okWide P w r b0 t v) (h:DataW.Trod enc P w base (fun _=>true) held t v dt p) :
    ∃ (A:Option Addr) (c:Nat) (xs:List α),v=.slice A xs.length c∧xs.length≤c∧d.C w A xs.length xs∧Wf xs:=by
  obtain⟨a,len,cap,rfl⟩:=okWide_slice hs hv
  obtain⟨fuel,hf⟩:=h
  obtain⟨xs,⟨A,c,he,hl,hC⟩,hW⟩:=hO.two H enc w base held fuel _ _ hf
  have he:Value.slice a len cap=.slice A xs.length c:=by simpa [Value.cells] using he
  exact⟨A,c,xs,he,hl,hC,hW⟩
end Go.Proofs.YtmdehehgmnihpaaGreatX
