/- The statement FnExactLinkStep over lists. -/
import Derived.OpenShut
import Derived.Test.YtmdehehgmnihpaaGreatPFnExactLinkStepx
import Derived.Test.YtmdehehgmnihpaaGreatVLists
namespace Go.Proofs.YtmdehehgmnihpaaGreat.Pure
set_option linter.unusedVariables false
set_option linter.unusedSimpArgs false
open Go.RowKit Go.Proofs.YtmdehehgmnihpaaGreat.PFnExactLinkStep Go.Proofs.YtmdehehgmnihpaaGreatW.PrintWords Go.Proofs.YtmdehehgmnihpaaGreatW.PrintLast Go.Proofs.YtmdehehgmnihpaaGreatW.PrintMore Go.Proofs.YtmdehehgmnihpaaGreatX
def SmallE(x:List Int):Prop:=x.length≤1048576
def FitE(x:List Int):Prop:=x.length≤9223372036854775807
theorem kw(l:List (List Int))(i:Nat)(h:i<l.length):dD l (i:Int)=l[i]:=by
  show l.getD i []=l[i]
  simp [h]
theorem nE(l:List Int)(left:Int)(h0:0≤left)(h1:left≤1048576)(hl:l.length≤9223372036854775807):dY.f l left=some (if left<l.length then -1 else left-l.length):=by
  unfold dY.f
  rw [dG _ (by omega)]
  by_cases h:left<l.length
  · rw [if_pos (by omega),if_pos h]
  · rw [if_neg (by omega),if_neg h]
theorem szE(x:List Int)(left:Int)(h0:0≤left)(h1:left≤1048576)(hw:FitE x):∃ r,dY.f x left=some r∧r≤left∧(0≤r→SmallE x):=by
  unfold FitE at hw
  refine⟨_,nE x left h0 h1 hw,?_,fun h=>?_⟩
  · split <;> omega
  · unfold SmallE
    split at h <;> omega
theorem rG(l:List (List Int))(hl:l.length≤1048576)(hw:∀ x∈l,FitE x)(d:Nat):∀ (i:Nat) (left:Int),0≤left→left≤1048576→i+d=l.length→∃ r,(∀ k,d<k→cO.l0 k l left (i:Int)=some r)∧r≤left∧(0≤r→∀ x∈l.drop i,SmallE x):=by
  induction d with
  | zero =>
    intro i left h0 h1 hi
    refine⟨left,fun k hk=>?_,Int.le_refl _,fun _ x hx=>?_⟩
    · obtain ⟨k,rfl⟩:∃ m,k=m+1:=⟨k-1,by omega⟩
      simp only [cO.l0]
      rw [if_neg (show ¬ (i:Int)<(l.length:Int) by omega)]
    · rw [fD l i (by omega)] at hx;cases hx
  | succ d ih =>
    intro i left h0 h1 hi
    have hlt:i<l.length:=by omega
    obtain⟨q,e,hq1,hq2⟩:=szE l[i] left h0 h1 (hw _ (List.getElem_mem hlt))
    by_cases hq:q<0
    · refine ⟨-1,fun k hk=>?_,by omega,fun h=>by omega⟩
      obtain⟨k,rfl⟩:∃ m,k=m+1:=⟨k-1,by omega⟩
      simp only [cO.l0]
      rw [if_pos (show (i:Int)<(l.length:Int) by omega),if_pos (show (0:Int)≤(i:Int) by omega),kw l i hlt,e]
      simp only [Option.bind_some]
      rw [if_pos hq]
    · obtain ⟨r,hr1,hr2,hr3⟩:=ih (i+1) q (by omega) (by omega) (by omega)
      refine⟨r,fun k hk=>?_,by omega,fun h x hx=>?_⟩
      · obtain ⟨k,rfl⟩:∃ m,k=m+1:=⟨k-1,by omega⟩
        simp only [cO.l0]
        rw [if_pos (show (i:Int)<(l.length:Int) by omega),if_pos (show (0:Int)≤(i:Int) by omega),kw l i hlt,e]
        simp only [Option.bind_some]
        rw [if_neg hq,bN i (by omega)]
        exact hr1 k (by omega)
      · rw [dU l i hlt] at hx
        rcases List.mem_cons.1 hx with rfl|hx
        · exact hq2 (by omega)
        · exact hr3 h x hx
theorem oG(l:List (List Int))(left:Int)(h0:0≤left)(h1:left≤1048576)(hm:l.length≤9223372036854775807)(hw:∀ x∈l,FitE x):∃ r,(∀ k,1048577≤k→cO.f k l left=some r)∧r≤left∧(0≤r→l.length≤1048576∧∀ x∈l,SmallE x):=by
  unfold cO.f
  rw [dG _ (by omega)]
  by_cases h:left-(l.length:Int)<0
  · refine ⟨-1,fun k hk=>?_,by omega,fun h=>by omega⟩
    rw [if_pos h]
  · obtain ⟨r,hr1,hr2,hr3⟩:=rG l (by omega) hw l.length 0 (left-(l.length:Int)) (by omega) (by omega) (by omega)
    refine⟨r,fun k hk=>?_,by omega,fun h=>⟨by omega,fun x hx=>hr3 h x (by simpa using hx)⟩⟩
    rw [if_neg h]
    exact hr1 k (by omega)
theorem uC(l:List Int)(hb:l.length≤1048576)(d:Nat):∀ (x:List Int) (i:Nat),x.length=l.length→x.take i=l.take i→i+d=l.length→∀ k,d<k→bZ.l0 k l x (i:Int)=some l:=by
  induction d with
  | zero =>
    intro x i hx ht hi k hk
    obtain⟨k,rfl⟩:∃ m,k=m+1:=⟨k-1,by omega⟩
    simp only [bZ.l0]
    rw [if_neg (show ¬ (i:Int)<(l.length:Int) by omega),mV x l i hx (by omega) ht]
  | succ d ih =>
    intro x i hx ht hi k hk
    obtain⟨k,rfl⟩:∃ m,k=m+1:=⟨k-1,by omega⟩
    simp only [bZ.l0]
    rw [if_pos (show (i:Int)<(l.length:Int) by omega),if_pos (show (0:Int)≤(i:Int) by omega),if_pos (show (i:Int)<(x.length:Int) by omega),bN i (by omega),jI,kY l i (by omega)]
    exact ih _ (i+1) (by simp [hx]) (lS x l i _ (by omega) (by omega) ht rfl) (by omega) k (by omega)
theorem nA(l:List Int)(hb:l.length≤1048576):∀ k,l.length<k→bZ.f k l=some l:=by
  intro k hk
  unfold bZ.f
  rw [if_pos (by omega),if_pos (by omega)]
  exact uC l hb l.length _ 0 (by simp) (by simp) (by omega) k hk
theorem rR(l:List (List Int))(hb:l.length≤1048576)(he:∀ x∈l,SmallE x)(d:Nat):∀ (x:List (List Int)) (i:Nat),x.length=l.length→x.take i=l.take i→i+d=l.length→∀ k,1048577+d<k→bW.l0 k l x (i:Int)=some l:=by
  induction d with
  | zero =>
    intro x i hx ht hi k hk
    obtain⟨k,rfl⟩:∃ m,k=m+1:=⟨k-1,by omega⟩
    simp only [bW.l0]
    rw [if_neg (show ¬ (i:Int)<(l.length:Int) by omega),mV x l i hx (by omega) ht]
  | succ d ih =>
    intro x i hx ht hi k hk
    obtain⟨k,rfl⟩:∃ m,k=m+1:=⟨k-1,by omega⟩
    have hlt:i<l.length:=by omega
    simp only [bW.l0]
    rw [if_pos (show (i:Int)<(l.length:Int) by omega),if_pos (show (0:Int)≤(i:Int) by omega),kw l i hlt,nA l[i] (he _ (List.getElem_mem hlt)) k (by have:=(he _ (List.getElem_mem hlt));unfold SmallE at this;omega)]
    simp only [Option.bind_some]
    rw [if_pos (show (i:Int)<(x.length:Int) by omega),bN i (by omega),jI]
    exact ih _ (i+1) (by simp [hx]) (lS x l i _ (by omega) (by omega) ht rfl) (by omega) k (by omega)
theorem oM(l:List (List Int))(hb:l.length≤1048576)(he:∀ x∈l,SmallE x):∀ k,1048577+l.length<k→bW.f k l=some l:=by
  intro k hk
  unfold bW.f
  rw [if_pos (by omega),if_pos (by omega)]
  exact rR l hb he l.length _ 0 (by simp) (by simp) (by omega) k hk
theorem um(a b:List Int)(hl:a.length=b.length)(hb:a.length<9223372036854775807)(d:Nat):∀ (i:Nat),i+d=a.length→∀ k,d<k→bS.l0 k a b (i:Int)=some (decide (a.drop i=b.drop i)):=by
  induction d with
  | zero =>
    intro i hi k hk
    obtain⟨k,rfl⟩:∃ m,k=m+1:=⟨k-1,by omega⟩
    simp only [bS.l0]
    rw [if_neg (show ¬ (i:Int)<(a.length:Int) by omega),fD a i (by omega),fD b i (by omega)]
    simp
  | succ d ih =>
    intro i hi k hk
    obtain⟨k,rfl⟩:∃ m,k=m+1:=⟨k-1,by omega⟩
    simp only [bS.l0]
    rw [if_pos (show (i:Int)<(a.length:Int) by omega),if_pos (show (0:Int)≤(i:Int) by omega),if_pos (show (i:Int)<(b.length:Int) by omega)]
    by_cases he:rd a (i:Int)=rd b (i:Int)
    · rw [if_pos he,bN i (by omega),ih (i+1) (by omega) k (by omega)]
      congr 1
      rw [decide_eq_decide,kH a b i (by omega) (by omega)]
      exact⟨fun h=>⟨he,h⟩,fun h=>h.2⟩
    · rw [if_neg he]
      congr 1
      symm
      rw [decide_eq_false_iff_not,kH a b i (by omega) (by omega)]
      exact fun h=>he h.1
theorem nC(a b:List Int)(hb:a.length<9223372036854775807):∀ k,a.length<k→bS.f k a b=some (decide (a=b)):=by
  intro k hk
  unfold bS.f
  by_cases hl:a.length=b.length
  · rw [if_pos (by omega)]
    exact um a b hl hb a.length 0 (by omega) k hk
  · rw [if_neg (by omega),decide_eq_false (fun h=>hl (by rw [h]))]
theorem sj(a b:List (List Int))(hl:a.length=b.length)(hb:a.length≤1048576)(he:∀ x∈a,SmallE x)(d:Nat):∀ (i:Nat),i+d=a.length→∀ k,1048577+d<k→cZ.l0 k a b (i:Int)=some (decide (a.drop i=b.drop i)):=by
  induction d with
  | zero =>
    intro i hi k hk
    obtain⟨k,rfl⟩:∃ m,k=m+1:=⟨k-1,by omega⟩
    simp only [cZ.l0]
    rw [if_neg (show ¬ (i:Int)<(a.length:Int) by omega),fD a i (by omega),fD b i (by omega)]
    simp
  | succ d ih =>
    intro i hi k hk
    obtain⟨k,rfl⟩:∃ m,k=m+1:=⟨k-1,by omega⟩
    have h1:i<a.length:=by omega
    have h2:i<b.length:=by omega
    simp only [cZ.l0]
    rw [if_pos (show (i:Int)<(a.length:Int) by omega),if_pos (show (0:Int)≤(i:Int) by omega),if_pos (show (i:Int)<(b.length:Int) by omega),kw a i h1,kw b i h2,nC a[i] b[i] (by have:=(he _ (List.getElem_mem h1));unfold SmallE at this;omega) k (by have:=(he _ (List.getElem_mem h1));unfold SmallE at this;omega)]
    simp only [Option.bind_some]
    by_cases hq:a[i]=b[i]
    · rw [if_pos (decide_eq_true hq),bN i (by omega),ih (i+1) (by omega) k (by omega)]
      congr 1
      rw [decide_eq_decide,dU a i h1,dU b i h2,List.cons.injEq]
      exact⟨fun h=>⟨hq,h⟩,fun h=>h.2⟩
    · rw [if_neg (by simp [hq])]
      congr 1
      symm
      rw [decide_eq_false_iff_not,dU a i h1,dU b i h2,List.cons.injEq]
      exact fun h=>hq h.1
theorem om(a b:List (List Int))(hb:a.length≤1048576)(he:∀ x∈a,SmallE x):∀ k,1048577+a.length<k→cZ.f k a b=some (decide (a=b)):=by
  intro k hk
  unfold cZ.f
  by_cases hl:a.length=b.length
  · rw [if_pos (by omega)]
    exact sj a b hl hb he a.length 0 (by omega) k hk
  · rw [if_neg (by omega),decide_eq_false (fun h=>hl (by rw [h]))]
theorem jc(a l m:Int):bE.f a l m=some (decide (l≤a∧a≤m)):=by
  unfold bE.f
  by_cases h:a ≥ l
  · have h':l≤a:=h
    rw [if_pos h];simp [h']
  · have h':¬ l≤a:=h
    rw [if_neg h];simp [h']
theorem kE(a l m:Int):bI.f a l m=some (decide (l≤a∧a≤m)):=by
  unfold bI.f
  by_cases h:a ≥ l
  · have h':l≤a:=h
    rw [if_pos h];simp [h']
  · have h':¬ l≤a:=h
    rw [if_neg h];simp [h']
theorem qj{α:Type}(l:List α)(p:α→Bool):(!l.any fun x => !p x)=l.all p:=by
  induction l with
  | nil=>rfl
  | cons a l ih=>rw [List.any_cons,List.all_cons,Bool.not_or,ih,Bool.not_not]
def byteB(x:Int):Bool:=decide (0≤x∧x≤255)
def bytesB(l:List Int):Bool:=l.all byteB&&decide (l.length≤40)
theorem ql(l:List (Int))(hl:l.length≤1048580)(d:Nat):∀ i:Nat,i+d=l.length→∀ k,0+d<k→aj.l0 k l (i:Int)=some ((l.drop i).all byteB&&decide (l.length≤40)):=by
  induction d with
  | zero =>
    intro i hi k hk
    obtain⟨k,rfl⟩:∃ m,k=m+1:=⟨k-1,by omega⟩
    simp only [aj.l0]
    rw [if_neg (show ¬ (i:Int)<(l.length:Int) by omega),fD l i (by omega)]
    simp;omega
  | succ d ih =>
    intro i hi k hk
    obtain⟨k,rfl⟩:∃ m,k=m+1:=⟨k-1,by omega⟩
    have hlt:i<l.length:=by omega
    simp only [aj.l0]
    rw [if_pos (show (i:Int)<(l.length:Int) by omega),if_pos (show (0:Int)≤(i:Int) by omega),kY l i hlt,show bI.f l[i] 0 255=some (byteB l[i]) from kE _ _ _]
    simp only [Option.bind_some]
    by_cases hp:byteB l[i]=true
    · rw [if_pos hp,bN i (by omega),ih (i+1) (by omega) k (by omega),dU l i hlt,List.all_cons,hp,Bool.true_and]
    · rw [if_neg hp,dU l i hlt,List.all_cons,Bool.eq_false_iff.mpr hp,Bool.false_and,Bool.false_and]
theorem iw(l:List Int)(hl:l.length≤1048580)(k:Nat)(hk:l.length<k):aj.f k l=some (bytesB l):=ql l hl l.length 0 (by omega) k (by omega)
theorem rP(x:Int):fK.f x=some (!byteB x):=by
  unfold fK.f iW.f
  rw [jc]
  rfl
theorem uO(l:List (Int))(hl:l.length≤1048580)(d:Nat):∀ i:Nat,i+d=l.length→∀ k,0+d<k→∃ r,ag.l0 k l (l.length:Int) (i:Int)=some r∧decide (r ≥ 0)=(l.drop i).any (fun x => !byteB x):=by
  induction d with
  | zero =>
    intro i hi k hk
    obtain⟨k,rfl⟩:∃ m,k=m+1:=⟨k-1,by omega⟩
    refine⟨-1,?_,?_⟩
    · simp only [ag.l0]
      rw [if_neg (show ¬ (i:Int)<(l.length:Int) by omega)]
    · rw [fD l i (by omega)];rfl
  | succ d ih =>
    intro i hi k hk
    obtain⟨k,rfl⟩:∃ m,k=m+1:=⟨k-1,by omega⟩
    have hlt:i<l.length:=by omega
    simp only [ag.l0]
    rw [if_pos (show (i:Int)<(l.length:Int) by omega),if_pos (show (0:Int)≤(i:Int) by omega),if_pos (show (i:Int)<(l.length:Int) by omega),kY l i hlt,rP l[i]]
    simp only [Option.bind_some]
    by_cases hp:(fun x => !byteB x) l[i]=true
    · rw [if_pos hp]
      exact⟨_,rfl,by rw [kZ l i hlt _ hp,decide_eq_true (by omega)]⟩
    · rw [if_neg hp,bN i (by omega)]
      obtain⟨r,h1,h2⟩:=ih (i+1) (by omega) k (by omega)
      exact⟨r,h1,by rw [h2,lJ l i hlt _ hp]⟩
theorem uw(l:List (Int))(hl:l.length≤1048580)(k:Nat)(hk:0+l.length<k):aT.f k l=some (l.any (fun x => !byteB x)):=by
  obtain⟨r,h1,h2⟩:=uO l hl l.length 0 (by omega) k hk
  unfold aT.f ag.f
  have c0:((0:Nat):Int)=0:=rfl
  rw [c0] at h1
  rw [h1]
  simp only [Option.bind_some]
  rw [h2];rfl
theorem iL(l:List Int)(k:Nat)(hk:40<k):bf.f k l=some (bytesB l):=by
  unfold bf.f bytesB
  by_cases h:(l.length:Int)≤40
  · rw [if_pos h,uw l (by omega) k (by omega)]
    simp only [Option.bind_some]
    rw [qj,decide_eq_true (show l.length≤40 by omega),Bool.and_true]
  · rw [if_neg h,decide_eq_false (show ¬ l.length≤40 by omega),Bool.and_false]
def seqB(x:Int):Bool:=decide (0≤x∧x≤15)
def recB(a:Int)(l:List (List Int)):Bool:=l.all bytesB&&(seqB a&&decide (l.length≤1000))
theorem iD(a:Int):aN.f a=some (seqB a):=by
  unfold aN.f;rw [kE];rfl
theorem iP(a:Int):bB.f a=some (seqB a):=by
  unfold bB.f;rw [jc];rfl
theorem oz(a:Int)(l:List (List Int))(hl:l.length≤1048576)(he:∀ x∈l,SmallE x)(d:Nat):∀ i:Nat,i+d=l.length→∀ k,1048577+d<k→bv.l0 k (i:Int) a l=some ((l.drop i).all bytesB&&(seqB a&&decide (l.length≤1000))):=by
  induction d with
  | zero =>
    intro i hi k hk
    obtain⟨k,rfl⟩:∃ m,k=m+1:=⟨k-1,by omega⟩
    simp only [bv.l0]
    rw [if_neg (show ¬ (i:Int)<(l.length:Int) by omega),fD l i (by omega),iD]
    simp only [Option.bind_some,List.all_nil,Bool.true_and]
    cases seqB a <;> simp <;> omega
  | succ d ih =>
    intro i hi k hk
    obtain⟨k,rfl⟩:∃ m,k=m+1:=⟨k-1,by omega⟩
    have hlt:i<l.length:=by omega
    have hs:=he _ (List.getElem_mem hlt)
    unfold SmallE at hs
    simp only [bv.l0]
    rw [if_pos (show (i:Int)<(l.length:Int) by omega),if_pos (show (0:Int)≤(i:Int) by omega),kw l i hlt,iw l[i] (by omega) k (by omega)]
    simp only [Option.bind_some]
    by_cases hp:bytesB l[i]=true
    · rw [if_pos hp,bN i (by omega),ih (i+1) (by omega) k (by omega),dU l i hlt,List.all_cons,hp,Bool.true_and]
    · rw [if_neg hp,dU l i hlt,List.all_cons,Bool.eq_false_iff.mpr hp,Bool.false_and,Bool.false_and]
theorem kz(a:Int)(l:List (List Int))(hl:l.length≤1048576)(he:∀ x∈l,SmallE x)(k:Nat)(hk:2097155<k):bv.f k a l=some (recB a l):=oz a l hl he l.length 0 (by omega) k (by omega)
theorem qx(k:Nat)(hk:40<k)(x:List Int):fJ.f k x=some (!bytesB x):=by
  unfold fJ.f
  rw [iL x k hk]
  rfl
theorem t_(l:List (List Int))(hl:l.length≤1048576)(d:Nat):∀ i:Nat,i+d=l.length→∀ k,41+d<k→∃ r,af.l0 k l (l.length:Int) (i:Int)=some r∧decide (r ≥ 0)=(l.drop i).any (fun x => !bytesB x):=by
  induction d with
  | zero =>
    intro i hi k hk
    obtain⟨k,rfl⟩:∃ m,k=m+1:=⟨k-1,by omega⟩
    refine⟨-1,?_,?_⟩
    · simp only [af.l0]
      rw [if_neg (show ¬ (i:Int)<(l.length:Int) by omega)]
    · rw [fD l i (by omega)];rfl
  | succ d ih =>
    intro i hi k hk
    obtain⟨k,rfl⟩:∃ m,k=m+1:=⟨k-1,by omega⟩
    have hlt:i<l.length:=by omega
    simp only [af.l0]
    rw [if_pos (show (i:Int)<(l.length:Int) by omega),if_pos (show (0:Int)≤(i:Int) by omega),if_pos (show (i:Int)<(l.length:Int) by omega),kw l i hlt,qx k (by omega) l[i]]
    simp only [Option.bind_some]
    by_cases hp:(fun x => !bytesB x) l[i]=true
    · rw [if_pos hp]
      exact⟨_,rfl,by rw [kZ l i hlt _ hp,decide_eq_true (by omega)]⟩
    · rw [if_neg hp,bN i (by omega)]
      obtain⟨r,h1,h2⟩:=ih (i+1) (by omega) k (by omega)
      exact⟨r,h1,by rw [h2,lJ l i hlt _ hp]⟩
theorem tV(l:List (List Int))(hl:l.length≤1048576)(k:Nat)(hk:41+l.length<k):aU.f k l=some (l.any (fun x => !bytesB x)):=by
  obtain⟨r,h1,h2⟩:=t_ l hl l.length 0 (by omega) k hk
  unfold aU.f af.f
  have c0:((0:Nat):Int)=0:=rfl
  rw [c0] at h1
  rw [h1]
  simp only [Option.bind_some]
  rw [h2];rfl
theorem ng(l:List (List Int))(hl:l.length≤1048576)(k:Nat)(hk:1048620<k):dz.f k l=some (l.all bytesB):=by
  unfold dz.f
  rw [tV l hl k (by omega)]
  simp only [Option.bind_some]
  rw [qj]
theorem kr(a:Int)(l:List (List Int))(hl:l.length≤1048576)(k:Nat)(hk:1048620<k):bL.f k a l=some (recB a l):=by
  unfold bL.f recB
  rw [iP]
  simp only [Option.bind_some]
  by_cases hs:seqB a=true
  · rw [if_pos hs,hs]
    by_cases h:(l.length:Int)≤1000
    · rw [if_pos h,ng l hl k hk,decide_eq_true (show l.length≤1000 by omega)]
      simp
    · rw [if_neg h,decide_eq_false (show ¬ l.length≤1000 by omega)]
      simp
  · rw [if_neg hs,Bool.eq_false_iff.mpr hs]
    simp
theorem oO(a:Int)(l:List (List Int))(hl:l.length≤1048576)(he:∀ x∈l,SmallE x)(k:Nat)(hk:2097155<k):gJ.f k a l=some (a,l):=by
  unfold gJ.f
  rw [oM l hl he k (by omega)]
  rfl
theorem oZ(a:Int)(l:List (List Int))(hl:l.length≤1048576)(he:∀ x∈l,SmallE x)(k:Nat)(hk:2097155<k):fP.f k a l a l=some true:=by
  unfold fP.f
  rw [if_pos rfl,om l l hl he k (by omega)]
  simp
theorem oW(a:Int)(l:List (List Int))(left:Int)(h0:0≤left)(h1:left≤1048576)(hm:l.length≤9223372036854775807)(hw:∀ x∈l,FitE x):∃ r,(∀ k,1048577≤k→fu.f k a l left=some r)∧r≤left∧(0≤r→l.length≤1048576∧∀ x∈l,SmallE x):=by
  obtain⟨r,h2,h3,h4⟩:=oG l left h0 h1 hm hw
  by_cases h:r<0
  · refine ⟨-1,fun k hk=>?_,by omega,fun h=>by omega⟩
    unfold fu.f
    rw [h2 k hk]
    simp only [Option.bind_some]
    rw [if_pos h]
  · refine ⟨r,fun k hk=>?_,h3,h4⟩
    unfold fu.f
    rw [h2 k hk]
    simp only [Option.bind_some]
    rw [if_neg h]
theorem uX(a b:List Int)(hl:a.length=b.length)(hb:a.length<9223372036854775807)(d:Nat):∀ (i:Nat),i+d=a.length→∀ k,d<k→aJ.l0 k a b (((a.length:Nat):Int)) (i:Int)=some (decide (a.drop i=b.drop i)):=by
  induction d with
  | zero =>
    intro i hi k hk
    obtain⟨k,rfl⟩:∃ m,k=m+1:=⟨k-1,by omega⟩
    simp only [aJ.l0]
    rw [if_neg (show ¬ (i:Int)<(a.length:Int) by omega),fD a i (by omega),fD b i (by omega)]
    simp
  | succ d ih =>
    intro i hi k hk
    obtain⟨k,rfl⟩:∃ m,k=m+1:=⟨k-1,by omega⟩
    simp only [aJ.l0]
    rw [if_pos (show (i:Int)<(a.length:Int) by omega),if_pos (show (0:Int)≤(i:Int) by omega),if_pos (show (i:Int)<(a.length:Int) by omega),if_pos (show (i:Int)<(b.length:Int) by omega)]
    by_cases he:rd a (i:Int)=rd b (i:Int)
    · rw [if_pos he,bN i (by omega),ih (i+1) (by omega) k (by omega)]
      congr 1
      rw [decide_eq_decide,kH a b i (by omega) (by omega)]
      exact⟨fun h=>⟨he,h⟩,fun h=>h.2⟩
    · rw [if_neg he]
      congr 1
      symm
      rw [decide_eq_false_iff_not,kH a b i (by omega) (by omega)]
      exact fun h=>he h.1
theorem ww(a b:List Int)(hb:a.length<9223372036854775807):∀ k,a.length<k→aJ.f k a b=some (decide (a=b)):=by
  intro k hk
  unfold aJ.f
  by_cases hl:a.length=b.length
  · rw [if_pos (by omega)]
    exact uX a b hl hb a.length 0 (by omega) k hk
  · rw [if_neg (by omega),decide_eq_false (fun h=>hl (by rw [h]))]
theorem pz(a:Nat)(ha:a<131072):(BitVec.ofInt 64 (a:Int)).toNat=a:=by
  rw [BitVec.toNat_ofInt];omega
theorem lq(a b:Nat)(ha:a<131072)(hb:b<131072):Go.bits .xor .i64 (a:Int) (b:Int)=((a ^^^ b:Nat):Int):=by
  have hx:a ^^^ b<2 ^ 17:=Nat.xor_lt_two_pow (by omega) (by omega)
  show IntKind.i64.wrap ((BitVec.ofInt 64 (a:Int) ^^^ BitVec.ofInt 64 (b:Int)).toNat:Int)=_
  rw [BitVec.toNat_xor,pz a ha,pz b hb,IntKind.wrap_i64]
  omega
theorem uq(a b:Int)(ha:0≤a∧a≤65535)(hb:0≤b∧b≤65535):0≤Go.bits .xor .i64 a b∧Go.bits .xor .i64 a b≤65535:=by
  obtain⟨x,rfl⟩:=Int.eq_ofNat_of_zero_le ha.1
  obtain⟨y,rfl⟩:=Int.eq_ofNat_of_zero_le hb.1
  have hx:x ^^^ y<2 ^ 16:=Nat.xor_lt_two_pow (by omega) (by omega)
  rw [lq x y (by omega) (by omega)]
  omega
theorem wC(a:Int)(ha:65536≤a∧a≤131071):0≤Go.bits .xor .i64 a 69665∧Go.bits .xor .i64 a 69665≤65535:=by
  obtain⟨x,rfl⟩:=Int.eq_ofNat_of_zero_le (show 0≤a by omega)
  have hx:x ^^^ 69665<2 ^ 16:=by
    apply Nat.lt_pow_two_of_testBit
    intro i hi
    rw [Nat.testBit_xor]
    by_cases h:i=16
    · subst h
      have h1:x.testBit 16=true:=by rw [Nat.testBit_eq_decide_div_mod_eq];exact decide_eq_true (by omega)
      rw [h1]
      decide
    · have hp:2 ^ 17≤2 ^ i:=Nat.pow_le_pow_right (by omega) (by omega)
      rw [Nat.testBit_lt_two_pow (show x<2 ^ i by omega),Nat.testBit_lt_two_pow (show 69665<2 ^ i by omega)]
      rfl
  rw [show (69665:Int)=((69665:Nat):Int) from rfl,lq x 69665 (by omega) (by omega)]
  omega
def ckb:Nat→Int→Int
  | 0,s=>s
  | d+1,s=>ckb d (if wrap64 (s*2) > 65535 then Go.bits .xor .i64 (wrap64 (s*2)) 69665 else wrap64 (s*2))
def ck:Int→List Int→Int
  | s,[]=>s
  | s,b :: r=>ck (ckb 8 (Go.bits .xor .i64 s (wrap64 (b*256)))) r
theorem uF(d:Nat):∀ s:Int,0≤s∧s≤65535→0≤ckb d s∧ckb d s≤65535:=by
  induction d with
  | zero=>intro s h;exact h
  | succ d ih =>
    intro s h
    have hw:wrap64 (s*2)=s*2:=dG _ (by omega)
    rw [ckb,hw]
    apply ih
    by_cases h1:s*2 > 65535
    · rw [if_pos h1];exact wC _ (by omega)
    · rw [if_neg h1];omega
theorem ni(l:List Int):∀ s:Int,0≤s∧s≤65535→l.all byteB=true→0≤ck s l∧ck s l≤65535:=by
  induction l with
  | nil=>intro s h _;exact h
  | cons b r ih =>
    intro s h hb
    rw [List.all_cons,Bool.and_eq_true] at hb
    have hb0:0≤b∧b≤255:=of_decide_eq_true hb.1
    have hw:wrap64 (b*256)=b*256:=dG _ (by omega)
    rw [ck,hw]
    exact ih _ (uF 8 _ (uq _ _ h (by omega))) hb.2
theorem uK(l:List Int)(n i:Int)(d:Nat):∀ (j:Nat) (s:Int),j+d=8→∀ k,bz.l1 (k+d+1) s l n i (j:Int)=bz.l0 k (ckb d s) l n (wrap64 (i+1)):=by
  induction d with
  | zero =>
    intro j s hj k
    simp only [bz.l1]
    rw [if_neg (by omega)]
    rfl
  | succ d ih =>
    intro j s hj k
    rw [show k+(d+1)+1=(k+d+1)+1 from rfl]
    simp only [bz.l1]
    rw [if_pos (show (j:Int)<8 by omega),bN j (by omega),ckb]
    by_cases h:wrap64 (s*2) > 65535
    · rw [if_pos h,if_pos h];exact ih (j+1) _ (by omega) k
    · rw [if_neg h,if_neg h];exact ih (j+1) _ (by omega) k
theorem tT(l:List Int)(hl:l.length≤1048576)(d:Nat):∀ (i:Nat) (s:Int),i+d=l.length→∀ k,10*d<k→bz.l0 k s l (l.length:Int) (i:Int)=some (ck s (l.drop i)):=by
  induction d with
  | zero =>
    intro i s hi k hk
    obtain⟨k,rfl⟩:∃ m,k=m+1:=⟨k-1,by omega⟩
    simp only [bz.l0]
    rw [if_neg (by omega),fD l i (by omega)]
    rfl
  | succ d ih =>
    intro i s hi k hk
    obtain⟨k,rfl⟩:∃ m,k=m+8+1+1:=⟨k-10,by omega⟩
    have hlt:i<l.length:=by omega
    rw [bz.l0]
    rw [if_pos (by omega),if_pos (by omega),if_pos (by omega),kY l i hlt]
    rw [show (0:Int)=((0:Nat):Int) from rfl,uK l (l.length:Int) (i:Int) 8 0 _ (by omega) k,bN i (by omega),ih (i+1) _ (by omega) k (by omega),dU l i hlt]
    rfl
theorem uN(l:List Int)(h:bytesB l=true)(k:Nat)(hk:1000<k):bz.f k l=some (ck 65535 l):=by
  have h40:l.length≤40:=by unfold bytesB at h;simp at h;exact h.2
  unfold bz.f
  rw [iL l k (by omega),h]
  simp only [Option.bind_some,if_true]
  exact tT l (by omega) l.length 0 _ (by omega) k (by omega)
theorem jR(l:List Int)(hl:l.length≤1048580):ai.f l=some l:=by
  unfold ai.f
  simp only [Option.bind_some,List.nil_append,List.length_nil]
  rw [if_pos (by omega)]
def addCk(l:List Int):List Int:=l++[ck 65535 l / 256,ck 65535 l % 256]
theorem vV(c:Int)(h:0≤c∧c≤65535):gB.f c=some (c / 256,c % 256):=by
  unfold gB.f gz.f
  rw [jc,decide_eq_true h]
  simp only [Option.bind_some,if_true]
  rw [Int.tdiv_eq_ediv_of_nonneg h.1,Int.tmod_eq_emod_of_nonneg h.1,dG _ (by omega)]
theorem fI(l:List Int):bytesB l=true↔l.all byteB=true∧l.length≤40:=by
  unfold bytesB
  rw [Bool.and_eq_true,decide_eq_true_eq]
theorem mH(l:List Int)(hl:l.length≤1048580)(k:Nat)(hk:1100<k):bu.f k l=some (if bytesB l=true∧l.length≤38 then addCk l else []):=by
  obtain⟨k,rfl⟩:∃ m,k=m+1:=⟨k-1,by omega⟩
  unfold bu.f
  rw [iL l _ (by omega)]
  simp only [Option.bind_some,bu.j0]
  by_cases hb:bytesB l=true
  · rw [if_pos hb]
    by_cases h38:(l.length:Int) > 38
    · rw [decide_eq_true h38,if_pos rfl,if_neg (by omega)]
    · have hc:=ni l 65535 (by omega) ((fI l).1 hb).1
      rw [decide_eq_false h38,if_neg (by decide),if_pos ⟨hb,by omega⟩,uN l hb _ (by omega)]
      simp only [Option.bind_some]
      rw [vV _ hc]
      simp only [Option.bind_some]
      rw [jR l hl]
      simp only [Option.bind_some]
      rw [if_pos (by simp;omega)]
      rfl
  · rw [if_neg hb,if_pos trivial,if_neg (fun h=>hb h.1)]
theorem tY(l:List Int)(i:Int)(d:Nat):∀ (j:Nat) (s:Int),j+d=8→∀ k,aH.l1 (k+d+1) l s i (j:Int)=aH.l0 k l (ckb d s) (wrap64 (i+1)):=by
  induction d with
  | zero =>
    intro j s hj k
    simp only [aH.l1]
    rw [if_neg (by omega)]
    rfl
  | succ d ih =>
    intro j s hj k
    rw [show k+(d+1)+1=(k+d+1)+1 from rfl]
    simp only [aH.l1]
    rw [if_pos (show (j:Int)<8 by omega),bN j (by omega),ckb]
    by_cases h:wrap64 (s*2) > 65535
    · rw [if_pos h,if_pos h];exact ih (j+1) _ (by omega) k
    · rw [if_neg h,if_neg h];exact ih (j+1) _ (by omega) k
theorem uA(l:List Int)(hl:l.length≤1048576)(d:Nat):∀ (i:Nat) (s:Int),i+d=l.length→∀ k,10*d<k→aH.l0 k l s (i:Int)=some (ck s (l.drop i)):=by
  induction d with
  | zero =>
    intro i s hi k hk
    obtain⟨k,rfl⟩:∃ m,k=m+1:=⟨k-1,by omega⟩
    simp only [aH.l0]
    rw [if_neg (by omega),fD l i (by omega)]
    rfl
  | succ d ih =>
    intro i s hi k hk
    obtain⟨k,rfl⟩:∃ m,k=m+8+1+1:=⟨k-10,by omega⟩
    have hlt:i<l.length:=by omega
    rw [aH.l0]
    rw [if_pos (by omega),if_pos (by omega),kY l i hlt]
    rw [show (0:Int)=((0:Nat):Int) from rfl,tY l (i:Int) 8 0 _ (by omega) k,bN i (by omega),ih (i+1) _ (by omega) k (by omega),dU l i hlt]
    rfl
theorem pM(l:List Int)(h:bytesB l=true)(k:Nat)(hk:1000<k):aH.f k l=some (ck 65535 l):=by
  have h40:l.length≤40:=by unfold bytesB at h;simp at h;exact h.2
  unfold aH.f
  rw [iw l (by omega) k (by omega),h]
  simp only [Option.bind_some,if_true]
  exact uA l (by omega) l.length 0 _ (by omega) k (by omega)
def takeOk(l:List Int):Prop:=2≤l.length∧bytesB l=true∧addCk (l.take (l.length-2))=l
instance(l:List Int):Decidable (takeOk l):=by unfold takeOk;infer_instance
def tcR(l:List Int):List Int×Bool:=if takeOk l then (l.take (l.length-2),true) else ([],false)
theorem lG(l:List Int)(n:Nat)(h:bytesB l=true):bytesB (l.take n)=true:=by
  rw [fI] at h ⊢
  refine⟨List.all_eq_true.mpr fun x hx=>List.all_eq_true.mp h.1 x (List.mem_of_mem_take hx),?_⟩
  rw [List.length_take]
  omega
theorem oU(l:List Int)(hl:l.length≤1048576)(k:Nat)(hk:1200<k):ic.f k l=some (tcR l):=by
  unfold ic.f tcR
  have hw:wrap64 ((l.length:Int)-2)=(l.length:Int)-2:=dG _ (by omega)
  rw [hw]
  by_cases h2:(l.length:Int)-2<0
  · rw [if_pos h2,if_neg (fun h=>by have:=h.1;omega)]
  rw [if_neg h2,iL l k (by omega)]
  simp only [Option.bind_some]
  by_cases hb:bytesB l=true
  · have hn:((l.length:Int)-2).toNat=l.length-2:=by omega
    have h40:=((fI l).1 hb).2
    rw [if_pos hb,if_pos (by omega),if_pos (by omega),hn,mH (l.take (l.length-2)) (by rw [List.length_take];omega) k (by omega)]
    simp only [Option.bind_some]
    rw [if_pos ⟨lG l _ hb,by rw [List.length_take];omega⟩,ww _ _ (by simp only [addCk,List.length_append,List.length_take,List.length_cons,List.length_nil];omega) k (by simp only [addCk,List.length_append,List.length_take,List.length_cons,List.length_nil];omega)]
    simp only [Option.bind_some]
    by_cases he:addCk (l.take (l.length-2))=l
    · rw [if_pos (decide_eq_true he),jR _ (by rw [List.length_take];omega),if_pos ⟨by omega,hb,he⟩]
      rfl
    · rw [decide_eq_false he,if_neg (by decide),if_neg (fun h=>he h.2.2)]
  · rw [if_neg hb,if_neg (fun h=>hb h.2.1)]
theorem pJ(l:List Int)(m:Nat)(hm:l.length=m+2)(hb:l.all byteB=true):addCk (l.take m)=l↔ck 65535 (l.take m)=wrap64 (wrap64 (l[m]'(by omega)*256)+l[m+1]'(by omega)):=by
  have h0:0≤l[m]'(by omega)∧l[m]'(by omega)≤255:=of_decide_eq_true (List.all_eq_true.mp hb _ (List.getElem_mem _))
  have h1:0≤l[m+1]'(by omega)∧l[m+1]'(by omega)≤255:=of_decide_eq_true (List.all_eq_true.mp hb _ (List.getElem_mem _))
  have hd:l.drop m=[l[m]'(by omega),l[m+1]'(by omega)]:=by
    rw [dU l m (by omega),dU l (m+1) (by omega),fD l (m+1+1) (by omega)]
  have hbt:(l.take m).all byteB=true:=List.all_eq_true.mpr fun x hx=>List.all_eq_true.mp hb x (List.mem_of_mem_take hx)
  have hc:=ni (l.take m) 65535 (by omega) hbt
  have e:addCk (l.take m)=l↔[ck 65535 (l.take m) / 256,ck 65535 (l.take m) % 256]=l.drop m:=by
    unfold addCk
    constructor
    · intro h
      have h2:=h.trans (List.take_append_drop m l).symm
      exact List.append_cancel_left h2
    · intro h
      rw [h]
      exact List.take_append_drop m l
  rw [e,hd,dG (l[m]'(by omega)*256) (by omega),dG _ (by omega)]
  simp only [List.cons.injEq,and_true]
  omega
theorem oN(l:List Int)(hl:l.length≤1048576)(k:Nat)(hk:1048700<k):bF.f k l=some (tcR l):=by
  obtain⟨k,rfl⟩:∃ m,k=m+1:=⟨k-1,by omega⟩
  unfold bF.f tcR
  rw [iw l (by omega) _ (by omega)]
  simp only [Option.bind_some,bF.j0]
  by_cases hb:bytesB l=true
  · rw [if_pos hb]
    by_cases h2:(l.length:Int)<2
    · rw [decide_eq_true h2,if_pos rfl,if_neg (fun h=>by have:=h.1;omega)]
    · obtain ⟨m,hm⟩:∃ m,l.length=m+2:=⟨l.length-2,by omega⟩
      have hw:wrap64 ((l.length:Int)-2)=(m:Int):=by rw [dG _ (by omega)];omega
      have hw1:wrap64 ((l.length:Int)-1)=((m+1:Nat):Int):=by rw [dG _ (by omega)];omega
      have hn:(m:Int).toNat=m:=rfl
      have hn2:l.length-2=m:=by omega
      rw [decide_eq_false h2,if_neg (by decide),hw,hw1,if_pos (by omega),if_pos (by omega),hn,pM _ (lG l m hb) _ (by omega)]
      simp only [Option.bind_some]
      rw [if_pos (by omega),if_pos (by omega),if_pos (by omega),kY l m (by omega),kY l (m+1) (by omega),hn2]
      by_cases hc:addCk (l.take m)=l
      · rw [if_pos ((pJ l m hm ((fI l).1 hb).1).1 hc),if_pos (by simp only [List.length_nil,List.length_take];omega),if_pos (show takeOk l from ⟨by omega,hb,by rw [hn2];exact hc⟩),List.nil_append]
      · rw [if_neg (fun h=>hc ((pJ l m hm ((fI l).1 hb).1).2 h)),if_neg (show ¬ takeOk l from fun h=>hc (by have:=h.2.2;rw [hn2] at this;exact this))]
  · rw [if_neg hb,if_pos trivial,if_neg (fun h=>hb h.2.1)]
def twR(l:List Int):Int×List Int×Bool:=if takeOk l then (match l.take (l.length-2) with | []=>(0,[],false)|a :: r=>if seqB a=true then (a,r,true) else (0,[],false)) else (0,[],false)
theorem mM(l:List Int)(hl:l.length≤1048576)(k:Nat)(hk:1200<k):eX.f k l=some (twR l):=by
  unfold eX.f twR
  rw [oU l hl k hk]
  simp only [Option.bind_some]
  unfold tcR
  by_cases h:takeOk l
  · simp only [if_pos h,if_true]
    generalize l.take (l.length-2)=m
    cases m with
    | nil=>rfl
    | cons a r =>
      have r0:rd (a :: r) (0:Int)=a:=rfl
      have d1:(a :: r).drop 1=r:=rfl
      have p1:(0:Int)<((a :: r).length:Int):=by simp only [List.length_cons];omega
      rw [if_neg (by omega),if_pos (Int.le_refl 0),if_pos p1,r0,iP,d1]
      simp only [Option.bind_some]
      by_cases hs:seqB a=true
      · rw [if_pos hs,if_pos (Int.le_refl 0),if_pos p1,if_pos hs]
      · rw [if_neg hs,if_neg hs]
  · simp only [if_neg h,if_false]
    rfl
theorem mK(l:List Int)(hl:l.length≤1048576)(k:Nat)(hk:1048700<k):bT.f k l=some (twR l):=by
  unfold bT.f twR
  rw [oN l hl k hk]
  simp only [Option.bind_some]
  unfold tcR
  by_cases h:takeOk l
  · simp only [if_pos h,if_true]
    generalize l.take (l.length-2)=m
    cases m with
    | nil=>rfl
    | cons a r =>
      have r0:rd (a :: r) 0=a:=rfl
      have d1:(a :: r).drop (1:Int).toNat=r:=rfl
      rw [if_neg (by simp only [List.length_cons];omega),if_pos (by simp only [List.length_cons];omega),r0,iD,d1]
      simp only [Option.bind_some]
      by_cases hs:seqB a=true
      · rw [if_pos hs,if_pos (by simp only [List.length_cons];omega),if_pos hs]
      · rw [if_neg hs,if_neg hs]
  · simp only [if_neg h,if_false]
    rfl
def stepsTo(n x:Int):Int:=if seqB n=true∧seqB x=true then (x-n+16) % 16 else -1
def oldB(n x:Int):Bool:=decide (1≤stepsTo n x∧stepsTo n x≤7)
theorem u_(n x:Int):dE.f n x=some (stepsTo n x):=by
  unfold dE.f stepsTo
  rw [iP,iP]
  simp only [Option.bind_some]
  by_cases h1:seqB n=true
  · by_cases h2:seqB x=true
    · have g1:0≤n∧n≤15:=of_decide_eq_true h1
      have g2:0≤x∧x≤15:=of_decide_eq_true h2
      rw [if_pos h1,if_pos h2,if_pos ⟨h1,h2⟩,dG (x-n) (by omega),dG _ (by omega),Int.tmod_eq_emod_of_nonneg (by omega)]
    · rw [if_pos h1,if_neg h2,if_neg (fun h=>h2 h.2)]
  · rw [if_neg h1,if_neg (fun h=>h1 h.1)]
theorem uI(n x:Int):jw.f n x=some (oldB n x):=by
  unfold jw.f oldB
  rw [u_]
  simp only [Option.bind_some]
  rw [jc]
  rfl
theorem vH(n x:Int):bD.f n x=some (stepsTo n x):=by
  unfold bD.f stepsTo
  rw [iD,iD]
  simp only [Option.bind_some]
  by_cases h1:seqB n=true
  · by_cases h2:seqB x=true
    · have g1:0≤n∧n≤15:=of_decide_eq_true h1
      have g2:0≤x∧x≤15:=of_decide_eq_true h2
      rw [if_pos h1,if_pos h2,if_pos ⟨h1,h2⟩,dG (x-n) (by omega),dG _ (by omega),Int.tmod_eq_emod_of_nonneg (by omega)]
    · rw [if_pos h1,if_neg h2,if_neg (fun h=>h2 h.2)]
  · rw [if_neg h1,if_neg (fun h=>h1 h.1)]
theorem ui(n x:Int):jo.f n x=some (oldB n x):=by
  unfold jo.f oldB
  rw [vH]
  simp only [Option.bind_some]
  rw [kE]
  rfl
def judR(e:Int)(l:List (List Int))(w:List Int):Int:=if (twR w).2.2=true∧recB e l=true then if (twR w).1=e then 0 else if oldB (twR w).1 e=true then 1 else 2 else 3
theorem uJ(e:Int)(l:List (List Int))(w:List Int)(hl:l.length≤1048576)(hw:w.length≤1048576)(k:Nat)(hk:1048700<k):iB.f k e l w=some (judR e l w):=by
  unfold iB.f judR
  rw [mM w hw k (by omega)]
  generalize twR w=q
  obtain⟨q1,q2,q3⟩:=q
  simp only [Option.bind_some]
  try dsimp only
  by_cases h1:q3=true
  · rw [if_pos h1,kr e l hl k (by omega)]
    simp only [Option.bind_some]
    by_cases h2:recB e l=true
    · rw [if_pos h2,if_pos (show q3=true∧recB e l=true from ⟨h1,h2⟩)]
      by_cases h3:q1=e
      · rw [if_pos h3,if_pos h3]
      · rw [if_neg h3,if_neg h3,uI]
        simp only [Option.bind_some]
        by_cases h4:oldB q1 e=true
        · rw [if_pos h4,if_pos h4]
        · rw [if_neg h4,if_neg h4]
    · rw [if_neg h2,if_neg (show ¬ (q3=true∧recB e l=true) from fun h=>h2 h.2)]
  · rw [if_neg h1,if_neg (show ¬ (q3=true∧recB e l=true) from fun h=>h1 h.1)]
theorem tH(e:Int)(l:List (List Int))(w:List Int)(hl:l.length≤1048576)(hw:w.length≤1048576)(he:∀ x∈l,SmallE x)(k:Nat)(hk:2097200<k):gL.f k e l w=some (judR e l w):=by
  unfold gL.f judR
  rw [mK w hw k (by omega)]
  generalize twR w=q
  obtain⟨q1,q2,q3⟩:=q
  simp only [Option.bind_some]
  try dsimp only
  by_cases h1:q3=true
  · rw [if_pos h1,kz e l hl he k (by omega)]
    simp only [Option.bind_some]
    by_cases h2:recB e l=true
    · rw [if_pos h2,if_pos (show q3=true∧recB e l=true from ⟨h1,h2⟩)]
      by_cases h3:q1=e
      · rw [if_pos h3,if_pos h3]
      · rw [if_neg h3,if_neg h3,ui]
        simp only [Option.bind_some]
        by_cases h4:oldB q1 e=true
        · rw [if_pos h4,if_pos h4]
        · rw [if_neg h4,if_neg h4]
    · rw [if_neg h2,if_neg (show ¬ (q3=true∧recB e l=true) from fun h=>h2 h.2)]
  · rw [if_neg h1,if_neg (show ¬ (q3=true∧recB e l=true) from fun h=>h1 h.1)]
theorem wL(l:List Int):(twR l).2.1.length≤40:=by
  unfold twR
  by_cases h:takeOk l
  · have h40:=((fI l).1 h.2.1).2
    rw [if_pos h]
    have hm:(l.take (l.length-2)).length≤40:=by rw [List.length_take];omega
    generalize l.take (l.length-2)=m at hm
    cases m with
    | nil=>simp
    | cons a r =>
      simp only [List.length_cons] at hm
      by_cases hs:seqB a=true
      · simp only [hs,if_true];omega
      · simp only [hs];simp
  · rw [if_neg h];simp
theorem qd(l:List (List Int))(hl:l.length≤1048576)(hs:∀ x∈l,SmallE x)(d:Nat):∀ i:Nat,i+d=l.length→∀ k,d<k→bH.l0 k (l.take i) l (l.length:Int) (i:Int)=some l:=by
  induction d with
  | zero =>
    intro i hi k hk
    obtain⟨k,rfl⟩:∃ m,k=m+1:=⟨k-1,by omega⟩
    simp only [bH.l0]
    rw [if_neg (by omega),kS l i (by omega)]
  | succ d ih =>
    intro i hi k hk
    obtain⟨k,rfl⟩:∃ m,k=m+1:=⟨k-1,by omega⟩
    simp only [bH.l0]
    rw [if_pos (by omega),if_pos (by omega),if_pos (by omega),kw l i (by omega),jR l[i] (Nat.le_trans (show (l[i]).length≤1048576 from hs _ (List.getElem_mem (by omega))) (by omega))]
    simp only [Option.bind_some]
    rw [if_pos (by rw [List.length_take];omega),←kU l i (by omega),bN i (by omega)]
    exact ih (i+1) (by omega) k (by omega)
theorem mU(l:List (List Int))(hl:l.length≤1048576)(hs:∀ x∈l,SmallE x)(k:Nat)(hk:l.length<k):bH.f k l=some l:=by
  unfold bH.f
  exact qd l hl hs l.length 0 (by omega) k hk
def markL(n:Nat)(s:Int):List Int:=(List.range n).map fun (i:Nat)=>s+(i:Int)
theorem lm(n:Nat)(s:Int):(markL n s).length=n:=by simp [markL]
theorem pG(n:Nat)(s:Int)(i:Nat)(h:i<(markL n s).length):(markL n s)[i]=s+(i:Int):=by simp [markL]
theorem qU(n:Nat)(s:Int)(hn:n≤1048576)(h0:0≤s)(h1:s≤4000000000000000000)(d:Nat):∀ (x:List Int) (i:Nat),x.length=n→x.take i=(markL n s).take i→i+d=n→∀ k,d<k→bG.l0 k x (s+(i:Int)) (i:Int)=some (s+(n:Int),markL n s):=by
  induction d with
  | zero =>
    intro x i hx ht hi k hk
    obtain⟨k,rfl⟩:∃ m,k=m+1:=⟨k-1,by omega⟩
    simp only [bG.l0]
    have hlen:=lm n s
    rw [if_neg (show ¬ (i:Int)<(x.length:Int) by omega),mV x (markL n s) i (by omega) (by omega) ht,show i=n by omega]
  | succ d ih =>
    intro x i hx ht hi k hk
    obtain⟨k,rfl⟩:∃ m,k=m+1:=⟨k-1,by omega⟩
    have hlen:=lm n s
    simp only [bG.l0]
    rw [if_pos (show (i:Int)<(x.length:Int) by omega),if_pos (show (0:Int)≤(i:Int) by omega),bN i (by omega),jI,dG (s+(i:Int)+1) (by omega)]
    have e:s+(i:Int)+1=s+((i+1:Nat):Int):=by omega
    rw [e]
    exact ih _ (i+1) (by simp [hx]) (lS x (markL n s) i _ (by omega) (by omega) ht (pG n s i (by omega)).symm) (by omega) k (by omega)
theorem lC(l:List Int)(s:Int)(hn:l.length≤1048576)(h0:0≤s)(h1:s≤4000000000000000000)(k:Nat)(hk:l.length<k):bG.f k l s=some (s+(l.length:Int),markL l.length s):=by
  unfold bG.f
  have h:=qU l.length s hn h0 h1 l.length l 0 rfl (by simp) (by omega) k hk
  simpa using h
theorem qR(n:Nat)(s:Int)(hn:n≤1048576)(h0:0≤s)(h1:s≤4000000000000000000)(d:Nat):∀ (i:Nat),i+d=n→∀ k,d<k→bJ.l0 k (markL n s) (s+(i:Int)) (i:Int)=some (s+(n:Int)):=by
  have hlen:=lm n s
  induction d with
  | zero =>
    intro i hi k hk
    obtain⟨k,rfl⟩:∃ m,k=m+1:=⟨k-1,by omega⟩
    simp only [bJ.l0]
    rw [if_neg (show ¬ (i:Int)<((markL n s).length:Int) by omega),show i=n by omega]
  | succ d ih =>
    intro i hi k hk
    obtain⟨k,rfl⟩:∃ m,k=m+1:=⟨k-1,by omega⟩
    simp only [bJ.l0]
    rw [if_pos (show (i:Int)<((markL n s).length:Int) by omega),if_pos (show (0:Int)≤(i:Int) by omega),kY _ i (by omega),pG n s i (by omega),if_pos rfl,bN i (by omega),dG (s+(i:Int)+1) (by omega)]
    have e:s+(i:Int)+1=s+((i+1:Nat):Int):=by omega
    rw [e]
    exact ih (i+1) (by omega) k (by omega)
theorem lK(n:Nat)(s:Int)(hn:n≤1048576)(h0:0≤s)(h1:s≤4000000000000000000)(k:Nat)(hk:n<k):bJ.f k (markL n s) s=some (s+(n:Int)):=by
  unfold bJ.f
  have h:=qR n s hn h0 h1 n 0 (by omega) k hk
  simpa using h
def totL:List (List Int)→Nat
  | []=>0
  | x :: l=>x.length+totL l
def markLL:List (List Int)→Int→List (List Int)
  | [],_=>[]
  | x :: l,s=>markL x.length s :: markLL l (s+(x.length:Int))
theorem sU(done:List (List Int))(x:List Int)(rest:List (List Int)):dD (done++x :: rest) (done.length:Int)=x:=by
  unfold dD
  rw [jI]
  simp
theorem set_mid{α:Type}(done:List α)(x y:α)(rest:List α):(done++x :: rest).set done.length y=(done++[y])++rest:=by
  rw [List.set_append_right _ _ (Nat.le_refl _)]
  simp
theorem uf(rest:List (List Int)):∀ (done:List (List Int)) (s:Int),0≤s→s+(totL rest:Int)≤4000000000000000000→done.length+rest.length≤1048576→(∀ x∈rest,x.length≤1048576)→∀ k,1048577+rest.length<k→bO.l0 k (done++rest) s (done.length:Int)=some (s+(totL rest:Int),done++markLL rest s):=by
  induction rest with
  | nil =>
    intro done s h0 h1 hl hs k hk
    obtain⟨k,rfl⟩:∃ m,k=m+1:=⟨k-1,by omega⟩
    simp only [bO.l0]
    rw [if_neg (by rw [List.append_nil];omega)]
    simp [totL,markLL]
  | cons x rest ih =>
    intro done s h0 h1 hl hs k hk
    obtain⟨k,rfl⟩:∃ m,k=m+1:=⟨k-1,by omega⟩
    have hx:=hs x (by simp)
    simp only [List.length_cons] at hk hl
    have ht:totL (x :: rest)=x.length+totL rest:=rfl
    simp only [bO.l0]
    rw [if_pos (by rw [List.length_append,List.length_cons];omega),if_pos (by omega),sU,lC x s hx h0 (by omega) k (by omega)]
    simp only [Option.bind_some]
    rw [bN _ (by omega),jI,set_mid]
    have h:=ih (done++[markL x.length s]) (s+(x.length:Int)) (by omega) (by omega) (by rw [List.length_append,List.length_singleton];omega) (fun y hy=>hs y (by simp [hy])) k (by omega)
    rw [List.length_append,List.length_singleton] at h
    rw [h,ht]
    simp only [markLL,List.append_assoc,List.singleton_append]
    congr 2
    omega
theorem pu(l:List (List Int))(s:Int)(h0:0≤s)(h1:s+(totL l:Int)≤4000000000000000000)(hl:l.length≤1048576)(hs:∀ x∈l,x.length≤1048576)(k:Nat)(hk:2097155<k):bO.f k l s=some (s+(totL l:Int),markLL l s):=by
  unfold bO.f
  exact uf l [] s h0 h1 (by simpa using hl) hs k (by omega)
theorem uP(rest:List (List Int)):∀ (done:List (List Int)) (s:Int),0≤s→s+(totL rest:Int)≤4000000000000000000→done.length+rest.length≤1048576→(∀ x∈rest,x.length≤1048576)→∀ k,1048577+rest.length<k→bM.l0 k (done++markLL rest s) s (done.length:Int)=some (s+(totL rest:Int)):=by
  induction rest with
  | nil =>
    intro done s h0 h1 hl hs k hk
    obtain⟨k,rfl⟩:∃ m,k=m+1:=⟨k-1,by omega⟩
    simp only [bM.l0]
    rw [if_neg (by simp only [markLL,List.append_nil];omega)]
    simp [totL]
  | cons x rest ih =>
    intro done s h0 h1 hl hs k hk
    obtain⟨k,rfl⟩:∃ m,k=m+1:=⟨k-1,by omega⟩
    have hx:=hs x (by simp)
    simp only [List.length_cons] at hk hl
    have ht:totL (x :: rest)=x.length+totL rest:=rfl
    show bM.l0 (k+1) (done++markL x.length s :: markLL rest (s+(x.length:Int))) s (done.length:Int)=_
    simp only [bM.l0]
    rw [if_pos (by rw [List.length_append,List.length_cons];omega),if_pos (by omega),sU,lK x.length s hx h0 (by omega) k (by omega)]
    simp only [Option.bind_some]
    rw [if_neg (by omega),bN _ (by omega)]
    have h:=ih (done++[markL x.length s]) (s+(x.length:Int)) (by omega) (by omega) (by rw [List.length_append,List.length_singleton];omega) (fun y hy=>hs y (by simp [hy])) k (by omega)
    rw [List.length_append,List.length_singleton,List.append_assoc,List.singleton_append] at h
    rw [h,ht]
    congr 1
    omega
theorem pQ(l:List (List Int))(s:Int)(h0:0≤s)(h1:s+(totL l:Int)≤4000000000000000000)(hl:l.length≤1048576)(hs:∀ x∈l,x.length≤1048576)(k:Nat)(hk:2097155<k):bM.f k (markLL l s) s=some (s+(totL l:Int)):=by
  unfold bM.f
  exact uP l [] s h0 h1 (by simpa using hl) hs k (by omega)
theorem sZ(m:Nat)(l:List (List Int))(h:∀ x∈l,x.length≤m):totL l≤l.length*m:=by
  induction l with
  | nil=>simp [totL]
  | cons x l ih =>
    have h1:=h x (by simp)
    have h2:=ih (fun y hy=>h y (by simp [hy]))
    simp only [totL,List.length_cons,Nat.succ_mul]
    omega
def nxE(a:Int):Int:=if seqB a=true then Int.tmod (wrap64 (a+1)) 16 else -1
theorem ru(a:Int):eO.f a=some (nxE a):=by
  unfold eO.f nxE
  rw [iD]
  simp only [Option.bind_some]
  by_cases h:seqB a=true
  · rw [if_pos h,if_pos h]
  · rw [if_neg h,if_neg h]
theorem qF(a:Int):gP.f a=some (nxE a):=by
  unfold gP.f nxE
  rw [iP]
  simp only [Option.bind_some]
  by_cases h:seqB a=true
  · rw [if_pos h,if_pos h]
  · rw [if_neg h,if_neg h]
theorem wu(a b:Int)(l:List (List Int))(hl:l.length≤1048576)(he:∀ x∈l,SmallE x)(d:Nat):∀ i:Nat,i+d=l.length→∀ k,d<k→aA.l0 k (i:Int) a l b (l.take i)=some (b,l):=by
  induction d with
  | zero =>
    intro i hi k hk
    obtain⟨k,rfl⟩:∃ m,k=m+1:=⟨k-1,by omega⟩
    rw [aA.l0]
    rw [if_neg (by omega),List.take_of_length_le (by omega)]
  | succ d ih =>
    intro i hi k hk
    obtain⟨k,rfl⟩:∃ m,k=m+1:=⟨k-1,by omega⟩
    have hlt:i<l.length:=by omega
    have hr:dD l (i:Int)=l[i]:=kw l i hlt
    have hx:l[i].length≤1048576:=he _ (List.getElem_mem hlt)
    have ih:=ih (i+1) (by omega) k (by omega)
    rw [aA.l0]
    rw [if_pos (by omega),Option.bind_some,if_pos (by omega),hr,List.length_nil,if_pos (by omega),List.length_take,if_pos (by omega),bN i (by omega),List.nil_append]
    rw [List.take_succ_eq_append_getElem hlt] at ih
    exact ih
theorem qM(a:Int)(l:List (List Int))(hl:l.length≤1048576)(he:∀ x∈l,SmallE x)(k:Nat)(hk:1048576<k):aA.f k a l=some (a,l):=by
  unfold aA.f
  exact wu a a l hl he l.length 0 (by omega) k (by omega)
theorem o8(a:Int)(l:List (List Int))(hl:l.length≤1048576)(he:∀ x∈l,SmallE x)(k:Nat)(hk:2097160<k):dF.f k a l=some (a,l):=by
  unfold dF.f
  rw [mU l hl he k (by omega)]
  rfl
def tfR(a:Int)(l:List (List Int))(w:List Int):Int×List (List Int)×Int:=if judR a l w=0 then (if (l.length:Int)=1000 then (a,l,2) else (nxE a,l++[(twR w).2.1],0)) else (a,l,judR a l w)
theorem uV(a:Int)(l:List (List Int))(w:List Int)(hl:l.length≤1048576)(hw:w.length≤1048576)(he:∀ x∈l,SmallE x)(k:Nat)(hk:2097300<k):eD.f k a l w=some (tfR a l w):=by
  unfold eD.f tfR
  rw [qM a l hl he k (by omega)]
  simp only [Option.bind_some]
  rw [tH a l w hl hw he k (by omega)]
  simp only [Option.bind_some]
  by_cases h:judR a l w=0
  · rw [if_pos h,if_pos h]
    by_cases h2:(l.length:Int)=1000
    · rw [if_pos h2,if_pos h2]
    · rw [if_neg h2,if_neg h2,mK w hw k (by omega),h]
      simp only [Option.bind_some]
      rw [if_pos (by omega),ru]
      rfl
  · rw [if_neg h,if_neg h]
theorem vz(a:Int)(l:List (List Int))(w:List Int)(hl:l.length≤1048576)(hw:w.length≤1048576)(he:∀ x∈l,SmallE x)(k:Nat)(hk:2097300<k):eY.f k a l w=some (tfR a l w):=by
  unfold eY.f tfR
  rw [o8 a l hl he k (by omega)]
  simp only [Option.bind_some]
  rw [uJ a l w hl hw k (by omega)]
  simp only [Option.bind_some]
  have h40:=wL w
  by_cases h:judR a l w=0
  · rw [if_pos h,if_pos h]
    by_cases h2:(l.length:Int)=1000
    · rw [if_pos h2,if_pos h2]
    · rw [if_neg h2,if_neg h2,mM w hw k (by omega)]
      revert h40
      generalize twR w=q
      obtain⟨q1,q2,q3⟩:=q
      intro h40
      simp only [Option.bind_some]
      rw [jR q2 (by have:q2.length≤40:=h40;omega)]
      simp only [Option.bind_some]
      rw [if_pos (by omega),qF]
      rfl
  · rw [if_neg h,if_neg h]
theorem qg(l:List Int)(hl:l.length≤1048580)(k:Nat)(hk:1048700<k):fe.f k l=some (if bytesB l=true∧l.length≤38 then addCk l else []):=by
  unfold fe.f
  rw [iw l hl _ (by omega)]
  simp only [Option.bind_some]
  by_cases hb:bytesB l=true
  · rw [if_pos hb]
    by_cases h38:(l.length:Int) > 38
    · rw [if_pos h38,if_neg (by omega)]
    · have hc:=ni l 65535 (by omega) ((fI l).1 hb).1
      have hw:wrap64 (Int.tdiv (ck 65535 l) 256)=ck 65535 l / 256:=by rw [Int.tdiv_eq_ediv_of_nonneg hc.1,dG _ (by omega)]
      rw [if_neg h38,if_pos ⟨hb,by omega⟩,pM l hb _ (by omega)]
      simp only [Option.bind_some,List.nil_append,List.length_nil]
      rw [if_pos (by omega),if_pos (by simp;omega),hw,Int.tmod_eq_emod_of_nonneg hc.1]
      rfl
  · rw [if_neg hb,if_neg (fun h=>hb h.1)]
theorem rV(s:Int)(l:List Int)(hl:l.length≤1048576)(k:Nat)(hk:1048577<k):iJ.f k s l=some (s,l):=by
  unfold iJ.f
  rw [nA l hl k (by omega)]
  rfl
theorem rM(s:Int)(l:List Int)(hl:l.length≤1048576)(k:Nat)(hk:1048577<k):gT.f k s l s l=some true:=by
  unfold gT.f
  rw [if_pos rfl,nC l l (by omega) k (by omega)]
  simp
theorem rA(s:Int)(l:List Int)(left:Int)(h0:0≤left)(h1:left≤1048576)(hl:l.length≤9223372036854775807):∃ r,gU.f s l left=some r∧r≤left∧(0≤r→r=left-l.length):=by
  unfold gU.f
  rw [nE l left h0 h1 hl]
  simp only [Option.bind_some]
  by_cases hx:left<l.length
  · rw [if_pos hx,if_pos (by omega)]
    exact⟨_,rfl,by omega,fun h=>by omega⟩
  · rw [if_neg hx,if_neg (by omega)]
    exact⟨_,rfl,by omega,fun h=>rfl⟩
def SmallF(x:S108):Prop:=x.f1.length≤1048576
def FitF(x:S108):Prop:=x.f1.length≤9223372036854775807
def SmallG(x:S68):Prop:=x.f1.length≤1048576
def cvF(x:S108):S68:=⟨x.f0,x.f1⟩
theorem tF(l:List S108)(h:∀ x∈l,SmallF x):∀ y∈l.map cvF,SmallG y:=by
  intro y hy
  obtain⟨x,hx,rfl⟩:=List.mem_map.1 hy
  exact h x hx
theorem rE(l:List (S108))(i:Nat)(h:i<l.length):fV l (i:Int)=l[i]:=by
  show l.getD i z108=l[i]
  simp [h]
theorem mq(l:List (S68))(i:Nat)(h:i<l.length):ay l (i:Int)=l[i]:=by
  show l.getD i z68=l[i]
  simp [h]
theorem szF(x:S108)(left:Int)(h0:0≤left)(h1:left≤1048576)(hw:FitF x):∃ r,gU.f x.f0 x.f1 left=some r∧r≤left∧(0≤r→SmallF x):=by
  obtain⟨r,e,hr,hr'⟩:=rA x.f0 x.f1 left h0 h1 hw
  exact⟨r,e,hr,fun h=>by have:=hr' h;unfold SmallF;omega⟩
theorem qw(l:List (S108))(hl:l.length≤1048576)(hw:∀ x∈l,FitF x)(d:Nat):∀ (i:Nat) (left:Int),0≤left→left≤1048576→i+d=l.length→∃ r,(∀ k,d<k→dh.l0 k l left (i:Int)=some r)∧r≤left∧(0≤r→∀ x∈l.drop i,SmallF x):=by
  induction d with
  | zero =>
    intro i left h0 h1 hi
    refine⟨left,fun k hk=>?_,Int.le_refl _,fun _ x hx=>?_⟩
    · obtain ⟨k,rfl⟩:∃ m,k=m+1:=⟨k-1,by omega⟩
      simp only [dh.l0]
      rw [if_neg (show ¬ (i:Int)<(l.length:Int) by omega)]
    · rw [fD l i (by omega)] at hx;cases hx
  | succ d ih =>
    intro i left h0 h1 hi
    have hlt:i<l.length:=by omega
    obtain⟨q,e,hq1,hq2⟩:=szF l[i] left h0 h1 (hw _ (List.getElem_mem hlt))
    by_cases hq:q<0
    · refine ⟨-1,fun k hk=>?_,by omega,fun h=>by omega⟩
      obtain⟨k,rfl⟩:∃ m,k=m+1:=⟨k-1,by omega⟩
      simp only [dh.l0]
      rw [if_pos (show (i:Int)<(l.length:Int) by omega),if_pos (show (0:Int)≤(i:Int) by omega),rE l i hlt,e]
      simp only [Option.bind_some]
      rw [if_pos hq]
    · obtain ⟨r,hr1,hr2,hr3⟩:=ih (i+1) q (by omega) (by omega) (by omega)
      refine⟨r,fun k hk=>?_,by omega,fun h x hx=>?_⟩
      · obtain ⟨k,rfl⟩:∃ m,k=m+1:=⟨k-1,by omega⟩
        simp only [dh.l0]
        rw [if_pos (show (i:Int)<(l.length:Int) by omega),if_pos (show (0:Int)≤(i:Int) by omega),rE l i hlt,e]
        simp only [Option.bind_some]
        rw [if_neg hq,bN i (by omega)]
        exact hr1 k (by omega)
      · rw [dU l i hlt] at hx
        rcases List.mem_cons.1 hx with rfl|hx
        · exact hq2 (by omega)
        · exact hr3 h x hx
theorem qB(l:List (S108))(left:Int)(h0:0≤left)(h1:left≤1048576)(hm:l.length≤9223372036854775807)(hw:∀ x∈l,FitF x):∃ r,(∀ k,1048577≤k→dh.f k l left=some r)∧r≤left∧(0≤r→l.length≤1048576∧∀ x∈l,SmallF x):=by
  unfold dh.f
  rw [dG _ (by omega)]
  by_cases h:left-(l.length:Int)<0
  · refine ⟨-1,fun k hk=>?_,by omega,fun h=>by omega⟩
    rw [if_pos h]
  · obtain ⟨r,hr1,hr2,hr3⟩:=qw l (by omega) hw l.length 0 (left-(l.length:Int)) (by omega) (by omega) (by omega)
    refine⟨r,fun k hk=>?_,by omega,fun h=>⟨by omega,fun x hx=>hr3 h x (by simpa using hx)⟩⟩
    rw [if_neg h]
    exact hr1 k (by omega)
theorem rq(l:List S108)(hb:l.length≤1048576)(he:∀ x∈l,SmallF x)(d:Nat):∀ (x:List S68) (i:Nat),x.length=l.length→x.take i=(l.map cvF).take i→i+d=l.length→∀ k,1048590+d<k→bU.l0 k l x (i:Int)=some (l.map cvF):=by
  induction d with
  | zero =>
    intro x i hx ht hi k hk
    obtain⟨k,rfl⟩:∃ m,k=m+1:=⟨k-1,by omega⟩
    simp only [bU.l0]
    rw [if_neg (show ¬ (i:Int)<(l.length:Int) by omega),mV x (l.map cvF) i (by simp [hx]) (by simp;omega) ht]
  | succ d ih =>
    intro x i hx ht hi k hk
    obtain⟨k,rfl⟩:∃ m,k=m+1:=⟨k-1,by omega⟩
    have hlt:i<l.length:=by omega
    have hs:=he _ (List.getElem_mem hlt)
    unfold SmallF at hs
    simp only [bU.l0]
    rw [if_pos (show (i:Int)<(l.length:Int) by omega),if_pos (show (0:Int)≤(i:Int) by omega),rE l i hlt,rV l[i].f0 l[i].f1 hs k (by omega)]
    simp only [Option.bind_some]
    rw [if_pos (show (i:Int)<(x.length:Int) by omega),bN i (by omega),jI]
    exact ih _ (i+1) (by simp [hx]) (lS x (l.map cvF) i _ (by omega) (by simp;omega) ht (by rw [List.getElem_map];rfl)) (by omega) k (by omega)
theorem qP(l:List S108)(hb:l.length≤1048576)(he:∀ x∈l,SmallF x):∀ k,2097170<k→bU.f k l=some (l.map cvF):=by
  intro k hk
  unfold bU.f
  rw [if_pos (by omega),if_pos (by omega)]
  exact rq l hb he l.length _ 0 (by simp) (by simp) (by omega) k (by omega)
theorem qy(l:List S68)(hb:l.length≤1048576)(he:∀ x∈l,SmallG x)(d:Nat):∀ (i:Nat),i+d=l.length→∀ k,1048590+d<k→bi.l0 k l l (i:Int)=some true:=by
  induction d with
  | zero =>
    intro i hi k hk
    obtain⟨k,rfl⟩:∃ m,k=m+1:=⟨k-1,by omega⟩
    simp only [bi.l0]
    rw [if_neg (show ¬ (i:Int)<(l.length:Int) by omega)]
  | succ d ih =>
    intro i hi k hk
    obtain⟨k,rfl⟩:∃ m,k=m+1:=⟨k-1,by omega⟩
    have hlt:i<l.length:=by omega
    have hs:=he _ (List.getElem_mem hlt)
    unfold SmallG at hs
    simp only [bi.l0]
    rw [if_pos (show (i:Int)<(l.length:Int) by omega),if_pos (show (0:Int)≤(i:Int) by omega),if_pos (show (i:Int)<(l.length:Int) by omega),mq l i hlt,rM l[i].f0 l[i].f1 hs k (by omega)]
    simp only [Option.bind_some,if_true]
    rw [bN i (by omega)]
    exact ih (i+1) (by omega) k (by omega)
theorem qL(l:List S68)(hb:l.length≤1048576)(he:∀ x∈l,SmallG x):∀ k,2097170<k→bi.f k l l=some true:=by
  intro k hk
  unfold bi.f
  rw [if_pos rfl]
  exact qy l hb he l.length 0 (by omega) k (by omega)
def sdI(a b:Int):Int:=if seqB a=true then (if seqB b=true then Int.tmod (wrap64 ((wrap64 (b-a))+16)) 16 else -1) else -1
theorem qC(a b:Int):bD.f a b=some (sdI a b):=by
  unfold bD.f sdI
  rw [iD,iD]
  cases seqB a <;> cases seqB b <;> rfl
theorem rf(a b:Int):dE.f a b=some (sdI a b):=by
  unfold dE.f sdI
  rw [iP,iP]
  cases seqB a <;> cases seqB b <;> rfl
def frOk(s:Int)(n:Nat):Nat→List S68→Bool
  | _,[]=>true
  | i,x :: r=>decide (sdI x.f0 s=wrap64 ((n:Int)-(i:Int)))&&(bytesB x.f1&&frOk s n (i+1) r)
def sndB(s:Int)(l:List S68)(r:Int):Bool:=seqB s&&(decide (l.length≤7)&&(decide (0≤r∧r≤(l.length:Int))&&frOk s l.length 0 l))
theorem qI(s:Int)(l:List S68)(r:Int)(hl:l.length≤7)(hs:∀ x∈l,SmallG x)(d:Nat):∀ i:Nat,i+d=l.length→∀ k,1048600+d<k→au.l0 k (l.length:Int) (i:Int) s l r=some (frOk s l.length i (l.drop i)):=by
  induction d with
  | zero =>
    intro i hi k hk
    obtain⟨k,rfl⟩:∃ m,k=m+1:=⟨k-1,by omega⟩
    simp only [au.l0]
    rw [if_neg (show ¬ (i:Int)<(l.length:Int) by omega),fD l i (by omega)]
    rfl
  | succ d ih =>
    intro i hi k hk
    obtain⟨k,rfl⟩:∃ m,k=m+1:=⟨k-1,by omega⟩
    have hlt:i<l.length:=by omega
    have hsm:=hs _ (List.getElem_mem hlt)
    unfold SmallG at hsm
    have ih:=ih (i+1) (by omega) k (by omega)
    simp only [au.l0]
    rw [if_pos (show (i:Int)<(l.length:Int) by omega),if_pos (show (0:Int)≤(i:Int) by omega),if_pos (show (i:Int)<(l.length:Int) by omega),mq l i hlt,qC,dU l i hlt]
    simp only [Option.bind_some,frOk]
    by_cases hd:sdI l[i].f0 s=wrap64 ((l.length:Int)-(i:Int))
    · rw [if_pos hd,decide_eq_true hd,iw l[i].f1 (by omega) k (by omega)]
      simp only [Option.bind_some]
      by_cases hb:bytesB l[i].f1=true
      · rw [if_pos hb,hb,bN i (by omega),ih]
        rfl
      · rw [if_neg hb,Bool.eq_false_iff.mpr hb]
        rfl
    · rw [if_neg hd,decide_eq_false hd]
      rfl
theorem qK(s:Int)(l:List S68)(b:Bool)(hl:l.length≤7)(hs:∀ x∈l,SmallG x)(d:Nat):∀ i:Nat,i+d=l.length→∀ k,1048600+d<k→∃ j,aY.l4 k l s b (i:Int)=some (frOk s l.length i (l.drop i),b,j):=by
  induction d with
  | zero =>
    intro i hi k hk
    obtain⟨k,rfl⟩:∃ m,k=m+1:=⟨k-1,by omega⟩
    refine⟨(i:Int),?_⟩
    simp only [aY.l4]
    rw [if_neg (show ¬ (i:Int)<(l.length:Int) by omega),fD l i (by omega)]
    rfl
  | succ d ih =>
    intro i hi k hk
    obtain⟨k,rfl⟩:∃ m,k=m+1:=⟨k-1,by omega⟩
    have hlt:i<l.length:=by omega
    have hsm:=hs _ (List.getElem_mem hlt)
    unfold SmallG at hsm
    obtain⟨j,ih⟩:=ih (i+1) (by omega) k (by omega)
    simp only [aY.l4]
    rw [if_pos (show (i:Int)<(l.length:Int) by omega),if_pos (show (0:Int)≤(i:Int) by omega),if_pos (show (i:Int)<(l.length:Int) by omega),mq l i hlt,rf,dU l i hlt]
    simp only [Option.bind_some,frOk]
    by_cases hd:sdI l[i].f0 s=wrap64 ((l.length:Int)-(i:Int))
    · rw [if_pos hd,decide_eq_true hd,iL l[i].f1 k (by omega)]
      simp only [Option.bind_some]
      by_cases hb:bytesB l[i].f1=true
      · rw [if_pos hb,hb,bN i (by omega)]
        exact⟨j,by rw [ih];rfl⟩
      · rw [if_neg hb,Bool.eq_false_iff.mpr hb]
        exact⟨_,rfl⟩
    · rw [if_neg hd,decide_eq_false hd]
      exact⟨_,rfl⟩
theorem mP(s:Int)(l:List S68)(r:Int)(hs:∀ x∈l,SmallG x)(k:Nat)(hk:1048700<k):au.f k s l r=some (sndB s l r):=by
  obtain⟨k,rfl⟩:∃ m,k=m+1:=⟨k-1,by omega⟩
  unfold au.f sndB
  rw [iD]
  simp only [Option.bind_some]
  by_cases h1:seqB s=true
  · rw [if_pos h1,h1]
    by_cases h2:l.length≤7
    · rw [if_neg (by omega),kE,decide_eq_true h2]
      simp only [Option.bind_some,au.j0]
      by_cases h3:0≤r∧r≤(l.length:Int)
      · rw [decide_eq_true h3,if_neg (by decide)]
        have h:=qI s l r h2 hs l.length 0 (by omega) k (by omega)
        have c0:((0:Nat):Int)=0:=rfl
        rw [c0] at h
        rw [h]
        rfl
      · rw [decide_eq_false h3,if_pos (by decide)]
        rfl
    · rw [if_pos (by omega),decide_eq_false h2]
      simp only [au.j0]
      rfl
  · rw [if_neg h1,Bool.eq_false_iff.mpr h1]
    simp only [au.j0]
    rfl
theorem mJ(s:Int)(l:List S68)(r:Int)(hs:∀ x∈l,SmallG x)(k:Nat)(hk:1048700<k):aY.f k s l r=some (sndB s l r):=by
  unfold aY.f sndB
  rw [iP]
  simp only [Option.bind_some]
  by_cases h1:seqB s=true
  · rw [if_pos h1,h1]
    by_cases h2:l.length≤7
    · rw [if_neg (by omega),jc,decide_eq_true h2]
      simp only [Option.bind_some]
      by_cases h3:0≤r∧r≤(l.length:Int)
      · rw [decide_eq_true h3,if_pos (by decide)]
        obtain⟨j,h⟩:=qK s l false h2 hs l.length 0 (by omega) k (by omega)
        have c0:((0:Nat):Int)=0:=rfl
        rw [c0,List.drop_zero] at h
        rw [h]
        simp only [Option.bind_some]
        cases frOk s l.length 0 l <;> rfl
      · rw [decide_eq_false h3,if_neg (by decide)]
        rfl
    · rw [if_pos (by omega),decide_eq_false h2]
      rfl
  · rw [if_neg h1,Bool.eq_false_iff.mpr h1]
    rfl
def ackB(v:Int):Bool:=seqB v || decide (100≤v∧v≤115)
def lnkB(s:Int)(l:List S68)(r e:Int)(h w:List (List Int))(a:List Int):Bool:=sndB s l r&&(recB e h&&(decide (w.length≤8)&&(decide (a.length≤8)&&(w.all bytesB&&a.all ackB))))
theorem xe(v:Int)(h : -9223372036854775808≤v∧v≤9223372036854775807):seqB (wrap64 (v-100))=decide (100≤v∧v≤115):=by
  unfold seqB
  rw [decide_eq_decide]
  unfold wrap64
  omega
theorem uL(v:Int):gZ.f v=some (!ackB v):=by
  unfold gZ.f ackB
  rw [iP,jc]
  cases seqB v <;> rfl
theorem uU(l:List Int)(b:Bool)(hl:l.length≤8)(hr:∀ v∈l, -9223372036854775808≤v∧v≤9223372036854775807)(d:Nat):∀ i:Nat,i+d=l.length→∀ k,d<k→∃ j,bK.l7 k l b (i:Int)=some ((l.drop i).all ackB,b,j):=by
  induction d with
  | zero =>
    intro i hi k hk
    obtain⟨k,rfl⟩:∃ m,k=m+1:=⟨k-1,by omega⟩
    refine⟨(i:Int),?_⟩
    simp only [bK.l7]
    rw [if_neg (show ¬ (i:Int)<(l.length:Int) by omega),fD l i (by omega)]
    rfl
  | succ d ih =>
    intro i hi k hk
    obtain⟨k,rfl⟩:∃ m,k=m+1:=⟨k-1,by omega⟩
    have hlt:i<l.length:=by omega
    obtain⟨j,ih⟩:=ih (i+1) (by omega) k (by omega)
    simp only [bK.l7]
    rw [if_pos (show (i:Int)<(l.length:Int) by omega),if_pos (show (0:Int)≤(i:Int) by omega),if_pos (show (i:Int)<(l.length:Int) by omega),kY l i hlt,iD,iD,xe _ (hr _ (List.getElem_mem hlt)),dU l i hlt,List.all_cons,bN i (by omega),ih]
    simp only [Option.bind_some]
    have hb:ackB l[i]=(seqB l[i] || decide (100≤l[i]∧l[i]≤115)):=rfl
    rw [hb]
    cases seqB l[i] <;> cases decide (100≤l[i]∧l[i]≤115) <;> exact ⟨_,rfl⟩
theorem tO(l:List (List Int))(b:Bool)(hl:l.length≤8)(hs:∀ x∈l,SmallE x)(d:Nat):∀ i:Nat,i+d=l.length→∀ k,1048600+d<k→∃ j,bK.l4 k l b (i:Int)=some ((l.drop i).all bytesB,b,j):=by
  induction d with
  | zero =>
    intro i hi k hk
    obtain⟨k,rfl⟩:∃ m,k=m+1:=⟨k-1,by omega⟩
    refine⟨(i:Int),?_⟩
    simp only [bK.l4]
    rw [if_neg (show ¬ (i:Int)<(l.length:Int) by omega),fD l i (by omega)]
    rfl
  | succ d ih =>
    intro i hi k hk
    obtain⟨k,rfl⟩:∃ m,k=m+1:=⟨k-1,by omega⟩
    have hlt:i<l.length:=by omega
    have hsm:=hs _ (List.getElem_mem hlt)
    unfold SmallE at hsm
    have hq:fG l (i:Int)=l[i]:=kw l i hlt
    obtain⟨j,ih⟩:=ih (i+1) (by omega) k (by omega)
    simp only [bK.l4]
    rw [if_pos (show (i:Int)<(l.length:Int) by omega),if_pos (show (0:Int)≤(i:Int) by omega),if_pos (show (i:Int)<(l.length:Int) by omega),hq,iw l[i] (by omega) k (by omega),dU l i hlt,List.all_cons,bN i (by omega),ih]
    simp only [Option.bind_some]
    cases bytesB l[i] <;> exact ⟨_,rfl⟩
theorem nU(s:Int)(f:List S68)(r e:Int)(h w:List (List Int))(a:List Int)(hf:∀ x∈f,SmallG x)(hh:h.length≤1048576)(hsh:∀ x∈h,SmallE x)(hsw:∀ x∈w,SmallE x)(hr:∀ v∈a, -9223372036854775808≤v∧v≤9223372036854775807)(k:Nat)(hk:2097200<k):bK.f k s f r e h w a=some (lnkB s f r e h w a):=by
  unfold bK.f lnkB
  rw [mP s f r hf k (by omega),kz e h hh hsh k (by omega)]
  simp only [Option.bind_some]
  cases sndB s f r
  · rfl
  cases recB e h
  · rfl
  rw [if_pos rfl,if_pos rfl]
  by_cases h1:w.length≤8
  · rw [if_neg (by omega),decide_eq_true h1]
    by_cases h2:a.length≤8
    · rw [if_neg (by omega),decide_eq_true h2]
      have c0:((0:Nat):Int)=0:=rfl
      obtain⟨j,h3⟩:=tO w false h1 hsw w.length 0 (by omega) k (by omega)
      rw [c0,List.drop_zero] at h3
      rw [h3]
      simp only [Option.bind_some]
      cases w.all bytesB
      · rfl
      rw [if_pos rfl]
      obtain⟨j2,h4⟩:=uU a false h2 hr a.length 0 (by omega) k (by omega)
      rw [c0,List.drop_zero] at h4
      rw [h4]
      simp only [Option.bind_some]
      cases a.all ackB <;> rfl
    · rw [if_pos (by omega),decide_eq_false h2]
      rfl
  · rw [if_pos (by omega),decide_eq_false h1]
    rfl
theorem uT(l:List (Int))(hl:l.length≤1048576)(d:Nat):∀ i:Nat,i+d=l.length→∀ k,0+d<k→∃ r,ah.l0 k l (l.length:Int) (i:Int)=some r∧decide (r ≥ 0)=(l.drop i).any (fun x => !ackB x):=by
  induction d with
  | zero =>
    intro i hi k hk
    obtain⟨k,rfl⟩:∃ m,k=m+1:=⟨k-1,by omega⟩
    refine⟨-1,?_,?_⟩
    · simp only [ah.l0]
      rw [if_neg (show ¬ (i:Int)<(l.length:Int) by omega)]
    · rw [fD l i (by omega)];rfl
  | succ d ih =>
    intro i hi k hk
    obtain⟨k,rfl⟩:∃ m,k=m+1:=⟨k-1,by omega⟩
    have hlt:i<l.length:=by omega
    simp only [ah.l0]
    rw [if_pos (show (i:Int)<(l.length:Int) by omega),if_pos (show (0:Int)≤(i:Int) by omega),if_pos (show (i:Int)<(l.length:Int) by omega),kY l i hlt,uL l[i]]
    simp only [Option.bind_some]
    by_cases hp:(fun x => !ackB x) l[i]=true
    · rw [if_pos hp]
      exact⟨_,rfl,by rw [kZ l i hlt _ hp,decide_eq_true (by omega)]⟩
    · rw [if_neg hp,bN i (by omega)]
      obtain⟨r,h1,h2⟩:=ih (i+1) (by omega) k (by omega)
      exact⟨r,h1,by rw [h2,lJ l i hlt _ hp]⟩
theorem vZ(l:List (Int))(hl:l.length≤1048576)(k:Nat)(hk:0+l.length<k):az.f k l=some (l.any (fun x => !ackB x)):=by
  obtain⟨r,h1,h2⟩:=uT l hl l.length 0 (by omega) k hk
  unfold az.f ah.f
  have c0:((0:Nat):Int)=0:=rfl
  rw [c0] at h1
  rw [h1]
  simp only [Option.bind_some]
  rw [h2];rfl
theorem oH(s:Int)(f:List S68)(r e:Int)(h w:List (List Int))(a:List Int)(hf:∀ x∈f,SmallG x)(hh:h.length≤1048576)(hw:w.length≤1048576)(k:Nat)(hk:2097200<k):iG.f k s f r e h w a=some (lnkB s f r e h w a):=by
  unfold iG.f lnkB
  rw [mJ s f r hf k (by omega),kr e h hh k (by omega),ng w hw k (by omega)]
  simp only [Option.bind_some]
  cases sndB s f r
  · rfl
  cases recB e h
  · rfl
  by_cases h1:w.length≤8
  · by_cases h2:a.length≤8
    · rw [if_pos rfl,if_pos rfl,if_pos (show (w.length:Int)≤8 by omega),if_pos (show (a.length:Int)≤8 by omega),vZ a (by omega) k (by omega),decide_eq_true h1,decide_eq_true h2]
      simp only [Option.bind_some]
      rw [qj]
      cases w.all bytesB <;> rfl
    · rw [if_pos rfl,if_pos rfl,if_pos (show (w.length:Int)≤8 by omega),if_neg (show ¬ (a.length:Int)≤8 by omega),decide_eq_true h1,decide_eq_false h2]
      cases w.all bytesB <;> rfl
  · rw [if_pos rfl,if_pos rfl,if_neg (show ¬ (w.length:Int)≤8 by omega),decide_eq_false h1]
    cases w.all bytesB <;> rfl
theorem qA(s:Int)(l:List S108)(r left:Int)(h0:0≤left)(h1:left≤1048576)(hm:l.length≤9223372036854775807)(hw:∀ x∈l,FitF x):∃ q,(∀ k,1048577≤k→gm.f k s l r left=some q)∧q≤left∧(0≤q→l.length≤1048576∧∀ x∈l,SmallF x):=by
  obtain⟨q,h2,h3,h4⟩:=qB l left h0 h1 hm hw
  by_cases h:q<0
  · refine ⟨-1,fun k hk=>?_,by omega,fun h=>by omega⟩
    unfold gm.f
    rw [h2 k hk]
    simp only [Option.bind_some]
    rw [if_pos h]
  · refine ⟨q,fun k hk=>?_,h3,h4⟩
    unfold gm.f
    rw [h2 k hk]
    simp only [Option.bind_some]
    rw [if_neg h]
theorem tZ(s:Int)(f:List S108)(r e:Int)(h w:List (List Int))(a:List Int)(left:Int)(g0:0≤left)(g1:left≤1048576)(mf:f.length≤9223372036854775807)(ff:∀ x∈f,FitF x)(mh:h.length≤9223372036854775807)(fh:∀ x∈h,FitE x)(mw:w.length≤9223372036854775807)(fw:∀ x∈w,FitE x)(ma:a.length≤9223372036854775807):∃ q,(∀ k,1048577≤k→fQ.f k s f r e h w a left=some q)∧(0≤q→(f.length≤1048576∧∀ x∈f,SmallF x)∧(h.length≤1048576∧∀ x∈h,SmallE x)∧(w.length≤1048576∧∀ x∈w,SmallE x)∧a.length≤1048576):=by
  obtain⟨q1,e1,a1,b1⟩:=qA s f r left g0 g1 mf ff
  by_cases h1:q1<0
  · refine ⟨-1,fun k hk=>?_,fun h=>by omega⟩
    unfold fQ.f
    rw [e1 k hk]
    simp only [Option.bind_some]
    rw [if_pos h1]
  obtain⟨q2,e2,a2,b2⟩:=oW e h q1 (by omega) (by omega) mh fh
  by_cases h2:q2<0
  · refine ⟨-1,fun k hk=>?_,fun h=>by omega⟩
    unfold fQ.f
    rw [e1 k hk]
    simp only [Option.bind_some]
    rw [if_neg h1,e2 k hk]
    simp only [Option.bind_some]
    rw [if_pos h2]
  obtain⟨q3,e3,a3,b3⟩:=oG w q2 (by omega) (by omega) mw fw
  by_cases h3:q3<0
  · refine ⟨-1,fun k hk=>?_,fun h=>by omega⟩
    unfold fQ.f
    rw [e1 k hk]
    simp only [Option.bind_some]
    rw [if_neg h1,e2 k hk]
    simp only [Option.bind_some]
    rw [if_neg h2,e3 k hk]
    simp only [Option.bind_some]
    rw [if_pos h3]
  obtain⟨q4,e4,b4⟩:∃ q,dY.f a q3=some q∧(0≤q→a.length≤1048576):=by
    refine⟨_,nE a q3 (by omega) (by omega) ma,fun h=>?_⟩
    split at h <;> omega
  by_cases h4:q4<0
  · refine ⟨-1,fun k hk=>?_,fun h=>by omega⟩
    unfold fQ.f
    rw [e1 k hk]
    simp only [Option.bind_some]
    rw [if_neg h1,e2 k hk]
    simp only [Option.bind_some]
    rw [if_neg h2,e3 k hk]
    simp only [Option.bind_some]
    rw [if_neg h3,e4]
    simp only [Option.bind_some]
    rw [if_pos h4]
  · refine ⟨q4,fun k hk=>?_,fun h=>⟨b1 (by omega),b2 (by omega),b3 (by omega),b4 (by omega)⟩⟩
    unfold fQ.f
    rw [e1 k hk]
    simp only [Option.bind_some]
    rw [if_neg h1,e2 k hk]
    simp only [Option.bind_some]
    rw [if_neg h2,e3 k hk]
    simp only [Option.bind_some]
    rw [if_neg h3,e4]
    simp only [Option.bind_some]
    rw [if_neg h4]
theorem tK(s:Int)(f:List S108)(r e:Int)(h w:List (List Int))(a:List Int)(hf:f.length≤1048576)(sf:∀ x∈f,SmallF x)(hh:h.length≤1048576)(sh:∀ x∈h,SmallE x)(hw:w.length≤1048576)(sw:∀ x∈w,SmallE x)(ha:a.length≤1048576)(k:Nat)(hk:2097200<k):dZ.f k s f r e h w a=some (s,f.map cvF,r,e,h,w,a):=by
  unfold dZ.f iQ.f
  rw [qP f hf sf k (by omega),oO e h hh sh k (by omega),oM w hw sw k (by omega),nA a ha k (by omega)]
  rfl
theorem uu(s:Int)(f:List S68)(r e:Int)(h w:List (List Int))(a:List Int)(hf:f.length≤1048576)(sf:∀ x∈f,SmallG x)(hh:h.length≤1048576)(sh:∀ x∈h,SmallE x)(hw:w.length≤1048576)(sw:∀ x∈w,SmallE x)(ha:a.length≤1048576)(k:Nat)(hk:2097200<k):eG.f k s f r e h w a s f r e h w a=some true:=by
  unfold eG.f iy.f
  rw [if_pos rfl,qL f hf sf k (by omega),if_pos rfl,oZ e h hh sh k (by omega),om w w hw sw k (by omega),nC a a (by omega) k (by omega)]
  simp
def SO(s:Int)(f:List S68)(r:Int):Prop:=(0≤s∧s≤15)∧f.length≤7∧(0≤r∧r≤(f.length:Int))∧∀ (j:Nat) (x:S68),f[j]?=some x→(0≤x.f0∧x.f0≤15)∧(s-x.f0+16) % 16=(f.length:Int)-(j:Int)∧bytesB x.f1=true
def RO(e:Int)(h:List (List Int)):Prop:=(0≤e∧e≤15)∧h.length≤1000∧∀ x∈h,bytesB x=true
def LK(s:Int)(f:List S68)(r e:Int)(h w:List (List Int))(a:List Int):Prop:=SO s f r∧RO e h∧w.length≤8∧(∀ x∈w,bytesB x=true)∧a.length≤8∧∀ v∈a,(0≤v∧v≤15)∨(100≤v∧v≤115)
theorem jZ(x:Int):seqB x=true↔0≤x∧x≤15:=by unfold seqB;exact decide_eq_true_iff
theorem yj(a b d:Int)(hd:1≤d):sdI a b=d↔(0≤a∧a≤15)∧(0≤b∧b≤15)∧(b-a+16) % 16=d:=by
  unfold sdI
  by_cases ha:seqB a=true
  · rw [if_pos ha]
    have ha':=(jZ a).mp ha
    by_cases hb:seqB b=true
    · rw [if_pos hb]
      have hb':=(jZ b).mp hb
      rw [dG (b-a) (by omega),dG (b-a+16) (by omega),Int.tmod_eq_emod_of_nonneg (by omega)]
      exact⟨fun h=>⟨ha',hb',h⟩,fun h=>h.2.2⟩
    · rw [if_neg hb]
      exact⟨fun h=>by omega,fun h=>absurd ((jZ b).mpr h.2.1) hb⟩
  · rw [if_neg ha]
    exact⟨fun h=>by omega,fun h=>absurd ((jZ a).mpr h.1) ha⟩
theorem vR(s:Int)(n:Nat)(hn:n≤7)(hs:0≤s∧s≤15)(l:List S68):∀ i:Nat,i+l.length=n→(frOk s n i l=true↔∀ (j:Nat) (x:S68),l[j]?=some x→(0≤x.f0∧x.f0≤15)∧(s-x.f0+16) % 16=(n:Int)-((i+j:Nat):Int)∧bytesB x.f1=true):=by
  induction l with
  | nil=>intro i _;exact⟨fun _ j x h=>by simp at h,fun _=>rfl⟩
  | cons y l ih =>
    intro i hi
    rw [List.length_cons] at hi
    have h1:=ih (i+1) (by omega)
    have hw:wrap64 ((n:Int)-(i:Int))=(n:Int)-(i:Int):=dG _ (by omega)
    have hsd:=yj y.f0 s ((n:Int)-(i:Int)) (by omega)
    simp only [frOk,Bool.and_eq_true,decide_eq_true_eq,hw,h1,hsd]
    constructor
    · rintro ⟨⟨g1,_,g2⟩,g3,g4⟩ j x hx
      cases j with
      | zero=>rw [List.getElem?_cons_zero] at hx;cases hx;exact⟨g1,by rw [g2];omega,g3⟩
      | succ j =>
        rw [List.getElem?_cons_succ] at hx
        have:=g4 j x hx
        exact⟨this.1,by rw [this.2.1];omega,this.2.2⟩
    · intro h
      have h0:=h 0 y rfl
      refine⟨⟨h0.1,hs,by rw [h0.2.1];omega⟩,h0.2.2,fun j x hx=>?_⟩
      have:=h (j+1) x (by rw [List.getElem?_cons_succ];exact hx)
      exact⟨this.1,by rw [this.2.1];omega,this.2.2⟩
theorem rQ(s:Int)(f:List S68)(r:Int):sndB s f r=true↔SO s f r:=by
  unfold sndB SO
  simp only [Bool.and_eq_true,decide_eq_true_eq,jZ]
  constructor
  · rintro ⟨h1,h2,h3,h4⟩
    have h5:=(vR s f.length h2 h1 f 0 (by omega)).mp h4
    exact⟨h1,h2,h3,fun j x hx=>by have:=h5 j x hx;exact⟨this.1,by rw [this.2.1];omega,this.2.2⟩⟩
  · rintro ⟨h1,h2,h3,h4⟩
    exact⟨h1,h2,h3,(vR s f.length h2 h1 f 0 (by omega)).mpr (fun j x hx=>by have:=h4 j x hx;exact⟨this.1,by rw [this.2.1];omega,this.2.2⟩)⟩
theorem vK(e:Int)(h:List (List Int)):recB e h=true↔RO e h:=by
  unfold recB RO
  simp only [Bool.and_eq_true,decide_eq_true_eq,jZ,List.all_eq_true]
  exact⟨fun h=>⟨h.2.1,h.2.2,h.1⟩,fun h=>⟨h.2.2,h.1,h.2.1⟩⟩
theorem rD(s:Int)(f:List S68)(r e:Int)(h w:List (List Int))(a:List Int):lnkB s f r e h w a=true↔LK s f r e h w a:=by
  unfold lnkB LK
  simp only [Bool.and_eq_true,decide_eq_true_eq,rQ,vK,List.all_eq_true,ackB,Bool.or_eq_true,jZ]
  exact⟨fun ⟨a,b,c,d,e,f⟩=>⟨a,b,c,e,d,f⟩,fun ⟨a,b,c,d,e,f⟩=>⟨a,b,c,e,d,f⟩⟩
theorem iI{x:List Int}(h:bytesB x=true):x.length≤40:=((fI x).mp h).2
theorem iC{s:Int}{f:List S68}{r:Int}(h:SO s f r):∀ x∈f,SmallG x:=by
  intro x hx
  obtain⟨j,hj⟩:=List.getElem?_of_mem hx
  have:=iI (h.2.2.2 j x hj).2.2
  unfold SmallG;omega
theorem jm{l:List (List Int)}(h:∀ x∈l,bytesB x=true):∀ x∈l,SmallE x:=by
  intro x hx
  have:=iI (h x hx)
  unfold SmallE;omega
theorem nk(s:Int)(l:List Int)(hl:l.length≤1048576):fF.f s l=some (s,l):=by
  unfold fF.f
  rw [jR l (by omega)]
  rfl
theorem vo(s r:Int)(f:List S68)(hl:f.length≤1048576)(hs:∀ x∈f,SmallG x)(d:Nat):∀ i:Nat,i+d=f.length→∀ k,d<k→bg.l5 k f (i:Int) s (f.take i) r=some ((f.length:Int),s,f,r):=by
  induction d with
  | zero =>
    intro i hi k hk
    obtain⟨k,rfl⟩:∃ m,k=m+1:=⟨k-1,by omega⟩
    simp only [bg.l5]
    rw [if_neg (by omega),kS f i (by omega),show (i:Int)=(f.length:Int) by omega]
  | succ d ih =>
    intro i hi k hk
    obtain⟨k,rfl⟩:∃ m,k=m+1:=⟨k-1,by omega⟩
    have hlt:i<f.length:=by omega
    have hsm:=hs _ (List.getElem_mem hlt)
    unfold SmallG at hsm
    simp only [bg.l5]
    rw [if_pos (by omega),if_pos (by omega),if_pos (by omega),mq f i hlt,nk _ _ hsm]
    simp only [Option.bind_some]
    rw [if_pos (by rw [List.length_take];omega),bN i (by omega),show f.take i++[(⟨f[i].f0,f[i].f1⟩:S68)]=f.take (i+1) from (kU f i hlt).symm]
    exact ih (i+1) (by omega) k (by omega)
theorem lL(s:Int)(f:List S68)(r:Int)(hl:f.length≤1048576)(hs:∀ x∈f,SmallG x)(k:Nat)(hk:1048576<k):bg.f k s f r=some (s,f,r):=by
  have h:=vo s r f hl hs f.length 0 (by omega) k (by omega)
  have c0:((0:Nat):Int)=0:=rfl
  rw [c0,List.take_zero] at h
  unfold bg.f
  rw [h]
  rfl
theorem o_(s:Int)(l:List Int)(hl:l.length≤1048576):df.f s l=some (s,l):=by
  unfold df.f
  simp only [Option.bind_some]
  rw [if_pos (by simp;omega)]
  rfl
theorem tX(s r:Int)(f:List S68)(hl:f.length≤1048576)(hs:∀ x∈f,SmallG x)(d:Nat):∀ i:Nat,i+d=f.length→∀ k,d<k→aG.l0 k (i:Int) s f r s (f.take i) r=some (s,f,r):=by
  induction d with
  | zero =>
    intro i hi k hk
    obtain⟨k,rfl⟩:∃ m,k=m+1:=⟨k-1,by omega⟩
    simp only [aG.l0]
    rw [if_neg (by omega),kS f i (by omega)]
  | succ d ih =>
    intro i hi k hk
    obtain⟨k,rfl⟩:∃ m,k=m+1:=⟨k-1,by omega⟩
    have hlt:i<f.length:=by omega
    have hsm:=hs _ (List.getElem_mem hlt)
    unfold SmallG at hsm
    simp only [aG.l0]
    rw [if_pos (by omega),if_pos (by omega),mq f i hlt,o_ _ _ hsm]
    simp only [Option.bind_some]
    rw [if_pos (by rw [List.length_take];omega),bN i (by omega),show f.take i++[(⟨f[i].f0,f[i].f1⟩:S68)]=f.take (i+1) from (kU f i hlt).symm]
    exact ih (i+1) (by omega) k (by omega)
theorem kR(s:Int)(f:List S68)(r:Int)(hl:f.length≤1048576)(hs:∀ x∈f,SmallG x)(k:Nat)(hk:1048576<k):aG.f k s f r=some (s,f,r):=tX s r f hl hs f.length 0 (by omega) k (by omega)
def SM(f:List S68)(h w:List (List Int))(a:List Int):Prop:=(f.length≤1048576∧∀ x∈f,SmallG x)∧(h.length≤1048576∧∀ x∈h,SmallE x)∧(w.length≤1048576∧∀ x∈w,SmallE x)∧a.length≤1048576
theorem scopyW(s:Int)(f:List S68)(r e:Int)(h w:List (List Int))(a:List Int)(hw:w.length≤1048576)(hs:∀ x∈w,SmallE x)(d:Nat):∀ i:Nat,i+d=w.length→∀ k,d<k→dB.l9 k w (i:Int) s f r e h (w.take i) a=some ((w.length:Int),s,f,r,e,h,w,a):=by
  induction d with
  | zero =>
    intro i hi k hk
    obtain⟨k,rfl⟩:∃ m,k=m+1:=⟨k-1,by omega⟩
    simp only [dB.l9]
    rw [if_neg (by omega),kS w i (by omega),show (i:Int)=(w.length:Int) by omega]
  | succ d ih =>
    intro i hi k hk
    obtain⟨k,rfl⟩:∃ m,k=m+1:=⟨k-1,by omega⟩
    have hlt:i<w.length:=by omega
    have hsm:=hs _ (List.getElem_mem hlt)
    unfold SmallE at hsm
    have hr:fG w (i:Int)=w[i]:=kw w i hlt
    simp only [dB.l9]
    rw [if_pos (by omega),if_pos (by omega),if_pos (by omega),hr,if_pos (by simp only [List.length_nil];omega),if_pos (by rw [List.length_take];omega),List.nil_append,bN i (by omega),←kU w i hlt]
    exact ih (i+1) (by omega) k (by omega)
theorem pI(s:Int)(f:List S68)(r e:Int)(h w:List (List Int))(a:List Int)(H:SM f h w a)(k:Nat)(hk:3000000<k):dB.f k s f r e h w a=some (s,f,r,e,h,w,a):=by
  obtain⟨⟨h1,h2⟩,⟨h3,h4⟩,⟨h5,h6⟩,h7⟩:=H
  unfold dB.f
  rw [kR s f r h1 h2 k (by omega)]
  simp only [Option.bind_some]
  rw [qM e h h3 h4 k (by omega)]
  simp only [Option.bind_some]
  rw [if_pos (by simp only [List.length_nil];omega),List.nil_append]
  have e1:dB.l9 k w 0 s f r e h [] a=_:=scopyW s f r e h w a h5 h6 w.length 0 (by omega) k (by omega)
  rw [e1]
  rfl
theorem qO(s:Int)(f:List S68)(r e:Int)(h w:List (List Int))(a:List Int)(H:SM f h w a)(k:Nat)(hk:3000000<k):gW.f k s f r e h w a=some (s,f,r,e,h,w,a):=by
  obtain⟨⟨h1,h2⟩,⟨h3,h4⟩,⟨h5,h6⟩,h7⟩:=H
  unfold gW.f
  rw [lL s f r h1 h2 k (by omega)]
  simp only [Option.bind_some]
  rw [o8 e h h3 h4 k (by omega)]
  simp only [Option.bind_some]
  rw [mU w h5 h6 k (by omega)]
  simp only [Option.bind_some]
  rw [jR a (by omega)]
  rfl
theorem tq{s:Int}{f:List S68}{r:Int}(H:SO s f r)(k:Nat)(hk:3000000<k):aY.f k s f r=some true:=by
  rw [mJ s f r (iC H) k (by omega),(rQ s f r).mpr H]
theorem qm{s:Int}{f:List S68}{r:Int}(H:SO s f r)(k:Nat)(hk:3000000<k):au.f k s f r=some true:=by
  rw [mP s f r (iC H) k (by omega),(rQ s f r).mpr H]
theorem wV{s:Int}{f:List S68}{r e:Int}{h w:List (List Int)}{a:List Int}(H:LK s f r e h w a)(k:Nat)(hk:3000000<k):iG.f k s f r e h w a=some true:=by
  rw [oH s f r e h w a (iC H.1) (by have:=H.2.1.2.1;omega) (by have:=H.2.2.1;omega) k (by omega),(rD s f r e h w a).mpr H]
theorem xu(s:Int)(h:0≤s∧s≤15):nxE s=(s+1) % 16:=by
  unfold nxE
  rw [if_pos ((jZ s).mpr h),dG _ (by omega),Int.tmod_eq_emod_of_nonneg (by omega)]
theorem vS{s:Int}{f:List S68}{r:Int}(H:SO s f r)(b:List Int)(hbl:b.length≤1048576)(k:Nat)(hk:3000000<k):∃ s' f' r' o,eH.f k s f r b=some (s',f',r',o)∧fO.f k s f r b=some (s',f',r',o)∧SO s' f' r':=by
  unfold eH.f fO.f
  rw [lL s f r (by have:=H.2.1;omega) (iC H) k (by omega),kR s f r (by have:=H.2.1;omega) (iC H) k (by omega)]
  simp only [Option.bind_some]
  rw [tq H k hk,qm H k hk]
  simp only [Option.bind_some,if_true]
  rw [iL b k (by omega),iw b (by omega) k (by omega)]
  simp only [Option.bind_some]
  by_cases hb:bytesB b=true
  case neg=>simp only [if_neg hb];exact⟨_,_,_,_,rfl,rfl,H⟩
  simp only [if_pos hb]
  by_cases h7:(f.length:Int)=7
  · simp only [if_pos h7];exact⟨_,_,_,_,rfl,rfl,H⟩
  simp only [if_neg h7]
  rw [jR b (by have:=iI hb;omega)]
  simp only [Option.bind_some]
  obtain⟨h1,h2,h3,h4⟩:=H
  rw [if_pos (by omega),if_pos (by simp only [List.length_nil];omega),if_pos (by omega),qF,ru,xu s h1]
  simp only [Option.bind_some,List.nil_append]
  refine⟨_,_,_,_,rfl,rfl,by omega,by rw [List.length_append,List.length_singleton];omega,by rw [List.length_append,List.length_singleton];omega,fun j x hx=>?_⟩
  rw [List.length_append,List.length_singleton]
  rcases Nat.lt_or_ge j f.length with hj|hj
  · rw [List.getElem?_append_left hj] at hx
    have:=h4 j x hx
    exact⟨this.1,by have h5:=this.2.1;have h6:=this.1;omega,this.2.2⟩
  · rw [List.getElem?_append_right hj] at hx
    have hj0:j=f.length:=by
      rcases Nat.eq_zero_or_pos (j-f.length) with h|h
      · omega
      · rw [List.getElem?_eq_none (by simp;omega)] at hx;cases hx
    subst hj0
    rw [Nat.sub_self] at hx
    cases hx
    exact⟨h1,by show ((s+1) % 16-s+16) % 16=_;omega,hb⟩
theorem pE{s:Int}{f:List S68}{r:Int}(H:SO s f r)(k:Nat)(hk:3000000<k):gX.f k s f r=some (s,f,0)∧gY.f k s f r=some (s,f,0)∧SO s f 0:=by
  unfold gX.f gY.f
  rw [lL s f r (by have:=H.2.1;omega) (iC H) k (by omega),kR s f r (by have:=H.2.1;omega) (iC H) k (by omega)]
  simp only [Option.bind_some]
  rw [tq H k hk,qm H k hk]
  simp only [Option.bind_some]
  exact⟨by rw [if_pos (by trivial)],by rw [if_pos (by trivial)],H.1,H.2.1,by omega,H.2.2.2⟩
theorem wo{s:Int}{f:List S68}{r:Int}(H:SO s f r)(k:Nat)(hk:3000000<k):(∃ s' f' r' q b,eB.f k s f r=some (s',f',r',q,b,false)∧eZ.f k s f r=some (s',f',r',q,b,false))∨(∃ q b,eB.f k s f r=some (s,f,r+1,q,b,true)∧eZ.f k s f r=some (s,f,r+1,q,b,true)∧SO s f (r+1)∧(0≤q∧q≤15)∧bytesB b=true):=by
  unfold eB.f eZ.f
  rw [lL s f r (by have:=H.2.1;omega) (iC H) k (by omega),kR s f r (by have:=H.2.1;omega) (iC H) k (by omega)]
  simp only [Option.bind_some]
  rw [tq H k hk,qm H k hk]
  simp only [Option.bind_some]
  simp only [if_true]
  by_cases hr:r=(f.length:Int)
  · simp only [if_pos hr];exact .inl ⟨_,_,_,_,_,rfl,rfl⟩
  obtain⟨h1,h2,h3,h4⟩:=H
  simp only [if_neg hr,if_pos h3.1,if_pos (show r<(f.length:Int) by omega)]
  obtain⟨m,rfl⟩:∃ m:Nat,r=(m:Int):=⟨r.toNat,by omega⟩
  have hm:m<f.length:=by omega
  have hx:=h4 m f[m] (List.getElem?_eq_getElem hm)
  rw [mq f m hm,nk _ _ (by have:=iI hx.2.2;omega),o_ _ _ (by have:=iI hx.2.2;omega)]
  simp only [Option.bind_some]
  rw [dG _ (by omega)]
  exact .inr ⟨_,_,rfl,rfl,⟨h1,h2,by omega,h4⟩,hx.1,hx.2.2⟩
theorem yo(s:Int)(f:List S68)(r q:Int)(hl:f.length≤7)(hr:0≤r∧r≤7)(d:Nat):∀ i:Nat,i+d=f.length→∀ k,d<k→∃ z,di.l0 k f q (f.length:Int) (i:Int)=some z∧(z<0∨(0≤z∧z<(f.length:Int)))∧cB.l0 k q (i:Int) s f r s f r=some (if z<0 then (s,f,r,false) else (s,f.drop (z.toNat+1),mx (wrap64 ((wrap64 (r-z))-1)) 0,true)):=by
  induction d with
  | zero =>
    intro i hi k hk
    obtain⟨k,rfl⟩:∃ m,k=m+1:=⟨k-1,by omega⟩
    simp only [di.l0,cB.l0]
    rw [if_neg (by omega),if_neg (by omega)]
    exact⟨_,rfl,.inl (by omega),by rw [if_pos (by omega)]⟩
  | succ d ih =>
    intro i hi k hk
    obtain⟨k,rfl⟩:∃ m,k=m+1:=⟨k-1,by omega⟩
    simp only [di.l0,cB.l0]
    simp only [if_pos (show (i:Int)<(f.length:Int) by omega),if_pos (show (0:Int)≤(i:Int) by omega)]
    by_cases hq:(ay f (i:Int)).f0=q
    · simp only [if_pos hq,bN i (show i<9223372036854775807 by omega),if_pos (show (0:Int)≤((i+1:Nat):Int) by omega),if_pos (show ((i+1:Nat):Int)≤(f.length:Int) by omega)]
      refine⟨_,rfl,.inr (by omega),?_⟩
      rw [if_neg (by omega),Int.toNat_natCast,Int.toNat_natCast]
      have hm:∀ v:Int,mx 0 v=mx v 0:=by intro v;unfold mx;split <;> split <;> omega
      rw [hm]
    · simp only [if_neg hq,bN i (show i<9223372036854775807 by omega)]
      exact ih (i+1) (by omega) k (by omega)
theorem xU{s:Int}{f:List S68}{r:Int}(H:SO s f r)(q:Int)(k:Nat)(hk:3000000<k):∃ s' f' r' o,gN.f k s f r q=some (s',f',r',o)∧cB.f k s f r q=some (s',f',r',o)∧SO s' f' r':=by
  unfold gN.f cB.f
  rw [lL s f r (by have:=H.2.1;omega) (iC H) k (by omega),kR s f r (by have:=H.2.1;omega) (iC H) k (by omega)]
  simp only [Option.bind_some]
  obtain⟨z,e1,hz,e2⟩:=yo s f r q H.2.1 (by have:=H.2.1;have:=H.2.2.1;omega) f.length 0 (by omega) k (by have:=H.2.1;omega)
  rw [show di.f k f q=some z from e1]
  simp only [Option.bind_some]
  rw [tq H k hk,qm H k hk]
  simp only [Option.bind_some,if_true]
  rw [show cB.l0 k q 0 s f r s f r=_ from e2]
  obtain⟨h1,h2,h3,h4⟩:=H
  rcases hz with hz|hz
  · simp only [if_pos hz];exact⟨_,_,_,_,rfl,rfl,h1,h2,h3,h4⟩
  · rw [if_neg (by omega),if_pos hz.1,if_pos hz.2,if_pos (by omega),if_neg (by omega)]
    obtain⟨m,rfl⟩:∃ m:Nat,z=(m:Int):=⟨z.toNat,by omega⟩
    rw [dG (r-(m:Int)) (by omega),dG (r-(m:Int)-1) (by omega),Int.toNat_natCast]
    refine⟨_,_,_,_,rfl,rfl,h1,by rw [List.length_drop];omega,by rw [List.length_drop];unfold mx;split <;> omega,fun j x hx=>?_⟩
    rw [List.getElem?_drop] at hx
    have:=h4 _ x hx
    rw [List.length_drop]
    exact⟨this.1,by rw [this.2.1];omega,this.2.2⟩
theorem ul{x y:List Int}(h1:x.all byteB=true)(h2:y.all byteB=true)(h3:x.length+y.length≤40):bytesB (x++y)=true:=by
  rw [fI,List.all_append,h1,h2,List.length_append]
  exact⟨rfl,h3⟩
theorem nZ(x:Int):byteB x=true↔0≤x∧x≤255:=by unfold byteB;exact decide_eq_true_iff
theorem wY(q:Int)(b:List Int)(hq:0≤q∧q≤15)(hb:bytesB b=true)(k:Nat)(hk:3000000<k):∃ y,ib.f k q b=some y∧ig.f k q b=some y∧bytesB y=true:=by
  have hl:=iI hb
  unfold ib.f ig.f
  rw [iP,iD,(jZ q).mpr hq]
  simp only [Option.bind_some,if_true]
  rw [if_pos (by simp;omega),if_pos (by simp;omega),mH ([q]++b) (by simp;omega) k (by omega),qg ([q]++b) (by simp;omega) k (by omega)]
  simp only [Option.bind_some]
  refine⟨_,rfl,rfl,?_⟩
  by_cases h:bytesB ([q]++b)=true∧([q]++b).length≤38
  · rw [if_pos h]
    have h1:=(fI _).mp h.1
    have h2:=ni ([q]++b) 65535 (by omega) h1.1
    unfold addCk
    exact ul h1.1 (by simp only [List.all_cons,List.all_nil,Bool.and_true,Bool.and_eq_true,nZ];omega) (by simp only [List.length_cons,List.length_nil];omega)
  · rw [if_neg h];rfl
theorem vG(l:List Int):bytesB (twR l).2.1=true:=by
  unfold twR
  by_cases h:takeOk l
  · rw [if_pos h]
    have h1:bytesB (l.take (l.length-2))=true:=lG l _ h.2.1
    cases e1:l.take (l.length-2) with
    | nil=>rfl
    | cons a r =>
      rw [e1,fI,List.all_cons,Bool.and_eq_true,List.length_cons] at h1
      show bytesB (if seqB a=true then (a,r,true) else (0,[],false)).2.1=true
      by_cases hs:seqB a=true
      · rw [if_pos hs];exact(fI r).mpr ⟨h1.1.2,by omega⟩
      · rw [if_neg hs];rfl
  · rw [if_neg h];rfl
theorem wJ{e:Int}{h:List (List Int)}(H:RO e h)(w:List Int)(hw:w.length≤1048576)(k:Nat)(hk:3000000<k):∃ e' h' v,eY.f k e h w=some (e',h',v)∧eD.f k e h w=some (e',h',v)∧RO e' h':=by
  rw [vz e h w (by have:=H.2.1;omega) hw (jm H.2.2) k (by omega),uV e h w (by have:=H.2.1;omega) hw (jm H.2.2) k (by omega)]
  unfold tfR
  by_cases h0:judR e h w=0
  · rw [if_pos h0]
    by_cases h1:(h.length:Int)=1000
    · rw [if_pos h1];exact⟨_,_,_,rfl,rfl,H⟩
    · rw [if_neg h1]
      refine⟨_,_,_,rfl,rfl,by rw [xu e H.1];omega,by rw [List.length_append,List.length_singleton];have:=H.2.1;omega,fun x hx=>?_⟩
      rw [List.mem_append,List.mem_singleton] at hx
      rcases hx with hx|rfl
      · exact H.2.2 x hx
      · exact vG w
  · rw [if_neg h0];exact⟨_,_,_,rfl,rfl,H⟩
theorem vL{e:Int}{h:List (List Int)}(H:RO e h)(k:Nat)(hk:3000000<k):∃ n,jq.f k e h=some n∧jr.f k e h=some n∧0≤n∧n≤15:=by
  unfold jq.f jr.f
  rw [kr e h (by have:=H.2.1;omega) k (by omega),kz e h (by have:=H.2.1;omega) (jm H.2.2) k (by omega),(vK e h).mpr H]
  simp only [Option.bind_some,if_true]
  have:=H.1
  rw [dG (e+16) (by omega),dG (e+16-1) (by omega),Int.tmod_eq_emod_of_nonneg (by omega)]
  exact⟨_,rfl,rfl,by omega,by omega⟩
theorem xx{s:Int}{f:List S68}{r e:Int}{h w:List (List Int)}{a:List Int}(H:LK s f r e h w a):SM f h w a:=by
  obtain⟨h1,h2,h3,h4,h5,_⟩:=H
  exact⟨⟨by have:=h1.2.1;omega,iC h1⟩,⟨by have:=h2.2.1;omega,jm h2.2.2⟩,⟨by omega,jm h4⟩,by omega⟩
theorem vD{s:Int}{f:List S68}{r e:Int}{h w:List (List Int)}{a:List Int}(H:LK s f r e h w a)(k:Nat)(hk:3000000<k):bK.f k s f r e h w a=some true:=by
  rw [nU s f r e h w a (iC H.1) (by have:=H.2.1.2.1;omega) (jm H.2.1.2.2) (jm H.2.2.2.1) (fun v hv=>by have:=H.2.2.2.2.2 v hv;omega) k (by omega),(rD s f r e h w a).mpr H]
theorem ny{α:Type}{l:List α}{i:Nat}{x:α}(h:x∈l.eraseIdx i):x∈l:=List.mem_of_mem_eraseIdx h
theorem sH{α:Type}(l:List α):l.drop 1=l.eraseIdx (Int.toNat 0):=by cases l <;> rfl
theorem sM{w:List (List Int)}{j:Int}(h0:0≤j)(h1:j<(w.length:Int)):fG w j∈w:=by
  obtain⟨m,rfl⟩:∃ m:Nat,j=(m:Int):=⟨j.toNat,by omega⟩
  have hm:m<w.length:=by omega
  unfold fG
  rw [Int.toNat_natCast,List.getD_eq_getElem?_getD,List.getElem?_eq_getElem hm]
  exact List.getElem_mem hm
theorem rZ{s:Int}{f:List S68}{r e:Int}{h w:List (List Int)}{a:List Int}(H:LK s f r e h w a)(hw:¬ (w.length:Int)=0)(k:Nat)(hk:3000000<k):∃ s' f' r' e' h' w' a',ed.f k s f r e h w a=some (true,s',f',r',e',h',w',a')∧fU.f k s f r e h w a=some (s',f',r',e',h',w',a')∧LK s' f' r' e' h' w' a'∧w'.length+1=w.length:=by
  obtain⟨h1,h2,h3,h4,h5,h6⟩:=H
  unfold ed.f fU.f
  have hw0:(0:Int)<(w.length:Int):=by omega
  have hb:=h4 _ (sM (Int.le_refl 0) hw0)
  obtain⟨e',h',v,e1,e2,g1⟩:=wJ h2 (fG w 0) (by have:=iI hb;omega) k hk
  rw [e1,e2,sH]
  simp only [if_neg hw,if_pos (Int.le_refl 0),if_pos hw0,Option.bind_some]
  have hl:(w.eraseIdx (Int.toNat 0)).length+1=w.length:=by rw [List.length_eraseIdx];split <;> omega
  have hm:∀ x∈w.eraseIdx (Int.toNat 0),bytesB x=true:=fun x hx=>h4 x (ny hx)
  by_cases ha:(a.length:Int)<8
  · obtain ⟨n,q1,q2,n0,n1⟩:=vL g1 k hk
    have hs:∀ v,(0≤v∧v≤15)∨(100≤v∧v≤115)→∀ u∈a++[v],(0≤u∧u≤15)∨(100≤u∧u≤115):=by
      intro v hv u hu
      rw [List.mem_append,List.mem_singleton] at hu
      rcases hu with hu|rfl
      · exact h6 u hu
      · exact hv
    have hlen:∀ v:Int,(a++[v]).length≤8:=fun v=>by rw [List.length_append,List.length_singleton];omega
    rw [q1,q2]
    simp only [if_pos ha,Option.bind_some,dG (n+100) (show -9223372036854775808≤n+100∧n+100≤9223372036854775807 by omega),if_pos (show (a.length+1)*8≤140737488355328 by omega)]
    by_cases v2:v=2
    · simp only [if_pos v2];exact⟨_,_,_,_,_,_,_,rfl,rfl,⟨h1,g1,by omega,hm,hlen _,hs _ (.inr (by omega))⟩,hl⟩
    · simp only [if_neg v2]
      by_cases v3:v=3
      · simp only [if_pos v3];exact⟨_,_,_,_,_,_,_,rfl,rfl,⟨h1,g1,by omega,hm,hlen _,hs _ (.inr (by omega))⟩,hl⟩
      · simp only [if_neg v3];exact⟨_,_,_,_,_,_,_,rfl,rfl,⟨h1,g1,by omega,hm,hlen _,hs _ (.inl (by omega))⟩,hl⟩
  · simp only [if_neg ha];exact⟨_,_,_,_,_,_,_,rfl,rfl,⟨h1,g1,by omega,hm,h5,h6⟩,hl⟩
theorem uh{s:Int}{f:List S68}{r e:Int}{h w:List (List Int)}{a:List Int}(H:LK s f r e h w a)(ha:¬ (a.length:Int)=0)(k:Nat)(hk:3000000<k):∃ s' f' r' e' h' w' a',eP.f k s f r e h w a=some (true,s',f',r',e',h',w',a')∧gF.f k s f r e h w a=some (s',f',r',e',h',w',a')∧LK s' f' r' e' h' w' a'∧a'.length+1=a.length:=by
  obtain⟨h1,h2,h3,h4,h5,h6⟩:=H
  unfold eP.f gF.f
  have ha0:(0:Int)<(a.length:Int):=by omega
  obtain⟨s',f',r',o,e1,e2,g1⟩:=xU h1 (Int.tmod (rd a 0) 100) k hk
  rw [e1,e2,sH]
  simp only [if_neg ha,if_pos (Int.le_refl 0),if_pos ha0,Option.bind_some]
  have hl:(a.eraseIdx (Int.toNat 0)).length+1=a.length:=by rw [List.length_eraseIdx];split <;> omega
  have hm:∀ v∈a.eraseIdx (Int.toNat 0),(0≤v∧v≤15)∨(100≤v∧v≤115):=fun x hx=>h6 x (ny hx)
  by_cases hn:100≤rd a 0
  · obtain ⟨q1,q2,g2⟩:=pE g1 k hk
    rw [q1,q2]
    simp only [if_pos hn,Option.bind_some]
    exact⟨_,_,_,_,_,_,_,rfl,rfl,⟨g2,h2,h3,h4,by omega,hm⟩,hl⟩
  · simp only [if_neg hn]
    exact⟨_,_,_,_,_,_,_,rfl,rfl,⟨g1,h2,h3,h4,by omega,hm⟩,hl⟩
theorem uM(x:Int)(m:Nat)(hx:0≤x∧x≤255)(hm:m≤7):0≤Go.bits .xor .i64 x (shl .i64 1 (m:Int))∧Go.bits .xor .i64 x (shl .i64 1 (m:Int))≤255:=by
  obtain⟨n,rfl⟩:∃ n:Nat,x=(n:Int):=⟨x.toNat,by omega⟩
  have hs:∀ m:Nat,m≤7→shl .i64 1 (m:Int)=((2 ^ m:Nat):Int)∧2 ^ m<256:=by decide
  obtain⟨h1,h2⟩:=hs m hm
  rw [h1,lq n (2 ^ m) (by omega) (by omega)]
  have:=Nat.xor_lt_two_pow (x:=n) (y:=2 ^ m) (n:=8) (by omega) (by omega)
  omega
theorem wW(b:List Int)(n:Int)(hb:bytesB b=true)(k:Nat)(hk:3000000<k):∃ y,iK.f k b n=some y∧dP.f k b n=some y∧bytesB y=true:=by
  have hl:=iI hb
  unfold iK.f dP.f
  rw [jR b (by omega)]
  simp only [Option.bind_some,List.nil_append]
  have pl:([]:List Int).length+b.length<17592186044416:=by simp only [List.length_nil];omega
  simp only [if_pos pl]
  rw [iL b k (by omega),iw b (by omega) k (by omega),hb]
  simp only [Option.bind_some,if_true]
  rw [jc,kE,dG (8*(b.length:Int)) (by omega),dG (8*(b.length:Int)-1) (by omega)]
  simp only [Option.bind_some,decide_eq_true_eq]
  by_cases hn:0≤n∧n≤8*(b.length:Int)-1
  case neg=>simp only [if_neg hn];exact⟨_,rfl,rfl,hb⟩
  have hd:Int.tdiv n 8=n / 8:=Int.tdiv_eq_ediv_of_nonneg hn.1
  have hm:Int.tmod n 8=n % 8:=Int.tmod_eq_emod_of_nonneg hn.1
  have hu:IntKind.u64.wrap (n % 8)=n % 8:=by
    have:n % 8=0∨n % 8=1∨n % 8=2∨n % 8=3∨n % 8=4∨n % 8=5∨n % 8=6∨n % 8=7:=by omega
    rcases this with h|h|h|h|h|h|h|h <;> rw [h] <;> decide
  simp only [if_pos hn,hd,hm,hu,dG (n / 8) (show -9223372036854775808≤n / 8∧n / 8≤9223372036854775807 by omega),if_pos (show 0≤n / 8 by omega),if_pos (show n / 8<(b.length:Int) by omega),if_pos (show 0≤n % 8 by omega)]
  refine⟨_,rfl,rfl,?_⟩
  have h1:=(fI b).mp hb
  rw [fI,List.length_set]
  refine⟨?_,h1.2⟩
  rw [List.all_eq_true] at h1 ⊢
  intro x hx
  rcases List.mem_or_eq_of_mem_set hx with hx|rfl
  · exact h1.1 x hx
  · obtain ⟨m,e1⟩:∃ m:Nat,n % 8=(m:Int):=⟨(n % 8).toNat,by omega⟩
    obtain⟨i,e2⟩:∃ i:Nat,n / 8=(i:Int):=⟨(n / 8).toNat,by omega⟩
    rw [e1,e2,nZ]
    have hi:i<b.length:=by omega
    rw [kY b i hi]
    exact uM _ m ((nZ _).mp (h1.1 _ (List.getElem_mem hi))) (by omega)
theorem wX{s:Int}{f:List S68}{r e:Int}{h w:List (List Int)}{a:List Int}(H:LK s f r e h w a)(c n:Int)(k:Nat)(hk:3000000<k):∃ b s' f' r' e' h' w' a',gD.f k s f r e h w a c n=some (b,s',f',r',e',h',w',a')∧dX.f k s f r e h w a c n=some (s',f',r',e',h',w',a',b)∧LK s' f' r' e' h' w' a':=by
  have H0:=H
  obtain⟨h1,h2,h3,h4,h5,h6⟩:=H
  unfold gD.f dX.f
  rw [pI s f r e h w a (xx H0) k hk]
  simp only [Option.bind_some]
  rw [vD H0 k hk]
  simp only [Option.bind_some,if_true]
  by_cases c7:c=7
  · simp only [if_pos c7]
    unfold gz.f
    rw [jc,kE]
    simp only [Option.bind_some,decide_eq_true_eq]
    by_cases hn:0≤n∧n≤65535
    · obtain ⟨s',f',r',o,e1,e2,g1⟩:=vS h1 ([wrap64 (Int.tdiv n 256),Int.tmod n 256]:List Int) (by simp) k hk
      simp only [if_pos hn]
      rw [e1,e2]
      exact⟨_,_,_,_,_,_,_,_,rfl,rfl,g1,h2,h3,h4,h5,h6⟩
    · simp only [if_neg hn];exact⟨_,_,_,_,_,_,_,_,rfl,rfl,H0⟩
  simp only [if_neg c7]
  by_cases c1:c=1
  · simp only [if_pos c1]
    unfold g_.f
    rcases wo h1 k hk with ⟨s',f',r',q,b,e1,e2⟩ | ⟨q,b,e1,e2,g1,g2,g3⟩
    · rw [e1,e2]
      simp only [Option.bind_some,Bool.false_eq_true,if_false]
      by_cases h8:(w.length:Int)=8
      · simp only [if_pos h8];exact⟨_,_,_,_,_,_,_,_,rfl,rfl,H0⟩
      · simp only [if_neg h8];exact⟨_,_,_,_,_,_,_,_,rfl,rfl,H0⟩
    · rw [e1,e2]
      simp only [Option.bind_some,if_true]
      by_cases h8:(w.length:Int)=8
      · simp only [if_pos h8];exact⟨_,_,_,_,_,_,_,_,rfl,rfl,H0⟩
      · obtain ⟨y,q1,q2,hy⟩:=wY q b g2 g3 k hk
        rw [q1,q2]
        simp only [if_neg h8,Option.bind_some,if_pos (show (w.length+1)*24≤140737488355328 by omega)]
        refine⟨_,_,_,_,_,_,_,_,rfl,rfl,g1,h2,by rw [List.length_append,List.length_singleton];omega,fun x hx=>?_,h5,h6⟩
        rw [List.mem_append,List.mem_singleton] at hx
        rcases hx with hx|rfl
        · exact h4 x hx
        · exact hy
  simp only [if_neg c1]
  by_cases c2:c=2
  · simp only [if_pos c2]
    by_cases hw:(w.length:Int)=0
    · unfold ed.f
      simp only [if_pos hw];exact⟨_,_,_,_,_,_,_,_,rfl,rfl,H0⟩
    · obtain ⟨s',f',r',e',h',w',a',e1,e2,g1,_⟩:=rZ H0 hw k hk
      rw [e1,e2]
      simp only [if_neg hw]
      exact⟨_,_,_,_,_,_,_,_,rfl,rfl,g1⟩
  simp only [if_neg c2]
  by_cases c3:c=3
  · simp only [if_pos c3]
    rw [jc,kE,dG ((w.length:Int)-1) (by omega)]
    simp only [Option.bind_some,decide_eq_true_eq]
    by_cases hn:0≤n∧n≤(w.length:Int)-1
    · simp only [if_pos hn,if_pos hn.1,if_pos (show n<(w.length:Int) by omega)]
      exact⟨_,_,_,_,_,_,_,_,rfl,rfl,h1,h2,by rw [List.length_eraseIdx];split <;> omega,fun x hx=>h4 x (ny hx),h5,h6⟩
    · simp only [if_neg hn];exact⟨_,_,_,_,_,_,_,_,rfl,rfl,H0⟩
  simp only [if_neg c3]
  by_cases c4:c=4
  · simp only [if_pos c4]
    unfold fZ.f
    by_cases hn:n<0
    · simp only [if_pos hn];exact⟨_,_,_,_,_,_,_,_,rfl,rfl,H0⟩
    have ht:Int.tmod n 8=n % 8:=Int.tmod_eq_emod_of_nonneg (by omega)
    simp only [if_neg hn,ht]
    by_cases hw:(w.length:Int)≤n % 8
    · simp only [if_pos hw];exact⟨_,_,_,_,_,_,_,_,rfl,rfl,H0⟩
    have p0:0≤n % 8:=by omega
    have p1:n % 8<(w.length:Int):=by omega
    simp only [if_neg hw,if_pos p0,if_pos p1]
    by_cases hq:wrap64 (8*((fG w (n % 8)).length:Int))≤wrap64 (Int.tdiv n 8)
    · simp only [if_pos hq];exact⟨_,_,_,_,_,_,_,_,rfl,rfl,H0⟩
    obtain⟨y,e1,e2,hy⟩:=wW (fG w (n % 8)) (wrap64 (Int.tdiv n 8)) (h4 _ (sM p0 p1)) k hk
    simp only [if_neg hq]
    rw [e1,e2]
    refine⟨_,_,_,_,_,_,_,_,rfl,rfl,h1,h2,by rw [List.length_set];exact h3,fun x hx=>?_,h5,h6⟩
    rcases List.mem_or_eq_of_mem_set hx with hx|rfl
    · exact h4 x hx
    · exact hy
  simp only [if_neg c4]
  by_cases c5:c=5
  · simp only [if_pos c5]
    by_cases ha:(a.length:Int)=0
    · unfold eP.f
      simp only [if_pos ha];exact⟨_,_,_,_,_,_,_,_,rfl,rfl,H0⟩
    · obtain ⟨s',f',r',e',h',w',a',e1,e2,g1,_⟩:=uh H0 ha k hk
      rw [e1,e2]
      simp only [if_neg ha]
      exact⟨_,_,_,_,_,_,_,_,rfl,rfl,g1⟩
  simp only [if_neg c5]
  by_cases c6:c=6
  · obtain ⟨e1,e2,g1⟩:=pE h1 k hk
    simp only [if_pos c6]
    rw [e1,e2]
    exact⟨_,_,_,_,_,_,_,_,rfl,rfl,g1,h2,h3,h4,h5,h6⟩
  simp only [if_neg c6]
  exact⟨_,_,_,_,_,_,_,_,rfl,rfl,H0⟩
def totF:List S68→Nat
  | []=>0
  | x :: r=>x.f1.length+1+totF r
def markFL:List S68→Int→List S68
  | [],_=>[]
  | x :: r,s=>⟨s,markL x.f1.length (s+1)⟩ :: markFL r (s+1+(x.f1.length:Int))
theorem sP(done:List S68)(x:S68)(rest:List S68):ay (done++x :: rest) (done.length:Int)=x:=by
  rw [mq _ _ (by rw [List.length_append,List.length_cons];omega)]
  simp
theorem uD(rest:List S68):∀ (done:List S68) (s:Int),0≤s→s+(totF rest:Int)≤4000000000000000000→done.length+rest.length≤1048576→(∀ x∈rest,SmallG x)→∀ k,1048577+rest.length<k→bV.l0 k (done++rest) s (done.length:Int)=some (s+(totF rest:Int),done++markFL rest s):=by
  induction rest with
  | nil =>
    intro done s h0 h1 hl hs k hk
    obtain⟨k,rfl⟩:∃ m,k=m+1:=⟨k-1,by omega⟩
    simp only [bV.l0]
    rw [if_neg (by rw [List.append_nil];omega)]
    simp [totF,markFL]
  | cons x rest ih =>
    intro done s h0 h1 hl hs k hk
    obtain⟨k,rfl⟩:∃ m,k=m+1:=⟨k-1,by omega⟩
    have hx:x.f1.length≤1048576:=hs x (by simp)
    simp only [List.length_cons] at hk hl
    have ht:totF (x :: rest)=x.f1.length+1+totF rest:=rfl
    rw [ht] at h1 ⊢
    simp only [bV.l0]
    rw [if_pos (by rw [List.length_append,List.length_cons];omega),if_pos (by omega),sP,dG (s+1) (by omega),lC x.f1 (s+1) hx (by omega) (by omega) k (by omega)]
    simp only [Option.bind_some]
    rw [bN _ (by omega),jI,set_mid]
    have h:=ih (done++[(⟨s,markL x.f1.length (s+1)⟩:S68)]) (s+1+(x.f1.length:Int)) (by omega) (by omega) (by rw [List.length_append,List.length_singleton];omega) (fun y hy=>hs y (by simp [hy])) k (by omega)
    rw [List.length_append,List.length_singleton] at h
    rw [h]
    simp only [markFL,List.append_assoc,List.singleton_append]
    congr 2
    omega
theorem uz(rest:List S68):∀ (done:List S68) (s:Int),0≤s→s+(totF rest:Int)≤4000000000000000000→done.length+rest.length≤1048576→(∀ x∈rest,SmallG x)→∀ k,1048577+rest.length<k→bQ.l0 k (done++markFL rest s) s (done.length:Int)=some (s+(totF rest:Int)):=by
  induction rest with
  | nil =>
    intro done s h0 h1 hl hs k hk
    obtain⟨k,rfl⟩:∃ m,k=m+1:=⟨k-1,by omega⟩
    simp only [bQ.l0]
    rw [if_neg (by simp only [markFL,List.append_nil];omega)]
    simp [totF]
  | cons x rest ih =>
    intro done s h0 h1 hl hs k hk
    obtain⟨k,rfl⟩:∃ m,k=m+1:=⟨k-1,by omega⟩
    have hx:x.f1.length≤1048576:=hs x (by simp)
    simp only [List.length_cons] at hk hl
    have ht:totF (x :: rest)=x.f1.length+1+totF rest:=rfl
    rw [ht] at h1 ⊢
    show bQ.l0 (k+1) (done++(⟨s,markL x.f1.length (s+1)⟩:S68) :: markFL rest (s+1+(x.f1.length:Int))) s (done.length:Int)=_
    simp only [bQ.l0]
    rw [if_pos (by rw [List.length_append,List.length_cons];omega),if_pos (by omega),sP]
    simp only [if_true]
    rw [dG (s+1) (by omega),lK x.f1.length (s+1) hx (by omega) (by omega) k (by omega)]
    simp only [Option.bind_some]
    rw [if_neg (by omega),bN _ (by omega)]
    have h:=ih (done++[(⟨s,markL x.f1.length (s+1)⟩:S68)]) (s+1+(x.f1.length:Int)) (by omega) (by omega) (by rw [List.length_append,List.length_singleton];omega) (fun y hy=>hs y (by simp [hy])) k (by omega)
    rw [List.length_append,List.length_singleton,List.append_assoc,List.singleton_append] at h
    rw [h]
    congr 1
    omega
theorem wT(l:List S68)(h:∀ x∈l,SmallG x):totF l≤l.length*1048577:=by
  induction l with
  | nil=>exact Nat.le_refl _
  | cons x r ih =>
    have h1:x.f1.length≤1048576:=h x (by simp)
    have h2:=ih (fun y hy=>h y (by simp [hy]))
    show x.f1.length+1+totF r≤(r.length+1)*1048577
    omega
theorem qW(s:Int)(f:List S68)(r e:Int)(h w:List (List Int))(a:List Int)(H:SM f h w a)(k:Nat)(hk:3000000<k):∃ m f' h' w' a',gy.f k s f r e h w a 1=some (m,f',h',w',a')∧fE.f k s f' r e h' w' a' 1=some m∧0≤m:=by
  obtain⟨⟨h1,h2⟩,⟨h3,h4⟩,⟨h5,h6⟩,h7⟩:=H
  have t1:=wT f h2
  have t2:=sZ 1048576 h (fun x hx=>h4 x hx)
  have t3:=sZ 1048576 w (fun x hx=>h6 x hx)
  have b1:f.length*1048577≤1048576*1048577:=Nat.mul_le_mul_right _ h1
  have b2:h.length*1048576≤1048576*1048576:=Nat.mul_le_mul_right _ h3
  have b3:w.length*1048576≤1048576*1048576:=Nat.mul_le_mul_right _ h5
  refine⟨1+(totF f:Int)+(totL h:Int)+(totL w:Int)+(a.length:Int),markFL f 1,markLL h (1+(totF f:Int)),markLL w (1+(totF f:Int)+(totL h:Int)),markL a.length (1+(totF f:Int)+(totL h:Int)+(totL w:Int)),?_,?_,by omega⟩
  · unfold gy.f fM.f eU.f bV.f
    rw [show bV.l0 k f 1 0=_ from uD f [] 1 (by omega) (by omega) (by simp only [List.length_nil];omega) h2 k (by omega)]
    simp only [Option.bind_some,List.nil_append]
    rw [pu h _ (by omega) (by omega) h3 h4 k (by omega)]
    simp only [Option.bind_some]
    rw [pu w _ (by omega) (by omega) h5 h6 k (by omega)]
    simp only [Option.bind_some]
    rw [lC a _ h7 (by omega) (by omega) k (by omega)]
    rfl
  · unfold fE.f gK.f fH.f bQ.f
    rw [show bQ.l0 k (markFL f 1) 1 0=_ from uz f [] 1 (by omega) (by omega) (by simp only [List.length_nil];omega) h2 k (by omega)]
    simp only [Option.bind_some]
    rw [if_neg (by omega)]
    simp only [Option.bind_some]
    rw [if_neg (by omega),pQ h _ (by omega) (by omega) h3 h4 k (by omega)]
    simp only [Option.bind_some]
    rw [if_neg (by omega)]
    simp only [Option.bind_some]
    rw [if_neg (by omega),pQ w _ (by omega) (by omega) h5 h6 k (by omega)]
    simp only [Option.bind_some]
    rw [if_neg (by omega),lK a.length _ h7 (by omega) (by omega) k (by omega)]
    simp only [Option.bind_some]
    rw [if_neg (by omega)]
theorem wG(s:Int)(f:List S68)(r e:Int)(h w:List (List Int))(a:List Int)(H:SM f h w a)(ha:∀ v∈a, -9223372036854775808≤v∧v≤9223372036854775807)(c n:Int)(k:Nat)(hk:3000000<k):∃ b s' f' r' e' h' w' a',dC.f k s f r e h w a c n=some (s',f',r',e',h',w',a',b)∧dX.f k s f r e h w a c n=some (s',f',r',e',h',w',a',b)∧SM f' h' w' a':=by
  by_cases hl:lnkB s f r e h w a=true
  · have H1:=(rD s f r e h w a).mp hl
    obtain⟨b,s',f',r',e',h',w',a',e1,e2,g1⟩:=wX H1 c n k hk
    refine⟨b,s',f',r',e',h',w',a',?_,e2,xx g1⟩
    unfold dC.f
    rw [qO s f r e h w a H k hk]
    simp only [Option.bind_some]
    rw [wV H1 k hk]
    simp only [Option.bind_some,if_true]
    rw [e1]
    rfl
  · refine ⟨false,s,f,r,e,h,w,a,?_,?_,H⟩
    · unfold dC.f
      rw [qO s f r e h w a H k hk]
      simp only [Option.bind_some]
      rw [oH s f r e h w a H.1.2 H.2.1.1 H.2.2.1.1 k (by omega)]
      simp only [Option.bind_some]
      rw [if_neg hl]
    · unfold dX.f
      rw [pI s f r e h w a H k hk]
      simp only [Option.bind_some]
      rw [nU s f r e h w a H.1.2 H.2.1.1 H.2.1.2 H.2.2.1.2 ha k (by omega)]
      simp only [Option.bind_some]
      rw [if_neg hl]
theorem xn(s:Int)(f:List S68)(r e:Int)(h w:List (List Int))(a:List Int)(H:SM f h w a)(k:Nat)(hk:3000000<k):eG.f k s f r e h w a s f r e h w a=some true:=uu s f r e h w a H.1.1 H.1.2 H.2.1.1 H.2.1.2 H.2.2.1.1 H.2.2.1.2 H.2.2.2 k (by omega)
theorem FnExactLinkStep:cK.Pure:=by
  intro s f r e h w a c n _ ⟨mf,ff⟩ _ _ ⟨mh,fh⟩ ⟨mw,fw⟩ ⟨ma,fa⟩ _ _
  obtain⟨q,e1,e2⟩:=tZ s f r e h w a 1048576 (by omega) (by omega) mf (fun x hx=>(ff x hx).2.1) mh (fun x hx=>(fh x hx).1) mw (fun x hx=>(fw x hx).1) ma
  refine⟨3000001,?_⟩
  unfold cK.f dA.f
  rw [e1 _ (by omega)]
  simp only [Option.bind_some]
  by_cases h0:q<0
  · rw [if_pos h0]
  obtain⟨⟨hf,sf⟩,⟨hh,sh⟩,⟨hw,sw⟩,ha⟩:=e2 (by omega)
  have hf':(f.map cvF).length≤1048576:=by rw [List.length_map];exact hf
  have H:SM (f.map cvF) h w a:=⟨⟨hf',tF f sf⟩,⟨hh,sh⟩,⟨hw,sw⟩,ha⟩
  obtain⟨b,s',f',r',e',h',w',a',q1,q2,g⟩:=wG s (f.map cvF) r e h w a H (fun v hv=>Go.bounds_i64 (fa v hv)) c n 3000001 (by omega)
  obtain⟨m1,u1,u2,u3,u4,p1,p2,p3⟩:=qW s (f.map cvF) r e h w a H 3000001 (by omega)
  obtain⟨m2,v1,v2,v3,v4,o1,o2,o3⟩:=qW s' f' r' e' h' w' a' g 3000001 (by omega)
  have tl:=tK s f r e h w a hf sf hh sh hw sw ha 3000001 (by omega)
  have eq1:=xn s (f.map cvF) r e h w a H 3000001 (by omega)
  have eq2:=xn s' f' r' e' h' w' a' g 3000001 (by omega)
  rw [if_neg h0]
  simp only [tl,Option.bind_some,q1,q2,eq1,eq2,if_true,p1,o1,o2]
  rw [if_neg (by omega)]
  simp only [if_neg (show ¬ m2<0 by omega),if_true]
end Go.Proofs.YtmdehehgmnihpaaGreat.Pure
