import Derived.Test.YtapinanmmhdpcaaMW
import Derived.Test.YtapinanmmhdpcaaWShare
import Derived.Test.YtapinanmmhdpcaaWFoot
import Derived.WalkKit
import Derived.ProofKit
import Derived.OpenShut
import Derived.ShutString
import Derived.ChangeOld
import Derived.Below
import Derived.Carry
import Derived.SizedLaws
import Derived.ChangeSlices
import Derived.DataElems
namespace Go.Proofs.Ytapinanmmhdpcaa.MR
open Go.ChangeShapes Go.WideShapes Go.ChangeAt Go.RowKit Go.Proofs.YtapinanmmhdpcaaW.PrintWords Go.Proofs.YtapinanmmhdpcaaW.PrintLast Go.Proofs.YtapinanmmhdpcaaW.PrintMore
set_option linter.unusedVariables false
/-- Cells at type t that are read are a value of the kind d, and it is as G says. -/
def Opens (P:Program) (w:World) (t:TypeId) {α :Type} (d:Kd α) (G: α →Prop) (n:Nat):Prop:=
 ∀ {H:Type} (enc:TypeId × Value→H) (cs:List Value) (x:DataW H × List MemPlace),DataW.trod enc P w 0 (fun _=>true) true n t cs=some x→(∀ m ∈ DataW.weights P t x.1,m≤140737488351232)→∃ v,d.K w v cs∧G v
theorem opens_string {P:Program} {w:World} {t:TypeId} (n:Nat) (ht:P.underlying t=some .string):Opens P w t Kd.string (fun s=>s.size≤140737488351232) n:=by
 intro H enc cs x h hw
 obtain⟨s,rfl,rfl,_⟩:=DataW.trod_string ht h
 refine⟨s,rfl,?_⟩
 have:=hw s.data.toList.length (by simp[DataW.weights])
 rwa [Array.length_toList] at this
theorem weights_all {H:Type} {P:Program} {e:TypeId}:∀ {ds:List (DataW H)} {d:DataW H},d ∈ ds→∀ n ∈ d.weights P e,n ∈ DataW.weightsAll P e ds
 |a::r,d,hd,n,hn=>by
  simp only[DataW.weightsAll,List.mem_append]
  rcases List.mem_cons.1 hd with rfl|h
  ·exact .inl hn
  ·exact .inr (weights_all h n hn)
/-- A list out of its elements, each told by its place. -/
theorem list_of {α :Type} {R:Nat→ α →Prop}:∀ (n:Nat),(∀ i,i<n→∃ v,R i v)→∃ l:List α,l.length=n∧∀ i v,l[i]? =some v→R i v
 |0,_=>⟨[],rfl,fun i v h=>by simp at h⟩
 |n+1,h=>by
  obtain⟨l,hl,hr⟩:=list_of n (fun i hi=>h i (by omega))
  obtain⟨v,hv⟩:=h n (by omega)
  refine⟨l++[v],by simp[hl],fun i u hu=>?_⟩
  rcases Nat.lt_or_ge i l.length with hi|hi
  ·rw[List.getElem?_append_left hi] at hu
   exact hr i u hu
  ·have h2:=hu
   rw[List.getElem?_append_right hi] at h2
   have:i - l.length=0:=by
    rcases Nat.eq_zero_or_pos (i - l.length) with h0|h0
    ·exact h0
    ·rw[List.getElem?_eq_none (by simp;omega)] at h2
     cases h2
   rw[this] at h2
   simp at h2
   subst h2
   have:i=n:=by omega
   subst this
   exact hv
theorem opens_slice {P:Program} {w:World} {t e:TypeId} {α :Type} {d:Kd α} {G: α →Prop} (n:Nat) (ht:P.underlying t=some (.slice e)) (hs:P.cellsOf e=d.sz) (hb:0<P.bytesOf e)
  (h:∀ m,m<n→Opens P w e d G m):Opens P w t (Kd.slice e d) (fun l=>l.length*P.bytesOf e≤140737488351232∧∀ x ∈ l,G x) n:=by
 intro H enc cs x hx hw
 rcases DataW.trod_slice ht hx with⟨rfl,rfl⟩|⟨a,len,cap,elems,rest,m,rfl,rfl,rfl,_,hl,hm,hlen,hel,_,_⟩
 ·exact⟨[],⟨none,0,rfl,Nat.le_refl _,rfl,by simp,fun h0=>by simp at h0⟩,by simp,by simp⟩
 ·have hwe:DataW.weights P t (.slice (elems.map (·.1)) (rest.map (·.1)))=((elems.map (·.1)).length+(rest.map (·.1)).length)*P.bytesOf e::(DataW.weightsAll P e (elems.map (·.1))++DataW.weightsAll P e (rest.map (·.1))):=by
   rw[DataW.weights,ht]
  have hbig:len*P.bytesOf e≤140737488351232:=by
   have:=hw _ (by rw[hwe];exact List.mem_cons_self)
   simp only[List.length_map,hlen] at this
   exact Nat.le_trans (Nat.mul_le_mul_right _ (by omega)) this
  obtain⟨l,hll,hr⟩:=list_of (R:=fun i v=>∃ c,w.cells? 0 (a.add (i*P.cellsOf e)) (P.cellsOf e)=some c∧d.K w v c∧G v) len (fun i hi=>by
   have h1:=hel i hi
   rw[List.getElem?_eq_getElem (by omega),Option.bind_eq_some_iff] at h1
   obtain⟨c,hc,ho⟩:=h1
   obtain⟨v,hk,hg⟩:=h m (by omega) enc c _ ho (fun q hq=>hw q (by
    rw[hwe]
    refine List.mem_cons_of_mem _ (List.mem_append.2 (.inl (weights_all (d:=(elems[i]'(by omega)).1) ?_ q hq)))
    exact List.mem_map.2 ⟨_,List.getElem_mem _,rfl⟩))
   exact⟨v,c,hc,hk,hg⟩)
  have hlb:len≤len*P.bytesOf e:=Nat.le_mul_of_pos_right _ hb
  refine⟨l,⟨some a,cap,by rw[hll],by omega,rfl,by omega,fun _=>⟨a,rfl,fun j p hj=>?_⟩⟩,by rw[hll];exact hbig,fun p hp=>?_⟩
  ·obtain⟨c,hc,hk,_⟩:=hr j p hj
   have hcl:=d.K_len hk
   refine⟨c,hcl,hk,fun i u hu=>?_⟩
   have h3:=(World.cells?_some hc).2.2 i (by rw[hs,← hcl];exact(List.getElem?_eq_some_iff.1 hu).1)
   rw[hu] at h3
   rw[hs] at h3
   rw[← h3]
   rw[Addr.add_add]
  ·obtain⟨i,hi⟩:=List.getElem?_of_mem hp
   obtain⟨c,_,_,hg⟩:=hr i p hi
   exact hg
theorem sized_each {H:Type} {P:Program} {ts:List TypeId} {ds:List (DataW H)} (h:(DataW.weightsEach P ts ds).all (· ≤reachBytes)=true) {j:Nat} {t:TypeId} {d:DataW H} (ht:ts[j]? =some t) (hd:ds[j]? =some d):
  ∀ m ∈ DataW.weights P t d,m≤140737488351232:=fun m hm=>by
 have:=List.all_eq_true.1 h _ (DataW.weights_mem_each ht hd m hm)
 have h2:m≤reachBytes:=by simpa using this
 exact h2
end Go.Proofs.Ytapinanmmhdpcaa.MR
