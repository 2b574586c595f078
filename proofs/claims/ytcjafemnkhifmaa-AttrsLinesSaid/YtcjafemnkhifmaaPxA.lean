import Derived.Test.YtcjafemnkhifmaaPuEv
import Derived.Lib.Bytealg
/- Plain mathematics of lines: what is found under a name, and what lies above it. -/
namespace Go.Proofs.Ytcjafemnkhifmaa.PxA
open Go Go.RowKit Go.Proofs.Ytcjafemnkhifmaa.PuE
set_option linter.unusedVariables false
/-! ### the order of bytes -/
theorem bl_irr:∀ x:List UInt8,Op.bytesLess x x=false
 |[]=>rfl
 |a::x=>by simp[Op.bytesLess,bl_irr x]
theorem bl_trans:∀ x y z:List UInt8,Op.bytesLess x y=true→Op.bytesLess y z=true→Op.bytesLess x z=true
 |_,[],_,h,_=>by cases ‹List UInt8› <;>simp[Op.bytesLess] at h
 |_,_::_,[],_,h=>by simp[Op.bytesLess] at h
 |[],_::_,_::_,_,_=>rfl
 |a::x,b::y,c::z,h1,h2=>by
  simp only[Op.bytesLess,Bool.or_eq_true,decide_eq_true_eq,Bool.and_eq_true,beq_iff_eq] at h1 h2 ⊢
  rcases h1 with h1|⟨rfl,h1⟩
  ·rcases h2 with h2|⟨rfl,h2⟩
   ·exact .inl (UInt8.lt_trans h1 h2)
   ·exact .inl h1
  ·rcases h2 with h2|⟨rfl,h2⟩
   ·exact .inl h2
   ·exact .inr ⟨rfl,bl_trans x y z h1 h2⟩
theorem bl_tri:∀ x y:List UInt8,Op.bytesLess x y=false→Op.bytesLess y x=false→x=y
 |[],[],_,_=>rfl
 |[],_::_,h,_=>by simp[Op.bytesLess] at h
 |_::_,[],_,h=>by simp[Op.bytesLess] at h
 |a::x,b::y,h1,h2=>by
  simp only[Op.bytesLess,Bool.or_eq_false_iff,decide_eq_false_iff_not,Bool.and_eq_false_iff,beq_eq_false_iff_ne] at h1 h2
  have hab:a=b:=by
   have h3:=h1.1;have h4:=h2.1
   simp only[UInt8.lt_iff_toNat_lt] at h3 h4
   exact UInt8.toNat_inj.1 (by omega)
  subst hab
  rw[bl_tri x y (h1.2.resolve_left (by simp)) (h2.2.resolve_left (by simp))]
theorem bl_asym (x y:List UInt8) (h:Op.bytesLess x y=true):Op.bytesLess y x=false:=by
 cases hc:Op.bytesLess y x with
 |false=>rfl
 |true=>have:=bl_trans _ _ _ h hc;rw[bl_irr] at this;cases this
theorem cmp_bl:∀ x y:List UInt8,Lib.compareBytes x y=if Op.bytesLess x y=true then -1 else if x=y then 0 else 1
 |[],[]=>by simp[Lib.compareBytes,Op.bytesLess]
 |[],_::_=>by simp[Lib.compareBytes,Op.bytesLess]
 |_::_,[]=>by simp[Lib.compareBytes,Op.bytesLess]
 |a::x,b::y=>by
  unfold Lib.compareBytes
  by_cases h1:a<b
  ·simp[h1,Op.bytesLess]
  ·by_cases h2:b<a
   ·have hne:a≠b:=by rintro rfl;exact h1 h2
    simp[h1,h2,Op.bytesLess,hne]
   ·have hab:a=b:=by
     simp only[UInt8.lt_iff_toNat_lt] at h1 h2
     exact UInt8.toNat_inj.1 (by omega)
    subst hab
    rw[if_neg h1,if_neg h1,cmp_bl x y]
    simp[Op.bytesLess]
theorem cmp_lt (x y:List UInt8):Lib.compareBytes x y<0↔Op.bytesLess x y=true:=by
 rw[cmp_bl];split
 ·simp[*]
 ·split <;>simp_all [bl_irr]
theorem cmp_eq (x y:List UInt8):Lib.compareBytes x y=0↔x=y:=by
 rw[cmp_bl];split
 ·rename_i h;constructor
  ·intro h';omega
  ·rintro rfl;rw[bl_irr] at h;cases h
 ·split <;>simp[*]
theorem tl_inj {s t:ByteArray}:s.toList=t.toList↔s=t:=⟨fun h=>B_inj (by rw[← toList_B,← toList_B,h]),fun h=>by rw[h]⟩
theorem tl_nil {s:ByteArray}:s.toList=([]:List UInt8)↔s=⟨#[]⟩:=by
 have h0:(⟨#[]⟩:ByteArray).toList=([]:List UInt8):=by rw[toList_B];rfl
 exact⟨fun h=>tl_inj.1 (h.trans h0.symm),fun h=>by rw[h,h0]⟩
def lt (a b:ByteArray):Prop:=Op.bytesLess a.toList b.toList=true
theorem lt_irr (a:ByteArray): ¬ lt a a:=by unfold lt;rw[bl_irr];simp
theorem lt_trans {a b c:ByteArray} (h:lt a b) (k:lt b c):lt a c:=bl_trans _ _ _ h k
/-! ### what is found -/
section
variable {α : Type} (nm ab : α → ByteArray) (sy : α → Int)
def at? (a:ByteArray):List α →Option α
 |[]=>none
 |x::r=>if nm x=a then some x else at? a r
variable {nm ab sy}
theorem at_mem {a:ByteArray} {x: α}:∀ {L:List α},at? nm a L=some x→x ∈ L∧nm x=a
 |y::r,h=>by
  unfold at? at h
  split at h
  ·rename_i hy;cases h;exact⟨by simp,hy⟩
  ·obtain⟨h1,h2⟩:=at_mem h;exact⟨by simp[h1],h2⟩
theorem at_none {a:ByteArray}:∀ {L:List α},at? nm a L=none→∀ x ∈ L,nm x≠a
 |[],_,_,h=>by simp at h
 |y::r,h,x,hx=>by
  unfold at? at h
  split at h
  ·cases h
  ·rename_i hy
   rcases List.mem_cons.1 hx with e|hx
   ·rw[e];exact hy
   ·exact at_none h x hx
def Ris (nm: α →ByteArray) (L:List α):Prop:=L.Pairwise (fun x y=>lt (nm x) (nm y))
theorem at_self:∀ {L:List α},Ris nm L→∀ {x: α},x ∈ L→at? nm (nm x) L=some x
 |y::r,hr,x,hx=>by
  obtain⟨h1,h2⟩:=List.pairwise_cons.1 hr
  unfold at?
  rcases List.mem_cons.1 hx with e|hx
  ·rw[e,if_pos rfl]
  ·rw[if_neg (fun e=>by have:=h1 x hx;rw[e] at this;exact lt_irr _ this)]
   exact at_self h2 hx
theorem Ris.inj {L:List α} (h:Ris nm L) {x y: α} (hx:x ∈ L) (hy:y ∈ L) (e:nm x=nm y):x=y:=by
 have h1:=at_self h hx
 rw[e,at_self h hy] at h1
 exact(Option.some.inj h1).symm
/-! ### lines -/
variable (nm ab sy)
def up (L:List α):Nat→ByteArray→List α
 |0,_=>[]
 |n+1,a=>match at? nm a L with
  |none=>[]
  |some x=>x::up L n (ab x)
variable {nm ab sy}
theorem up_none {L:List α} {a:ByteArray} (h:at? nm a L=none) (n:Nat):up nm ab L n a=[]:=by
 cases n with
 |zero=>rfl
 |succ n=>simp[up,h]
theorem up_some {L:List α} {a:ByteArray} {x: α} (h:at? nm a L=some x) (n:Nat):up nm ab L (n+1) a=x::up nm ab L n (ab x):=by simp[up,h]
theorem up_mem {L:List α}:∀ (n:Nat) (a:ByteArray) (x: α),x ∈ up nm ab L n a→x ∈ L
 |0,_,_,h=>by simp[up] at h
 |n+1,a,x,h=>by
  cases hc:at? nm a L with
  |none=>rw[up_none hc] at h;simp at h
  |some y=>
   rw[up_some hc] at h
   rcases List.mem_cons.1 h with e|h
   ·rw[e];exact(at_mem hc).1
   ·exact up_mem n _ x h
theorem up_stable {L:List α}:∀ (n:Nat) (a:ByteArray),(up nm ab L n a).length<n→up nm ab L (n+1) a=up nm ab L n a
 |0,_,h=>by simp at h
 |n+1,a,h=>by
  cases hc:at? nm a L with
  |none=>rw[up_none hc,up_none hc]
  |some y=>
   rw[up_some hc] at h ⊢
   rw[up_some hc,up_stable n _ (by simpa using h)]
theorem up_more {L:List α} (n m:Nat) (a:ByteArray) (h:(up nm ab L n a).length<n) (hm:n≤m):up nm ab L m a=up nm ab L n a:=by
 induction m with
 |zero=>
  have:n=0:=by omega
  subst this
  rfl
 |succ m ih=>
  rcases Nat.lt_or_ge m n with hl|hl
  ·have:n=m+1:=by omega
   subst this;rfl
  ·rw[up_stable m a (by rw[ih hl];omega),ih hl]
theorem up_grow {L:List α}:∀ (n m:Nat) (a:ByteArray),n≤m→(up nm ab L n a).length≤(up nm ab L m a).length
 |0,_,_,_=>by simp[up]
 |n+1,m,a,h=>by
  obtain⟨m',rfl⟩:∃ m',m=m'+1:=⟨m - 1,by omega⟩
  cases hc:at? nm a L with
  |none=>rw[up_none hc,up_none hc];exact Nat.le_refl _
  |some y=>
   rw[up_some hc,up_some hc]
   simpa using up_grow n m' _ (by omega)
/-- A line that has an end has none twice. -/
theorem up_loop {L:List α} (x: α):∀ (n:Nat) (a:ByteArray),x ∈ up nm ab L n a→∀ m,∃ m',(up nm ab L m (ab x)).length+1≤(up nm ab L m' a).length
 |0,_,h,_=>by simp[up] at h
 |n+1,a,h,m=>by
  cases hc:at? nm a L with
  |none=>rw[up_none hc] at h;simp at h
  |some y=>
   rw[up_some hc] at h
   rcases List.mem_cons.1 h with e|h
   ·subst e;exact⟨m+1,by rw[up_some hc];simp⟩
   ·obtain⟨m',h'⟩:=up_loop x n _ h m
    exact⟨m'+1,by rw[up_some hc];simp;omega⟩
theorem up_acyc {L:List α} {B:Nat} (x: α) (hB:∀ m,(up nm ab L m (ab x)).length≤B) (n:Nat):x ∉ up nm ab L n (ab x):=by
 intro hx
 have key:∀ N,∃ m,N≤(up nm ab L m (ab x)).length:=by
  intro N
  induction N with
  |zero=>exact⟨0,Nat.zero_le _⟩
  |succ N ih=>
   obtain⟨m,h1⟩:=ih
   obtain⟨m',h2⟩:=up_loop x n _ hx m
   exact⟨m',by omega⟩
 obtain⟨m,h⟩:=key (B+1)
 have:=hB m
 omega
theorem up_nodup {L:List α}:∀ (n B:Nat) (a:ByteArray),(∀ m,(up nm ab L m a).length≤B)→(up nm ab L n a).Nodup
 |0,_,_,_=>by simp[up]
 |n+1,B,a,hB=>by
  cases hc:at? nm a L with
  |none=>rw[up_none hc];simp
  |some y=>
   have hB':∀ m,(up nm ab L m (ab y)).length≤B:=fun m=>by have:=hB (m+1);rw[up_some hc] at this;simp at this;omega
   rw[up_some hc]
   exact List.nodup_cons.2 ⟨up_acyc y hB' n,up_nodup n B _ hB'⟩
theorem pigeon:∀ {xs L:List α},xs.Nodup→(∀ x ∈ xs,x ∈ L)→xs.length≤L.length
 |[],_,_,_=>by simp
 |x::xs,L,hn,hs=>by
  obtain⟨h1,h2⟩:=List.nodup_cons.1 hn
  obtain⟨p,q,rfl⟩:=List.append_of_mem (hs x (by simp))
  have:=pigeon (L:=p++q) h2 (fun y hy=>by
   have hm:=hs y (by simp[hy])
   have hne:y≠x:=fun e=>h1 (e ▸ hy)
   simp at hm ⊢
   rcases hm with h|h|h
   ·exact .inl h
   ·exact absurd h hne
   ·exact .inr h)
  simp at this ⊢
  omega
theorem up_le {L:List α} (B:Nat) (a:ByteArray) (hB:∀ m,(up nm ab L m a).length≤B) (n:Nat):(up nm ab L n a).length≤L.length:=
 pigeon (up_nodup n B a hB) (up_mem n a)
/-! ### what may be -/
variable (nm ab sy)
/-- As far as n steps go, all above are there, of one syntax. -/
def okU (L:List α):Nat→ α →Bool
 |n,x=>if ab x=⟨#[]⟩ then true else match at? nm (ab x) L with
  |none=>false
  |some y=>if sy y=sy x then(match n with
   |0=>false
   |n+1=>okU L n y) else false
/-- The one above is there, of the same syntax. -/
def okS (L:List α) (x: α):Bool:=if ab x=⟨#[]⟩ then true else match at? nm (ab x) L with
 |none=>false
 |some y=>sy y==sy x
variable {nm ab sy}
theorem okU_S {L:List α} {n:Nat} {x: α} (h:okU nm ab sy L n x=true):okS nm ab sy L x=true:=by
 unfold okU at h
 unfold okS
 split
 ·rfl
 ·rename_i he
  rw[if_neg he] at h
  cases hc:at? nm (ab x) L with
  |none=>rw[hc] at h;simp at h
  |some y=>
   rw[hc] at h
   by_cases hs:sy y=sy x
   ·simp[hs]
   ·simp[hs] at h
theorem okU_of {L:List α} (hS:∀ x ∈ L,okS nm ab sy L x=true):∀ (n:Nat) (x: α),x ∈ L→(up nm ab L (n+1) (ab x)).length≤n→okU nm ab sy L n x=true
 |n,x,hx,hl=>by
  unfold okU
  split
  ·rfl
  ·rename_i he
   have h:=hS x hx
   unfold okS at h
   rw[if_neg he] at h
   cases hc:at? nm (ab x) L with
   |none=>rw[hc] at h;simp at h
   |some y=>
    rw[hc] at h
    rw[up_some hc] at hl
    have hs:sy y=sy x:=by simpa using h
    simp only[hs,if_true]
    cases n with
    |zero=>simp at hl
    |succ n=>exact okU_of hS n y (at_mem hc).1 (by simpa using hl)
theorem okU_mono {L:List α}:∀ (n m:Nat) (x: α),n≤m→okU nm ab sy L n x=true→okU nm ab sy L m x=true
 |n,m,x,hm,h=>by
  unfold okU at h ⊢
  split
  ·rfl
  ·rename_i he
   rw[if_neg he] at h
   cases hc:at? nm (ab x) L with
   |none=>rw[hc] at h;simp at h
   |some y=>
    rw[hc] at h
    simp only at h ⊢
    by_cases hs:sy y=sy x
    ·rw[if_pos hs] at h ⊢
     cases n with
     |zero=>simp at h
     |succ n=>
      obtain⟨m',rfl⟩:∃ m',m=m'+1:=⟨m - 1,by omega⟩
      exact okU_mono n m' y (by omega) h
    ·rw[if_neg hs] at h;cases h
theorem okU_bound {L:List α} (he:at? nm ⟨#[]⟩ L=none):∀ (n:Nat) (x: α),okU nm ab sy L n x=true→∀ m,(up nm ab L m (ab x)).length≤n
 |n,x,h,m=>by
  unfold okU at h
  by_cases hx:ab x=⟨#[]⟩
  ·rw[hx,up_none he];simp
  ·rw[if_neg hx] at h
   cases hc:at? nm (ab x) L with
   |none=>rw[hc] at h;simp at h
   |some y=>
    rw[hc] at h
    simp only at h
    split at h
    ·cases n with
     |zero=>simp at h
     |succ n=>
      cases m with
      |zero=>simp[up]
      |succ m=>rw[up_some hc];simpa using okU_bound he n y h m
    ·cases h
/-- Both ways of asking tell the same. -/
theorem ok_iff {L:List α} (hr:Ris nm L) (g: α →Bool) (hg:∀ x,nm x=⟨#[]⟩→g x=false):
  (∀ x ∈ L,g x=true∧okS nm ab sy L x=true∧(up nm ab L (L.length+1) (nm x)).length≤L.length)↔(∀ x ∈ L,g x=true∧okU nm ab sy L (L.length+1) x=true):=by
 constructor
 ·intro h x hx
  refine⟨(h x hx).1,?_⟩
  have hl:=(h x hx).2.2
  rw[up_some (at_self hr hx)] at hl
  simp at hl
  obtain⟨n,hn⟩:∃ n,L.length=n+1:=⟨L.length - 1,by have:=List.length_pos_of_mem hx;omega⟩
  exact okU_mono n _ x (by omega) (okU_of (fun y hy=>(h y hy).2.1) n x hx (by rw[hn] at hl;omega))
 ·intro h x hx
  have he:at? nm ⟨#[]⟩ L=none:=by
   cases hc:at? nm ⟨#[]⟩ L with
   |none=>rfl
   |some y=>
    obtain⟨h1,h2⟩:=at_mem hc
    have:=(h y h1).1
    rw[hg y h2] at this
    cases this
  refine⟨(h x hx).1,okU_S (h x hx).2,?_⟩
  refine up_le (L.length+2) _ (fun m=>?_) _
  cases m with
  |zero=>simp[up]
  |succ m=>
   rw[up_some (at_self hr hx)]
   have:=okU_bound he _ x (h x hx).2 m
   simp
   omega
/-- What may be. -/
structure Good (nm ab: α →ByteArray) (sy: α →Int) (L:List α):Prop where
 ris:Ris nm L
 one:∀ x ∈ L,okS nm ab sy L x=true
 emp:at? nm ⟨#[]⟩ L=none
 fin:∀ (a:ByteArray) (n:Nat),(up nm ab L n a).length≤L.length
theorem Good.of {L:List α} (hr:Ris nm L) (g: α →Bool) (hg:∀ x,nm x=⟨#[]⟩→g x=false) (h:∀ x ∈ L,g x=true∧okU nm ab sy L (L.length+1) x=true):Good nm ab sy L:=by
 have he:at? nm ⟨#[]⟩ L=none:=by
  cases hc:at? nm ⟨#[]⟩ L with
  |none=>rfl
  |some y=>
   obtain⟨h1,h2⟩:=at_mem hc
   have:=(h y h1).1
   rw[hg y h2] at this
   cases this
 refine⟨hr,fun x hx=>okU_S (h x hx).2,he,fun a n=>up_le (L.length+2) a (fun m=>?_) n⟩
 cases hc:at? nm a L with
 |none=>rw[up_none hc];simp
 |some x=>
  cases m with
  |zero=>simp[up]
  |succ m=>
   rw[up_some hc]
   have:=okU_bound he _ x (h x (at_mem hc).1).2 m
   simp
   omega
/-- The line of a name. -/
def ln (nm ab: α →ByteArray) (L:List α) (a:ByteArray):List α :=up nm ab L (L.length+1) a
theorem Good.up_ln {L:List α} (h:Good nm ab sy L) (n:Nat) (hn:L.length+1≤n) (a:ByteArray):up nm ab L n a=ln nm ab L a:=
 up_more _ n a (by have:=h.fin a (L.length+1);omega) hn
theorem Good.ln_some {L:List α} (h:Good nm ab sy L) {a:ByteArray} {x: α} (hx:at? nm a L=some x):ln nm ab L a=x::ln nm ab L (ab x):=by
 rw[← h.up_ln (L.length+2) (by omega),up_some hx]
 rfl
theorem ln_none {L:List α} {a:ByteArray} (hx:at? nm a L=none):ln nm ab L a=[]:=up_none hx _
theorem Good.ln_nodup {L:List α} (h:Good nm ab sy L) (a:ByteArray):(ln nm ab L a).Nodup:=up_nodup _ L.length a (fun m=>h.fin a m)
theorem ln_mem {L:List α} {a:ByteArray} {x: α} (h:x ∈ ln nm ab L a):x ∈ L:=up_mem _ _ _ h
/-- The rest of a line is a line. -/
theorem Good.ln_drop {L:List α} (h:Good nm ab sy L):∀ (p:List α) (x: α) (r:List α) (a:ByteArray),ln nm ab L a=p++x::r→ln nm ab L (nm x)=x::r
 |[],x,r,a,e=>by
  cases hc:at? nm a L with
  |none=>rw[ln_none hc] at e;simp at e
  |some y=>
   have e2:=e
   rw[h.ln_some hc] at e2
   have:y=x:=by simpa using (List.cons.inj e2).1
   subst this
   rw[(at_mem hc).2];exact e
 |y::p,x,r,a,e=>by
  cases hc:at? nm a L with
  |none=>rw[ln_none hc] at e;simp at e
  |some z=>
   rw[h.ln_some hc] at e
   exact h.ln_drop p x r (ab z) (List.cons.inj e).2
theorem Good.ln_syn {L:List α} (h:Good nm ab sy L):∀ (p:List α) (z x: α) (a:ByteArray),ln nm ab L a=z::p→x ∈ z::p→sy x=sy z
 |[],z,x,a,e,hx=>by simp at hx;rw[hx]
 |y::p,z,x,a,e,hx=>by
  rcases List.mem_cons.1 hx with e1|hx
  ·rw[e1]
  ·have hz:z ∈ L:=ln_mem (a:=a) (by rw[e];simp)
   have e2:=h.ln_drop [] z (y::p) a e
   rw[h.ln_some (at_self h.ris hz)] at e2
   have e3:=(List.cons.inj e2).2
   rw[h.ln_syn p y x _ e3 hx]
   cases hc:at? nm (ab z) L with
   |none=>rw[ln_none hc] at e3;simp at e3
   |some y'=>
    rw[h.ln_some hc] at e3
    have ey:y'=y:=(List.cons.inj e3).1
    have hs:=h.one z hz
    unfold okS at hs
    rw[hc] at hs
    split at hs
    ·rename_i he
     rw[he,h.emp] at hc
     cases hc
    ·rw[← ey];simpa using hs
end
end Go.Proofs.Ytcjafemnkhifmaa.PxA
