import Derived.Test.YtapinanmmhdpcaaPuEv
/- Plain laws of names, on lists of bytes: no program in sight. -/
namespace Go.Proofs.Ytapinanmmhdpcaa.DnL
set_option linter.unusedVariables false
set_option linter.unusedSimpArgs false
abbrev Bs:=List UInt8
abbrev Pr:=Bs × Bs
def sgn (c:UInt8):Bool:=c==44 || c==43 || c==34 || c==92 || c==60 || c==62 || c==59 || c==61
def hx (c:UInt8):Option UInt8:=if 48≤c∧c≤57 then some (c - 48) else if 97≤c∧c≤102 then some (c - 87) else if 65≤c∧c≤70 then some (c - 55) else none
def low1 (c:UInt8):UInt8:=if 65≤c∧c≤90 then c+32 else c
def low (l:Bs):Bs:=l.map low1
def fine (b:Bs) (l:Bool):Bool:= !b.isEmpty && !l
/-- A value's text is read, up to a comma, a plus or the end. -/
def rdv:Bs→Bs→Bool→Option (Bs × Bs)
 |[],b,l=>if fine b l then some (b,[]) else none
 |c::t,b,l=>
  if c=44∨c=43 then(if fine b l then some (b,c::t) else none)
  else if c=92 then
   match t with
   |[]=>none
   |d::t'=>
    if sgn d || d==32 || d==35 then rdv t' (b++[d]) false
    else match t' with
     |[]=>none
     |e::t''=>match hx d,hx e with
      |some x,some y=>rdv t'' (b++[x*16+y]) false
      |_,_=>none
  else if sgn c || (b.isEmpty && (c==32 || c==35)) then none
  else rdv t (b++[c]) (c==32)
/-- .. a text that holds nothing else. -/
def rfv:Bs→Bs→Bool→Option Bs
 |[],b,l=>if fine b l then some b else none
 |c::t,b,l=>
  if c=92 then
   match t with
   |[]=>none
   |d::t'=>
    if sgn d || d==32 || d==35 then rfv t' (b++[d]) false
    else match t' with
     |[]=>none
     |e::t''=>match hx d,hx e with
      |some x,some y=>rfv t'' (b++[x*16+y]) false
      |_,_=>none
  else if sgn c || (b.isEmpty && (c==32 || c==35)) then none
  else rfv t (b++[c]) (c==32)
/-- The first piece, up to a comma or a plus that has no backslash ahead. -/
def seg:Bs→Bs × Bs
 |[]=>([],[])
 |c::t=>
  if c=92 then
   match t with
   |[]=>([92],[])
   |d::t'=>(92::d::(seg t').1,(seg t').2)
  else if c=44∨c=43 then([],c::t)
  else(c::(seg t).1,(seg t).2)
theorem rdv_c (c:UInt8) (t b:Bs) (l:Bool):rdv (c::t) b l=if c=44∨c=43 then(if fine b l then some (b,c::t) else none)
  else if c=92 then
   match t with
   |[]=>none
   |d::t'=>
    if sgn d || d==32 || d==35 then rdv t' (b++[d]) false
    else match t' with
     |[]=>none
     |e::t''=>match hx d,hx e with
      |some x,some y=>rdv t'' (b++[x*16+y]) false
      |_,_=>none
  else if sgn c || (b.isEmpty && (c==32 || c==35)) then none
  else rdv t (b++[c]) (c==32):=(rdv.eq_def _ _ _).trans rfl
theorem rfv_c (c:UInt8) (t b:Bs) (l:Bool):rfv (c::t) b l=if c=92 then
   match t with
   |[]=>none
   |d::t'=>
    if sgn d || d==32 || d==35 then rfv t' (b++[d]) false
    else match t' with
     |[]=>none
     |e::t''=>match hx d,hx e with
      |some x,some y=>rfv t'' (b++[x*16+y]) false
      |_,_=>none
  else if sgn c || (b.isEmpty && (c==32 || c==35)) then none
  else rfv t (b++[c]) (c==32):=(rfv.eq_def _ _ _).trans rfl
theorem rdv_n (b:Bs) (l:Bool):rdv [] b l=if fine b l then some (b,[]) else none:=rdv.eq_1 _ _
theorem rfv_n (b:Bs) (l:Bool):rfv [] b l=if fine b l then some b else none:=rfv.eq_1 _ _
theorem seg_n:seg []=([],[]):=rfl
theorem seg_c (c:UInt8) (t:Bs):seg (c::t)=if c=92 then
   match t with
   |[]=>([92],[])
   |d::t'=>(92::d::(seg t').1,(seg t').2)
  else if c=44∨c=43 then([],c::t)
  else(c::(seg t).1,(seg t).2):=(seg.eq_def _).trans rfl
theorem all8 {p:UInt8→Prop} (h:∀ n:Fin 256,p (UInt8.ofNat n.val)) (c:UInt8):p c:=by
 have:=h ⟨c.toNat,c.toNat_lt⟩
 simpa using this
theorem hx_sep {d:UInt8} (h:d=44∨d=43∨d=92):hx d=none:=by rcases h with rfl|rfl|rfl <;>decide
theorem rdv_seg:∀ (n:Nat) (s b:Bs) (l:Bool),s.length≤n→rdv s b l=(rfv (seg s).1 b l).map fun v=>(v,(seg s).2):=by
 intro n
 induction n with
 |zero=>
  intro s b l h
  have:s=[]:=List.eq_nil_of_length_eq_zero (by omega)
  subst this
  simp only[rdv_n,rdv_c,seg_n,seg_c,rfv_n,rfv_c]
  split <;>rfl
 |succ n ih=>
  intro s b l h
  cases s with
  |nil=>
   simp only[rdv_n,rdv_c,seg_n,seg_c,rfv_n,rfv_c]
   split <;>rfl
  |cons c t=>
   have ht:t.length≤n:=by simp only[List.length_cons] at h;omega
   by_cases h92:c=92
   ·subst h92
    cases t with
    |nil=>simp[rdv_n,rdv_c,seg_n,seg_c,rfv_n,rfv_c]
    |cons d t'=>
     have ht':t'.length≤n:=by simp only[List.length_cons] at ht;omega
     by_cases hs:(sgn d || d==32 || d==35)=true
     ·simp only[rdv_n,rdv_c,seg_n,seg_c,rfv_n,rfv_c,hs,if_true]
      simpa using ih t' (b++[d]) false ht'
     ·obtain⟨⟨g1,g2⟩,g3⟩:(sgn d=false∧ ¬ d=32)∧ ¬ d=35:=by simpa [not_or] using hs
      cases t' with
      |nil=>simp[rdv_c,seg_n,seg_c,rfv_c,g1,g2,g3]
      |cons e t''=>
       have ht'':t''.length≤n:=by simp only[List.length_cons] at ht';omega
       by_cases he:e=44∨e=43∨e=92
       ·have hn:=hx_sep he
        rcases he with rfl|rfl|rfl
        ·simp[rdv_c,seg_c,rfv_c,hn,g1,g2,g3]
        ·simp[rdv_c,seg_c,rfv_c,hn,g1,g2,g3]
        ·cases t'' with
         |nil=>simp[rdv_c,seg_n,seg_c,rfv_c,hn,g1,g2,g3]
         |cons f t3=>simp[rdv_c,seg_c,rfv_c,hn,g1,g2,g3]
       ·have h1: ¬ e=92:=fun q=>he (.inr (.inr q))
        have h2: ¬ (e=44∨e=43):=fun q=>he (q.elim .inl fun q=>.inr (.inl q))
        have hsg:seg (92::d::e::t'')=(92::d::e::(seg t'').1,(seg t'').2):=by simp only[seg_c,h1,h2,if_true,if_false]
        have hr1:rdv (92::d::e::t'') b l=match hx d,hx e with
          |some x,some y=>rdv t'' (b++[x*16+y]) false
          |_,_=>none:=by simp[rdv_c,g1,g2,g3]
        have hr2:rfv (92::d::e::(seg t'').1) b l=match hx d,hx e with
          |some x,some y=>rfv (seg t'').1 (b++[x*16+y]) false
          |_,_=>none:=by simp[rfv_c,g1,g2,g3]
        rw[hsg,hr1,hr2]
        cases hx d with
        |none=>rfl
        |some x=>
         cases hx e with
         |none=>rfl
         |some y=>exact ih t'' (b++[x*16+y]) false ht''
   ·by_cases hsep:c=44∨c=43
    ·simp only[rdv_n,rdv_c,seg_n,seg_c,h92,hsep,if_true,if_false,rfv_n,rfv_c]
     split <;>rfl
    ·simp only[rdv_n,rdv_c,seg_n,seg_c,rfv_n,rfv_c,h92,hsep,if_false]
     by_cases hs:(sgn c || b.isEmpty && (c==32 || c==35))=true
     ·simp[hs]
     ·simp only[hs]
      simpa using ih t (b++[c]) (c==32) ht
/-- A text's first byte 61: what stands ahead of it, and behind. -/
def eqs:Bs→Option (Bs × Bs)
 |[]=>none
 |c::t=>if c=61 then some ([],t) else(eqs t).map fun p=>(c::p.1,p.2)
theorem eqs_some {s nm r:Bs} (h:eqs s=some (nm,r)):s=nm++61::r∧(61:UInt8) ∉ nm:=by
 induction s generalizing nm with
 |nil=>simp[eqs] at h
 |cons c t ih=>
  simp only[eqs] at h
  split at h
  ·rename_i hc
   simp only[Option.some.injEq,Prod.mk.injEq] at h
   obtain⟨rfl,rfl⟩:=h
   exact⟨by rw[hc];rfl,by simp⟩
  ·rename_i hc
   cases he:eqs t with
   |none=>rw[he] at h;simp at h
   |some p=>
    rw[he] at h
    simp only[Option.map_some,Option.some.injEq,Prod.mk.injEq] at h
    obtain⟨rfl,rfl⟩:=h
    obtain⟨h1,h2⟩:=ih (nm:=p.1) (by rw[he])
    refine⟨by rw[List.cons_append,← h1],?_⟩
    simp only[List.mem_cons,not_or]
    exact⟨fun q=>hc q.symm,h2⟩
theorem eqs_mk {nm r:Bs} (h:(61:UInt8) ∉ nm):eqs (nm++61::r)=some (nm,r):=by
 induction nm with
 |nil=>simp[eqs]
 |cons c t ih=>
  simp only[List.mem_cons,not_or] at h
  have hc: ¬ c=61:=fun q=>h.1 q.symm
  simp only[List.cons_append,eqs,hc,if_false,ih h.2,Option.map_some]
theorem eqs_none {s:Bs}:eqs s=none↔(61:UInt8) ∉ s:=by
 induction s with
 |nil=>simp[eqs]
 |cons c t ih=>
  simp only[eqs]
  by_cases hc:c=61
  ·simp[hc]
  ·simp only[hc,if_false,Option.map_eq_none_iff,ih,List.mem_cons,not_or]
   exact⟨fun h=>⟨fun q=>hc q.symm,h⟩,fun h=>h.2⟩
/-- A word, as the document has it. -/
def ltr (c:UInt8):Bool:=97≤c && c≤122
def oth (c:UInt8):Bool:=(48≤c && c≤57) || c==45
def wordB:Bs→Bool
 |[]=>false
 |c::t=>decide (t.length<16) && ltr c && t.all fun x=>ltr x || oth x
theorem word_mem {l:Bs} (h:wordB l=true):∀ c ∈ l,(ltr c || oth c)=true:=by
 cases l with
 |nil=>simp[wordB] at h
 |cons a t=>
  simp only[wordB,Bool.and_eq_true,List.all_eq_true] at h
  intro c hc
  rcases List.mem_cons.1 hc with rfl|hc
  ·simp[h.1.2]
  ·exact h.2 c hc
theorem word_len {l:Bs} (h:wordB l=true):1≤l.length∧l.length≤16:=by
 cases l with
 |nil=>simp[wordB] at h
 |cons a t=>
  simp only[wordB,Bool.and_eq_true,decide_eq_true_eq] at h
  simp only[List.length_cons]
  omega
theorem lo_nums (c:UInt8):(ltr c || oth c)=true→c≠44∧c≠43∧c≠92∧c≠61∧low1 c=c:=by
 revert c
 exact all8 (by decide+kernel)
theorem low_word {l:Bs} (h:wordB (low l)=true):(∀ c ∈ l,c≠44∧c≠43∧c≠92∧c≠61):=by
 intro c hc
 have h1:=word_mem h (low1 c) (List.mem_map_of_mem hc)
 revert h1 c
 have key:∀ c:UInt8,(ltr (low1 c) || oth (low1 c))=true→c≠44∧c≠43∧c≠92∧c≠61:=all8 (by decide+kernel)
 exact fun c _=>key c
theorem low_id {l:Bs} (h:wordB l=true):low l=l:=by
 have h1:=word_mem h
 clear h
 induction l with
 |nil=>rfl
 |cons c t ih=>
  have h2:=(lo_nums c (h1 c (List.mem_cons_self ..))).2.2.2.2
  show low1 c::low t=c::t
  rw[h2,ih (fun x hx=>h1 x (List.mem_cons_of_mem _ hx))]
/-- Behind what has no backslash, comma or plus the first piece goes on. -/
theorem seg_app {a r:Bs} (h:∀ c ∈ a,c≠44∧c≠43∧c≠92):seg (a++r)=(a++(seg r).1,(seg r).2):=by
 induction a with
 |nil=>simp
 |cons c t ih=>
  obtain⟨h1,h2,h3⟩:=h c (List.mem_cons_self ..)
  have:=ih fun x hx=>h x (List.mem_cons_of_mem _ hx)
  simp only[List.cons_append,seg_n,seg_c,h1,h2,h3,false_or,if_false,this]
theorem seg_split (s:Bs):s=(seg s).1++(seg s).2:=by
 have key:∀ (n:Nat) (s:Bs),s.length≤n→s=(seg s).1++(seg s).2:=by
  intro n
  induction n with
  |zero=>
   intro s h
   have:s=[]:=List.eq_nil_of_length_eq_zero (by omega)
   subst this;rfl
  |succ n ih=>
   intro s h
   cases s with
   |nil=>rfl
   |cons c t=>
    simp only[List.length_cons] at h
    simp only[seg_n,seg_c]
    split
    ·rename_i hc
     subst hc
     cases t with
     |nil=>rfl
     |cons d t'=>
      simp only[List.length_cons] at h
      simp only[List.cons_append,List.cons.injEq,true_and]
      exact ih t' (by omega)
    ·split
     ·rfl
     ·simp only[List.cons_append,List.cons.injEq,true_and]
      exact ih t (by omega)
 exact key s.length s (Nat.le_refl _)
theorem seg_rest (s:Bs):(seg s).2=[]∨∃ c t,(c=44∨c=43)∧(seg s).2=c::t:=by
 have key:∀ (n:Nat) (s:Bs),s.length≤n→(seg s).2=[]∨∃ c t,(c=44∨c=43)∧(seg s).2=c::t:=by
  intro n
  induction n with
  |zero=>
   intro s h
   have:s=[]:=List.eq_nil_of_length_eq_zero (by omega)
   subst this;exact .inl rfl
  |succ n ih=>
   intro s h
   cases s with
   |nil=>exact .inl rfl
   |cons c t=>
    simp only[List.length_cons] at h
    simp only[seg_n,seg_c]
    split
    ·cases t with
     |nil=>exact .inl rfl
     |cons d t'=>
      simp only[List.length_cons] at h
      exact ih t' (by omega)
    ·split
     ·rename_i hc
      exact .inr ⟨c,t,hc,rfl⟩
     ·exact ih t (by omega)
 exact key s.length s (Nat.le_refl _)
/-- The pieces between the bytes of a kind that have no backslash ahead. -/
def cut (by_:UInt8):Bs→Bs→List Bs
 |[],cur=>[cur]
 |c::t,cur=>
  if c=92 then
   match t with
   |[]=>[cur++[92]]
   |d::t'=>cut by_ t' (cur++[92,d])
  else if c=by_ then cur::cut by_ t []
  else cut by_ t (cur++[c])
theorem cut_n (by_:UInt8) (cur:Bs):cut by_ [] cur=[cur]:=rfl
theorem cut_c (by_ c:UInt8) (t cur:Bs):cut by_ (c::t) cur=if c=92 then
   match t with
   |[]=>[cur++[92]]
   |d::t'=>cut by_ t' (cur++[92,d])
  else if c=by_ then cur::cut by_ t []
  else cut by_ t (cur++[c]):=(cut.eq_def _ _ _).trans rfl
def hd (cur:Bs):List Bs→List Bs
 |[]=>[cur]
 |x::l=>(cur++x)::l
theorem cut_acc (by_:UInt8):∀ (n:Nat) (s cur:Bs),s.length≤n→cut by_ s cur=hd cur (cut by_ s []):=by
 intro n
 induction n with
 |zero=>
  intro s cur h
  have:s=[]:=List.eq_nil_of_length_eq_zero (by omega)
  subst this;simp[cut_n,cut_c,hd]
 |succ n ih=>
  intro s cur h
  have hh:∀ (a b:Bs) (l:List Bs),hd a (hd b l)=hd (a++b) l:=by
   intro a b l
   cases l <;>simp[hd]
  cases s with
  |nil=>simp[cut_n,cut_c,hd]
  |cons c t=>
   simp only[List.length_cons] at h
   simp only[cut_n,cut_c]
   split
   ·cases t with
    |nil=>simp[hd]
    |cons d t'=>
     simp only[List.length_cons] at h
     simp only
     rw[ih t' (cur++[92,d]) (by omega),ih t' ([]++[92,d]) (by omega),hh]
     simp
   ·split
    ·simp[hd]
    ·rw[ih t (cur++[c]) (by omega),ih t ([]++[c]) (by omega),hh]
     simp
theorem cut_ne (by_:UInt8) (s cur:Bs):cut by_ s cur≠[]:=by
 rw[cut_acc by_ s.length s cur (Nat.le_refl _)]
 cases cut by_ s [] <;>simp[hd]
/-- Rows of pieces. -/
def rows (s:Bs):List (List Bs):=(cut 44 s []).map fun p=>cut 43 p []
def hd2 (p:Bs):List (List Bs)→List (List Bs)
 |[]=>[[p]]
 |r::l=>(p::r)::l
/-- What the rows' first piece, and the rest, are. -/
theorem rows_seg (s:Bs):rows s=match (seg s).2 with
  |[]=>[[(seg s).1]]
  |c::t=>if c=44 then[(seg s).1]::rows t else hd2 (seg s).1 (rows t):=by
 have one:∀ (x:Bs) (l:List Bs),(hd x l).map (fun p=>cut 43 p [])=match l with
   |[]=>[cut 43 x []]
   |y::l'=>cut 43 (x++y) []::l'.map (fun p=>cut 43 p []):=by
  intro x l
  cases l <;>rfl
 -- a piece without a plus ahead of what follows
 have key:∀ (n:Nat) (s:Bs),s.length≤n→rows s=match (seg s).2 with
  |[]=>[[(seg s).1]]
  |c::t=>if c=44 then[(seg s).1]::rows t else hd2 (seg s).1 (rows t):=by
  intro n
  induction n with
  |zero=>
   intro s h
   have:s=[]:=List.eq_nil_of_length_eq_zero (by omega)
   subst this;simp[rows,cut_n,cut_c,seg_n,seg_c]
  |succ n ih=>
   intro s h
   have grow:∀ (a t:Bs),t.length≤n→(∀ q:Bs,cut 43 (a++q) []=hd a (cut 43 q []))→cut 44 (a++t) []=hd a (cut 44 t [])→seg (a++t)=(a++(seg t).1,(seg t).2)→
     rows (a++t)=match (seg (a++t)).2 with
      |[]=>[[(seg (a++t)).1]]
      |c::t'=>if c=44 then[(seg (a++t)).1]::rows t' else hd2 (seg (a++t)).1 (rows t'):=by
    intro a t ht h43 h44 hsg
    have h1:=ih t ht
    rw[hsg]
    have hr:rows (a++t)=match rows t with
      |[]=>[[a]]
      |r::l=>hd a r::l:=by
     unfold rows
     rw[h44,one]
     have hne:=cut_ne 44 t []
     cases hc:cut 44 t [] with
     |nil=>exact absurd hc hne
     |cons y l'=>simp only[List.map_cons];rw[h43]
    rw[hr,h1]
    cases h2:(seg t).2 with
    |nil=>simp[hd]
    |cons c t'=>
     simp only
     by_cases hc:c=44
     ·simp[hc,hd]
     ·simp only[hc,if_false]
      cases rows t' with
      |nil=>simp[hd2,hd]
      |cons r l=>simp[hd2,hd]
   cases s with
   |nil=>simp[rows,cut_n,cut_c,seg_n,seg_c]
   |cons c t=>
    simp only[List.length_cons] at h
    by_cases hc:c=92
    ·subst hc
     cases t with
     |nil=>simp[rows,cut_n,cut_c,seg_n,seg_c]
     |cons d t'=>
      simp only[List.length_cons] at h
      have:=grow [92,d] t' (by omega) (fun q=>by simp only[List.cons_append,List.nil_append,cut_n,cut_c,if_true];exact cut_acc 43 _ q _ (Nat.le_refl _)) (by simp only[List.cons_append,List.nil_append,cut_n,cut_c,if_true];exact cut_acc 44 _ t' _ (Nat.le_refl _)) (by simp[seg_n,seg_c])
      exact this
    ·by_cases hs:c=44∨c=43
     ·rcases hs with rfl|rfl
      ·simp[rows,cut_n,cut_c,seg_n,seg_c]
      ·have h44:cut 44 (43::t) []=hd [43] (cut 44 t []):=by
        simp only[cut_n,cut_c]
        rw[if_neg (by decide),if_neg (by decide)]
        exact cut_acc 44 _ t _ (Nat.le_refl _)
       have:rows (43::t)=hd2 [] (rows t):=by
        unfold rows
        rw[h44,one]
        have hne:=cut_ne 44 t []
        cases hc:cut 44 t [] with
        |nil=>exact absurd hc hne
        |cons y l'=>simp[cut_n,cut_c,hd2]
       rw[this]
       simp[seg_n,seg_c]
     ·have h1: ¬ c=44:=fun q=>hs (.inl q)
      have h2: ¬ c=43:=fun q=>hs (.inr q)
      exact grow [c] t (by omega) (fun q=>by simp only[List.cons_append,List.nil_append,cut_n,cut_c,hc,h2,if_false];exact cut_acc 43 _ q _ (Nat.le_refl _)) (by simp only[List.cons_append,List.nil_append,cut_n,cut_c,hc,h1,if_false];exact cut_acc 44 _ t _ (Nat.le_refl _)) (by simp[seg_n,seg_c,hc,hs])
 exact key s.length s (Nat.le_refl _)
/-! ### the whole text -/
def mapO {α β :Type} (f: α →Option β):List α →Option (List β)
 |[]=>some []
 |x::l=>match f x with
  |none=>none
  |some y=>(mapO f l).map fun r=>y::r
def rfpair (p:Bs):Option Pr:=match eqs p with
 |none=>none
 |some (nm,q)=>(rfv q [] false).map fun v=>(low nm,v)
def refP (s:Bs):Option (List (List Pr)):=mapO (mapO rfpair) (rows s)
def hdp (x:Pr):List (List Pr)→List (List Pr)
 |[]=>[[x]]
 |r::l=>(x::r)::l
def put1 (c:UInt8) (x:Pr) (l:List (List Pr)):List (List Pr):=if c=44 then[x]::l else hdp x l
/-- A name, read from the left on. -/
def spc:Nat→Bs→Option (List (List Pr))
 |0,_=>none
 |n+1,s=>match eqs s with
  |none=>none
  |some (nm,r)=>
   if wordB (low nm) then
    match rdv r [] false with
    |none=>none
    |some (v,[])=>some [[(low nm,v)]]
    |some (v,c::t)=>(spc n t).map (put1 c (low nm,v))
   else none
def okw (l:List (List Pr)):Bool:=l.all fun r=>r.all fun p=>wordB p.1
def fltr (o:Option (List (List Pr))):Option (List (List Pr)):=match o with
 |none=>none
 |some l=>if okw l then some l else none
theorem mapO_hd2 (p:Bs) (l:List (List Bs)):mapO (mapO rfpair) (hd2 p l)=match rfpair p with
  |none=>none
  |some x=>(mapO (mapO rfpair) l).map (hdp x):=by
 cases l with
 |nil=>
  simp only[hd2,mapO]
  cases rfpair p <;>simp[hdp]
 |cons r l=>
  simp only[hd2,mapO]
  cases rfpair p with
  |none=>rfl
  |some x=>
   simp only
   cases mapO rfpair r with
   |none=>rfl
   |some y=>
    simp only[Option.map_some]
    cases mapO (mapO rfpair) l <;>simp[hdp]
theorem okw_hdp (x:Pr) (l:List (List Pr)):okw (hdp x l)=(wordB x.1 && okw l):=by
 cases l with
 |nil=>simp[hdp,okw]
 |cons r l=>simp[hdp,okw,Bool.and_assoc]
theorem okw_cons (x:Pr) (l:List (List Pr)):okw ([x]::l)=(wordB x.1 && okw l):=by simp[okw]
theorem refP_seg (s:Bs):refP s=match rfpair (seg s).1 with
  |none=>none
  |some x=>match (seg s).2 with
   |[]=>some [[x]]
   |c::t=>(refP t).map (put1 c x):=by
 unfold refP
 rw[rows_seg]
 cases h2:(seg s).2 with
 |nil=>
  simp only[mapO]
  cases rfpair (seg s).1 <;>rfl
 |cons c t=>
  simp only
  by_cases hc:c=44
  ·simp only[hc,if_true,mapO]
   cases rfpair (seg s).1 with
   |none=>rfl
   |some x=>
    simp only[Option.map_some]
    congr 1
  ·simp only[hc,if_false,mapO_hd2]
   cases rfpair (seg s).1 with
   |none=>rfl
   |some x=>
    simp only
    congr 1
    funext l
    simp[put1,hc]
theorem eqs_app {a b nm q:Bs} (h:eqs a=some (nm,q)):eqs (a++b)=some (nm,q++b):=by
 obtain⟨h1,h2⟩:=eqs_some h
 rw[h1,List.append_assoc,List.cons_append]
 exact eqs_mk h2
theorem fltr_put (c:UInt8) (x:Pr) (o:Option (List (List Pr))) (hx:wordB x.1=true):fltr (o.map (put1 c x))=(fltr o).map (put1 c x):=by
 cases o with
 |none=>rfl
 |some l=>
  simp only[Option.map_some,fltr,put1]
  by_cases hc:c=44
  ·simp only[hc,if_true,okw_cons,hx,Bool.true_and]
   split <;>rfl
  ·simp only[hc,if_false,okw_hdp,hx,Bool.true_and]
   split <;>simp[put1,hc]
theorem fltr_bad (c:UInt8) (x:Pr) (o:Option (List (List Pr))) (hx:wordB x.1=false):fltr (o.map (put1 c x))=none:=by
 cases o with
 |none=>rfl
 |some l=>
  simp only[Option.map_some,fltr,put1]
  by_cases hc:c=44
  ·simp[hc,okw_cons,hx]
  ·simp[hc,okw_hdp,hx]
/-- What is read from the left on is the document's, if all names are words. -/
theorem spc_refP:∀ (n:Nat) (s:Bs),s.length<n→spc n s=fltr (refP s):=by
 intro n
 induction n with
 |zero=>intro s h;omega
 |succ n ih=>
  intro s h
  have hsp:=seg_split s
  rw[refP_seg]
  simp only[spc]
  cases he:eqs s with
  |none=>
   have h1:(61:UInt8) ∉ s:=eqs_none.1 he
   have h2:eqs (seg s).1=none:=eqs_none.2 fun hm=>h1 (by rw[hsp];exact List.mem_append_left _ hm)
   simp[rfpair,h2,fltr]
  |some p=>
   obtain⟨nm,r⟩:=p
   simp only
   obtain⟨hs,hnm⟩:=eqs_some he
   by_cases hw:wordB (low nm)=true
   ·simp only[hw,if_true]
    have hcl:=low_word hw
    have hsg:seg s=(nm++61::(seg r).1,(seg r).2):=by
     rw[hs]
     have:=seg_app (a:=nm++[61]) (r:=r) (by
      intro c hc
      rcases List.mem_append.1 hc with hc|hc
      ·exact⟨(hcl c hc).1,(hcl c hc).2.1,(hcl c hc).2.2.1⟩
      ·have:c=61:=by simpa using hc
       subst this;decide)
     simpa using this
    have hp:rfpair (seg s).1=(rfv (seg r).1 [] false).map fun v=>(low nm,v):=by
     unfold rfpair
     rw[hsg]
     simp only[eqs_mk hnm]
    rw[hp,rdv_seg r.length r [] false (Nat.le_refl _),hsg]
    cases rfv (seg r).1 [] false with
    |none=>simp[fltr]
    |some v=>
     simp only[Option.map_some]
     cases hr:(seg r).2 with
     |nil=>simp[fltr,okw,hw]
     |cons c t=>
      simp only
      have hlt:t.length<n:=by
       have h1:r.length=(seg r).1.length+(seg r).2.length:=by rw[← List.length_append,← seg_split]
       have h2:s.length=nm.length+(r.length+1):=by rw[hs];simp
       rw[hr,List.length_cons] at h1
       omega
      rw[ih t hlt,fltr_put c _ _ hw]
   ·have hw':wordB (low nm)=false:=by simpa using hw
    simp only[hw',Bool.false_eq_true,if_false]
    cases hp:eqs (seg s).1 with
    |none=>simp[rfpair,hp,fltr]
    |some p=>
     obtain⟨nm',q⟩:=p
     have h3:=eqs_app (b:=(seg s).2) hp
     rw[← hsp,he] at h3
     simp only[Option.some.injEq,Prod.mk.injEq] at h3
     obtain⟨rfl, -⟩:=h3
     have hr:rfpair (seg s).1=(rfv q [] false).map fun v=>(low nm,v):=by unfold rfpair;rw[hp]
     rw[hr]
     cases rfv q [] false with
     |none=>simp[fltr]
     |some v=>
      simp only[Option.map_some]
      cases (seg s).2 with
      |nil=>simp[fltr,okw,hw']
      |cons c t=>exact(fltr_bad c _ _ hw').symm
/-! ### a name's text -/
def hexd (n:UInt8):UInt8:=if n<10 then 48+n else 87+n
def esc (first last:Bool) (c:UInt8):Bs:=if c<32∨c=127 then[92,hexd (c / 16),hexd (c % 16)] else if sgn c || (c==32 && (first || last)) || (c==35 && first) then[92,c] else[c]
def valL:Bool→Bs→Bs
 |_,[]=>[]
 |f,c::t=>esc f t.isEmpty c++valL false t
def pairT (p:Pr):Bs:=p.1++61::valL true p.2
def rowT:List Pr→Bs
 |[]=>[]
 |[p]=>pairT p
 |p::q::r=>pairT p++43::rowT (q::r)
def nameT:List (List Pr)→Bs
 |[]=>[]
 |[r]=>rowT r
 |r::q::l=>rowT r++44::nameT (q::l)
theorem hx_hex:∀ c:UInt8,c<32∨c=127→(sgn (hexd (c / 16)) || hexd (c / 16)==32 || hexd (c / 16)==35)=false∧∃ x y,hx (hexd (c / 16))=some x∧hx (hexd (c % 16))=some y∧x*16+y=c:=by
 have key:∀ c:UInt8,c<32∨c=127→(sgn (hexd (c / 16)) || hexd (c / 16)==32 || hexd (c / 16)==35)=false∧hx (hexd (c / 16))=some (c / 16)∧hx (hexd (c % 16))=some (c % 16)∧c / 16*16+c % 16=c:=all8 (by decide+kernel)
 intro c hc
 obtain⟨h1,h2,h3,h4⟩:=key c hc
 exact⟨h1,_,_,h2,h3,h4⟩
theorem rdv_esc (first last:Bool) (c:UInt8) (X b:Bs) (l:Bool) (hf:b.isEmpty=true→first=true):∃ l',rdv (esc first last c++X) b l=rdv X (b++[c]) l'∧(last=true→l'=false):=by
 unfold esc
 by_cases h1:c<32∨c=127
 ·obtain⟨h2,x,y,h3,h4,h5⟩:=hx_hex c h1
  refine⟨false,?_,fun _=>rfl⟩
  simp only[h1,if_true,List.cons_append,List.nil_append,rdv_n,rdv_c]
  simp[h2,h3,h4,h5]
 ·simp only[h1,if_false]
  by_cases h2:(sgn c || (c==32 && (first || last)) || (c==35 && first))=true
  ·refine⟨false,?_,fun _=>rfl⟩
   simp only[h2,if_true,List.cons_append,List.nil_append,rdv_n,rdv_c]
   have h3:(sgn c || c==32 || c==35)=true:=by
    simp only[Bool.or_eq_true,Bool.and_eq_true] at h2 ⊢
    rcases h2 with(h2|h2)|h2
    ·exact .inl (.inl h2)
    ·exact .inl (.inr h2.1)
    ·exact .inr h2.1
   simp[h3]
  ·refine⟨c==32,?_,fun hl=>?_⟩
   ·rw[if_neg h2]
    simp only[List.cons_append,List.nil_append,rdv_c]
    have h2':sgn c=false∧ ¬ ((c==32)=true∧(first || last)=true)∧ ¬ ((c==35)=true∧first=true):=by
     simp only[Bool.or_eq_true,Bool.and_eq_true,not_or] at h2
     refine⟨by simpa using h2.1.1,?_,h2.2⟩
     intro q
     exact h2.1.2 ⟨q.1,by simpa using q.2⟩
    have hsg:=h2'.1
    have hn: ¬ (c=44∨c=43)∧ ¬ c=92:=by
     constructor
     ·rintro(rfl|rfl) <;>exact absurd hsg (by decide)
     ·rintro rfl;exact absurd hsg (by decide)
    have hb:(b.isEmpty && (c==32 || c==35))=false:=by
     cases hbe:b.isEmpty with
     |false=>rfl
     |true=>
      have:=hf hbe
      subst this
      simp only[Bool.true_and,Bool.or_eq_false_iff]
      constructor
      ·cases hc:c==32 with
       |false=>rfl
       |true=>exact absurd ⟨hc,by simp⟩ h2'.2.1
      ·cases hc:c==35 with
       |false=>rfl
       |true=>exact absurd ⟨hc,rfl⟩ h2'.2.2
    rw[if_neg hn.1,if_neg hn.2,hsg,hb]
    simp
   ·subst hl
    simp only[Bool.or_eq_true,Bool.and_eq_true,not_or] at h2
    cases hc:c==32 with
    |false=>rfl
    |true=>exact absurd ⟨hc,by simp⟩ h2.1.2
theorem rdv_end {b X:Bs} (hb:b≠[]) (hX:X=[]∨∃ c t,(c=44∨c=43)∧X=c::t):rdv X b false=some (b,X):=by
 have hf:fine b false=true:=by
  cases b with
  |nil=>exact absurd rfl hb
  |cons a l=>rfl
 rcases hX with rfl|⟨c,t,hc,rfl⟩
 ·simp[rdv_n,rdv_c,hf]
 ·simp[rdv_n,rdv_c,hf,hc]
/-- A value is read as it was written. -/
theorem rdv_val:∀ (v X b:Bs) (l:Bool),v≠[]→(X=[]∨∃ c t,(c=44∨c=43)∧X=c::t)→rdv (valL b.isEmpty v++X) b l=some (b++v,X):=by
 intro v
 induction v with
 |nil=>intro X b l h;exact absurd rfl h
 |cons c t ih=>
  intro X b l _ hX
  simp only[valL,List.append_assoc]
  obtain⟨l',h1,h2⟩:=rdv_esc b.isEmpty t.isEmpty c (valL false t++X) b l id
  rw[h1]
  cases t with
  |nil=>
   have:l'=false:=h2 rfl
   subst this
   simpa [valL] using rdv_end (b:=b++[c]) (X:=X) (by simp) hX
  |cons d t'=>
   have hbe:(b++[c]).isEmpty=false:=by cases b <;>rfl
   have:=ih X (b++[c]) l' (by simp) hX
   rw[hbe] at this
   rw[this]
   simp
def goodP (p:Pr):Prop:=wordB p.1=true∧p.2≠[]
/-- One pair at a text's head. -/
theorem spc_pair (n:Nat) (p:Pr) (hp:goodP p) (X:Bs) (hX:X=[]∨∃ c t,(c=44∨c=43)∧X=c::t):spc (n+1) (pairT p++X)=match X with
  |[]=>some [[p]]
  |c::t=>(spc n t).map (put1 c p):=by
 have hcl:=word_mem hp.1
 have hne:(61:UInt8) ∉ p.1:=fun hm=>(lo_nums 61 (hcl 61 hm)).2.2.2.1 rfl
 have h1:eqs (pairT p++X)=some (p.1,valL true p.2++X):=by
  unfold pairT
  rw[List.append_assoc,List.cons_append]
  exact eqs_mk hne
 have h2:=rdv_val p.2 X [] false hp.2 hX
 simp only[List.isEmpty_nil,List.nil_append] at h2
 simp only[spc,h1,low_id hp.1,hp.1,if_true,h2]
 cases X <;>rfl
theorem rowT_len (p:Pr) (r:List Pr):(rowT (p::r)).length≥1:=by
 cases r with
 |nil=>simp[rowT,pairT];omega
 |cons q r=>simp[rowT,pairT];omega
/-- A row at a text's head, and what follows. -/
theorem spc_row (r:List Pr):∀ (n:Nat) (X:Bs),r≠[]→(∀ p ∈ r,goodP p)→(X=[]∨∃ t,X=44::t)→(rowT r++X).length<n→∃ m,X.length≤m∧spc n (rowT r++X)=match X with
  |[]=>some [r]
  |_::t=>(spc m t).map fun l=>r::l:=by
 induction r with
 |nil=>intro n X h;exact absurd rfl h
 |cons p r ih=>
  intro n X _ hg hX hn
  obtain⟨n,rfl⟩:∃ k,n=k+1:=⟨n - 1,by omega⟩
  have hp:=hg p (List.mem_cons_self ..)
  cases r with
  |nil=>
   refine⟨n,?_,?_⟩
   ·simp only[List.length_append,rowT] at hn;omega
   ·have hX':X=[]∨∃ c t,(c=44∨c=43)∧X=c::t:=hX.elim .inl fun ⟨t,ht⟩=>.inr ⟨44,t,.inl rfl,ht⟩
    have:=spc_pair n p hp X hX'
    simp only[rowT]
    rw[this]
    rcases hX with rfl|⟨t,rfl⟩
    ·rfl
    ·simp only
     congr 1
  |cons q r=>
   have h1:=spc_pair n p hp (43::rowT (q::r)++X) (.inr ⟨43,rowT (q::r)++X,.inr rfl,rfl⟩)
   have hl:(rowT (q::r)++X).length<n:=by
    simp only[rowT,List.length_append,List.length_cons] at hn ⊢
    omega
   obtain⟨m,hm,h2⟩:=ih n X (by simp) (fun x hx=>hg x (List.mem_cons_of_mem _ hx)) hX hl
   refine⟨m,hm,?_⟩
   have h3:rowT (p::q::r)++X=pairT p++(43::rowT (q::r)++X):=by simp[rowT]
   rw[h3,h1]
   simp only[List.cons_append]
   rw[h2]
   rcases hX with rfl|⟨t,rfl⟩
   ·simp[put1,hdp]
   ·simp only[Option.map_map]
    congr 1
/-- A name is read as it was written. -/
theorem spc_name:∀ (l:List (List Pr)) (n:Nat),l≠[]→(∀ r ∈ l,r≠[]∧∀ p ∈ r,goodP p)→(nameT l).length<n→spc n (nameT l)=some l:=by
 intro l
 induction l with
 |nil=>intro n h;exact absurd rfl h
 |cons r l ih=>
  intro n _ hg hn
  obtain⟨hr,hp⟩:=hg r (List.mem_cons_self ..)
  cases l with
  |nil=>
   obtain⟨m,_,h⟩:=spc_row r n [] hr hp (.inl rfl) (by simpa [nameT] using hn)
   simpa [nameT] using h
  |cons q l=>
   obtain⟨m,hm,h⟩:=spc_row r n (44::nameT (q::l)) hr hp (.inr ⟨_,rfl⟩) (by simpa [nameT] using hn)
   have h2:=ih m (by simp) (fun x hx=>hg x (List.mem_cons_of_mem _ hx)) (by simp only[List.length_cons] at hm;omega)
   simp only[nameT]
   rw[h]
   simp only
   rw[h2]
   rfl
end Go.Proofs.Ytapinanmmhdpcaa.DnL
