import Derived.Test.YtcjafemnkhifmaaPxA
import Derived.Test.YtcjafemnkhifmaaGM1
import Derived.Test.YtcjafemnkhifmaaGM1
import Derived.Test.YtcjafemnkhifmaaGM1
import Derived.Test.YtcjafemnkhifmaaGM1
import Derived.Test.YtcjafemnkhifmaaGM1
import Derived.Test.YtcjafemnkhifmaaGM1
import Derived.Test.YtcjafemnkhifmaaGM1
import Derived.Test.YtcjafemnkhifmaaGM1
import Derived.Test.YtcjafemnkhifmaaGM1
import Derived.Test.YtcjafemnkhifmaaGM1
import Derived.Test.YtcjafemnkhifmaaGM1
import Derived.Test.YtcjafemnkhifmaaGM1
/- Plain laws of types: what the program and the document compute of them. -/
namespace Go.Proofs.Ytcjafemnkhifmaa.PxB
open Go Go.RowKit Go.Proofs.Ytcjafemnkhifmaa.GA Go.Proofs.Ytcjafemnkhifmaa.PuE Go.Proofs.Ytcjafemnkhifmaa.PxA Go.Proofs.YtcjafemnkhifmaaW.PrintWords Go.Proofs.YtcjafemnkhifmaaW.PrintLast Go.Proofs.YtcjafemnkhifmaaW.PrintMore
set_option linter.unusedVariables false
set_option linter.unusedSimpArgs false
section
variable {α : Type}
theorem Evt.ite2 {c:Prop} [Decidable c] {f g:Nat→Option α} {v u: α} (h1:c→Evt f v) (h2: ¬ c→Evt g u):Evt (fun k=>if c then f k else g k) (if c then v else u):=by
 by_cases h:c
 ·simp only[if_pos h];exact h1 h
 ·simp only[if_neg h];exact h2 h
theorem next_len (p:List α) (y: α) (r:List α) (h:(p++y::r).length≤140737488351232):wrap64 ((p.length:Int)+1)=((p++[y]).length:Int):=by
 simp at h ⊢
 rw[w64 _ (by omega)]
theorem lt_mid (p:List α) (y: α) (r:List α):(p.length:Int)<((p++y::r).length:Int):=by
 simp;omega
theorem nlt_end (p:List α): ¬ (p.length:Int)<((p++[]).length:Int):=by simp
theorem snoc (p:List α) (y: α) (r:List α):p++y::r=(p++[y])++r:=by simp
end
theorem rdt (p:List S26) (y:S26) (r:List S26):rd_T26 (p++y::r) (p.length:Int)=y:=by
 unfold rd_T26
 simp
theorem rdO (p:List ByteArray) (y:ByteArray) (r:List ByteArray):rdOf ByteArray.empty (p++y::r) (p.length:Int)=y:=by
 unfold rdOf
 simp
theorem rdn (L:List S26) (i:Nat) (h:i<L.length):rd_T26 L (i:Int)=L[i]:=by
 unfold rd_T26
 simp[List.getD,h]
/-! ### words -/
theorem small_ev (n:Int):∃ t,dn_small.f n=some t:=by
 unfold dn_small.f
 split <;>exact⟨_,rfl⟩
theorem word_l0 (s:ByteArray) (hs:(s.size:Int)≤16):∀ (k:Nat) (i:Int),0≤i→i≤17→18 - i.toNat≤k→∃ b,dn_Word.l0 k i s=some b
 |0,i,h0,h1,hk=>by omega
 |k+1,i,h0,h1,hk=>by
  unfold dn_Word.l0
  by_cases h:i<(s.size:Int)
  ·have hw:wrap64 (i+1)=i+1:=w64 _ (by omega)
   obtain⟨b,hb⟩:=word_l0 s hs k (i+1) (by omega) (by omega) (by omega)
   obtain⟨t,ht⟩:=small_ev (bt s i)
   rw[if_pos h,if_pos h0,hw,ht,hb]
   simp only[Option.bind_some]
   repeat' first
   |exact⟨b,rfl⟩
   |exact⟨_,rfl⟩
   |split
  ·rw[if_neg h];exact⟨true,rfl⟩
theorem toList_nil (s:ByteArray):s.toList=([]:List UInt8)↔s.size=0:=by
 rw[toList_B,← len_B]
 exact List.length_eq_zero_iff.symm
theorem word_same (s:ByteArray):∀ (k:Nat) (i:Int),1≤i→i≤100→(s.size:Int)≤16→dn_Word.l0 k i s=toponymref18_Word.l0 k i s
 |0,_,_,_,_=>rfl
 |k+1,i,h1,h2,hs=>by
  unfold dn_Word.l0 toponymref18_Word.l0
  by_cases h:i<(s.size:Int)
  ·have hw:wrap64 (i+1)=i+1:=w64 _ (by omega)
   have ih:=word_same s k (i+1) (by omega) (by omega) hs
   have hi1:0≤i:=by omega
   simp only[if_pos h,if_pos hi1,hw,ih]
   unfold dn_small.f
   have hi0: ¬ i=0:=by omega
   generalize toponymref18_Word.l0 k (i+1) s=X
   generalize bt s i=b
   by_cases c1:b≥97
   ·by_cases c2:b≤122
    ·have c3:b≥48:=by omega
     have c4: ¬ b≤57:=by omega
     simp[c1,c2,c3,c4]
    ·have c3:b≥48:=by omega
     have c4: ¬ b≤57:=by omega
     have c5: ¬ b<48:=by omega
     have c6:b>57:=by omega
     have c7: ¬ b=45:=by omega
     simp[c1,c2,c3,c4,c5,c6,c7,hi0]
   ·by_cases c3:b≥48
    ·by_cases c4:b≤57
     ·have c5: ¬ b<48:=by omega
      have c6: ¬ b>57:=by omega
      simp[c1,c3,c4,c5,c6,hi0]
     ·have c5: ¬ b<48:=by omega
      have c6:b>57:=by omega
      have c7: ¬ b=45:=by omega
      simp[c1,c3,c4,c5,c6,c7,hi0]
    ·have c5:b<48:=by omega
     by_cases c7:b=45
     ·subst c7;simp[hi0]
     ·simp[c1,c3,c5,c7,hi0]
  ·rw[if_neg h,if_neg h]
/-- Is it a word? -/
def wd (s:ByteArray):Bool:=(dn_Word.f 20 s).getD false
theorem wd_own (s:ByteArray):dn_Word.f 20 s=some (wd s):=by
 have:∃ b,dn_Word.f 20 s=some b:=by
  unfold dn_Word.f
  by_cases h0:s.toList=([]:List UInt8)
  ·exact⟨false,if_pos h0⟩
  ·rw[if_neg h0]
   by_cases h1:(s.size:Int)>16
   ·exact⟨false,if_pos h1⟩
   ·have hz:=(not_congr (toList_nil s)).1 h0
    rw[if_neg h1,if_pos (by omega)]
    obtain⟨t,ht⟩:=small_ev (bt s 0)
    obtain⟨b,hb⟩:=word_l0 s (by omega) 20 1 (by omega) (by omega) (by decide)
    rw[ht,hb]
    simp only[Option.bind_some]
    split
    ·exact⟨b,rfl⟩
    ·exact⟨false,rfl⟩
 obtain⟨c,hc⟩:=this
 unfold wd
 rw[hc]
 rfl
theorem wd_ev (s:ByteArray):Evt (fun k=>dn_Word.f k s) (wd s):=Evt.mono_ (fun k=>dn_Word.mono s k) (wd_own s)
theorem wd_ref (s:ByteArray):Evt (fun k=>toponymref18_Word.f k s) (wd s):=by
 have key:toponymref18_Word.f 21 s=some (wd s):=by
  rw[← wd_own s]
  unfold toponymref18_Word.f dn_Word.f
  by_cases h0:s.toList=([]:List UInt8)
  ·have hz:=(toList_nil s).1 h0
   rw[if_pos h0,if_pos (by omega)]
  ·have hz:=(not_congr (toList_nil s)).1 h0
   rw[if_neg h0,if_neg (by omega)]
   by_cases h1:(s.size:Int)>16
   ·rw[if_pos h1,if_pos h1]
   ·have hp:(0:Int)<(s.size:Int):=by omega
    have hw:wrap64 ((0:Int)+1)=1:=by rw[w64 _ (by omega)];rfl
    rw[if_neg h1,if_neg h1,if_pos hp,word_same s 20 1 (by omega) (by omega) (by omega)]
    generalize hX:toponymref18_Word.l0 20 1 s=X
    unfold toponymref18_Word.l0
    simp only[if_pos hp,if_pos (show(0:Int)≤0 by omega),hw,hX]
    unfold dn_small.f
    generalize bt s 0=b
    by_cases c1:b≥97
    ·have c3:b≥48:=by omega
     have c4: ¬ b≤57:=by omega
     by_cases c2:b≤122
     ·simp[c1,c2,c3,c4]
     ·simp[c1,c2,c3,c4]
    ·by_cases c3:b≥48
     ·by_cases c4:b≤57
      ·simp[c1,c3,c4]
      ·simp[c1,c3,c4]
     ·simp[c1,c3]
 exact Evt.mono_ (fun k=>toponymref18_Word.mono s k) key
theorem wd_empty:wd ⟨#[]⟩=false:=by
 unfold wd dn_Word.f
 rw[if_pos ((toList_nil _).2 rfl)]
 rfl
/-! ### what is found -/
abbrev at' (a:ByteArray) (L:List S26):Option S26:=at? S26.f0 a L
abbrev up' (L:List S26) (n:Nat) (a:ByteArray):List S26:=up S26.f0 S26.f1 L n a
abbrev ln' (L:List S26) (a:ByteArray):List S26:=ln S26.f0 S26.f1 L a
abbrev Ris' (L:List S26):Prop:=Ris S26.f0 L
def fv:Option S26→ByteArray × ByteArray × Int × Int × Bool × Bool × Bool
 |some x=>(x.f0,x.f1,x.f2,x.f3,x.f4,x.f5,true)
 |none=>((⟨#[]⟩:ByteArray),(⟨#[]⟩:ByteArray),0,0,false,false,false)
theorem find1 (x:S26) (a:ByteArray):attrs_find_1.f x.f0 x.f1 x.f2 x.f3 x.f4 x.f5 a=some (Lib.compareBytes x.f0.data.toList a.data.toList):=rfl
theorem cmpx_lt (a b:ByteArray):Lib.compareBytes a.data.toList b.data.toList<0↔lt a b:=by
 rw[cmp_lt];unfold lt;rw[toList_B,toList_B];exact Iff.rfl
theorem cmpx_eq (a b:ByteArray):Lib.compareBytes a.data.toList b.data.toList=0↔a=b:=by
 rw[PxA.cmp_eq];exact⟨fun h=>B_inj h,fun h=>by rw[h]⟩
theorem half (i j:Nat) (h:i+j≤1000):wrap64 (IntKind.u64.wrap (wrap64 ((i:Int)+(j:Int))) / 2)=(((i+j) / 2:Nat):Int):=by
 have h1:wrap64 ((i:Int)+(j:Int))=((i+j:Nat):Int):=by rw[w64 _ (by omega)];omega
 have h2:IntKind.u64.wrap ((i+j:Nat):Int)=((i+j:Nat):Int):=by
  have:∀ n:Int,0≤n→n≤1000→IntKind.u64.wrap n=n:=by
   intro n a b
   simp only[IntKind.wrap,IntKind.bits,IntKind.signed]
   simp
   omega
  exact this _ (by omega) (by omega)
 rw[h1,h2,w64 _ (by omega)]
 omega
theorem find_l0 (L:List S26) (a:ByteArray) (hL:L.length≤40) (hr:Ris' L):∀ (n i j:Nat),j - i≤n→i≤j→j≤L.length→(∀ (p:Nat) (h:p<L.length),p<i→lt L[p].f0 a)→(∀ (p:Nat) (h:p<L.length),j≤p→ ¬ lt L[p].f0 a)→
  Evt (fun k=>attrs_find.l0 k (i:Int) (j:Int) a L) (fv (at' a L))
 |n,i,j,hn,hij,hj,h1,h2=>by
  refine Evt.step ?_
  by_cases hlt:i<j
  ·have hm:(i+j) / 2<L.length:=by omega
   have hc0:(i:Int)<(j:Int):=by omega
   have hc2:(((i+j) / 2:Nat):Int)<(L.length:Int):=by omega
   have hw:wrap64 ((((i+j) / 2:Nat):Int)+1)=(((i+j) / 2+1:Nat):Int):=by rw[w64 _ (by omega)];omega
   obtain⟨n',rfl⟩:∃ n',n=n'+1:=⟨n - 1,by omega⟩
   simp only[attrs_find.l0,if_pos hc0,half i j (by omega),if_pos (Int.natCast_nonneg ((i+j) / 2)),if_pos hc2,rdn L _ hm,find1,Option.bind_some,hw]
   by_cases hx:lt L[(i+j) / 2].f0 a
   ·simp only[if_pos ((cmpx_lt _ _).2 hx)]
    refine find_l0 L a hL hr n' _ j (by omega) (by omega) hj (fun p hp hpi=>?_) h2
    rcases Nat.lt_or_ge p ((i+j) / 2) with h|h
    ·have:=List.pairwise_iff_getElem.1 hr p ((i+j) / 2) hp hm h
     exact lt_trans this hx
    ·have:p=(i+j) / 2:=by omega
     subst this;exact hx
   ·simp only[if_neg (fun h=>hx ((cmpx_lt _ _).1 h))]
    refine find_l0 L a hL hr n' i _ (by omega) (by omega) (by omega) h1 (fun p hp hpi h=>?_)
    rcases Nat.lt_or_ge ((i+j) / 2) p with h'|h'
    ·have:=List.pairwise_iff_getElem.1 hr _ p hm hp h'
     exact hx (lt_trans this h)
    ·have:p=(i+j) / 2:=by omega
     subst this;exact hx h
  ·have hij':i=j:=by omega
   subst hij'
   have hc0: ¬ ((i:Int)<(i:Int)):=by omega
   by_cases hl:i<L.length
   ·have hc1:(i:Int)<(L.length:Int):=by omega
    simp only[attrs_find.l0,if_neg hc0,if_pos hc1,if_pos (Int.natCast_nonneg i),rdn L i hl,find1,Option.bind_some]
    by_cases hx:L[i].f0=a
    ·have hat:=at_self hr (List.getElem_mem hl)
     rw[hx] at hat
     simp only[if_pos ((cmpx_eq _ _).2 hx)]
     refine(Evt.now _).val ?_
     show _=fv (at? S26.f0 a L)
     rw[hat]
     rfl
    ·simp only[if_neg (fun h=>hx ((cmpx_eq _ _).1 h))]
     refine(Evt.now _).val ?_
     cases hc:at' a L with
     |none=>rfl
     |some x=>
      exfalso
      obtain⟨hm,he⟩:=at_mem hc
      obtain⟨p,hp,rfl⟩:=List.getElem_of_mem hm
      rcases Nat.lt_trichotomy p i with h|h|h
      ·have:=h1 p hp h;rw[he] at this;exact lt_irr _ this
      ·subst h;exact hx he
      ·have:=List.pairwise_iff_getElem.1 hr i p hl hp h
       rw[he] at this
       exact h2 i hl (Nat.le_refl _) this
   ·have hc1: ¬ ((i:Int)<(L.length:Int)):=by omega
    simp only[attrs_find.l0,if_neg hc0,if_neg hc1]
    refine(Evt.now _).val ?_
    cases hc:at' a L with
    |none=>rfl
    |some x=>
     exfalso
     obtain⟨hm,he⟩:=at_mem hc
     obtain⟨p,hp,rfl⟩:=List.getElem_of_mem hm
     have:=h1 p hp (by omega)
     rw[he] at this
     exact lt_irr _ this
theorem find_ev (L:List S26) (a:ByteArray) (hL:L.length≤40) (hr:Ris' L):Evt (fun k=>attrs_find.f k L a) (fv (at' a L)):=
 find_l0 L a hL hr L.length 0 L.length (by omega) (Nat.zero_le _) (Nat.le_refl _) (fun p _ h=>by omega) (fun p h h'=>by omega)
/-- The document's search. -/
def ix (a:ByteArray):List S26→Int→Int
 |[],_=> -1
 |x::r,i=>if x.f0=a then i else ix a r (i+1)
theorem at_l0 (a:ByteArray):∀ (r p:List S26),(p++r).length≤40→Evt (fun k=>toponymref20_at.l0 k (p.length:Int) a (p++r)) (ix a r (p.length:Int))
 |[],p,h=>by
  refine Evt.step ?_
  simp only[toponymref20_at.l0,if_neg (nlt_end p)]
  exact Evt.now _
 |y::r,p,h=>by
  have hi:=at_l0 a r (p++[y]) (by rw[← snoc];exact h)
  rw[← snoc] at hi
  refine Evt.step ?_
  simp only[toponymref20_at.l0,if_pos (lt_mid p y r),if_pos (Int.natCast_nonneg p.length),rdt,next_len p y r (by omega),ix,tl_inj]
  refine Evt.ite2 (fun _=>Evt.now _) (fun _=>hi.val ?_)
  simp
theorem at_ev (L:List S26) (a:ByteArray) (hL:L.length≤40):Evt (fun k=>toponymref20_at.f k L a) (ix a L 0):=at_l0 a L [] (by simpa using hL)
theorem ix_some (a:ByteArray):∀ (r p:List S26),(at' a r=none∧ix a r (p.length:Int)= -1)∨(∃ (x:S26) (q s:List S26),r=q++x::s∧at' a r=some x∧ix a r (p.length:Int)=((p++q).length:Int))
 |[],p=>.inl ⟨rfl,rfl⟩
 |y::r,p=>by
  by_cases hy:y.f0=a
  ·exact .inr ⟨y,[],r,rfl,by simp[at?,hy],by simp[ix,hy]⟩
  ·have he:ix a (y::r) (p.length:Int)=ix a r (((p++[y]).length:Nat):Int):=by simp[ix,hy]
   have ha:at' a (y::r)=at' a r:=by simp[at?,hy]
   rw[he,ha]
   rcases ix_some a r (p++[y]) with⟨h1,h2⟩|⟨x,q,s,h1,h2,h3⟩
   ·exact .inl ⟨h1,h2⟩
   ·exact .inr ⟨x,y::q,s,by rw[h1];rfl,h2,by rw[h3];simp⟩
theorem ix_cases (L:List S26) (a:ByteArray):(at' a L=none∧ix a L 0= -1)∨(∃ (x:S26) (q s:List S26),L=q++x::s∧at' a L=some x∧ix a L 0=(q.length:Int)):=by
 have:=ix_some a L []
 simpa using this
/-! ### lines -/
theorem seq_ev (L:List S26) (hL:L.length≤40) (hr:Ris' L):∀ (n i:Nat) (a:ByteArray),i+n=L.length+1→Evt (fun k=>attrs_up.seq k (i:Int) a L) (up' L n a)
 |0,i,a,h=>by
  refine Evt.step ?_
  have hc: ¬ ((i:Int)<wrap64 ((L.length:Int)+1)):=by rw[w64 _ (by omega)];omega
  simp only[attrs_up.seq,if_neg hc]
  exact Evt.now _
 |n+1,i,a,h=>by
  refine Evt.step ?_
  have hc:(i:Int)<wrap64 ((L.length:Int)+1):=by rw[w64 _ (by omega)];omega
  have hw:wrap64 ((i:Int)+1)=((i+1:Nat):Int):=by rw[w64 _ (by omega)];omega
  simp only[attrs_up.seq,if_pos hc,hw]
  refine Evt.bind (find_ev L a hL hr) ?_
  cases hx:at' a L with
  |none=>
   simp only[fv]
   rw[show up' L (n+1) a=[] from up_none hx _]
   exact Evt.ifn (by simp) (Evt.now _)
  |some x=>
   simp only[fv]
   rw[show up' L (n+1) a=x::up' L n x.f1 from up_some hx _]
   refine Evt.ifp (by simp) ?_
   exact Evt.bind (seq_ev L hL hr n (i+1) x.f1 (by omega)) (Evt.now _)
theorem seq0_ev (L:List S26) (hL:L.length≤40) (hr:Ris' L) (a:ByteArray):Evt (fun k=>attrs_up.seq k 0 a L) (ln' L a):=seq_ev L hL hr (L.length+1) 0 a (by omega)
theorem up_len (L:List S26):∀ (n:Nat) (a:ByteArray),(up' L n a).length≤n
 |0,a=>by simp[up]
 |n+1,a=>by
  cases hx:at' a L with
  |none=>rw[show up' L (n+1) a=[] from up_none hx _];simp
  |some x=>rw[show up' L (n+1) a=x::up' L n x.f1 from up_some hx _];simpa using up_len L n x.f1
theorem line_ev (L:List S26) (hL:L.length≤40) (hr:Ris' L) (a:ByteArray):Evt (fun k=>attrs_line.f k L a) ((ln' L a).map S26.f0):=by
 refine Evt.bind (seq0_ev L hL hr a) ?_
 refine Evt.ifp ?_ (Evt.now _)
 have:(ln' L a).length≤L.length+1:=up_len L _ a
 omega
theorem cnt_eq:∀ m:Nat,m≤1000→attrs_up.cnt m 0=(m:Int)
 |0,_=>rfl
 |m+1,h=>by
  simp only[attrs_up.cnt,cnt_eq m (by omega)]
  rw[w64 _ (by omega)]
  omega
/-! ### what may be -/
def hs (n r:Int):Bool:=(attrs_has.f n r).getD false
theorem hs_own (n r:Int):attrs_has.f n r=some (hs n r):=by
 have:∃ b,attrs_has.f n r=some b:=by
  unfold attrs_has.f syntax_Known.f
  repeat' first
  |exact⟨_,rfl⟩
  |split
  |(simp only[Option.bind_some])
 obtain⟨b,hb⟩:=this
 unfold hs
 rw[hb]
 rfl
theorem hs_fits (n r:Int):toponymref20_fits.f n r=some (hs n r):=by
 rw[← hs_own]
 unfold toponymref20_fits.f attrs_has.f syntax_Known.f
 by_cases h1:n<1
 ·rw[if_pos h1,if_neg (by omega),if_neg (by omega),if_neg (by omega),if_neg (by omega)]
  rfl
 ·rw[if_neg h1]
  by_cases h2:n>10
  ·rw[if_pos h2,if_neg (by omega),if_neg (by omega),if_neg (by omega),if_pos (by omega)]
   simp only[Option.bind_some,show decide (n≤10)=false from decide_eq_false (by omega)]
   rfl
  ·rw[if_neg h2,if_pos (show n≥1 by omega)]
   simp only[Option.bind_some,show decide (n≤10)=true from decide_eq_true (by omega),if_true]
def gd (x:S26):Bool:=wd x.f0 && hs x.f2 x.f3
theorem gd_empty (x:S26) (h:x.f0=⟨#[]⟩):gd x=false:=by unfold gd;rw[h,wd_empty];rfl
abbrev okS' (L:List S26) (x:S26):Bool:=okS S26.f0 S26.f1 S26.f2 L x
abbrev okU' (L:List S26) (n:Nat) (x:S26):Bool:=okU S26.f0 S26.f1 S26.f2 L n x
theorem sane_ev (L:List S26) (hL:L.length≤40) (hr:Ris' L) (x:S26):Evt (fun k=>attrs_sane.f k L x.f0 x.f1 x.f2 x.f3 x.f4 x.f5) (gd x && okS' L x):=by
 refine Evt.bind (wd_ev x.f0) ?_
 unfold gd
 cases hw:wd x.f0 with
 |false=>exact Evt.ifn (by simp) (Evt.now _)
 |true=>
  refine Evt.ifp rfl ?_
  refine Evt.bind (Evt.of_all fun _=>hs_own x.f2 x.f3) ?_
  cases hh:hs x.f2 x.f3 with
  |false=>exact Evt.ifn (by simp) (Evt.now _)
  |true=>
   refine Evt.ifp rfl ?_
   show Evt _ (true && true && okS S26.f0 S26.f1 S26.f2 L x)
   unfold okS
   by_cases he:x.f1=⟨#[]⟩
   ·rw[if_pos he];exact Evt.ifp (tl_nil.2 he) (Evt.now _)
   ·rw[if_neg he]
    refine Evt.ifn (fun h=>he (tl_nil.1 h)) ?_
    refine Evt.bind (find_ev L x.f1 hL hr) ?_
    rw[show at' x.f1 L=at? S26.f0 x.f1 L from rfl]
    cases hc:at? S26.f0 x.f1 L with
    |none=>exact Evt.ifn (by simp[fv]) (Evt.now _)
    |some y=>exact Evt.ifp rfl (Evt.now _)
theorem one_l0 (L:List S26) (hL:L.length≤40):∀ (n s:Nat) (x:S26),s+n=L.length+1→Evt (fun k=>toponymref20_one.l0 k (s:Int) x.f0 x.f1 x.f2 x.f3 x.f4 x.f5 L) (okU' L n x)
 |n,s,x,h=>by
  refine Evt.step ?_
  simp only[toponymref20_one.l0]
  show Evt _ (okU S26.f0 S26.f1 S26.f2 L n x)
  unfold okU
  by_cases he:x.f1=⟨#[]⟩
  ·rw[if_pos he];exact Evt.ifp (tl_nil.2 he) (Evt.now _)
  ·rw[if_neg he]
   refine Evt.ifn (fun h=>he (tl_nil.1 h)) ?_
   refine Evt.bind (at_ev L x.f1 hL) ?_
   rcases ix_cases L x.f1 with⟨h1,h2⟩|⟨y,q,r,h1,h2,h3⟩
   ·rw[show at? S26.f0 x.f1 L=none from h1,h2];exact Evt.ifp (by decide) (Evt.now _)
   ·rw[show at? S26.f0 x.f1 L=some y from h2,h3]
    have hl:(q.length:Int)<(L.length:Int):=by rw[h1];exact lt_mid q y r
    have hrd:rd_T26 L (q.length:Int)=y:=by rw[h1];exact rdt q y r
    refine Evt.ifn (by omega) (Evt.ifp (by omega) (Evt.ifp hl ?_))
    rw[hrd]
    by_cases hs:y.f2=x.f2
    ·simp only[if_pos hs]
     cases n with
     |zero=>exact Evt.ifp (show((s:Int)>(L.length:Int)) by omega) (Evt.now _)
     |succ n=>
      refine Evt.ifn (show ¬ ((s:Int)>(L.length:Int)) by omega) ?_
      have hw:wrap64 ((s:Int)+1)=((s+1:Nat):Int):=by rw[w64 _ (by omega)];omega
      rw[hw]
      exact one_l0 L hL n (s+1) y (by omega)
    ·simp only[if_neg hs];exact Evt.now _
theorem one_ev (L:List S26) (hL:L.length≤40) (x:S26):Evt (fun k=>toponymref20_one.f k L x.f0 x.f1 x.f2 x.f3 x.f4 x.f5) (gd x && okU' L (L.length+1) x):=by
 refine Evt.bind (Evt.of_all fun _=>hs_fits x.f2 x.f3) ?_
 unfold gd
 cases hh:hs x.f2 x.f3 with
 |false=>rw[Bool.and_false];exact Evt.ifn (by simp) (Evt.now _)
 |true=>
  refine Evt.ifp rfl ?_
  refine Evt.bind (wd_ref x.f0) ?_
  cases hw:wd x.f0 with
  |false=>exact Evt.ifn (by simp) (Evt.now _)
  |true=>exact Evt.ifp rfl (one_l0 L hL (L.length+1) 0 x (by omega))
end Go.Proofs.Ytcjafemnkhifmaa.PxB
