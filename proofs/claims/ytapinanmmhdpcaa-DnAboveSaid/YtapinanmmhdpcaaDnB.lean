import Derived.Test.YtapinanmmhdpcaaDnA
/- Plain laws of names: the program's reader of pairs, and of names. -/
namespace Go.Proofs.Ytapinanmmhdpcaa.DnA
open Go Go.RowKit Go.Proofs.Ytapinanmmhdpcaa.GA Go.Proofs.Ytapinanmmhdpcaa.PuE Go.Proofs.Ytapinanmmhdpcaa.DnL Go.Proofs.YtapinanmmhdpcaaW.PrintWords Go.Proofs.YtapinanmmhdpcaaW.PrintLast Go.Proofs.YtapinanmmhdpcaaW.PrintMore
set_option linter.unusedVariables false
set_option linter.unusedSimpArgs false
/-! ### a pair's name -/
theorem idx_eqs:∀ r:Bs,Lib.indexByte r 61=match eqs r with|none=> -1|some (nm,_)=>(nm.length:Int)
 |[]=>rfl
 |b::l=>by
  have ih:=idx_eqs l
  simp only[Lib.indexByte,eqs]
  by_cases hb:b=61
  ·simp[hb]
  ·rw[if_neg (show ¬ (b==61)=true by simpa using hb),if_neg hb,ih]
   cases eqs l with
   |none=>rfl
   |some q=>
    simp only[Option.map_some,List.length_cons]
    rw[if_neg (by simp only[beq_iff_eq];omega)]
    exact(Int.natCast_add _ _).symm
theorem index61 (y:ByteArray):strings_IndexByte.f y 61=some (match eqs (B y) with|none=> -1|some (nm,_)=>(nm.length:Int)):=by
 unfold strings_IndexByte.f stringslite_IndexByte.f
 simp only[Option.bind_some]
 exact congrArg some (idx_eqs (B y))
theorem low_len (l:Bs):(low l).length=l.length:=by simp[low]
theorem rd_bn {a r:Bs} {c:UInt8} {n:Nat} (h:n=a.length):rd (bn (a++c::r)) (n:Int)=(c.toNat:Int):=by
 subst h
 unfold rd bn
 simp
theorem set_bn {a r:Bs} {c d:UInt8} {n:Nat} (h:n=a.length):List.set (bn (a++c::r)) ((n:Int)).toNat (d.toNat:Int)=bn (a++d::r):=by
 subst h
 unfold bn
 simp[List.set_append]
theorem low1_in (c:UInt8):65≤(c.toNat:Int)→(c.toNat:Int)≤90→((((c.toNat:Int)+97) % 256) - 65) % 256=((low1 c).toNat:Int)∧((c.toNat:Int)+32) % 256=((low1 c).toNat:Int):=by
 have key:∀ c:UInt8,65≤(c.toNat:Int)→(c.toNat:Int)≤90→((((c.toNat:Int)+97) % 256) - 65) % 256=((low1 c).toNat:Int)∧((c.toNat:Int)+32) % 256=((low1 c).toNat:Int):=all8 (by decide+kernel)
 exact key c
theorem low1_out (c:UInt8) (h: ¬ (65≤(c.toNat:Int)∧(c.toNat:Int)≤90)):low1 c=c:=by
 unfold low1
 rw[if_neg]
 simp only[UInt8.le_iff_toNat_le]
 simp only[UInt8.toNat_ofNat]
 omega
theorem low_app (p:Bs) (c:UInt8) (r:Bs):low (p++[c])++r=low p++low1 c::r:=by simp[low]
theorem name_l0 (s y:ByteArray) (i t8:Int) (nm:Bs) (hy:B y=nm) (hl:nm.length≤1000):∀ (r p:Bs),nm=p++r→Evt (fun k=>dn_reader_name.l0 k (p.length:Int) (bn (low p++r)) s i t8 y) (A8 (low nm),wordB (low nm),s,wrap64 (i+(wrap64 (t8+1))))
 |[],p,h=>by
  have hn: ¬ ((p.length:Int)<((MB.numsOf y).length:Int)):=by rw[numsOf_B,len_nums,hy,h];simp
  refine Evt.step ?_
  simp only[dn_reader_name.l0,if_neg hn,List.append_nil,son_nums]
  simp only[List.append_nil] at h
  subst h
  have hw:=word_ev (A8 (low nm)) (by rw[size_A8,low_len];omega)
  rw[B_A8] at hw
  exact Evt.bind hw (Evt.now _)
 |c::r,p,h=>by
  have hn:(p.length:Int)<((MB.numsOf y).length:Int):=by rw[numsOf_B,len_nums,hy,h];simp;omega
  have hx:=nx1 p c (by rw[h] at hl;simp at hl;omega)
  have ih:=name_l0 s y i t8 nm hy hl r (p++[c]) (by rw[h];simp)
  rw[low_app] at ih
  refine Evt.step (Evt.of_eq ih fun k=>?_)
  have hr:rd (bn (low p++c::r)) (p.length:Int)=(c.toNat:Int):=rd_bn (low_len p).symm
  simp only[dn_reader_name.l0,if_pos hn,if_pos (Int.natCast_nonneg p.length),hr,hx]
  by_cases h1:(c.toNat:Int)≥65
  ·rw[if_pos h1]
   by_cases h2:(c.toNat:Int)≤90
   ·rw[if_pos h2,(low1_in c h1 h2).1,set_bn (low_len p).symm]
    rfl
   ·rw[if_neg h2,low1_out c (fun q=>h2 q.2)]
  ·rw[if_neg h1,low1_out c (fun q=>h1 q.1)]
def nres (s:ByteArray) (i:Nat) (o:Option (Bs × Bs)) (res:ByteArray × Bool × ByteArray × Int):Prop:=match o with
 |none=>res.2.1=false
 |some (nm,q)=>if wordB (low nm)=true then res=(A8 (low nm),true,s,((i+nm.length+1:Nat):Int)) else res.2.1=false
theorem name_ev (s:ByteArray) (hs:s.size≤1000000) (r p:Bs) (h:B s=p++r):∃ res,Evt (fun k=>dn_reader_name.f k s (p.length:Int)) res∧nres s p.length (eqs r) res:=by
 have hz:=sz h
 have hq1:(p.length:Int)≤(s.size:Int):=by omega
 have hex:B (s.extract ((p.length:Int)).toNat s.size)=r:=cutB h _ rfl
 have hix:=index61 (s.extract ((p.length:Int)).toNat s.size)
 rw[hex] at hix
 cases he:eqs r with
 |none=>
  rw[he] at hix
  refine⟨((⟨#[]⟩:ByteArray),false,s,(p.length:Int)),Evt.of_eq (Evt.now _) fun k=>?_,rfl⟩
  simp only[dn_reader_name.f,if_pos (Int.natCast_nonneg p.length),if_pos hq1,hix,Option.bind_some]
  rw[if_pos (by decide)]
 |some q=>
  obtain⟨nm,q⟩:=q
  rw[he] at hix
  have hix:strings_IndexByte.f (s.extract ((p.length:Int)).toNat s.size) 61=some (nm.length:Int):=hix
  obtain⟨hr,_⟩:=eqs_some he
  have hrl:r.length=nm.length+(q.length+1):=by rw[hr];simp
  by_cases h16:nm.length≤16
  ·have hw:wrap64 ((p.length:Int)+(nm.length:Int))=((p.length+nm.length:Nat):Int):=by rw[w64 _ (by omega)];simp
   have hy:B (s.extract ((p.length:Int)).toNat (wrap64 ((p.length:Int)+(nm.length:Int))).toNat)=nm:=cutM (p:=p) (r:=61::q) (by rw[h,hr]) _ _ rfl (by rw[hw];rfl)
   have hl:=name_l0 s _ (p.length:Int) (nm.length:Int) nm hy (by omega) nm [] rfl
   have hw2:wrap64 ((p.length:Int)+wrap64 ((nm.length:Int)+1))=((p.length+nm.length+1:Nat):Int):=by rw[w64 ((nm.length:Int)+1) (by omega),w64 _ (by omega)];simp;omega
   rw[hw2] at hl
   refine⟨(A8 (low nm),wordB (low nm),s,((p.length+nm.length+1:Nat):Int)),Evt.of_eq hl fun k=>?_,?_⟩
   ·have hsz:(s.extract ((p.length:Int)).toNat (wrap64 ((p.length:Int)+(nm.length:Int))).toNat).size<140737488355328:=by rw[← len_B,hy];omega
    simp only[dn_reader_name.f,if_pos (Int.natCast_nonneg p.length),if_pos hq1,hix,Option.bind_some,if_neg (show ¬ (nm.length:Int)<0 by omega),if_neg (show ¬ (nm.length:Int)>16 by omega),if_pos (show(p.length:Int)≤wrap64 ((p.length:Int)+(nm.length:Int)) by rw[hw];omega),if_pos (show wrap64 ((p.length:Int)+(nm.length:Int))≤(s.size:Int) by rw[hw];omega),if_pos hsz,numsOf_B,hy]
    rfl
   ·cases hww:wordB (low nm) <;>simp[nres,hww]
  ·refine⟨((⟨#[]⟩:ByteArray),false,s,(p.length:Int)),Evt.of_eq (Evt.now _) fun k=>?_,?_⟩
   ·simp only[dn_reader_name.f,if_pos (Int.natCast_nonneg p.length),if_pos hq1,hix,Option.bind_some]
    rw[if_neg (show ¬ (nm.length:Int)<0 by omega),if_pos (show(nm.length:Int)>16 by omega)]
   ·have:wordB (low nm)=false:=by
     cases hww:wordB (low nm) with
     |false=>rfl
     |true=>have:=(word_len hww).2;rw[low_len] at this;omega
    simp[nres,this]
/-! ### a name -/
def toS (p:Pr):S53:=⟨A8 p.1,A8 p.2⟩
theorem ofS_toS (p:Pr):ofS (toS p)=p:=by simp[ofS,toS,B_A8]
theorem toS_ofS (x:S53):toS (ofS x)=x:=by cases x;simp[ofS,toS,A8_B]
def toN (l:List (List Pr)):List (List S53):=l.map (·.map toS)
theorem nm_toN (l:List (List Pr)):nm (toN l)=l:=by
 have h:ofS ∘ toS=id:=funext ofS_toS
 simp[nm,toN,Function.comp_def,ofS_toS]
theorem toN_nm (l:List (List S53)):toN (nm l)=l:=by simp[nm,toN,Function.comp_def,toS_ofS]
def glue (i:List (List S53)) (row:List S53):List (List Pr)→List (List S53)
 |[]=>i++[row]
 |r1::l=>i++(row++r1.map toS)::toN l
def pres (i:List (List S53)) (row:List S53) (o:Option (List (List Pr))):List (List S53) × Int:=match o with
 |none=>([],220)
 |some l=>if okN (nm (glue i row l)) then(glue i row l,0) else([],220)
def W (m:Nat) (n:List (List S53)):Prop:=n.length≤m+1∧∀ r ∈ n,r.length≤m∧∀ x ∈ r,x.f0.size≤3000∧x.f1.size≤3000
theorem W_few {m:Nat} {n:List (List S53)} (h:W m n) (hm:m≤3000):few n:=⟨by have:=h.1;omega,fun r hr=>⟨by have:=(h.2 r hr).1;omega,fun x hx=>by have:=(h.2 r hr).2 x hx;omega⟩⟩
theorem rfv_len:∀ (n:Nat) (q b v:Bs) (l:Bool),q.length≤n→rfv q b l=some v→v.length≤b.length+q.length:=by
 intro n
 induction n with
 |zero=>
  intro q b v l h hr
  obtain rfl:q=[]:=List.eq_nil_of_length_eq_zero (by omega)
  rw[rfv_n] at hr
  split at hr
  ·obtain rfl:=Option.some.inj hr;simp
  ·cases hr
 |succ n ih=>
  intro q b v l h hr
  cases q with
  |nil=>
   rw[rfv_n] at hr
   split at hr
   ·obtain rfl:=Option.some.inj hr;simp
   ·cases hr
  |cons c t=>
   simp only[List.length_cons] at h ⊢
   rw[rfv_c] at hr
   split at hr
   ·cases t with
    |nil=>cases hr
    |cons d t'=>
     simp only[List.length_cons] at h ⊢
     simp only at hr
     split at hr
     ·have:=ih t' _ _ _ (by omega) hr
      simp only[List.length_append,List.length_singleton] at this
      omega
     ·cases t' with
      |nil=>cases hr
      |cons e t''=>
       simp only[List.length_cons] at h ⊢
       simp only at hr
       split at hr
       ·have:=ih t'' _ _ _ (by omega) hr
        simp only[List.length_append,List.length_singleton] at this
        omega
       ·cases hr
   ·split at hr
    ·cases hr
    ·have:=ih t _ _ _ (by omega) hr
     simp only[List.length_append,List.length_singleton] at this
     omega
theorem rdv_facts {q v rest:Bs} (h:rdv q [] false=some (v,rest)):(∃ u,q=u++rest∧v.length≤u.length)∧(rest=[]∨∃ c t,(c=44∨c=43)∧rest=c::t):=by
 rw[rdv_seg q.length q [] false (Nat.le_refl _)] at h
 cases hv:rfv (seg q).1 [] false with
 |none=>rw[hv] at h;cases h
 |some v'=>
  rw[hv] at h
  simp only[Option.map_some,Option.some.injEq,Prod.mk.injEq] at h
  obtain⟨rfl,rfl⟩:=h
  have:=rfv_len _ _ _ _ _ (Nat.le_refl _) hv
  exact⟨⟨(seg q).1,seg_split q,by simpa using this⟩,seg_rest q⟩
theorem spc_ne:∀ (n:Nat) (s:Bs) (l:List (List Pr)),spc n s=some l→l≠[]:=by
 intro n
 cases n with
 |zero=>intro s l h;cases h
 |succ n=>
  intro s l h
  simp only[spc] at h
  split at h
  ·cases h
  ·split at h
   ·split at h
    ·cases h
    ·obtain rfl:=Option.some.inj h;simp
    ·rename_i v c t _
     cases hq:spc n t with
     |none=>rw[hq] at h;cases h
     |some l'=>
      rw[hq] at h
      simp only[Option.map_some,Option.some.injEq] at h
      rw[← h]
      unfold put1
      split
      ·simp
      ·cases l' <;>simp[hdp]
   ·cases h
theorem parse_l0 (s:ByteArray) (hs:s.size≤3000):∀ (K:Nat) (r p:Bs) (i:List (List S53)) (row:List S53),r.length<K→B s=p++r→W p.length (i++[row])→Evt (fun k=>dn_Parse.l0 k (i++[row]) s (p.length:Int) s) (pres i row (spc K r)):=by
 intro K
 induction K with
 |zero=>intro r p i row h;omega
 |succ K ih=>
  intro r p i row hr h hW
  have hz:=sz h
  refine Evt.step ?_
  simp only[dn_Parse.l0]
  obtain⟨res,hE,hN⟩:=name_ev s (by omega) r p h
  refine Evt.bind hE ?_
  simp only[spc]
  cases he:eqs r with
  |none=>
   rw[he] at hN
   have hb:res.2.1=false:=hN
   rw[hb]
   exact Evt.ifn (by simp) (Evt.now _)
  |some nq=>
   obtain⟨nm0,q⟩:=nq
   rw[he] at hN
   simp only[nres] at hN
   by_cases hw:wordB (low nm0)=true
   ·rw[if_pos hw] at hN
    subst hN
    simp only[hw,if_true]
    obtain⟨hrr,_⟩:=eqs_some he
    have hlen:=(word_len hw).2
    rw[low_len] at hlen
    have hp1:B s=(p++nm0++[61])++q:=by rw[h,hrr];simp
    have hpl:((p.length+nm0.length+1:Nat):Int)=((p++nm0++[61]).length:Int):=by simp;omega
    obtain⟨vr,hV,hVr⟩:=val_l0 s (by omega) q.length q (p++nm0++[61]) [] false (Nat.le_refl _) hp1 (by simp)
    have hV':Evt (fun k=>dn_reader_value.f k s ((p.length+nm0.length+1:Nat):Int)) vr:=Evt.of_eq hV fun k=>by rw[hpl];rfl
    refine Evt.bind hV' ?_
    cases hq:rdv q [] false with
    |none=>
     rw[hq] at hVr
     have hb:vr.2.1=false:=hVr
     rw[hb]
     exact Evt.ifn (by simp) (Evt.now _)
    |some vq=>
     obtain⟨v,rest⟩:=vq
     rw[hq] at hVr
     have hVr:vr=(A8 v,true,s,((s.size - rest.length:Nat):Int)):=hVr
     subst hVr
     obtain⟨⟨u,hu,hvu⟩,hrest⟩:=rdv_facts hq
     have hql:q.length=u.length+rest.length:=by rw[hu,List.length_append]
     have hsz:s.size=p.length+nm0.length+1+q.length:=by rw[sz hp1];simp;omega
     simp only[if_true]
     have hnl:(i++[row]).length=i.length+1:=by simp
     have hil:i.length≤3000:=by have:=hW.1;rw[hnl] at this;omega
     have hwi:Veil (wrap64 (((i++[row]).length:Int) - 1)=(i.length:Int)):=⟨by rw[hnl,w64 _ (by omega)];omega⟩
     have hrd:rd_L2 (i++[row]) (i.length:Int)=row:=rdL (L:=i++[row]) (P:=i) (R:=[]) rfl
     have hrow:=hW.2 row (by simp)
     have hset:List.set (i++[row]) ((i.length:Int)).toNat (row++[(⟨A8 (low nm0),A8 v⟩:S53)])=i++[row++[toS (low nm0,v)]]:=by
      simp[toS]
     simp only[hwi.out,hrd,hset,Option.bind_some,if_pos (Int.natCast_nonneg i.length),if_pos (show(i.length:Int)<((i++[row]).length:Int) by rw[hnl];omega),if_pos (show(i.length:Int)=((i++[row]).length:Int) - 1 by rw[hnl];omega),if_pos (show row.length<4398046511104 by have:=hrow.1;omega)]
     have hW2:W (p.length+1) (i++[row++[toS (low nm0,v)]]):=by
      refine⟨by have:=hW.1;simp at this ⊢;omega,fun r' hr'=>?_⟩
      rcases List.mem_append.1 hr' with hm|hm
      ·have:=hW.2 r' (List.mem_append_left _ hm)
       exact⟨by omega,this.2⟩
      ·have:r'=row++[toS (low nm0,v)]:=by simpa using hm
       subst this
       refine⟨by have:=hrow.1;simp;omega,fun x hx=>?_⟩
       rcases List.mem_append.1 hx with hx|hx
       ·exact hrow.2 x hx
       ·have:x=toS (low nm0,v):=by simpa using hx
        subst this
        simp only[toS,size_A8,low_len]
        omega
     rcases hrest with rfl|⟨c,t,hc,rfl⟩
     ·simp only[List.length_nil,Nat.sub_zero,if_true]
      refine Evt.bind (chk_ev (W_few hW2 (by omega))) ?_
      have hg:glue i row [[(low nm0,v)]]=i++[row++[toS (low nm0,v)]]:=by simp[glue,toN]
      simp only[pres,hg]
      cases okN (nm (i++[row++[toS (low nm0,v)]])) with
      |true=>exact Evt.ifp rfl (Evt.now _)
      |false=>exact Evt.ifn (by simp) (Evt.now _)
     ·simp only[List.length_cons] at hql
      have hpos:B s=(p++nm0++[61]++u)++c::t:=by rw[hp1,hu];simp
      have hat:((s.size - (c::t).length:Nat):Int)=((p++nm0++[61]++u).length:Int):=by
       simp only[List.length_cons,List.length_append,List.length_nil]
       omega
      have hlt:=lt_mid hpos
      have hpu:(p++nm0++[61]++u).length≤3000:=by simp only[List.length_append,List.length_singleton];omega
      have hwa:Veil (wrap64 (((p++nm0++[61]++u).length:Int)+1)=((p++nm0++[61]++u++[c]).length:Int)):=⟨nx1 _ c (by omega)⟩
      have hwb:Veil (wrap64 (wrap64 (((p++nm0++[61]++u).length:Int)+1) - 1)=((p++nm0++[61]++u).length:Int)):=⟨by
       rw[hwa.out,List.length_append,List.length_singleton,w64 _ (by omega)]
       omega⟩
      simp only[hat,hwb.out,if_neg (show ¬ ((p++nm0++[61]++u).length:Int)=(s.size:Int) by omega),if_pos (Int.natCast_nonneg (p++nm0++[61]++u).length),if_pos hlt,bt_mid hpos]
      have hpl2:(p++nm0++[61]++u++[c]).length≥p.length+2:=by simp;omega
      have hB2:B s=(p++nm0++[61]++u++[c])++t:=by rw[hpos];simp
      have htl:t.length<K:=by
       have:r.length=nm0.length+1+q.length:=by rw[hrr];simp;omega
       omega
      have hWm:∀ {m m':Nat} {n:List (List S53)},W m n→m≤m'→W m' n:=fun h1 h2=>⟨by have:=h1.1;omega,fun r' hr'=>⟨by have:=(h1.2 r' hr').1;omega,(h1.2 r' hr').2⟩⟩
      by_cases h44:c=44
      ·subst h44
       refine Evt.ifp rfl ?_
       have hl2:(i++[row++[toS (low nm0,v)]]).length<5864062014805:=by have:=hW2.1;omega
       simp only[if_pos hl2,Option.bind_some,hwa.out]
       have hW3:W (p++nm0++[61]++u++[44]).length ((i++[row++[toS (low nm0,v)]])++[[]]):=by
        have h3:=hWm hW2 (show p.length+1≤(p++nm0++[61]++u++[44]).length by omega)
        refine⟨?_,fun r' hr'=>?_⟩
        ·have:=hW2.1
         rw[List.length_append]
         simp only[List.length_singleton]
         omega
        ·rcases List.mem_append.1 hr' with hm|hm
         ·exact h3.2 r' hm
         ·have:r'=[]:=by simpa using hm
          subst this
          exact⟨by simp,fun x hx=>by simp at hx⟩
       refine(ih t _ (i++[row++[toS (low nm0,v)]]) [] htl hB2 hW3).val ?_
       cases hsp:spc K t with
       |none=>rfl
       |some l=>
        have hne:=spc_ne _ _ _ hsp
        cases l with
        |nil=>exact absurd rfl hne
        |cons r1 l=>
         simp[pres,put1,glue,toN]
      ·have h43:c=43:=hc.resolve_left h44
       subst h43
       refine Evt.ifn (by decide) ?_
       simp only[hwa.out]
       have hW3:=hWm hW2 (show p.length+1≤(p++nm0++[61]++u++[43]).length by omega)
       refine(ih t _ i (row++[toS (low nm0,v)]) htl hB2 hW3).val ?_
       cases hsp:spc K t with
       |none=>rfl
       |some l=>
        have hne:=spc_ne _ _ _ hsp
        cases l with
        |nil=>exact absurd rfl hne
        |cons r1 l=>
         simp[pres,put1,hdp,glue,toN]
   ·have hw':wordB (low nm0)=false:=by simpa using hw
    rw[if_neg hw] at hN
    rw[hN]
    simp only[hw']
    exact Evt.ifn (by simp) (Evt.now _)
/-- What the program's reading of a text tells. -/
def parR (b:Bs):List (List S53) × Int:=if b.length>3000 then([],3) else if b=[] then([],0) else match spc (b.length+1) b with
 |none=>([],220)
 |some l=>if okN l then(toN l,0) else([],220)
theorem parse_ev (s:ByteArray):Evt (fun k=>dn_Parse.f k s) (parR (B s)):=by
 unfold parR
 by_cases h1:(B s).length>3000
 ·rw[if_pos h1]
  rw[len_B] at h1
  exact Evt.of_all fun k=>by simp only[dn_Parse.f,if_pos (show(s.size:Int)>3000 by omega)]
 ·rw[if_neg h1]
  rw[len_B] at h1
  by_cases h2:B s=[]
  ·rw[if_pos h2]
   exact Evt.of_all fun k=>by simp only[dn_Parse.f,if_neg (show ¬ (s.size:Int)>3000 by omega),if_pos (toList_nil.2 h2)]
  ·rw[if_neg h2]
   have hl:=parse_l0 s (by omega) ((B s).length+1) (B s) [] [] [] (by omega) (by simp) ⟨by simp,fun r hr=>by
    have:r=[]:=by simpa using hr
    subst this
    exact⟨by simp,fun x hx=>by simp at hx⟩⟩
   refine Evt.of_eq (hl.val ?_) fun k=>?_
   ·cases hsp:spc ((B s).length+1) (B s) with
    |none=>rfl
    |some l=>
     have hne:=spc_ne _ _ _ hsp
     cases l with
     |nil=>exact absurd rfl hne
     |cons r1 l=>
      have hg:glue [] [] (r1::l)=toN (r1::l):=by simp[glue,toN]
      simp only[pres,hg,nm_toN]
   ·simp only[dn_Parse.f,if_neg (show ¬ (s.size:Int)>3000 by omega),if_neg (fun q=>h2 (toList_nil.1 q))]
    rfl
end Go.Proofs.Ytapinanmmhdpcaa.DnA
