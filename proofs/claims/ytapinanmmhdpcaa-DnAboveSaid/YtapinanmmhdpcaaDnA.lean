import Derived.Test.YtapinanmmhdpcaaDnL
import Derived.Test.YtapinanmmhdpcaaGM2
/- Plain laws of names: the program's words, tests and readers. -/
namespace Go.Proofs.Ytapinanmmhdpcaa.DnA
open Go Go.RowKit Go.Proofs.Ytapinanmmhdpcaa.GA Go.Proofs.Ytapinanmmhdpcaa.PuE Go.Proofs.Ytapinanmmhdpcaa.DnL Go.Proofs.YtapinanmmhdpcaaW.PrintWords Go.Proofs.YtapinanmmhdpcaaW.PrintLast Go.Proofs.YtapinanmmhdpcaaW.PrintMore
set_option linter.unusedVariables false
set_option linter.unusedSimpArgs false
/-! ### places in a text, in a list -/
section
variable {s : ByteArray} {p r : Bs} {c : UInt8}
theorem sz (h:B s=p++r):s.size=p.length+r.length:=by rw[← len_B,h,List.length_append]
theorem bt_mid (h:B s=p++c::r):bt s (p.length:Int)=(c.toNat:Int):=by
 have hl:p.length<s.size:=by rw[sz h];simp
 rw[bt_B s p.length hl]
 have:(B s)[p.length]'(by rw[len_B];exact hl)=c:=by simp[h]
 rw[this]
theorem lt_mid (h:B s=p++c::r):(p.length:Int)<(s.size:Int):=by rw[sz h];simp;omega
theorem nlt_end (h:B s=p++[]): ¬ ((p.length:Int)<(s.size:Int)):=by rw[sz h];simp
theorem nx1 (p:Bs) (c:UInt8) (h:p.length<1000000000):wrap64 ((p.length:Int)+1)=((p++[c]).length:Int):=by
 rw[w64 _ (by omega)];simp
theorem toList_nil:(s.toList=([]:List UInt8))↔B s=[]:=by rw[toList_B]
theorem B_mk (l:Bs):B ⟨l.toArray⟩=l:=B_A8 l
theorem cutB (h:B s=p++r) (q:Nat) (hq:q=p.length):B (s.extract q s.size)=r:=by
 rw[B_extract,← len_B,List.take_length,h,hq]
 simp
theorem cutM {m:Bs} (h:B s=p++(m++r)) (a b:Nat) (ha:a=p.length) (hb:b=p.length+m.length):B (s.extract a b)=m:=by
 rw[B_extract,h,hb,ha,← List.append_assoc]
 rw[show p.length+m.length=(p++m).length by simp,List.take_left]
 simp
end
section
variable {L P R : List (List S53)} {row p q : List S53} {x : S53}
theorem rdL (h:L=P++row::R):rd_L2 L (P.length:Int)=row:=by
 subst h
 unfold rd_L2
 simp
theorem rdT (h:row=p++x::q):rd_T53 row (p.length:Int)=x:=by
 subst h
 unfold rd_T53
 simp
theorem ltL {α :Type} {L P R:List α} {x: α} (h:L=P++x::R):(P.length:Int)<(L.length:Int):=by subst h;simp;omega
theorem nltL {α :Type} {L P:List α} (h:L=P++[]): ¬ ((P.length:Int)<(L.length:Int)):=by subst h;simp
theorem nxL {α :Type} (P:List α) (x: α) (h:P.length<1000000000):wrap64 ((P.length:Int)+1)=((P++[x]).length:Int):=by
 rw[w64 _ (by omega)];simp
end
/-! ### bytes -/
theorem ltr_iff (c:UInt8):ltr c=true↔97≤(c.toNat:Int)∧(c.toNat:Int)≤122:=by
 simp only[ltr,Bool.and_eq_true,decide_eq_true_eq,UInt8.le_iff_toNat_le]
 simp only[UInt8.toNat_ofNat]
 omega
theorem oth_iff (c:UInt8):oth c=true↔(48≤(c.toNat:Int)∧(c.toNat:Int)≤57)∨(c.toNat:Int)=45:=by
 simp only[oth,Bool.or_eq_true,Bool.and_eq_true,decide_eq_true_eq,UInt8.le_iff_toNat_le,beq_iff_eq,← UInt8.toNat_inj]
 simp only[UInt8.toNat_ofNat]
 omega
theorem small_eq (c:UInt8):dn_small.f (c.toNat:Int)=some (ltr c):=all8 (p:=fun c=>dn_small.f (c.toNat:Int)=some (ltr c)) (by decide+kernel) c
theorem special_eq (c:UInt8):dn_special.f (c.toNat:Int)=some (sgn c):=all8 (p:=fun c=>dn_special.f (c.toNat:Int)=some (sgn c)) (by decide+kernel) c
def hxI (c:UInt8):Int:=match hx c with|some x=>(x.toNat:Int)|none=> -1
theorem digit_eq (c:UInt8):dn_digit.f (c.toNat:Int)=some (hxI c):=all8 (p:=fun c=>dn_digit.f (c.toNat:Int)=some (hxI c)) (by decide+kernel) c
theorem c44 (c:UInt8) (n:Nat) (h:n<256):((c.toNat:Int)=(n:Int))↔c=UInt8.ofNat n:=by
 rw[← UInt8.toNat_inj,UInt8.toNat_ofNat']
 omega
/-! ### words -/
theorem word_l0 (s:ByteArray) (hs:s.size≤1000000):∀ (r p:Bs),B s=p++r→Evt (fun k=>dn_Word.l0 k (p.length:Int) s) (r.all fun x=>ltr x || oth x)
 |[],p,h=>by
  refine Evt.step ?_
  simp only[dn_Word.l0,if_neg (nlt_end h)]
  exact Evt.now _
 |c::r,p,h=>by
  have hn:=nx1 p c (by have:=sz h;omega)
  have ih:=word_l0 s hs r (p++[c]) (by rw[h];simp)
  refine Evt.step (Evt.of_eq (f:=fun k=>if (ltr c || oth c)=true then dn_Word.l0 k ((p++[c]).length:Int) s else some false) ?_ fun k=>?_)
  ·simp only[List.all_cons]
   cases hc:(ltr c || oth c) with
   |true=>exact Evt.ifp rfl (by simpa using ih)
   |false=>exact Evt.ifn (by simp) ((Evt.now _).val (by simp))
  ·have h1:=ltr_iff c
   have h2:=oth_iff c
   simp only[dn_Word.l0,if_pos (lt_mid h),if_pos (Int.natCast_nonneg p.length),bt_mid h,small_eq,Option.bind_some,hn]
   cases hl:ltr c with
   |true=>simp
   |false=>
    cases ho:oth c with
    |true=>
     have h3:=h2.1 ho
     simp only[Bool.false_eq_true,if_false,Bool.or_true,if_true]
     repeat' split
     all_goals first|rfl|(exfalso;omega)
    |false=>
     have h3: ¬ ((48≤(c.toNat:Int)∧(c.toNat:Int)≤57)∨(c.toNat:Int)=45):=fun q=>by rw[h2.2 q] at ho;cases ho
     simp only[Bool.false_eq_true,if_false,Bool.or_false]
     repeat' split
     all_goals first|rfl|(exfalso;omega)
theorem word_ev (s:ByteArray) (hs:s.size≤1000000):Evt (fun k=>dn_Word.f k s) (wordB (B s)):=by
 cases h:B s with
 |nil=>
  refine Evt.of_all fun k=>?_
  simp only[dn_Word.f,if_pos (toList_nil.2 h)]
  rfl
 |cons c t=>
  have hz:=sz (p:=[]) (r:=c::t) (s:=s) (by simp[h])
  simp only[List.length_nil,List.length_cons,Nat.zero_add] at hz
  have hb:bt s 0=(c.toNat:Int):=bt_mid (p:=[]) (r:=t) (by simp[h])
  have hl:=word_l0 s hs t [c] (by simp[h])
  refine Evt.of_eq (f:=fun k=>if 16≤t.length then some false else if ltr c=true then dn_Word.l0 k 1 s else some false) ?_ fun k=>?_
  ·by_cases h1:16≤t.length
   ·refine Evt.ifp h1 ((Evt.now _).val ?_)
    simp only[wordB,decide_eq_false (Nat.not_lt.2 h1),Bool.false_and]
   ·refine Evt.ifn h1 ?_
    have h2:t.length<16:=by omega
    cases hc:ltr c with
    |true=>exact Evt.ifp rfl (hl.val (by simp[wordB,hc,h2]))
    |false=>exact Evt.ifn (by simp) ((Evt.now _).val (by simp[wordB,hc]))
  ·have h0: ¬ (s.toList=([]:List UInt8)):=fun q=>by rw[toList_nil,h] at q;cases q
   simp only[dn_Word.f,if_neg h0,hb,small_eq,Option.bind_some]
   by_cases h1:16≤t.length
   ·rw[if_pos (by rw[hz];omega),if_pos h1]
   ·rw[if_neg (by rw[hz];omega),if_pos (by rw[hz];omega),if_neg h1]
/-! ### may a name be? -/
def ofS (x:S53):Pr:=(B x.f0,B x.f1)
def okP (p:Pr):Bool:=wordB p.1 && !p.2.isEmpty && decide (p.2.length≤400)
def okR (r:List Pr):Bool:=decide (1≤r.length) && decide (r.length≤3) && r.all okP
def okN (l:List (List Pr)):Bool:=decide (l.length≤6) && l.all okR
def nm (l:List (List S53)):List (List Pr):=l.map (·.map ofS)
def few (l:List (List S53)):Prop:=l.length≤1000000∧∀ r ∈ l,r.length≤1000000∧∀ x ∈ r,x.f0.size≤1000000∧x.f1.size≤1000000
theorem few_sub {l m:List (List S53)} (h:few l) (hl:m.length≤l.length) (hm:∀ r ∈ m,r ∈ l):few m:=⟨by have:=h.1;omega,fun r hr=>h.2 r (hm r hr)⟩
theorem chk_l1 {L P R:List (List S53)} {row:List S53} (hL:few L) (h:L=P++row::R) (v:Int) (hv:Evt (fun k=>dn_Check.l0 k ((P++[row]).length:Int) L) v):∀ (q p:List S53),row=p++q→Evt (fun k=>dn_Check.l1 k (p.length:Int) L (P.length:Int)) (if (q.map ofS).all okP then v else 220)
 |[],p,hp=>by
  refine Evt.step ?_
  have hx:=nxL P row (by have:=hL.1;rw[h] at this;simp at this;omega)
  simp only[dn_Check.l1,rdL h,if_neg (nltL hp),hx]
  simpa using hv
 |x::q,p,hp=>by
  have hmem:row ∈ L:=by rw[h];simp
  have hr:=hL.2 row hmem
  have hxx:=hr.2 x (by rw[hp];simp)
  have hn:=nxL p x (by have:=hr.1;rw[hp] at this;simp at this;omega)
  have ih:=chk_l1 hL h v hv q (p++[x]) (by rw[hp];simp)
  refine Evt.step ?_
  simp only[dn_Check.l1,rdL h,if_pos (ltL hp),if_pos (Int.natCast_nonneg p.length),rdT hp,hn]
  refine Evt.bind (word_ev x.f0 hxx.1) ?_
  simp only[List.map_cons,List.all_cons]
  cases hw:wordB (B x.f0) with
  |false=>exact Evt.ifn (by simp) ((Evt.now _).val (by simp[okP,ofS,hw]))
  |true=>
   refine Evt.ifp rfl ?_
   by_cases he:B x.f1=[]
   ·exact Evt.ifp (toList_nil.2 he) ((Evt.now _).val (by simp[okP,ofS,he]))
   ·refine Evt.ifn (fun q=>he (toList_nil.1 q)) ?_
    by_cases hl:(B x.f1).length≤400
    ·refine Evt.ifn (by rw[← len_B];omega) (ih.val ?_)
     have:okP (ofS x)=true:=by
      simp only[okP,ofS,hw,Bool.true_and,Bool.and_eq_true,decide_eq_true_eq]
      exact⟨by simpa using he,decide_eq_true hl⟩
     rw[this];simp
    ·refine Evt.ifp (by rw[← len_B];omega) ((Evt.now _).val ?_)
     have:okP (ofS x)=false:=by simp[okP,ofS,hl]
     rw[this];simp
theorem chk_l0 {L:List (List S53)} (hL:few L):∀ (R P:List (List S53)),L=P++R→Evt (fun k=>dn_Check.l0 k (P.length:Int) L) (if (nm R).all okR then 0 else 220)
 |[],P,h=>by
  refine Evt.step ?_
  simp only[dn_Check.l0,if_neg (nltL h)]
  exact(Evt.now _).val (by simp[nm])
 |row::R,P,h=>by
  have ih:=chk_l0 hL R (P++[row]) (by rw[h];simp)
  refine Evt.step ?_
  simp only[dn_Check.l0,if_pos (ltL h),if_pos (Int.natCast_nonneg P.length),rdL h]
  simp only[nm,List.map_cons,List.all_cons]
  by_cases h1:row.length<1
  ·refine Evt.ifp (by omega) ((Evt.now _).val ?_)
   have:okR (row.map ofS)=false:=by simp[okR];omega
   rw[this];simp
  ·refine Evt.ifn (by omega) ?_
   by_cases h2:row.length>3
   ·refine Evt.ifp (by omega) ((Evt.now _).val ?_)
    have:okR (row.map ofS)=false:=by simp[okR];omega
    rw[this];simp
   ·refine Evt.ifn (by omega) ?_
    refine(chk_l1 hL h _ ih row [] rfl).val ?_
    have:okR (row.map ofS)=(row.map ofS).all okP:=by
     simp only[okR,List.length_map,decide_eq_true (show 1≤row.length by omega),decide_eq_true (show row.length≤3 by omega),Bool.true_and]
    rw[this]
    cases (row.map ofS).all okP <;>simp[nm]
theorem chk_ev {L:List (List S53)} (hL:few L):Evt (fun k=>dn_Check.f k L) (if okN (nm L) then 0 else 220):=by
 have hl:=chk_l0 hL L [] rfl
 by_cases h:L.length>6
 ·refine Evt.of_all fun k=>?_
  have:okN (nm L)=false:=by simp[okN,nm];omega
  simp only[dn_Check.f,if_pos (show(L.length:Int)>6 by omega),this]
  simp
 ·have:okN (nm L)=(nm L).all okR:=by
   simp only[okN,nm,List.length_map,decide_eq_true (show L.length≤6 by omega),Bool.true_and]
  rw[this]
  exact Evt.of_eq hl fun k=>by simp only[dn_Check.f,if_neg (show ¬ (L.length:Int)>6 by omega)];rfl
/-! ### a value's text is read -/
theorem hx_lt {c x:UInt8} (h:hx c=some x):x.toNat<16:=by
 have key:∀ c:UInt8,(match hx c with|some x=>decide (x.toNat<16)|none=>true)=true:=all8 (by decide+kernel)
 have:=key c
 simpa [h] using this
theorem hxI_some {c x:UInt8} (h:hx c=some x):hxI c=(x.toNat:Int):=by unfold hxI;rw[h]
theorem hxI_none {c:UInt8} (h:hx c=none):hxI c= -1:=by unfold hxI;rw[h]
theorem hexor (x y:UInt8) (hx:x.toNat<16) (hy:y.toNat<16):(Go.bits .or .i64 (wrap64 ((x.toNat:Int)*16)) (y.toNat:Int)) % 256=((x*16+y).toNat:Int):=by
 have key:∀ a b:Fin 16,(Go.bits .or .i64 (wrap64 (((UInt8.ofNat a.val).toNat:Int)*16)) ((UInt8.ofNat b.val).toNat:Int)) % 256=((UInt8.ofNat a.val*16+UInt8.ofNat b.val).toNat:Int):=by decide+kernel
 have:=key ⟨x.toNat,hx⟩ ⟨y.toNat,hy⟩
 simpa using this
theorem bn_snoc (l:Bs) (c:UInt8):bn (l++[c])=bn l++[(c.toNat:Int)]:=by simp[bn]
theorem endv (acc:Bs) (l:Bool) (s:ByteArray) (i:Int):(if ((bn acc).length:Int)>0 then some (strOfNums (bn acc),!l,s,i) else some (strOfNums (bn acc),false,s,i))=some (A8 acc,fine acc l,s,i):=by
 rw[son_nums,len_nums]
 cases acc with
 |nil=>simp[fine]
 |cons a t=>rw[if_pos (by rw[List.length_cons];omega)];simp[fine]
def vres (s:ByteArray) (o:Option (Bs × Bs)) (res:ByteArray × Bool × ByteArray × Int):Prop:=match o with
 |some (v,rest)=>res=(A8 v,true,s,((s.size - rest.length:Nat):Int))
 |none=>res.2.1=false
theorem vn {s:ByteArray} {res:ByteArray × Bool × ByteArray × Int} (h:res.2.1=false):vres s none res:=h
theorem val_l0 (s:ByteArray) (hs:s.size≤1000000):∀ (n:Nat) (r p acc:Bs) (l:Bool),r.length≤n→B s=p++r→acc.length≤p.length→∃ res,Evt (fun k=>dn_reader_value.l0 k l (bn acc) (p.length:Int) s) res∧vres s (rdv r acc l) res:=by
 intro n
 induction n with
 |zero=>
  intro r p acc l hr h ha
  obtain rfl:r=[]:=List.eq_nil_of_length_eq_zero (by omega)
  have he:(p.length:Int)=(s.size:Int):=by rw[sz h];simp
  refine⟨(A8 acc,fine acc l,s,(p.length:Int)),Evt.step ?_,?_⟩
  ·simp only[dn_reader_value.l0,if_pos he,endv]
   exact Evt.now _
  ·rw[rdv_n]
   cases hf:fine acc l with
   |true=>simp only[if_true,vres,List.length_nil,Nat.sub_zero,he]
   |false=>simp[vres]
 |succ n ih=>
  intro r p acc l hr h ha
  cases r with
  |nil=>
   have he:(p.length:Int)=(s.size:Int):=by rw[sz h];simp
   refine⟨(A8 acc,fine acc l,s,(p.length:Int)),Evt.step ?_,?_⟩
   ·simp only[dn_reader_value.l0,if_pos he,endv]
    exact Evt.now _
   ·rw[rdv_n]
    cases hf:fine acc l with
    |true=>simp only[if_true,vres,List.length_nil,Nat.sub_zero,he]
    |false=>simp[vres]
  |cons c t=>
   have hz:=sz h
   simp only[List.length_cons] at hr hz
   have he: ¬ (p.length:Int)=(s.size:Int):=by have:=lt_mid h;omega
   have hlim:acc.length<140737488355328:=by omega
   have hstart:∀ {res:ByteArray × Bool × ByteArray × Int} {f:Nat→Option (ByteArray × Bool × ByteArray × Int)},Evt f res→(∀ k,dn_reader_value.l0 (k+1) l (bn acc) (p.length:Int) s=f k)→Evt (fun k=>dn_reader_value.l0 k l (bn acc) (p.length:Int) s) res:=fun h1 h2=>Evt.step (Evt.of_eq h1 h2)
   rw[rdv_c]
   by_cases hsep:c=44∨c=43
   ·rw[if_pos hsep]
    refine⟨(A8 acc,fine acc l,s,(p.length:Int)),hstart (Evt.now _) fun k=>?_,?_⟩
    ·simp only[dn_reader_value.l0,if_neg he,if_pos (Int.natCast_nonneg p.length),if_pos (lt_mid h),bt_mid h,endv]
     rcases hsep with e|e
     ·rw[if_pos (show(c.toNat:Int)=44 by rw[e];rfl)]
     ·rw[if_neg (show ¬ (c.toNat:Int)=44 by rw[e];decide),if_pos (show(c.toNat:Int)=43 by rw[e];rfl)]
    ·cases hf:fine acc l with
     |true=>
      simp only[if_true,vres,List.length_cons]
      congr 4
      omega
     |false=>simp[vres]
   ·have n44: ¬ (c.toNat:Int)=44:=fun q=>hsep (.inl ((c44 c 44 (by decide)).1 q))
    have n43: ¬ (c.toNat:Int)=43:=fun q=>hsep (.inr ((c44 c 43 (by decide)).1 q))
    rw[if_neg hsep]
    by_cases h92:c=92
    ·have e92:(c.toNat:Int)=92:=by rw[h92];rfl
     rw[if_pos h92]
     have hw1:=nx1 p c (by omega)
     have hq0:0≤wrap64 ((p.length:Int)+1):=by rw[hw1];exact Int.natCast_nonneg _
     have hq1:wrap64 ((p.length:Int)+1)≤(s.size:Int):=by rw[hw1];simp;omega
     obtain⟨y,hy⟩:∃ y,y=s.extract (wrap64 ((p.length:Int)+1)).toNat s.size:=⟨_,rfl⟩
     have hyB:B y=t:=by
      rw[hy]
      exact cutB (p:=p++[c]) (by rw[h];simp) _ (by rw[hw1];rfl)
     have hsimp:∀ {k:Nat} {v:Option (ByteArray × Bool × ByteArray × Int)},(if y.toList=([]:List UInt8) then some ((⟨#[]⟩:ByteArray),false,s,(p.length:Int)) else if 0<(y.size:Int) then
       (dn_special.f (bt y 0)).bind fun t93=>(if t93=true then(if (bn acc).length<140737488355328 then((some (bn acc++[bt y 0]:List Int)).bind fun y98=>((dn_reader_value.l0 k false y98 (wrap64 ((p.length:Int)+2)) s))) else(none)) else(if (bt y 0)=32 then(if (bn acc).length<140737488355328 then((some (bn acc++[bt y 0]:List Int)).bind fun y119=>((dn_reader_value.l0 k false y119 (wrap64 ((p.length:Int)+2)) s))) else(none)) else(if (bt y 0)=35 then(if (bn acc).length<140737488355328 then((some (bn acc++[bt y 0]:List Int)).bind fun y142=>((dn_reader_value.l0 k false y142 (wrap64 ((p.length:Int)+2)) s))) else(none)) else(if (y.size:Int)<2 then(some ((⟨#[]⟩:ByteArray),false,s,(p.length:Int))) else((dn_digit.f (bt y 0)).bind fun t168=>(if t168<0 then(some ((⟨#[]⟩:ByteArray),false,s,(p.length:Int))) else(if 1<(y.size:Int) then((dn_digit.f (bt y 1)).bind fun t182=>(if t182<0 then(some ((⟨#[]⟩:ByteArray),false,s,(p.length:Int))) else((dn_digit.f (bt y 0)).bind fun t198=>((dn_digit.f (bt y 1)).bind fun t201=>(if (bn acc).length+([(Go.bits .or .i64 (wrap64 (t198*16)) t201) % 256]:List Int).length<140737488355328 then((some (bn acc++([(Go.bits .or .i64 (wrap64 (t198*16)) t201) % 256]:List Int):List Int)).bind fun y215=>((dn_reader_value.l0 k false y215 (wrap64 ((p.length:Int)+3)) s))) else(none)))))) else(none)))))))) else none)=v→dn_reader_value.l0 (k+1) l (bn acc) (p.length:Int) s=v:=by
      intro k v hv
      simp only[dn_reader_value.l0,if_neg he,if_pos (Int.natCast_nonneg p.length),if_pos (lt_mid h),bt_mid h,if_neg n44,if_neg n43,if_pos e92,if_pos hq0,if_pos hq1,← hy,Option.bind_some]
      exact hv
     cases t with
     |nil=>
      refine⟨((⟨#[]⟩:ByteArray),false,s,(p.length:Int)),hstart (Evt.now _) fun k=>hsimp ?_,vn rfl⟩
      rw[if_pos (toList_nil.2 hyB)]
     |cons d t'=>
      have hyz:=sz (p:=[]) (r:=d::t') (s:=y) (by simp[hyB])
      simp only[List.length_nil,List.length_cons,Nat.zero_add] at hyz hr hz
      have hy0: ¬ (y.toList=([]:List UInt8)):=fun q=>by rw[toList_nil,hyB] at q;cases q
      have hy1:(0:Int)<(y.size:Int):=by omega
      have hbd:bt y 0=(d.toNat:Int):=bt_mid (p:=[]) (r:=t') (by simp[hyB])
      have hw2:wrap64 ((p.length:Int)+2)=((p++[c,d]).length:Int):=by rw[w64 _ (by omega)];simp
      by_cases hsp:(sgn d || d==32 || d==35)=true
      ·simp only[hsp,if_true]
       obtain⟨res,h1,h2⟩:=ih t' (p++[c,d]) (acc++[d]) false (by omega) (by rw[h];simp) (by simp;omega)
       refine⟨res,hstart h1 fun k=>hsimp ?_,h2⟩
       rw[if_neg hy0,if_pos hy1]
       simp only[hbd,special_eq,Option.bind_some,len_nums,if_pos hlim,← bn_snoc,hw2]
       simp only[Bool.or_eq_true,beq_iff_eq] at hsp
       cases hsg:sgn d with
       |true=>rw[if_pos (rfl:true=true)]
       |false=>
        rw[if_neg (by simp)]
        rcases hsp with(hsp|hsp)|hsp
        ·rw[hsg] at hsp;cases hsp
        ·rw[if_pos (show(d.toNat:Int)=32 by rw[hsp];rfl)]
        ·rw[if_neg (show ¬ (d.toNat:Int)=32 by rw[hsp];decide),if_pos (show(d.toNat:Int)=35 by rw[hsp];rfl)]
      ·have hsp':(sgn d || d==32 || d==35)=false:=by simpa using hsp
       have hs3:(sgn d=false∧ ¬ d=32)∧ ¬ d=35:=by simpa [not_or] using hsp
       have n32: ¬ (d.toNat:Int)=32:=fun q=>hs3.1.2 ((c44 d 32 (by decide)).1 q)
       have n35: ¬ (d.toNat:Int)=35:=fun q=>hs3.2 ((c44 d 35 (by decide)).1 q)
       simp only[hsp',Bool.false_eq_true,if_false]
       cases t' with
       |nil=>
        refine⟨((⟨#[]⟩:ByteArray),false,s,(p.length:Int)),hstart (Evt.now _) fun k=>hsimp ?_,vn rfl⟩
        rw[if_neg hy0,if_pos hy1]
        simp only[hbd,special_eq,Option.bind_some,hs3.1.1,Bool.false_eq_true,if_false,if_neg n32,if_neg n35]
        rw[if_pos (by rw[hyz];simp)]
       |cons e t''=>
        simp only[List.length_cons] at hyz hr hz
        have hy2: ¬ ((y.size:Int)<2):=by omega
        have hy3:(1:Int)<(y.size:Int):=by omega
        have hbe:bt y 1=(e.toNat:Int):=bt_mid (p:=[d]) (r:=t'') (by simp[hyB])
        have hw3:wrap64 ((p.length:Int)+3)=((p++[c,d,e]).length:Int):=by rw[w64 _ (by omega)];simp
        show ∃ res,Evt (fun k=>dn_reader_value.l0 k l (bn acc) (p.length:Int) s) res∧vres s (match hx d,hx e with|some x,some y=>rdv t'' (acc++[x*16+y]) false|_,_=>none) res
        cases hd:hx d with
        |none=>
         refine⟨((⟨#[]⟩:ByteArray),false,s,(p.length:Int)),hstart (Evt.now _) fun k=>hsimp ?_,vn rfl⟩
         rw[if_neg hy0,if_pos hy1]
         simp only[hbd,special_eq,Option.bind_some,hs3.1.1,Bool.false_eq_true,if_false,if_neg n32,if_neg n35,if_neg hy2,digit_eq,hxI_none hd]
         rw[if_pos (by decide)]
        |some x=>
         have hx0: ¬ hxI d<0:=by rw[hxI_some hd];omega
         cases hee:hx e with
         |none=>
          refine⟨((⟨#[]⟩:ByteArray),false,s,(p.length:Int)),hstart (Evt.now _) fun k=>hsimp ?_,vn rfl⟩
          rw[if_neg hy0,if_pos hy1]
          simp only[hbd,special_eq,Option.bind_some,hs3.1.1,Bool.false_eq_true,if_false,if_neg n32,if_neg n35,if_neg hy2,digit_eq,if_neg hx0,if_pos hy3,hbe,hxI_none hee]
          rw[if_pos (by decide)]
         |some z=>
          have hz0: ¬ hxI e<0:=by rw[hxI_some hee];omega
          obtain⟨res,h1,h2⟩:=ih t'' (p++[c,d,e]) (acc++[x*16+z]) false (by omega) (by rw[h];simp) (by simp;omega)
          refine⟨res,hstart h1 fun k=>hsimp ?_,h2⟩
          rw[if_neg hy0,if_pos hy1]
          simp only[hbd,special_eq,Option.bind_some,hs3.1.1,Bool.false_eq_true,if_false,if_neg n32,if_neg n35,if_neg hy2,digit_eq,if_neg hx0,if_pos hy3,hbe,if_neg hz0]
          rw[hxI_some hd,hxI_some hee,hexor x z (hx_lt hd) (hx_lt hee),if_pos (by rw[len_nums];simp;omega),← bn_snoc,hw3]
    ·have n92: ¬ (c.toNat:Int)=92:=fun q=>h92 ((c44 c 92 (by decide)).1 q)
     rw[if_neg h92]
     have hw1:=nx1 p c (by omega)
     have hb:((c.toNat:Int)==32)=(c==32):=by
      rw[Bool.eq_iff_iff,beq_iff_eq,beq_iff_eq]
      exact c44 c 32 (by decide)
     obtain⟨res,h1,h2⟩:=ih t (p++[c]) (acc++[c]) (c==32) (by omega) (by rw[h];simp) (by simp;omega)
     by_cases hbad:(sgn c || (acc.isEmpty && (c==32 || c==35)))=true
     ·rw[if_pos hbad]
      refine⟨((⟨#[]⟩:ByteArray),false,s,(p.length:Int)),hstart (Evt.now _) fun k=>?_,vn rfl⟩
      simp only[dn_reader_value.l0,if_neg he,if_pos (Int.natCast_nonneg p.length),if_pos (lt_mid h),bt_mid h,if_neg n44,if_neg n43,if_neg n92,special_eq,Option.bind_some,len_nums,if_pos hlim,← bn_snoc,hw1,hb]
      cases hsg:sgn c with
      |true=>rw[if_pos (rfl:true=true)]
      |false=>
       rw[hsg] at hbad
       simp only[Bool.false_or,Bool.and_eq_true,Bool.or_eq_true,beq_iff_eq,List.isEmpty_iff] at hbad
       obtain⟨hac,hcc⟩:=hbad
       rw[if_neg (by simp),if_pos (show(acc.length:Int)=0 by rw[hac];rfl)]
       rcases hcc with e|e
       ·rw[if_pos (show(c.toNat:Int)=32 by rw[e];rfl)]
       ·rw[if_neg (show ¬ (c.toNat:Int)=32 by rw[e];decide),if_pos (show(c.toNat:Int)=35 by rw[e];rfl)]
     ·have hbad':sgn c=false∧(acc.isEmpty=true→ ¬ c=32∧ ¬ c=35):=by
       simp only[Bool.or_eq_true,Bool.and_eq_true,beq_iff_eq,not_or] at hbad
       exact⟨by simpa using hbad.1,fun q=>by have:=hbad.2;simp only[not_and,not_or] at this;exact this q⟩
      rw[if_neg hbad]
      refine⟨res,hstart h1 fun k=>?_,h2⟩
      simp only[dn_reader_value.l0,if_neg he,if_pos (Int.natCast_nonneg p.length),if_pos (lt_mid h),bt_mid h,if_neg n44,if_neg n43,if_neg n92,special_eq,Option.bind_some,hbad'.1,Bool.false_eq_true,if_false,len_nums,if_pos hlim,← bn_snoc,hw1,hb]
      cases acc with
      |nil=>
       have hq:=hbad'.2 rfl
       have n32: ¬ (c.toNat:Int)=32:=fun q=>hq.1 ((c44 c 32 (by decide)).1 q)
       have n35: ¬ (c.toNat:Int)=35:=fun q=>hq.2 ((c44 c 35 (by decide)).1 q)
       rw[if_pos (show((([]:Bs).length:Nat):Int)=0 from rfl),if_neg n32,if_neg n35]
      |cons a t2=>rw[if_neg (by rw[List.length_cons];omega)]
end Go.Proofs.Ytapinanmmhdpcaa.DnA
