import Derived.Test.YtapinanmmhdpcaaDnB
import Derived.Test.YtapinanmmhdpcaaGAF21
/- Plain laws of names: the document's reading. -/
namespace Go.Proofs.Ytapinanmmhdpcaa.DnA
open Go Go.RowKit Go.Proofs.Ytapinanmmhdpcaa.GA Go.Proofs.Ytapinanmmhdpcaa.PuE Go.Proofs.Ytapinanmmhdpcaa.DnL Go.Proofs.YtapinanmmhdpcaaW.PrintWords Go.Proofs.YtapinanmmhdpcaaW.PrintLast Go.Proofs.YtapinanmmhdpcaaW.PrintMore
set_option linter.unusedVariables false
set_option linter.unusedSimpArgs false
/-! ### words -/
theorem rword_step (s:ByteArray) (hs:s.size≤1000000) {r p:Bs} {c:UInt8} (h:B s=p++c::r) (k:Nat):toponymref18_Word.l0 (k+1) (p.length:Int) s=if (ltr c || (!p.isEmpty && oth c))=true then toponymref18_Word.l0 k ((p++[c]).length:Int) s else some false:=by
 have hn:=nx1 p c (by have:=sz h;omega)
 have h1:=ltr_iff c
 have h2:=oth_iff c
 have hp:p.isEmpty=true↔(p.length:Int)=0:=by cases p <;>simp;omega
 simp only[toponymref18_Word.l0,if_pos (lt_mid h),if_pos (Int.natCast_nonneg p.length),bt_mid h,hn]
 clear hn h
 cases hl:ltr c with
 |true=>
  have h3:=h1.1 hl
  simp only[Bool.true_or,if_true]
  repeat' split
  all_goals first|rfl|(exfalso;omega)
 |false=>
  have h3: ¬ (97≤(c.toNat:Int)∧(c.toNat:Int)≤122):=fun q=>by rw[h1.2 q] at hl;cases hl
  cases hpe:p.isEmpty with
  |true=>
   have h4:=hp.1 hpe
   simp only[Bool.not_true,Bool.false_and,Bool.or_false,Bool.false_eq_true,if_false]
   repeat' split
   all_goals first|rfl|(exfalso;omega)
  |false=>
   have h4: ¬ (p.length:Int)=0:=fun q=>by rw[hp.2 q] at hpe;cases hpe
   cases ho:oth c with
   |true=>
    have h5:=h2.1 ho
    simp only[Bool.not_false,Bool.true_and,Bool.or_true,if_true]
    repeat' split
    all_goals first|rfl|(exfalso;omega)
   |false=>
    have h5: ¬ ((48≤(c.toNat:Int)∧(c.toNat:Int)≤57)∨(c.toNat:Int)=45):=fun q=>by rw[h2.2 q] at ho;cases ho
    simp only[Bool.and_false,Bool.or_false,Bool.false_eq_true,if_false]
    repeat' split
    all_goals first|rfl|(exfalso;omega)
theorem rword_l0 (s:ByteArray) (hs:s.size≤1000000):∀ (r p:Bs),B s=p++r→p≠[]→Evt (fun k=>toponymref18_Word.l0 k (p.length:Int) s) (r.all fun x=>ltr x || oth x)
 |[],p,h,_=>by
  refine Evt.step ?_
  simp only[toponymref18_Word.l0,if_neg (nlt_end h)]
  exact Evt.now _
 |c::r,p,h,hp=>by
  have ih:=rword_l0 s hs r (p++[c]) (by rw[h];simp) (by simp)
  refine Evt.step (Evt.of_eq (f:=fun k=>if (ltr c || oth c)=true then toponymref18_Word.l0 k ((p++[c]).length:Int) s else some false) ?_ fun k=>?_)
  ·simp only[List.all_cons]
   cases hc:(ltr c || oth c) with
   |true=>exact Evt.ifp rfl (by simpa using ih)
   |false=>exact Evt.ifn (by simp) ((Evt.now _).val (by simp))
  ·rw[rword_step s hs h]
   have:p.isEmpty=false:=by cases p with|nil=>exact absurd rfl hp|cons a t=>rfl
   simp[this]
theorem rword_ev (s:ByteArray) (hs:s.size≤1000000):Evt (fun k=>toponymref18_Word.f k s) (wordB (B s)):=by
 cases h:B s with
 |nil=>
  have hz:=sz (p:=[]) (r:=[]) (s:=s) (by simp[h])
  refine Evt.of_all fun k=>?_
  simp only[toponymref18_Word.f,if_pos (show(s.size:Int)<1 by rw[hz];decide)]
  rfl
 |cons c t=>
  have hz:=sz (p:=[]) (r:=c::t) (s:=s) (by simp[h])
  simp only[List.length_nil,List.length_cons,Nat.zero_add] at hz
  have hl:=rword_l0 s hs t [c] (by simp[h]) (by simp)
  have hst:Evt (fun k=>toponymref18_Word.l0 k 0 s) (ltr c && t.all fun x=>ltr x || oth x):=by
   refine Evt.step (Evt.of_eq (f:=fun k=>if ltr c=true then toponymref18_Word.l0 k (([c]:Bs).length:Int) s else some false) ?_ fun k=>?_)
   ·cases hc:ltr c with
    |true=>exact Evt.ifp rfl (by simpa using hl)
    |false=>exact Evt.ifn (by simp) ((Evt.now _).val (by simp))
   ·have:=rword_step s hs (p:=[]) (r:=t) (c:=c) (by simp[h]) k
    simpa using this
  by_cases h1:t.length<16
  ·refine Evt.of_eq (hst.val (by simp[wordB,h1])) fun k=>?_
   simp only[toponymref18_Word.f,if_neg (show ¬ (s.size:Int)<1 by omega),if_neg (show ¬ (s.size:Int)>16 by omega)]
  ·refine(Evt.of_all fun k=>?_).val (show false=_ by simp[wordB,h1])
   simp only[toponymref18_Word.f,if_neg (show ¬ (s.size:Int)<1 by omega),if_pos (show(s.size:Int)>16 by omega)]
/-! ### may a name be? -/
theorem rchk_l1 {L P R:List (List S53)} {row:List S53} (hL:few L) (h:L=P++row::R) (v:Int) (hv:Evt (fun k=>toponymref18_Check.l0 k ((P++[row]).length:Int) L) v):∀ (q p:List S53),row=p++q→Evt (fun k=>toponymref18_Check.l1 k (p.length:Int) L (P.length:Int)) (if (q.map ofS).all okP then v else 220)
 |[],p,hp=>by
  refine Evt.step ?_
  have hx:=nxL P row (by have:=hL.1;rw[h] at this;simp at this;omega)
  simp only[toponymref18_Check.l1,if_pos (Int.natCast_nonneg P.length),if_pos (ltL h),rdL h,if_neg (nltL hp),hx]
  simpa using hv
 |x::q,p,hp=>by
  have hmem:row ∈ L:=by rw[h];simp
  have hr:=hL.2 row hmem
  have hxx:=hr.2 x (by rw[hp];simp)
  have hn:=nxL p x (by have:=hr.1;rw[hp] at this;simp at this;omega)
  have ih:=rchk_l1 hL h v hv q (p++[x]) (by rw[hp];simp)
  refine Evt.step ?_
  simp only[toponymref18_Check.l1,if_pos (Int.natCast_nonneg P.length),if_pos (ltL h),rdL h,if_pos (ltL hp),if_pos (Int.natCast_nonneg p.length),rdT hp,hn]
  refine Evt.bind (rword_ev x.f0 hxx.1) ?_
  simp only[List.map_cons,List.all_cons]
  cases hw:wordB (B x.f0) with
  |false=>exact Evt.ifn (by simp) ((Evt.now _).val (by simp[okP,ofS,hw]))
  |true=>
   refine Evt.ifp rfl ?_
   have hz:=len_B x.f1
   by_cases he:B x.f1=[]
   ·exact Evt.ifp (by rw[← hz,he];rfl) ((Evt.now _).val (by simp[okP,ofS,he]))
   ·refine Evt.ifn (fun q=>he (List.eq_nil_of_length_eq_zero (by omega))) ?_
    by_cases hl:(B x.f1).length≤400
    ·refine Evt.ifn (by omega) (ih.val ?_)
     have:okP (ofS x)=true:=by
      simp only[okP,ofS,hw,Bool.true_and,Bool.and_eq_true,decide_eq_true_eq]
      exact⟨by simpa using he,decide_eq_true hl⟩
     rw[this];simp
    ·refine Evt.ifp (by omega) ((Evt.now _).val ?_)
     have:okP (ofS x)=false:=by simp[okP,ofS,hl]
     rw[this];simp
theorem rchk_l0 {L:List (List S53)} (hL:few L):∀ (R P:List (List S53)),L=P++R→Evt (fun k=>toponymref18_Check.l0 k (P.length:Int) L) (if (nm R).all okR then 0 else 220)
 |[],P,h=>by
  refine Evt.step ?_
  simp only[toponymref18_Check.l0,if_neg (nltL h)]
  exact(Evt.now _).val (by simp[nm])
 |row::R,P,h=>by
  have ih:=rchk_l0 hL R (P++[row]) (by rw[h];simp)
  refine Evt.step ?_
  simp only[toponymref18_Check.l0,if_pos (ltL h),if_pos (Int.natCast_nonneg P.length),rdL h]
  simp only[nm,List.map_cons,List.all_cons]
  by_cases h1:row.length<1
  ·refine Evt.ifp (by omega) ((Evt.now _).val ?_)
   have:okR (row.map ofS)=false:=by simp[okR];omega
   rw[this];simp
  ·refine Evt.ifn (by omega) ?_
   by_cases h2:row.length>3
   ·refine Evt.ifp (by omega) ((Evt.now _).val ?_)
    have:okR (row.map ofS)=false:=by simp[okR];omega
    rw[this];simp
   ·refine Evt.ifn (by omega) ?_
    refine(rchk_l1 hL h _ ih row [] rfl).val ?_
    have:okR (row.map ofS)=(row.map ofS).all okP:=by
     simp only[okR,List.length_map,decide_eq_true (show 1≤row.length by omega),decide_eq_true (show row.length≤3 by omega),Bool.true_and]
    rw[this]
    cases (row.map ofS).all okP <;>simp[nm]
theorem rchk_ev {L:List (List S53)} (hL:few L):Evt (fun k=>toponymref18_Check.f k L) (if okN (nm L) then 0 else 220):=by
 have hl:=rchk_l0 hL L [] rfl
 by_cases h:L.length>6
 ·refine Evt.of_all fun k=>?_
  have:okN (nm L)=false:=by simp[okN,nm];omega
  simp only[toponymref18_Check.f,if_pos (show(L.length:Int)>6 by omega),this]
  simp
 ·have:okN (nm L)=(nm L).all okR:=by
   simp only[okN,nm,List.length_map,decide_eq_true (show L.length≤6 by omega),Bool.true_and]
  rw[this]
  exact Evt.of_eq hl fun k=>by simp only[toponymref18_Check.f,if_neg (show ¬ (L.length:Int)>6 by omega)];rfl
/-! ### a value's text is read -/
theorem sign_eq (c:UInt8):toponymref18_sign.f (c.toNat:Int)=some (sgn c):=all8 (p:=fun c=>toponymref18_sign.f (c.toNat:Int)=some (sgn c)) (by decide+kernel) c
def hxJ (c:UInt8):Int:=match hx c with|some x=>(x.toNat:Int)|none=>16
theorem unhex_eq (c:UInt8):toponymref18_unhex.f (c.toNat:Int)=some (hxJ c):=all8 (p:=fun c=>toponymref18_unhex.f (c.toNat:Int)=some (hxJ c)) (by decide+kernel) c
theorem hxJ_some {c x:UInt8} (h:hx c=some x):hxJ c=(x.toNat:Int):=by unfold hxJ;rw[h]
theorem hxJ_none {c:UInt8} (h:hx c=none):hxJ c=16:=by unfold hxJ;rw[h]
theorem hexsum (x y:UInt8) (hx:x.toNat<16) (hy:y.toNat<16):(wrap64 ((wrap64 (16*(x.toNat:Int)))+(y.toNat:Int))) % 256=((x*16+y).toNat:Int):=by
 have key:∀ a b:Fin 16,(wrap64 ((wrap64 (16*((UInt8.ofNat a.val).toNat:Int)))+((UInt8.ofNat b.val).toNat:Int))) % 256=((UInt8.ofNat a.val*16+UInt8.ofNat b.val).toNat:Int):=by decide+kernel
 have:=key ⟨x.toNat,hx⟩ ⟨y.toNat,hy⟩
 simpa using this
theorem endr (acc:Bs) (l:Bool):(if ((bn acc).length:Int)>0 then some (strOfNums (bn acc),!l) else some (strOfNums (bn acc),false))=some (A8 acc,fine acc l):=by
 rw[son_nums,len_nums]
 cases acc with
 |nil=>simp[fine]
 |cons a t=>rw[if_pos (by rw[List.length_cons];omega)];simp[fine]
def rres (o:Option Bs) (res:ByteArray × Bool):Prop:=match o with
 |some v=>res=(A8 v,true)
 |none=>res.2=false
theorem rn {res:ByteArray × Bool} (h:res.2=false):rres none res:=h
theorem rval_l0 (s:ByteArray) (hs:s.size≤1000000):∀ (n:Nat) (r p acc:Bs) (l:Bool),r.length≤n→B s=p++r→acc.length≤p.length→(acc.isEmpty=p.isEmpty)→∃ res,Evt (fun k=>toponymref18_value.l0 k (bn acc) (p.length:Int) l s) res∧rres (rfv r acc l) res:=by
 intro n
 induction n with
 |zero=>
  intro r p acc l hr h ha hpa
  obtain rfl:r=[]:=List.eq_nil_of_length_eq_zero (by omega)
  refine⟨(A8 acc,fine acc l),Evt.step ?_,?_⟩
  ·simp only[toponymref18_value.l0,if_neg (nlt_end h),endr]
   exact Evt.now _
  ·rw[rfv_n]
   cases hf:fine acc l <;>simp[rres]
 |succ n ih=>
  intro r p acc l hr h ha hpa
  cases r with
  |nil=>
   refine⟨(A8 acc,fine acc l),Evt.step ?_,?_⟩
   ·simp only[toponymref18_value.l0,if_neg (nlt_end h),endr]
    exact Evt.now _
   ·rw[rfv_n]
    cases hf:fine acc l <;>simp[rres]
  |cons c t=>
   have hz:=sz h
   simp only[List.length_cons] at hr hz
   have hlim:acc.length<140737488355328:=by omega
   have hw1:Veil (wrap64 ((p.length:Int)+1)=((p++[c]).length:Int)):=⟨nx1 p c (by omega)⟩
   have hstart:∀ {res:ByteArray × Bool} {f:Nat→Option (ByteArray × Bool)},Evt f res→(∀ k,toponymref18_value.l0 (k+1) (bn acc) (p.length:Int) l s=f k)→Evt (fun k=>toponymref18_value.l0 k (bn acc) (p.length:Int) l s) res:=fun h1 h2=>Evt.step (Evt.of_eq h1 h2)
   have hb:((c.toNat:Int)==32)=(c==32):=by
    rw[Bool.eq_iff_iff,beq_iff_eq,beq_iff_eq]
    exact c44 c 32 (by decide)
   rw[rfv_c]
   by_cases h92:c=92
   ·have e92:(c.toNat:Int)=92:=by rw[h92];rfl
    have hb0:((c.toNat:Int)==32)=false:=by rw[e92];rfl
    rw[if_pos h92]
    have hpc:((p++[c]).length:Int)=(p.length:Int)+1:=by simp
    cases t with
    |nil=>
     refine⟨((⟨#[]⟩:ByteArray),false),hstart (Evt.now _) fun k=>?_,rn rfl⟩
     simp only[List.length_nil] at hz
     simp only[toponymref18_value.l0,if_pos (lt_mid h),if_pos (Int.natCast_nonneg p.length),bt_mid h,if_pos e92,hw1.out]
     rw[if_pos (by omega)]
    |cons d t'=>
     simp only[List.length_cons] at hr hz
     have hpos1:B s=(p++[c])++d::t':=by rw[h];simp
     have hlt1:=lt_mid hpos1
     have hbd:=bt_mid hpos1
     have hw2:Veil (wrap64 ((p.length:Int)+2)=((p++[c,d]).length:Int)):=⟨by rw[w64 _ (by omega)];simp⟩
     have hne:∀ (x y:Bs) (a:UInt8),(x++[a]).isEmpty=(y++[c,d]).isEmpty:=fun x y a=>by cases x <;>cases y <;>rfl
     have hhead:∀ (k:Nat),toponymref18_value.l0 (k+1) (bn acc) (p.length:Int) l s=if sgn d=true then toponymref18_value.l0 k (bn (acc++[d])) ((p++[c,d]).length:Int) false s else if (d.toNat:Int)=32 then toponymref18_value.l0 k (bn (acc++[d])) ((p++[c,d]).length:Int) false s else if (d.toNat:Int)=35 then toponymref18_value.l0 k (bn (acc++[d])) ((p++[c,d]).length:Int) false s else if (wrap64 ((p.length:Int)+2))≥(s.size:Int) then(some ((⟨#[]⟩:ByteArray),false)) else((toponymref18_unhex.f (d.toNat:Int)).bind fun t58=>(if t58>15 then(some ((⟨#[]⟩:ByteArray),false)) else(if 0≤(wrap64 ((p.length:Int)+2)) then(if (wrap64 ((p.length:Int)+2))<(s.size:Int) then((toponymref18_unhex.f (bt s (wrap64 ((p.length:Int)+2)))).bind fun t70=>(if t70>15 then(some ((⟨#[]⟩:ByteArray),false)) else((toponymref18_unhex.f (d.toNat:Int)).bind fun t78=>((toponymref18_unhex.f (bt s (wrap64 ((p.length:Int)+2)))).bind fun t81=>(if acc.length<140737488355328 then((some (bn acc++[(wrap64 ((wrap64 (16*t78))+t81)) % 256]:List Int)).bind fun y85=>((toponymref18_value.l0 k y85 (wrap64 ((p.length:Int)+3)) false s))) else(none)))))) else(none)) else(none)))):=by
      intro k
      have g1: ¬ ((p++[c]).length:Int)≥(s.size:Int):=by omega
      have g2:(0:Int)≤((p++[c]).length:Int):=Int.natCast_nonneg _
      simp only[toponymref18_value.l0,if_pos (lt_mid h),if_pos (Int.natCast_nonneg p.length),bt_mid h,if_pos e92,hw1.out,if_neg g1,if_pos g2,if_pos hlt1,hbd,sign_eq,Option.bind_some,len_nums,if_pos hlim,← bn_snoc,hb0]
      simp only[hw2.out]
     by_cases hsp:(sgn d || d==32 || d==35)=true
     ·simp only[hsp,if_true]
      obtain⟨res,h1,h2⟩:=ih t' (p++[c,d]) (acc++[d]) false (by omega) (by rw[h];simp) (by simp;omega) (hne _ _ _)
      refine⟨res,hstart h1 fun k=>(hhead k).trans ?_,h2⟩
      simp only[Bool.or_eq_true,beq_iff_eq] at hsp
      cases hsg:sgn d with
      |true=>rw[if_pos (rfl:true=true)]
      |false=>
       rw[if_neg (by simp)]
       rcases hsp with(hsp|hsp)|hsp
       ·rw[hsg] at hsp;cases hsp
       ·rw[if_pos (show(d.toNat:Int)=32 by rw[hsp];rfl)]
       ·rw[if_neg (show ¬ (d.toNat:Int)=32 by rw[hsp];decide),if_pos (show(d.toNat:Int)=35 by rw[hsp];rfl)]
     ·have hsp':(sgn d || d==32 || d==35)=false:=by simpa using hsp
      have hs3:(sgn d=false∧ ¬ d=32)∧ ¬ d=35:=by simpa [not_or] using hsp
      have n32: ¬ (d.toNat:Int)=32:=fun q=>hs3.1.2 ((c44 d 32 (by decide)).1 q)
      have n35: ¬ (d.toNat:Int)=35:=fun q=>hs3.2 ((c44 d 35 (by decide)).1 q)
      have nsg: ¬ (sgn d=true):=by rw[hs3.1.1];simp
      have hpcd:((p++[c,d]).length:Int)=(p.length:Int)+2:=by simp
      simp only[hsp',Bool.false_eq_true,if_false]
      cases t' with
      |nil=>
       refine⟨((⟨#[]⟩:ByteArray),false),hstart (Evt.now _) fun k=>(hhead k).trans ?_,rn rfl⟩
       simp only[List.length_nil] at hz
       have g:((p++[c,d]).length:Int)≥(s.size:Int):=by omega
       rw[if_neg nsg,if_neg n32,if_neg n35,hw2.out,if_pos g]
      |cons e t''=>
       simp only[List.length_cons] at hr hz
       have hpos2:B s=(p++[c,d])++e::t'':=by rw[h];simp
       have hlt2:=lt_mid hpos2
       have hbe:=bt_mid hpos2
       have g: ¬ ((p++[c,d]).length:Int)≥(s.size:Int):=by omega
       have g2:(0:Int)≤((p++[c,d]).length:Int):=Int.natCast_nonneg _
       have hw3:Veil (wrap64 ((p.length:Int)+3)=((p++[c,d,e]).length:Int)):=⟨by rw[w64 _ (by omega)];simp⟩
       show ∃ res,Evt (fun k=>toponymref18_value.l0 k (bn acc) (p.length:Int) l s) res∧rres (match hx d,hx e with|some x,some y=>rfv t'' (acc++[x*16+y]) false|_,_=>none) res
       cases hd:hx d with
       |none=>
        refine⟨((⟨#[]⟩:ByteArray),false),hstart (Evt.now _) fun k=>(hhead k).trans ?_,rn rfl⟩
        rw[if_neg nsg,if_neg n32,if_neg n35,hw2.out,if_neg g,unhex_eq,Option.bind_some,hxJ_none hd,if_pos (by decide)]
       |some x=>
        have hxl:=hx_lt hd
        have hx0: ¬ hxJ d>15:=by rw[hxJ_some hd];omega
        cases hee:hx e with
        |none=>
         refine⟨((⟨#[]⟩:ByteArray),false),hstart (Evt.now _) fun k=>(hhead k).trans ?_,rn rfl⟩
         rw[if_neg nsg,if_neg n32,if_neg n35,hw2.out,if_neg g,unhex_eq,Option.bind_some,if_neg hx0,if_pos g2,if_pos hlt2,hbe,unhex_eq,Option.bind_some,hxJ_none hee,if_pos (by decide)]
        |some z=>
         have hzl:=hx_lt hee
         have hz0: ¬ hxJ e>15:=by rw[hxJ_some hee];omega
         obtain⟨res,h1,h2⟩:=ih t'' (p++[c,d,e]) (acc++[x*16+z]) false (by omega) (by rw[h];simp) (by simp;omega) (by cases acc <;>cases p <;>rfl)
         refine⟨res,hstart h1 fun k=>(hhead k).trans ?_,h2⟩
         rw[if_neg nsg,if_neg n32,if_neg n35,hw2.out,if_neg g,unhex_eq,Option.bind_some,if_neg hx0,if_pos g2,if_pos hlt2,hbe,unhex_eq,Option.bind_some,if_neg hz0,Option.bind_some,Option.bind_some,if_pos hlim,hxJ_some hd,hxJ_some hee,hexsum x z hxl hzl,← bn_snoc,hw3.out,Option.bind_some]
   ·have n92: ¬ (c.toNat:Int)=92:=fun q=>h92 ((c44 c 92 (by decide)).1 q)
    rw[if_neg h92]
    obtain⟨res,h1,h2⟩:=ih t (p++[c]) (acc++[c]) (c==32) (by omega) (by rw[h];simp) (by simp;omega) (by cases acc <;>cases p <;>rfl)
    have hp0:(p.length:Int)=0↔acc.isEmpty=true:=by
     rw[hpa]
     cases p <;>simp
     omega
    have hhead:∀ (k:Nat),toponymref18_value.l0 (k+1) (bn acc) (p.length:Int) l s=if sgn c=true then(some ((⟨#[]⟩:ByteArray),false)) else if (p.length:Int)=0 then(if (c.toNat:Int)=32 then(some ((⟨#[]⟩:ByteArray),false)) else if (c.toNat:Int)=35 then(some ((⟨#[]⟩:ByteArray),false)) else toponymref18_value.l0 k (bn (acc++[c])) ((p++[c]).length:Int) (c==32) s) else toponymref18_value.l0 k (bn (acc++[c])) ((p++[c]).length:Int) (c==32) s:=by
     intro k
     simp only[toponymref18_value.l0,if_pos (lt_mid h),if_pos (Int.natCast_nonneg p.length),bt_mid h,if_neg n92,sign_eq,Option.bind_some,len_nums,if_pos hlim,← bn_snoc,hw1.out,hb]
    by_cases hbad:(sgn c || (acc.isEmpty && (c==32 || c==35)))=true
    ·rw[if_pos hbad]
     refine⟨((⟨#[]⟩:ByteArray),false),hstart (Evt.now _) fun k=>(hhead k).trans ?_,rn rfl⟩
     cases hsg:sgn c with
     |true=>rw[if_pos (rfl:true=true)]
     |false=>
      rw[hsg] at hbad
      simp only[Bool.false_or,Bool.and_eq_true,Bool.or_eq_true,beq_iff_eq] at hbad
      obtain⟨hac,hcc⟩:=hbad
      rw[if_neg (by simp),if_pos (hp0.2 hac)]
      rcases hcc with e|e
      ·rw[if_pos (show(c.toNat:Int)=32 by rw[e];rfl)]
      ·rw[if_neg (show ¬ (c.toNat:Int)=32 by rw[e];decide),if_pos (show(c.toNat:Int)=35 by rw[e];rfl)]
    ·have hbad':sgn c=false∧(acc.isEmpty=true→ ¬ c=32∧ ¬ c=35):=by
      simp only[Bool.or_eq_true,Bool.and_eq_true,beq_iff_eq,not_or] at hbad
      exact⟨by simpa using hbad.1,fun q=>by have:=hbad.2;simp only[not_and,not_or] at this;exact this q⟩
     rw[if_neg hbad]
     refine⟨res,hstart h1 fun k=>(hhead k).trans ?_,h2⟩
     rw[hbad'.1,if_neg (by simp)]
     by_cases hp1:(p.length:Int)=0
     ·have hq:=hbad'.2 (hp0.1 hp1)
      have n32: ¬ (c.toNat:Int)=32:=fun q=>hq.1 ((c44 c 32 (by decide)).1 q)
      have n35: ¬ (c.toNat:Int)=35:=fun q=>hq.2 ((c44 c 35 (by decide)).1 q)
      rw[if_pos hp1,if_neg n32,if_neg n35]
     ·rw[if_neg hp1]
theorem rval_ev (s:ByteArray) (hs:s.size≤1000000):∃ res,Evt (fun k=>toponymref18_value.f k s) res∧rres (rfv (B s) [] false) res:=
 rval_l0 s hs (B s).length (B s) [] [] false (Nat.le_refl _) (by simp) (by simp) rfl
/-! ### a pair's text is read -/
def pairR (o:Option Pr) (res:ByteArray × ByteArray × Bool):Prop:=match o with
 |some x=>res=(A8 x.1,A8 x.2,true)
 |none=>res.2.2=false
theorem rpair_l1 (s:ByteArray) (hs:s.size≤1000000) (nm q:Bs) (h:B s=nm++61::q):∀ (r p:Bs),nm=p++r→∃ res,Evt (fun k=>toponymref18_pair.l1 k (p.length:Int) (bn (low p++r)) s (nm.length:Int)) res∧pairR ((rfv q [] false).map fun v=>(low nm,v)) res
 |[],p,hp=>by
  have hz:=sz h
  simp only[List.length_cons] at hz
  simp only[List.append_nil] at hp
  subst hp
  have hn: ¬ ((nm.length:Int)<((bn (low nm)).length:Int)):=by rw[len_nums,low_len];omega
  have hw1:wrap64 ((nm.length:Int)+1)=((nm++[61]).length:Int):=nx1 nm 61 (by omega)
  have hle:((nm++[61]).length:Int)≤(s.size:Int):=by simp;omega
  obtain⟨y,hy⟩:∃ y,y=s.extract (((nm++[61]).length:Int)).toNat s.size:=⟨_,rfl⟩
  have hyB:B y=q:=by rw[hy];exact cutB (p:=nm++[61]) (by rw[h];simp) _ rfl
  obtain⟨res,h1,h2⟩:=rval_ev y (by rw[← len_B,hyB];omega)
  rw[hyB] at h2
  refine⟨(A8 (low nm),res.1,res.2),Evt.step (Evt.of_eq (Evt.bind (g:=fun _ r=>some (A8 (low nm),r.1,r.2)) h1 (Evt.now _)) fun k=>?_),?_⟩
  ·simp only[toponymref18_pair.l1,List.append_nil,if_neg hn,hw1,if_pos (Int.natCast_nonneg (nm++[61]).length),if_pos hle,← hy,son_nums]
  ·cases hv:rfv q [] false with
   |none=>rw[hv] at h2;exact h2
   |some v=>rw[hv] at h2;have h2:res=(A8 v,true):=h2;rw[h2];rfl
 |c::r,p,hp=>by
  have hz:=sz h
  simp only[List.length_cons] at hz
  obtain⟨res,h1,h2⟩:=rpair_l1 s hs nm q h r (p++[c]) (by rw[hp];simp)
  rw[low_app] at h1
  have hn:(p.length:Int)<((bn (low p++c::r)).length:Int):=by rw[len_nums];simp[low_len];omega
  have hx:=nx1 p c (by rw[hp] at hz;simp at hz;omega)
  refine⟨res,Evt.step (Evt.of_eq h1 fun k=>?_),h2⟩
  have hr:rd (bn (low p++c::r)) (p.length:Int)=(c.toNat:Int):=rd_bn (low_len p).symm
  simp only[toponymref18_pair.l1,if_pos hn,if_pos (Int.natCast_nonneg p.length),hr,hx]
  by_cases h1:(c.toNat:Int)≥65
  ·rw[if_pos h1]
   by_cases h2:(c.toNat:Int)≤90
   ·rw[if_pos h2,(low1_in c h1 h2).2,set_bn (low_len p).symm]
    rfl
   ·rw[if_neg h2,low1_out c (fun q=>h2 q.2)]
  ·rw[if_neg h1,low1_out c (fun q=>h1 q.1)]
theorem rpair_l0 (s:ByteArray) (hs:s.size≤1000000):∀ (r p:Bs),B s=p++r→(61:UInt8) ∉ p→∃ res,Evt (fun k=>toponymref18_pair.l0 k (p.length:Int) s) res∧pairR (rfpair (B s)) res
 |[],p,h,hp=>by
  have hz:=sz h
  simp only[List.length_nil] at hz
  refine⟨((⟨#[]⟩:ByteArray),(⟨#[]⟩:ByteArray),false),Evt.step (Evt.of_eq (Evt.now _) fun k=>?_),?_⟩
  ·simp only[toponymref18_pair.l0,if_neg (nlt_end h)]
   rw[if_pos (by omega)]
  ·have:eqs (B s)=none:=eqs_none.2 (by rw[h];simpa using hp)
   simp[rfpair,this,pairR]
 |c::r,p,h,hp=>by
  have hz:=sz h
  simp only[List.length_cons] at hz
  by_cases hc:c=61
  ·subst hc
   have he:eqs (B s)=some (p,r):=by rw[h];exact eqs_mk hp
   obtain⟨res,h1,h2⟩:=rpair_l1 s hs p r h p [] rfl
   refine⟨res,Evt.step (Evt.of_eq h1 fun k=>?_),?_⟩
   ·have hy:B (s.extract 0 ((p.length:Int)).toNat)=p:=cutM (p:=[]) (m:=p) (r:=61::r) (by rw[h];simp) 0 _ rfl (by simp)
    have hsz:(s.extract 0 ((p.length:Int)).toNat).size<140737488355328:=by rw[← len_B,hy];omega
    have hlt:=lt_mid h
    simp only[toponymref18_pair.l0,if_pos hlt,if_pos (Int.natCast_nonneg p.length),bt_mid h,if_neg (show ¬ (p.length:Int)≥(s.size:Int) by omega),if_pos (show(p.length:Int)≤(s.size:Int) by omega),Option.bind_some,if_pos hsz,numsOf_B,hy]
    rw[if_pos (by rfl)]
    rfl
   ·simp only[rfpair,he]
    exact h2
  ·have n61: ¬ (c.toNat:Int)=61:=fun q=>hc ((c44 c 61 (by decide)).1 q)
   obtain⟨res,h1,h2⟩:=rpair_l0 s hs r (p++[c]) (by rw[h];simp) (by simp only[List.mem_append,List.mem_singleton,not_or];exact⟨hp,fun q=>hc q.symm⟩)
   have hx:=nx1 p c (by omega)
   refine⟨res,Evt.step (Evt.of_eq h1 fun k=>?_),h2⟩
   simp only[toponymref18_pair.l0,if_pos (lt_mid h),if_pos (Int.natCast_nonneg p.length),bt_mid h,if_neg n61,hx]
theorem rpair_ev (s:ByteArray) (hs:s.size≤1000000):∃ res,Evt (fun k=>toponymref18_pair.f k s) res∧pairR (rfpair (B s)) res:=rpair_l0 s hs (B s) [] (by simp) (by simp)
end Go.Proofs.Ytapinanmmhdpcaa.DnA
