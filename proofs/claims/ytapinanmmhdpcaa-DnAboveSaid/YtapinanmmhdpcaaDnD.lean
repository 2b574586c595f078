import Derived.Test.YtapinanmmhdpcaaDnC
import Derived.Test.YtapinanmmhdpcaaGM2
import Derived.Test.YtapinanmmhdpcaaGM1
import Derived.Test.YtapinanmmhdpcaaGM2
import Derived.Test.YtapinanmmhdpcaaGM2
/- Plain laws of names: the document's reading of names. -/
namespace Go.Proofs.Ytapinanmmhdpcaa.DnA
open Go Go.RowKit Go.Proofs.Ytapinanmmhdpcaa.GA Go.Proofs.Ytapinanmmhdpcaa.PuE Go.Proofs.Ytapinanmmhdpcaa.DnL Go.Proofs.YtapinanmmhdpcaaW.PrintWords Go.Proofs.YtapinanmmhdpcaaW.PrintLast Go.Proofs.YtapinanmmhdpcaaW.PrintMore
set_option linter.unusedVariables false
set_option linter.unusedSimpArgs false
/-! ### cuts -/
theorem cut_end (s:ByteArray) (by_:UInt8) (i:Int) (hi: ¬ i<(s.size:Int)) {f cur:Bs} (h:B s=f++cur) (L:List ByteArray) (hL:L.length≤1000000):Evt (fun k=>toponymref18_cut.l0 k L (f.length:Int) i s (by_.toNat:Int)) (L++[A8 cur]):=by
  have hz:=sz h
  refine Evt.step (Evt.of_all fun k=>?_)
  have hy:s.extract ((f.length:Int)).toNat s.size=A8 cur:=B_inj (by rw[B_A8];exact cutB h _ rfl)
  simp only[toponymref18_cut.l0,if_neg hi,if_pos (Int.natCast_nonneg f.length),if_pos (show(f.length:Int)≤(s.size:Int) by omega),if_pos (show L.length<8796093022208 by omega),Option.bind_some,hy]
theorem cut_l0 (s:ByteArray) (hs:s.size≤500000) (by_:UInt8) (hby:by_≠92):∀ (n:Nat) (r p f cur:Bs) (L:List ByteArray),r.length≤n→B s=p++r→p=f++cur→L.length≤f.length→Evt (fun k=>toponymref18_cut.l0 k L (f.length:Int) (p.length:Int) s (by_.toNat:Int)) (L++(cut by_ r cur).map A8):=by
  intro n
  induction n with
  |zero=>
    intro r p f cur L hr h hp hL
    obtain rfl:r=[]:=List.eq_nil_of_length_eq_zero (by omega)
    have hz:=sz h
    simp only[List.append_nil] at h
    rw[hp,List.length_append] at hz
    exact cut_end s by_ _ (nlt_end (p:=p) (by rw[h];simp)) (by rw[h,hp]) L (by omega)
  |succ n ih=>
    intro r p f cur L hr h hp hL
    have hpl:p.length=f.length+cur.length:=by rw[hp,List.length_append]
    cases r with
    |nil=>
      have hz:=sz h
      simp only[List.append_nil] at h
      rw[hp,List.length_append] at hz
      exact cut_end s by_ _ (nlt_end (p:=p) (by rw[h];simp)) (by rw[h,hp]) L (by omega)
    |cons c t=>
      have hz:=sz h
      simp only[List.length_cons] at hr hz
      have hw1:Veil (wrap64 ((p.length:Int)+1)=((p++[c]).length:Int)):=⟨nx1 p c (by omega)⟩
      rw[cut_c]
      by_cases h92:c=92
      · have e92:(c.toNat:Int)=92:=by rw[h92];rfl
        have hw2:Veil (wrap64 (wrap64 ((p.length:Int)+1)+1)=(p.length:Int)+2):=⟨by rw[hw1.out,List.length_append,List.length_singleton,w64 _ (by omega)];omega⟩
        rw[if_pos h92]
        have hst:∀ k,toponymref18_cut.l0 (k+1) L (f.length:Int) (p.length:Int) s (by_.toNat:Int)=toponymref18_cut.l0 k L (f.length:Int) ((p.length:Int)+2) s (by_.toNat:Int):=by
          intro k
          simp only[toponymref18_cut.l0,if_pos (lt_mid h),if_pos (Int.natCast_nonneg p.length),bt_mid h,if_pos e92,hw2.out]
        cases t with
        |nil=>
          simp only[List.length_nil] at hz
          refine Evt.step (Evt.of_eq (cut_end s by_ _ (by omega) (cur:=cur++[92]) (by rw[h,hp,h92];simp) L (by omega)) fun k=>hst k)
        |cons d t'=>
          simp only[List.length_cons] at hr hz
          have hc2:((p++[c,d]).length:Int)=(p.length:Int)+2:=by simp
          have:=ih t' (p++[c,d]) f (cur++[92,d]) L (by omega) (by rw[h];simp) (by rw[hp,h92];simp) hL
          rw[hc2] at this
          exact Evt.step (Evt.of_eq this fun k=>hst k)
      · have n92: ¬ (c.toNat:Int)=92:=fun q=>h92 ((c44 c 92 (by decide)).1 q)
        rw[if_neg h92]
        by_cases hb:c=by_
        · subst hb
          rw[if_pos rfl]
          have hy:s.extract ((f.length:Int)).toNat ((p.length:Int)).toNat=A8 cur:=B_inj (by rw[B_A8];exact cutM (p:=f) (m:=cur) (r:=c::t) (by rw[h,hp];simp) _ _ rfl (by rw[Int.toNat_natCast];exact hpl))
          have:=ih t (p++[c]) (p++[c]) [] (L++[A8 cur]) (by omega) (by rw[h];simp) (by simp) (by simp;omega)
          refine Evt.step (Evt.of_eq (this.val (by simp)) fun k=>?_)
          simp only[toponymref18_cut.l0,if_pos (lt_mid h),if_pos (Int.natCast_nonneg p.length),bt_mid h,if_neg n92,if_pos (Int.natCast_nonneg f.length),if_pos (show(f.length:Int)≤(p.length:Int) by omega),if_pos (show(p.length:Int)≤(s.size:Int) by omega),Option.bind_some,if_pos (show L.length<8796093022208 by omega),hy,hw1.out]
          exact if_pos trivial
        · have nb: ¬ (c.toNat:Int)=(by_.toNat:Int):=fun q=>hb (UInt8.toNat_inj.1 (by omega))
          rw[if_neg hb]
          have:=ih t (p++[c]) f (cur++[c]) L (by omega) (by rw[h];simp) (by rw[hp];simp) hL
          refine Evt.step (Evt.of_eq this fun k=>?_)
          simp only[toponymref18_cut.l0,if_pos (lt_mid h),if_pos (Int.natCast_nonneg p.length),bt_mid h,if_neg n92,if_neg nb,hw1.out]
theorem cut_ev (s:ByteArray) (hs:s.size≤500000) (by_:UInt8) (hby:by_≠92):Evt (fun k=>toponymref18_cut.f k s (by_.toNat:Int)) ((cut by_ (B s) []).map A8):=by
  have:=cut_l0 s hs by_ hby (B s).length (B s) [] [] [] [] (Nat.le_refl _) (by simp) rfl (by simp)
  exact Evt.of_eq (this.val (by simp)) fun k=>rfl
theorem cut_len (by_:UInt8):∀ (n:Nat) (s cur:Bs),s.length≤n→(cut by_ s cur).length≤s.length+1∧∀ x ∈ cut by_ s cur,x.length≤cur.length+s.length:=by
  intro n
  induction n with
  |zero=>
    intro s cur h
    obtain rfl:s=[]:=List.eq_nil_of_length_eq_zero (by omega)
    rw[cut_n]
    exact⟨by simp,fun x hx=>by have : x=cur := (by simpa using hx); subst this; simp⟩
  |succ n ih=>
    intro s cur h
    cases s with
    |nil=>
      rw[cut_n]
      exact⟨by simp,fun x hx=>by have : x=cur := (by simpa using hx); subst this; simp⟩
    |cons c t=>
      simp only[List.length_cons] at h ⊢
      rw[cut_c]
      split
      · cases t with
        |nil=>exact⟨by simp,fun x hx=>by have : x=cur++[92] := (by simpa using hx); subst this; simp⟩
        |cons d t'=>
          simp only[List.length_cons] at h ⊢
          obtain⟨h1,h2⟩:=ih t' (cur++[92,d]) (by omega)
          exact⟨by omega,fun x hx=>by have:=h2 x hx;simp at this;omega⟩
      · split
        · obtain⟨h1,h2⟩:=ih t [] (by omega)
          refine⟨by simp;omega,fun x hx=>?_⟩
          rcases List.mem_cons.1 hx with rfl|hx
          · omega
          · have:=h2 x hx;simp at this;omega
        · obtain⟨h1,h2⟩:=ih t (cur++[c]) (by omega)
          exact⟨by omega,fun x hx=>by have:=h2 x hx;simp at this;omega⟩
theorem cut_len0 (by_:UInt8) (s:Bs):(cut by_ s []).length≤s.length+1∧∀ x ∈ cut by_ s [],x.length≤s.length:=by
  have:=cut_len by_ s.length s [] (Nat.le_refl _)
  simpa using this
/-! ### a name's text is read -/
theorem rfpair_len {p:Bs} {x:Pr} (h:rfpair p=some x):x.1.length≤p.length∧x.2.length≤p.length:=by
  unfold rfpair at h
  cases he:eqs p with
  |none=>rw[he] at h;cases h
  |some q=>
    obtain⟨nm0,q⟩:=q
    rw[he] at h
    simp only at h
    cases hv:rfv q [] false with
    |none=>rw[hv] at h;cases h
    |some v=>
      rw[hv] at h
      simp only[Option.map_some,Option.some.injEq] at h
      subst h
      obtain⟨hp,_⟩:=eqs_some he
      have h1:=rfv_len _ _ _ _ _ (Nat.le_refl _) hv
      have h2:p.length=nm0.length+(q.length+1):=by rw[hp];simp
      simp only[List.length_nil] at h1
      exact⟨by show(low nm0).length≤_;rw[low_len];omega,by show v.length≤_;omega⟩
theorem mapO_len {α β :Type} {f: α →Option β}:∀ {l:List α} {m:List β},mapO f l=some m→m.length=l.length∧∀ y ∈ m,∃ x ∈ l,f x=some y
  |[],m,h=>by
    obtain rfl:=Option.some.inj h
    exact⟨rfl,fun y hy=>by simp at hy⟩
  |x::l,m,h=>by
    simp only[mapO] at h
    cases hx:f x with
    |none=>rw[hx] at h;cases h
    |some y=>
      rw[hx] at h
      simp only at h
      cases hl:mapO f l with
      |none=>rw[hl] at h;cases h
      |some m'=>
        rw[hl] at h
        simp only[Option.map_some,Option.some.injEq] at h
        subst h
        obtain⟨h1,h2⟩:=mapO_len hl
        refine⟨by simp[h1],fun z hz=>?_⟩
        rcases List.mem_cons.1 hz with rfl|hz
        · exact⟨x,by simp,hx⟩
        · obtain⟨w,hw,e⟩:=h2 z hz
          exact⟨w,by simp[hw],e⟩
theorem mapO_map {α β γ :Type} (g: γ → α) (f: α →Option β):∀ l:List γ,mapO f (l.map g)=mapO (fun x=>f (g x)) l
  |[]=>rfl
  |x::l=>by
    simp only[List.map_cons,mapO]
    cases f (g x) with
    |none=>rfl
    |some y=>simp only;rw[mapO_map g f l]
theorem rdOf_mid {L P R:List Bs} {x:Bs} (h:L=P++x::R):rdOf ByteArray.empty (L.map A8) (P.length:Int)=A8 x:=by
  subst h
  unfold rdOf
  simp
def rfin (x:List (List S53)) (o:Option (List (List Pr))):List (List S53) × Int:=match o with
  |none=>([],220)
  |some l=>if okN (nm (x++toN l)) then(x++toN l,0) else([],220)
theorem rparse_l1 (L:List Bs) (i:Nat) (X:List (List S53)) (v:List (List S53) × Int) (T:List Bs) (hT:T.length≤4000∧∀ x ∈ T,x.length≤4000) (hX:X.length≤4000) (hi:i≤4000):
    ∀ (Q P:List Bs) (acc:List S53),T=P++Q→acc.length≤P.length→(∀ ps,mapO rfpair Q=some ps→Evt (fun k=>toponymref18_Parse.l0 k (X++[acc++ps.map toS]) ((i:Int)+1) (L.map A8)) v)→(mapO rfpair Q=none→v=([],220))→Evt (fun k=>toponymref18_Parse.l1 k acc (P.length:Int) (L.map A8) (T.map A8) X (i:Int)) v
  |[],P,acc,h,ha,h1,h2=>by
    have:=h1 [] rfl
    simp only[List.map_nil,List.append_nil] at this
    have hn: ¬ ((P.length:Int)<((T.map A8).length:Int)):=by rw[h];simp
    have hw:wrap64 ((i:Int)+1)=(i:Int)+1:=w64 _ (by omega)
    refine Evt.step (Evt.of_eq this fun k=>?_)
    simp only[toponymref18_Parse.l1,if_neg hn,if_pos (show X.length<5864062014805 by omega),Option.bind_some,hw]
  |q::Q,P,acc,h,ha,h1,h2=>by
    have hP:P.length<T.length:=by rw[h];simp
    have hn:(P.length:Int)<((T.map A8).length:Int):=by rw[List.length_map];omega
    have hq:=hT.2 q (by rw[h];simp)
    have hrd:=rdOf_mid h
    have hx:wrap64 ((P.length:Int)+1)=((P++[q]).length:Int):=nxL P q (by omega)
    obtain⟨res,e1,e2⟩:=rpair_ev (A8 q) (by rw[size_A8];omega)
    rw[B_A8] at e2
    refine Evt.step ?_
    simp only[toponymref18_Parse.l1,if_pos hn,if_pos (Int.natCast_nonneg P.length),hrd,hx]
    refine Evt.bind e1 ?_
    cases hr:rfpair q with
    |none=>
      rw[hr] at e2
      have e2:res.2.2=false:=e2
      rw[e2]
      exact Evt.ifn (by simp) ((Evt.now _).val (h2 (by simp[mapO,hr])).symm)
    |some x=>
      rw[hr] at e2
      have e2:res=(A8 x.1,A8 x.2,true):=e2
      subst e2
      simp only[if_true,if_pos (show acc.length<4398046511104 by omega),Option.bind_some]
      refine rparse_l1 L i X v T hT hX hi Q (P++[q]) (acc++[toS x]) (by rw[h];simp) (by simp;omega) (fun ps hps=>?_) (fun hno=>h2 (by simp[mapO,hr,hno]))
      have:=h1 (x::ps) (by simp[mapO,hr,hps])
      simpa using this
theorem rparse_l0 (L:List Bs) (hL:L.length≤3500∧∀ x ∈ L,x.length≤3500):∀ (R P:List Bs) (X:List (List S53)),L=P++R→X.length=P.length→(∀ r ∈ X,r.length≤4000∧∀ x ∈ r,x.f0.size≤4000∧x.f1.size≤4000)→Evt (fun k=>toponymref18_Parse.l0 k X (P.length:Int) (L.map A8)) (rfin X (mapO (fun p=>mapO rfpair (cut 43 p [])) R))
  |[],P,X,h,hX,hF=>by
    have hn: ¬ ((P.length:Int)<((L.map A8).length:Int)):=by rw[h];simp
    have hPl:P.length=L.length:=by rw[h];simp
    refine Evt.step ?_
    simp only[toponymref18_Parse.l0,if_neg hn]
    refine Evt.bind (rchk_ev ⟨by omega,fun r hr=>⟨by have:=(hF r hr).1;omega,fun x hx=>by have:=(hF r hr).2 x hx;omega⟩⟩) ?_
    simp only[mapO,rfin,toN,List.map_nil,List.append_nil]
    cases okN (nm X) with
    |true=>exact Evt.ifp rfl (Evt.now _)
    |false=>exact Evt.ifn (by simp) (Evt.now _)
  |q::R,P,X,h,hX,hF=>by
    have hP:P.length<L.length:=by rw[h];simp
    have hn:(P.length:Int)<((L.map A8).length:Int):=by rw[List.length_map];omega
    have hq:=hL.2 q (by rw[h];simp)
    have hrd:=rdOf_mid h
    have hc:=cut_ev (A8 q) (by rw[size_A8];omega) 43 (by decide)
    rw[B_A8] at hc
    obtain⟨c1,c2⟩:=cut_len0 43 q
    refine Evt.step ?_
    simp only[toponymref18_Parse.l0,if_pos hn,if_pos (Int.natCast_nonneg P.length),hrd]
    refine Evt.bind (show Evt (fun k=>toponymref18_cut.f k (A8 q) 43) _ from hc) ?_
    refine rparse_l1 L P.length X _ (cut 43 q []) ⟨by omega,fun x hx=>by have:=c2 x hx;omega⟩ (by omega) (by omega) (cut 43 q []) [] [] rfl (by simp) (fun ps hps=>?_) (fun hno=>by simp[mapO,hno,rfin])
    obtain⟨m1,m2⟩:=mapO_len hps
    have hrow:([]++ps.map toS).length≤4000∧∀ x ∈ ([]++ps.map toS),x.f0.size≤4000∧x.f1.size≤4000:=by
      refine⟨by simp;omega,fun x hx=>?_⟩
      simp only[List.nil_append,List.mem_map] at hx
      obtain⟨y,hy,rfl⟩:=hx
      obtain⟨z,hz,e⟩:=m2 y hy
      have:=rfpair_len e
      have:=c2 z hz
      simp only[toS,size_A8]
      omega
    have ih:=rparse_l0 L hL R (P++[q]) (X++[[]++ps.map toS]) (by rw[h];simp) (by simp[hX]) (fun r hr=>by
      rcases List.mem_append.1 hr with hr|hr
      · exact hF r hr
      · have:r=[]++ps.map toS:=by simpa using hr
        subst this;exact hrow)
    have hPq:((P++[q]).length:Int)=(P.length:Int)+1:=by simp
    rw[hPq] at ih
    refine ih.val ?_
    simp only[mapO,hps]
    cases mapO (fun p=>mapO rfpair (cut 43 p [])) R with
    |none=>rfl
    |some l=>simp[rfin,toN]
/-- What the document's reading of a text tells. -/
def refR (b:Bs):List (List S53) × Int:=if b.length>3000 then([],3) else if b=[] then([],0) else rfin [] (refP b)
theorem rparse_ev (s:ByteArray):Evt (fun k=>toponymref18_Parse.f k s) (refR (B s)):=by
  unfold refR
  by_cases h1:(B s).length>3000
  · rw[if_pos h1]
    rw[len_B] at h1
    exact Evt.of_all fun k=>by simp only[toponymref18_Parse.f,if_pos (show(s.size:Int)>3000 by omega)]
  · rw[if_neg h1]
    have h1':=h1
    rw[len_B] at h1
    by_cases h2:B s=[]
    · rw[if_pos h2]
      exact Evt.of_all fun k=>by simp only[toponymref18_Parse.f,if_neg (show ¬ (s.size:Int)>3000 by omega),if_pos (toList_nil.2 h2)]
    · rw[if_neg h2]
      obtain⟨c1,c2⟩:=cut_len0 44 (B s)
      have hc:=cut_ev s (by omega) 44 (by decide)
      have hp:=rparse_l0 (cut 44 (B s) []) ⟨by omega,fun x hx=>by have:=c2 x hx;omega⟩ (cut 44 (B s) []) [] [] rfl rfl (fun r hr=>by simp at hr)
      have hrows:refP (B s)=mapO (fun p=>mapO rfpair (cut 43 p [])) (cut 44 (B s) []):=by
        unfold refP rows
        exact mapO_map _ _ _
      rw[hrows]
      refine Evt.of_eq (f:=fun k=>(toponymref18_cut.f k s 44).bind fun t=>toponymref18_Parse.l0 k [] 0 t) (Evt.bind (show Evt (fun k=>toponymref18_cut.f k s 44) _ from hc) hp) fun k=>?_
      simp only[toponymref18_Parse.f,if_neg (show ¬ (s.size:Int)>3000 by omega),if_neg (fun q=>h2 (toList_nil.1 q))]
theorem okN_okw {l:List (List Pr)} (h:okN l=true):okw l=true:=by
  simp only[okN,Bool.and_eq_true,List.all_eq_true] at h
  simp only[okw,List.all_eq_true]
  intro r hr p hp
  have h1:=h.2 r hr
  simp only[okR,Bool.and_eq_true,List.all_eq_true] at h1
  have h2:=h1.2 p hp
  simp only[okP,Bool.and_eq_true] at h2
  exact h2.1.1
theorem parR_refR (b:Bs):parR b=refR b:=by
  unfold parR refR
  split
  · rfl
  · split
    · rfl
    · rw[spc_refP (b.length+1) b (by omega)]
      cases hr:refP b with
      |none=>simp[fltr,rfin]
      |some l=>
        simp only[fltr,rfin,List.nil_append,nm_toN]
        cases hw:okw l with
        |true=>simp
        |false=>
          have:okN l=false:=by
            cases ho:okN l with
            |false=>rfl
            |true=>rw[okN_okw ho] at hw;cases hw
          simp[this]
/-! ### the same names -/
theorem pairS {x y:S53}:((!(x.f0.toList==y.f0.toList)) || (!(x.f1.toList==y.f1.toList)))=true↔ofS x≠ofS y:=by
  simp only[toList_B,ofS,ne_eq,Prod.mk.injEq,Bool.or_eq_true,Bool.not_eq_true',beq_eq_false_iff_ne]
  constructor
  · rintro(h|h) q
    · exact h q.1
    · exact h q.2
  · intro h
    by_cases h1:B x.f0=B y.f0
    · exact .inr fun h2=>h ⟨h1,h2⟩
    · exact .inl h1
theorem ofS_inj {x y:S53} (h:ofS x=ofS y):x=y:=by rw[← toS_ofS x,h,toS_ofS]
theorem rsame_l1 {a b A' A2 B' B2:List (List S53)} {ra rb:List S53} (ha:few a) (h1:a=A'++ra::A2) (h2:b=B'++rb::B2) (hAB:A'.length=B'.length) (hl:ra.length=rb.length) (v:Bool) (hv:Evt (fun k=>toponymref18_Same.l0 k ((A'++[ra]).length:Int) a b) v):
    ∀ (q p q2 p2:List S53),ra=p++q→rb=p2++q2→p.length=p2.length→Evt (fun k=>toponymref18_Same.l1 k (p.length:Int) a b (A'.length:Int)) (decide (q.map ofS=q2.map ofS) && v)
  |[],p,q2,p2,e1,e2,e3=>by
    have hq:q2=[]:=by
      have:q2.length=0:=by rw[e1,e2] at hl;simp at hl;omega
      exact List.eq_nil_of_length_eq_zero this
    subst hq
    have hx:wrap64 ((A'.length:Int)+1)=((A'++[ra]).length:Int):=nxL A' ra (by have:=ha.1;rw[h1] at this;simp at this;omega)
    refine Evt.step (Evt.of_eq (hv.val (by simp)) fun k=>?_)
    simp only[toponymref18_Same.l1,if_pos (Int.natCast_nonneg A'.length),if_pos (ltL h1),rdL h1,if_neg (nltL e1),hx]
  |x::q,p,q2,p2,e1,e2,e3=>by
    cases q2 with
    |nil=>rw[e1,e2] at hl;simp at hl;omega
    |cons y q2=>
      have hra:ra.length≤1000000:=(ha.2 ra (by rw[h1];simp)).1
      have hx:wrap64 ((p.length:Int)+1)=((p++[x]).length:Int):=nxL p x (by rw[e1] at hra;simp at hra;omega)
      have hlb:(A'.length:Int)<(b.length:Int):=by rw[hAB];exact ltL h2
      have hrb:rd_L2 b (A'.length:Int)=rb:=by rw[hAB];exact rdL h2
      have hpb:(p.length:Int)<(rb.length:Int):=by rw[e3];exact ltL e2
      have hry:rd_T53 rb (p.length:Int)=y:=by rw[e3];exact rdT e2
      have ih:=rsame_l1 ha h1 h2 hAB hl v hv q (p++[x]) q2 (p2++[y]) (by rw[e1];simp) (by rw[e2];simp) (by simp[e3])
      refine Evt.step ?_
      simp only[toponymref18_Same.l1,if_pos (Int.natCast_nonneg A'.length),if_pos (ltL h1),rdL h1,if_pos (ltL e1),if_pos (Int.natCast_nonneg p.length),if_pos hlb,hrb,if_pos hpb,rdT e1,hry,hx]
      by_cases hxy:ofS x=ofS y
      · have:=ofS_inj hxy
        subst this
        exact Evt.ifn (fun hh=>(pairS.1 hh) rfl) (ih.val (by simp))
      · refine Evt.ifp (pairS.2 hxy) ((Evt.now _).val ?_)
        have: ¬ (ofS x::q.map ofS=ofS y::q2.map ofS):=fun e=>hxy (List.cons.inj e).1
        simp only[List.map_cons,decide_eq_false this,Bool.false_and]
theorem rsame_l0 {a b:List (List S53)} (ha:few a) (hlen:a.length=b.length):∀ (A2 A' B2 B':List (List S53)),a=A'++A2→b=B'++B2→A'.length=B'.length→Evt (fun k=>toponymref18_Same.l0 k (A'.length:Int) a b) (decide (nm A2=nm B2))
  |[],A',B2,B',h1,h2,hAB=>by
    have hq:B2=[]:=by
      have:B2.length=0:=by rw[h1,h2] at hlen;simp at hlen;omega
      exact List.eq_nil_of_length_eq_zero this
    subst hq
    refine Evt.step (Evt.of_all fun k=>?_)
    simp only[toponymref18_Same.l0,if_neg (nltL h1)]
    rfl
  |ra::A2,A',B2,B',h1,h2,hAB=>by
    cases B2 with
    |nil=>rw[h1,h2] at hlen;simp at hlen;omega
    |cons rb B2=>
      have hlb:(A'.length:Int)<(b.length:Int):=by rw[hAB];exact ltL h2
      have hrb:rd_L2 b (A'.length:Int)=rb:=by rw[hAB];exact rdL h2
      have ih:=rsame_l0 ha hlen A2 (A'++[ra]) B2 (B'++[rb]) (by rw[h1];simp) (by rw[h2];simp) (by simp[hAB])
      refine Evt.step ?_
      simp only[toponymref18_Same.l0,if_pos (ltL h1),if_pos (Int.natCast_nonneg A'.length),if_pos hlb,rdL h1,hrb]
      by_cases hl:ra.length=rb.length
      · refine Evt.ifp (by omega) ((rsame_l1 ha h1 h2 hAB hl _ ih ra [] rb [] rfl rfl rfl).val ?_)
        rw[Bool.eq_iff_iff,Bool.and_eq_true,decide_eq_true_iff,decide_eq_true_iff,decide_eq_true_iff]
        exact(List.cons_eq_cons (a:=ra.map ofS) (b:=rb.map ofS)).symm
      · refine Evt.ifn (by omega) ((Evt.now _).val ?_)
        have: ¬ (nm (ra::A2)=nm (rb::B2)):=fun e=>hl (by have:=congrArg List.length (List.cons.inj e).1;simpa using this)
        exact(decide_eq_false this).symm
theorem nm_inj {a b:List (List S53)} (h:nm a=nm b):a=b:=by rw[← toN_nm a,h,toN_nm]
def sm (a b:List (List S53)):Bool:=decide (nm a=nm b)
theorem sm_self (a:List (List S53)):sm a a=true:=decide_eq_true rfl
theorem sm_eq {a b:List (List S53)} (h:a=b):sm a b=true:=decide_eq_true (by rw[h])
theorem rsame_ev (a b:List (List S53)) (ha:few a):Evt (fun k=>toponymref18_Same.f k a b) (sm a b):=by
  by_cases h:a.length=b.length
  · exact Evt.of_eq (rsame_l0 ha h a [] b [] rfl rfl rfl) fun k=>by simp only[toponymref18_Same.f,if_pos (show(a.length:Int)=(b.length:Int) by omega)];rfl
  · refine(Evt.of_all fun k=>?_).val (show false=_ from(decide_eq_false (fun e=>h (by rw[nm_inj e]))).symm)
    simp only[toponymref18_Same.f,if_neg (show ¬ (a.length:Int)=(b.length:Int) by omega)]
/-! ### what is read is short -/
theorem few_nil:few ([]:List (List S53)):=⟨by simp,fun r hr=>by simp at hr⟩
theorem okN_few {l:List (List Pr)} (h:okN l=true):few (toN l):=by
  simp only[okN,Bool.and_eq_true,List.all_eq_true,decide_eq_true_eq] at h
  refine⟨by simp[toN];omega,fun r hr=>?_⟩
  simp only[toN,List.mem_map] at hr
  obtain⟨r,hr,rfl⟩:=hr
  have h1:=h.2 r hr
  simp only[okR,Bool.and_eq_true,List.all_eq_true,decide_eq_true_eq] at h1
  refine⟨by simp;omega,fun x hx=>?_⟩
  simp only[List.mem_map] at hx
  obtain⟨p,hp,rfl⟩:=hx
  have h2:=h1.2 p hp
  simp only[okP,Bool.and_eq_true,decide_eq_true_eq] at h2
  have h3:=word_len h2.1.1
  simp only[toS,size_A8]
  omega
theorem parR_few (b:Bs):few (parR b).1:=by
  unfold parR
  split
  · exact few_nil
  · split
    · exact few_nil
    · split
      · exact few_nil
      · rename_i l _
        cases h:okN l with
        |true=>simpa [h] using okN_few h
        |false=>simpa [h] using few_nil
def rdnR (x:List (List S53) × Int):List S53 × Int:=if x.2=0 then(if x.1.length=1 then(rd_L2 x.1 0,0) else([],220)) else([],x.2)
theorem rdn_ev (s:ByteArray):Evt (fun k=>dn_Rdn.f k s) (rdnR (parR (B s))):=by
  refine Evt.of_eq (Evt.bind (parse_ev s) (g:=fun k bt1=>some (rdnR bt1)) (Evt.now _)) fun k=>?_
  simp only[dn_Rdn.f]
  congr 1
  funext x
  unfold rdnR
  by_cases h1:x.2=0
  · rw[if_pos h1,if_pos h1]
    by_cases h2:x.1.length=1
    · rw[if_pos (show(x.1.length:Int)=1 by omega),if_pos (show 0<(x.1.length:Int) by omega),if_pos h2]
    · rw[if_neg (show ¬ (x.1.length:Int)=1 by omega),if_neg h2]
  · rw[if_neg h1,if_neg h1]
theorem rrdn_ev (s:ByteArray):Evt (fun k=>toponymref18_Rdn.f k s) (rdnR (refR (B s))):=by
  refine Evt.of_eq (Evt.bind (rparse_ev s) (g:=fun k bt1=>some (rdnR bt1)) (Evt.now _)) fun k=>?_
  simp only[toponymref18_Rdn.f]
  congr 1
  funext x
  unfold rdnR
  by_cases h1:x.2=0
  · rw[if_pos h1,if_pos h1]
    by_cases h2:x.1.length=1
    · rw[if_pos (show(x.1.length:Int)=1 by omega),if_pos (show 0<(x.1.length:Int) by omega),if_pos h2]
    · rw[if_neg (show ¬ (x.1.length:Int)=1 by omega),if_neg h2]
  · rw[if_neg h1,if_neg h1]
theorem rdnR_few (x:List (List S53) × Int) (h:few x.1):few [(rdnR x).1]:=by
  refine⟨by simp,fun r hr=>?_⟩
  have:r=(rdnR x).1:=by simpa using hr
  subst this
  unfold rdnR
  split
  · split
    · rename_i h1 h2
      refine h.2 _ ?_
      cases hx:x.1 with
      |nil=>rw[hx] at h2;simp at h2
      |cons a t=>simp[rd_L2]
    · exact⟨by simp,fun x hx=>by simp at hx⟩
  · exact⟨by simp,fun x hx=>by simp at hx⟩
theorem awake_ev:Evt (fun k=>toponymlaw18_awake.f k) true:=Evt.mono_ (k:=60) (fun k=>toponymlaw18_awake.mono k) (by decide+kernel)
end Go.Proofs.Ytapinanmmhdpcaa.DnA
