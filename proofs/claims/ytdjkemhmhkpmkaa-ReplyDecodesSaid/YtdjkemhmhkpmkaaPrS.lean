import Derived.Test.YtdjkemhmhkpmkaaPuEv
import Derived.Test.YtdjkemhmhkpmkaaOA
import Derived.Test.YtdjkemhmhkpmkaaGM1
import Derived.Test.YtdjkemhmhkpmkaaGM2
import Derived.Test.YtdjkemhmhkpmkaaGM2
import Derived.Test.YtdjkemhmhkpmkaaGM3
import Derived.Test.YtdjkemhmhkpmkaaGM2
/- Plain laws of two replies held against each other, and of how few. -/
namespace Go.Proofs.Ytdjkemhmhkpmkaa.PrS
open Go Go.RowKit Go.Proofs.Ytdjkemhmhkpmkaa.GA Go.Proofs.Ytdjkemhmhkpmkaa.OA Go.Proofs.Ytdjkemhmhkpmkaa.PuE Go.Proofs.YtdjkemhmhkpmkaaW.PrintWords Go.Proofs.YtdjkemhmhkpmkaaW.PrintLast Go.Proofs.YtdjkemhmhkpmkaaW.PrintMore
set_option linter.unusedVariables false
set_option linter.unusedSimpArgs false
section
variable {α : Type}
theorem Evt.ite2 {c:Prop} [Decidable c] {f g:Nat→Option α} {v u: α} (h1:c→Evt f v) (h2: ¬ c→Evt g u):Evt (fun k=>if c then f k else g k) (if c then v else u):=by
 by_cases h:c
 ·simp only[if_pos h];exact h1 h
 ·simp only[if_neg h];exact h2 h
theorem next_len (p:List α) (y: α) (r:List α) (h:(p++y::r).length≤140737488351232):wrap64 ((p.length:Int)+1)=((p++[y]).length:Int):=by
 simp at h ⊢
 rw[w64 _ (by omega)]
theorem lt_mid (p:List α) (y: α) (r:List α):(p.length:Int)<((p++y::r).length:Int):=by
 simp;omega
theorem nlt_end (p:List α): ¬ (p.length:Int)<((p++[]).length:Int):=by simp
theorem snoc (p:List α) (y: α) (r:List α):p++y::r=(p++[y])++r:=by simp
end
theorem rd46 (p:List S46) (y:S46) (r:List S46):rd_T46 (p++y::r) (p.length:Int)=y:=by
 unfold rd_T46
 simp
theorem rdO (p:List ByteArray) (y:ByteArray) (r:List ByteArray):rdOf ByteArray.empty (p++y::r) (p.length:Int)=y:=by
 unfold rdOf
 simp
/-! ### texts -/
def tx:List ByteArray→List ByteArray→Bool
 |a::l,b::m=>if a.toList=b.toList then tx l m else false
 |_,_=>true
def txf (l m:List ByteArray):Bool:=if (l.length:Int)=(m.length:Int) then tx l m else false
theorem rts_l0:∀ (r s p q:List ByteArray),p.length=q.length→r.length=s.length→(p++r).length≤140737488351232→Evt (fun k=>toponymref16_SameTexts.l0 k (p.length:Int) (p++r) (q++s)) (tx r s)
 |[],[],p,q,hp,hr,hb=>by
  refine Evt.step ?_
  simp only[toponymref16_SameTexts.l0,if_neg (nlt_end p)]
  exact Evt.now _
 |y::r,z::s,p,q,hp,hr,hb=>by
  have hi:=rts_l0 r s (p++[y]) (q++[z]) (by simp[hp]) (by simpa using hr) (by rw[← snoc];exact hb)
  rw[← snoc,← snoc] at hi
  refine Evt.step ?_
  have hz:rdOf ByteArray.empty (q++z::s) (p.length:Int)=z:=by rw[hp];exact rdO q z s
  have hl:(p.length:Int)<((q++z::s).length:Int):=by rw[hp];exact lt_mid q z s
  simp only[toponymref16_SameTexts.l0,if_pos (lt_mid p y r),if_pos (Int.natCast_nonneg p.length),if_pos hl,rdO,hz,next_len p y r hb]
  exact Evt.ite2 (fun _=>hi) (fun _=>Evt.now _)
theorem rts_ev (l m:List ByteArray) (h:l.length≤140737488351232):Evt (fun k=>toponymref16_SameTexts.f k l m) (txf l m):=
 Evt.ite2 (fun e=>rts_l0 l m [] [] rfl (Int.ofNat.inj e) (by simpa using h)) (fun _=>Evt.now _)
/-! ### attributes -/
def e46 (a b:S46):Bool:=if a.f0.toList=b.f0.toList then txf a.f1 b.f1 else false
def vs:List S46→List S46→Bool
 |a::l,b::m=>if e46 a b=true then vs l m else false
 |_,_=>true
def vsf (l m:List S46):Bool:=if (l.length:Int)=(m.length:Int) then vs l m else false
theorem ref_l0:∀ (r s p q:List S46),p.length=q.length→r.length=s.length→(p++r).length≤140737488351232→(∀ y ∈ r,y.f1.length≤140737488351232)→Evt (fun k=>toponymref26_SameValues.l0 k (p.length:Int) (p++r) (q++s)) (vs r s)
 |[],[],p,q,hp,hr,hb,_=>by
  refine Evt.step ?_
  simp only[toponymref26_SameValues.l0,if_neg (nlt_end p)]
  exact Evt.now _
 |y::r,z::s,p,q,hp,hr,hb,hy=>by
  have hi:=ref_l0 r s (p++[y]) (q++[z]) (by simp[hp]) (by simpa using hr) (by rw[← snoc];exact hb) (fun u hu=>hy u (by simp[hu]))
  rw[← snoc,← snoc] at hi
  refine Evt.step ?_
  have hz:rd_T46 (q++z::s) (p.length:Int)=z:=by rw[hp];exact rd46 q z s
  have hl:(p.length:Int)<((q++z::s).length:Int):=by rw[hp];exact lt_mid q z s
  simp only[toponymref26_SameValues.l0,if_pos (lt_mid p y r),if_pos (Int.natCast_nonneg p.length),if_pos hl,rd46,hz,next_len p y r hb]
  by_cases h:y.f0.toList=z.f0.toList
  ·simp only[if_pos h]
   refine Evt.bind (rts_ev y.f1 z.f1 (hy y (by simp))) ?_
   have he:e46 y z=txf y.f1 z.f1:=by unfold e46;rw[if_pos h]
   show Evt _ (if e46 y z=true then vs r s else false)
   rw[he]
   exact Evt.ite2 (fun _=>hi) (fun _=>Evt.now _)
  ·simp only[if_neg h]
   have he:e46 y z=false:=by unfold e46;rw[if_neg h]
   show Evt _ (if e46 y z=true then vs r s else false)
   rw[he]
   exact Evt.now _
theorem ref_ev (l m:List S46) (h:l.length≤140737488351232) (hy:∀ y ∈ l,y.f1.length≤140737488351232):Evt (fun k=>toponymref26_SameValues.f k l m) (vsf l m):=
 Evt.ite2 (fun e=>ref_l0 l m [] [] rfl (Int.ofNat.inj e) (by simpa using h) hy) (fun _=>Evt.now _)
/-! ### replies -/
def sm (a b:S27):Bool:=if a.f0=b.f0 then(if a.f1=b.f1 then(if (a.f2==b.f2)=true then(if a.f3=b.f3 then(if a.f4.toList=b.f4.toList then(if a.f5.toList=b.f5.toList then(if a.f6.toList=b.f6.toList then vsf a.f7 b.f7 else false) else false) else false) else false) else false) else false) else false
theorem refSame (a b:S27) (h:a.f7.length≤140737488351232) (hy:∀ y ∈ a.f7,y.f1.length≤140737488351232):Evt (fun k=>toponymref27_Same.f k a.f0 a.f1 a.f2 a.f3 a.f4 a.f5 a.f6 a.f7 b.f0 b.f1 b.f2 b.f3 b.f4 b.f5 b.f6 b.f7) (sm a b):=by
 unfold toponymref27_Same.f sm
 refine Evt.ite2 (fun _=>?_) (fun _=>Evt.now _)
 refine Evt.ite2 (fun _=>?_) (fun _=>Evt.now _)
 refine Evt.ite2 (fun _=>?_) (fun _=>Evt.now _)
 refine Evt.ite2 (fun _=>?_) (fun _=>Evt.now _)
 refine Evt.ite2 (fun _=>?_) (fun _=>Evt.now _)
 refine Evt.ite2 (fun _=>?_) (fun _=>Evt.now _)
 refine Evt.ite2 (fun _=>?_) (fun _=>Evt.now _)
 exact Evt.bind (ref_ev a.f7 b.f7 h hy) (Evt.now _)
/-! ### how few -/
theorem few_ev (a:S27) (h:a.f7.length≤140737488351232) (hy:∀ y ∈ a.f7,y.f1.length≤140737488351232):∃ b,Evt (fun k=>toponymlaw27_few.f k a.f0 a.f1 a.f2 a.f3 a.f4 a.f5 a.f6 a.f7) b:=by
 have loop:∀ (r p:List S46),a.f7=p++r→∃ b,Evt (fun k=>toponymlaw27_few.l0 k (p.length:Int) a.f7) b:=by
  intro r
  induction r with
  |nil=>
   intro p hp
   refine⟨true,Evt.step ?_⟩
   rw[hp]
   simp only[toponymlaw27_few.l0,if_neg (nlt_end p)]
   exact Evt.now _
  |cons y r ih=>
   intro p hp
   obtain⟨b,hb⟩:=ih (p++[y]) (by rw[hp,snoc])
   have hnx:=next_len p y r (by rw[← hp];exact h)
   have hyy:=hy y (by rw[hp];simp)
   have inner:∀ (u s:List ByteArray),y.f1=s++u→∃ b,Evt (fun k=>toponymlaw27_few.l1 k (s.length:Int) a.f7 (p.length:Int)) b:=by
    intro u
    induction u with
    |nil=>
     intro s hs
     refine⟨b,Evt.step ?_⟩
     rw[hp] at hb ⊢
     have he: ¬ (s.length:Int)<(y.f1.length:Int):=by rw[hs];simp
     simp only[toponymlaw27_few.l1,if_pos (lt_mid p y r),if_pos (Int.natCast_nonneg p.length),rd46,if_neg he,hnx]
     exact hb
    |cons t u ih2=>
     intro s hs
     obtain⟨c,hc⟩:=ih2 (s++[t]) (by rw[hs,snoc])
     have hn2:=next_len s t u (by rw[← hs];exact hyy)
     have hl:(s.length:Int)<(y.f1.length:Int):=by rw[hs];exact lt_mid s t u
     by_cases hz:((rdOf ByteArray.empty y.f1 (s.length:Int)).size:Int)>2000
     ·refine⟨false,Evt.step ?_⟩
      rw[hp]
      simp only[toponymlaw27_few.l1,if_pos (lt_mid p y r),if_pos (Int.natCast_nonneg p.length),if_pos (Int.natCast_nonneg s.length),rd46,if_pos hl,if_pos hz]
      exact Evt.now _
     ·refine⟨c,Evt.step ?_⟩
      rw[hp] at hc ⊢
      simp only[toponymlaw27_few.l1,if_pos (lt_mid p y r),if_pos (Int.natCast_nonneg p.length),if_pos (Int.natCast_nonneg s.length),rd46,if_pos hl,if_neg hz,hn2]
      exact hc
   obtain⟨c,hc⟩:=inner y.f1 [] rfl
   by_cases h1:((y.f1).length:Int)>20
   ·refine⟨false,Evt.step ?_⟩
    rw[hp]
    simp only[toponymlaw27_few.l0,if_pos (lt_mid p y r),if_pos (Int.natCast_nonneg p.length),rd46,if_pos h1]
    exact Evt.now _
   ·by_cases h2:((y.f0).size:Int)>1000
    ·refine⟨false,Evt.step ?_⟩
     rw[hp]
     simp only[toponymlaw27_few.l0,if_pos (lt_mid p y r),if_pos (Int.natCast_nonneg p.length),rd46,if_neg h1,if_pos h2]
     exact Evt.now _
    ·refine⟨c,Evt.step ?_⟩
     rw[hp] at hc ⊢
     simp only[toponymlaw27_few.l0,if_pos (lt_mid p y r),if_pos (Int.natCast_nonneg p.length),rd46,if_neg h1,if_neg h2]
     exact hc
 obtain⟨b,hb⟩:=loop a.f7 [] rfl
 unfold toponymlaw27_few.f
 exact⟨_,Evt.ite2 (fun _=>Evt.now _) (fun _=>Evt.ite2 (fun _=>Evt.now _) (fun _=>Evt.ite2 (fun _=>Evt.now _) (fun _=>Evt.ite2 (fun _=>Evt.now _) (fun _=>hb))))⟩
theorem awake_:toponymlaw27_awake.f 60=some true:=by decide+kernel
theorem awake_ev:Evt (fun k=>toponymlaw27_awake.f k) true:=Evt.mono_ (fun k=>toponymlaw27_awake.mono k) awake_
theorem small {a:S27} (h:G27 a):a.f7.length≤140737488351232∧∀ y ∈ a.f7,y.f1.length≤140737488351232:=by
 cases h with
 |mk _ _ _ _ _ _ h7 h7'=>
  refine⟨by omega,fun y hy=>?_⟩
  cases h7' y hy with
  |mk _ h0 h1=>omega
end Go.Proofs.Ytdjkemhmhkpmkaa.PrS
