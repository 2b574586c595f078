import Derived.Test.YtcokpnajkkjclaaSqA
import Derived.Test.YtcokpnajkkjclaaGM4
import Derived.Test.YtcokpnajkkjclaaGM4
/- Plain law of SpanLast. -/
namespace Go.Proofs.Ytcokpnajkkjclaa.SpA
open Go Go.RowKit Go.Proofs.Ytcokpnajkkjclaa.GA Go.Proofs.Ytcokpnajkkjclaa.PuE Go.Proofs.YtcokpnajkkjclaaW.PrintWords Go.Proofs.YtcokpnajkkjclaaW.PrintLast Go.Proofs.YtcokpnajkkjclaaW.PrintMore
set_option linter.unusedVariables false
set_option linter.unusedSimpArgs false
theorem awakeL:Evt (fun k=>toponymlaw02_awake.f k) true:=Evt.mono_ (k:=60) toponymlaw02_awake.mono (by decide+kernel)
theorem i32_inL (r:Int) (h:(Lit.int .i32 r).wf=true): -2147483648≤r∧r≤2147483647:=by
 simp[Lit.wf,IntKind.min,IntKind.max,IntKind.bits,IntKind.signed] at h
 exact h
theorem last_l0 (l t:List S37) (hn:l.length≤200) (r:Int) (hE:Evt (fun k=>toponymlaw02_SpanLast.l0 k (back.look r 0 (back.seq l l.length)) (l.length:Int) r l t) true):∀ m i,m=l.length - i→i≤l.length→
  Evt (fun k=>toponymlaw02_SpanLast.l0 k (back.look r 0 (back.seq l i)) i r l t) true:=by
 intro m
 induction m with
 |zero=>
  intro i hm hi
  obtain rfl:i=l.length:=by omega
  exact hE
 |succ m ih=>
  intro i hm hi
  have e1:wrap64 ((i:Int)+1)=((i+1:Nat):Int):=by rw[w64 _ (by omega)];omega
  have hgo:=ih (i+1) (by omega) (by omega)
  have e:back.seq l (i+1)=((i:Int),A l i)::back.seq l i:=rfl
  rw[e] at hgo
  unfold back.look at hgo
  refine Evt.step ?_
  simp only[toponymlaw02_SpanLast.l0,rdA,e1]
  clear e1
  refine Evt.ifp (by omega) (Evt.ifp (by omega) ?_)
  by_cases h0:(A l i).f0≤r
  ·by_cases h1:r≤(A l i).f1
   ·rw[if_pos (by simp[back.hit,h0,h1])] at hgo
    exact Evt.ifp h0 (Evt.ifp h1 hgo)
   ·rw[if_neg (by simp[back.hit,h1])] at hgo
    exact Evt.ifp h0 (Evt.ifn h1 hgo)
  ·rw[if_neg (by simp[back.hit,h0])] at hgo
   exact Evt.ifn h0 hgo
theorem spanLast (l:List S37) (r:Int) {p0:Prop} (_:p0) (hr0:(Lit.int .i32 r).wf=true):∃ k,toponymlaw02_SpanLast.f k l r=some true:=by
 have hr:=i32_inL r hr0
 refine Evt.get (f:=fun k=>toponymlaw02_SpanLast.f k l r) ?_
 unfold toponymlaw02_SpanLast.f
 have ha:Evt (fun k=>(toponymlaw02_awake.f k).bind fun t=>some t) true:=Evt.bind awakeL (Evt.now _)
 by_cases hl:(l.length:Int)>700
 ·exact Evt.ifp hl ha
 refine Evt.ifn hl ?_
 rcases build l with⟨t,hn,hg,⟨ht,hlen,hA⟩,hE⟩|⟨_,hE⟩
 ·refine Evt.bind hE (Evt.ifp rfl ?_)
  refine last_l0 l t hn r ?_ _ 0 rfl (by omega)
  have hc:=check_tab t (by omega) ht
  obtain⟨v,hv,hF⟩:=find_at t ht (by omega) hc r hr
  have e:v=back.look r 0 (back.seq l l.length):=At.uniq ht hv (hA r)
  refine Evt.step ?_
  simp only[toponymlaw02_SpanLast.l0]
  exact Evt.ifn (by omega) (Evt.bind hc (Evt.ifp rfl (Evt.bind hF (Evt.ifp e ha))))
 ·refine Evt.bind hE (Evt.ifn (by decide) (Evt.ifp rfl (Evt.ifp rfl ha)))
end Go.Proofs.Ytcokpnajkkjclaa.SpA
