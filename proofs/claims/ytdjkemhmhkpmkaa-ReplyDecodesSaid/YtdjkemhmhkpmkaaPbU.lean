import Derived.Test.YtdjkemhmhkpmkaaPbT
import Derived.Test.YtdjkemhmhkpmkaaGM3
import Derived.Test.YtdjkemhmhkpmkaaGAF53
import Derived.Test.YtdjkemhmhkpmkaaGM2
/- Plain laws of elements: what the document reads out of bytes is what the program reads. -/
namespace Go.Proofs.Ytdjkemhmhkpmkaa.PbA
open Go Go.RowKit Go.Proofs.Ytdjkemhmhkpmkaa.GA Go.Proofs.Ytdjkemhmhkpmkaa.OA Go.Proofs.Ytdjkemhmhkpmkaa.PuE Go.Proofs.YtdjkemhmhkpmkaaW.PrintWords Go.Proofs.YtdjkemhmhkpmkaaW.PrintLast Go.Proofs.YtdjkemhmhkpmkaaW.PrintMore
set_option linter.unusedVariables false
set_option linter.unusedSimpArgs false
def hdR (t:UInt8):Except Int (Nat × Nat)→Int × Int × Int
 |.error x=>(0,0,x)
 |.ok (m,h)=>(((1+h:Nat):Int),(m:Int),0)
theorem rhead_eq (s:ByteArray) (i:Nat) (hs:s.size≤20000) (t:UInt8) (l:List UInt8) (hd:(B s).drop i=t::l):
  toponymref15_head.f s (i:Int)=some (if t.toNat % 32=31 then(0,0,151) else hdR t (szd l)):=by
 obtain⟨h1,h2,h3⟩:=drop_cons hd
 have ht:=t.toNat_lt
 have hll:l.length=s.size - (i+1):=by rw[← h3,List.length_drop,len_B]
 have w0:Veil (wrap64 ((s.size:Int) - (i:Int))=((1+l.length:Nat):Int)):=⟨(w64 _ (by omega)).trans (by omega)⟩
 have w1:Veil (wrap64 ((i:Int)+1)=((i+1:Nat):Int)):=⟨(w64 _ (by omega)).trans (by omega)⟩
 have w2:Veil (wrap64 ((i:Int)+2)=((i+2:Nat):Int)):=⟨(w64 _ (by omega)).trans (by omega)⟩
 have w3:Veil (wrap64 ((i:Int)+3)=((i+3:Nat):Int)):=⟨(w64 _ (by omega)).trans (by omega)⟩
 have tm:Int.tmod ((t.toNat:Nat):Int) 32=((t.toNat % 32:Nat):Int):=rfl
 unfold toponymref15_head.f
 simp only[w0.out,w1.out,w2.out,w3.out,h2,tm]
 clear w0 w1 w2 w3 h2 tm
 rw[if_neg (by omega),if_pos (by omega),if_pos (by omega)]
 by_cases c1:t.toNat % 32=31
 ·rw[if_pos (by omega),if_pos c1]
 rw[if_neg (by omega),if_neg c1]
 cases l with
 |nil=>rw[if_pos (by simp)];rfl
 |cons c l2=>
  obtain⟨g1,g2,g3⟩:=drop_cons h3
  have hc:=c.toNat_lt
  have hl2:l2.length=s.size - (i+2):=by rw[← g3,List.length_drop,len_B]
  have hlen:(c::l2).length=l2.length+1:=rfl
  have wc:Veil (wrap64 ((c.toNat:Nat):Int)=(c.toNat:Int)):=⟨w64 _ (by omega)⟩
  rw[if_neg (by rw[hlen];omega),if_pos (by omega),if_pos (by omega),g2,wc.out]
  clear wc g2
  by_cases d1:c.toNat<128
  ·rw[if_pos (by omega)]
   simp only[szd,if_pos d1]
   rfl
  rw[if_neg (by omega)]
  by_cases d2:c.toNat<129
  ·rw[if_pos (by omega)]
   simp only[szd,if_neg d1,if_pos d2]
   rfl
  rw[if_neg (by omega)]
  by_cases d3:c.toNat>130
  ·rw[if_pos (by omega)]
   simp only[szd,if_neg d1,if_neg d2,if_pos d3]
   rfl
  rw[if_neg (by omega)]
  have w4:wrap64 ((c.toNat:Int) - 126)=(c.toNat:Int) - 126:=w64 _ (by omega)
  rw[w4]
  clear w4
  by_cases d4:c.toNat - 128>l2.length
  ·rw[if_pos (by rw[hlen];omega)]
   simp only[szd,if_neg d1,if_neg d2,if_neg d3,if_pos d4]
   rfl
  rw[if_neg (by rw[hlen];omega)]
  cases l2 with
  |nil=>exact absurd d4 (by simp;omega)
  |cons x l3=>
   obtain⟨k1,k2,k3⟩:=drop_cons g3
   have hx:=x.toNat_lt
   have wx:Veil (wrap64 ((x.toNat:Nat):Int)=(x.toNat:Int)):=⟨w64 _ (by omega)⟩
   have k2':Veil (bt s ((i+2:Nat):Int)=(x.toNat:Int)):=⟨k2⟩
   clear k2
   by_cases d5:c.toNat=129
   ·have d5': ¬ c.toNat=130:=by omega
    rw[if_pos (show(c.toNat:Int)=129 by omega),if_pos (by omega),if_pos (by omega),k2'.out]
    simp only[szd,if_neg d1,if_neg d2,if_neg d3,if_neg d4,if_neg d5',List.getD_cons_zero,lenB_len]
    by_cases d6:x.toNat<128
    ·have e1:((x.toNat:Nat):Int)<128:=by omega
     simp only[if_pos e1,if_pos d6,if_neg (show ¬ (1:Nat)=2 by decide),hdR]
    ·have d7:x.toNat<256:=by omega
     have d8: ¬ ((x.toNat:Nat):Int)<128:=by omega
     have d9: ¬ ((c.toNat:Nat):Int)=130:=by omega
     simp only[if_neg d8,if_neg d9,wx.out,if_neg d6,if_pos d7,if_true]
     rfl
   ·have d5':c.toNat=130:=by omega
    rw[if_neg (show ¬ (c.toNat:Int)=129 by omega),if_pos (show(c.toNat:Int)=130 by omega),if_pos (by omega),if_pos (by omega),k2'.out]
    simp only[szd,if_neg d1,if_neg d2,if_neg d3,if_neg d4,if_pos d5',List.getD_cons_zero,lenB_len]
    cases l3 with
    |nil=>exact absurd d4 (by simp;omega)
    |cons y l4=>
     obtain⟨q1,q2,q3⟩:=drop_cons k3
     have hy:=y.toNat_lt
     have q2':Veil (bt s ((i+3:Nat):Int)=(y.toNat:Int)):=⟨q2⟩
     clear q2
     have wy:Veil (wrap64 ((y.toNat:Nat):Int)=(y.toNat:Int)):=⟨w64 _ (by omega)⟩
     simp only[List.getD_cons_succ,List.getD_cons_zero]
     by_cases d6:x.toNat=0
     ·rw[if_pos (by omega),if_pos (show x.toNat*256+y.toNat<256 by omega)]
      by_cases d7:x.toNat*256+y.toNat<128
      ·simp[d7,hdR]
      ·simp[d7,hdR]
     ·rw[if_neg (by omega),if_pos (by omega),if_pos (by omega),q2'.out,wx.out,wy.out]
      have wz:Veil (wrap64 (256*(x.toNat:Int))=256*(x.toNat:Int)):=⟨w64 _ (by omega)⟩
      have wv:Veil (wrap64 (256*(x.toNat:Int)+(y.toNat:Int))=((x.toNat*256+y.toNat:Nat):Int)):=⟨(w64 _ (by omega)).trans (by omega)⟩
      rw[wz.out,wv.out,if_neg (show ¬ x.toNat*256+y.toNat<128 by omega),if_neg (show ¬ x.toNat*256+y.toNat<256 by omega),if_pos rfl]
      rfl
theorem rhead_nil (s:ByteArray) (i:Nat) (hs:s.size≤20000) (hi:i≤s.size) (hd:(B s).drop i=[]):toponymref15_head.f s (i:Int)=some (0,0,150):=by
 have:=drop_nil hd
 have w0:wrap64 ((s.size:Int) - (i:Int))=0:=(w64 _ (by omega)).trans (by omega)
 unfold toponymref15_head.f
 rw[w0,if_pos (by omega)]
theorem rall_of (n:Nat) (v:Int) (s:ByteArray) (hs:s.size≤20000) (hn:n=0→s.size=0)
  (ht:∀ i,i<s.size→Evt (fun k=>toponymref15_take.f k s (i:Int) v) (tkR i (tk n ((B s).drop i)))) (hz:∀ l x,l≠[]→tk n l=.error x→n≠0→x≠0):
  Evt (fun k=>toponymref15_all.f k s v) (svR [] (sv (tk n) (B s).length (B s))):=by
 have loop:∀ (j i:Nat) (acc:List S57),i≤s.size→s.size - i≤j→acc.length≤i→Evt (fun k=>toponymref15_all.l0 k acc (i:Int) s v) (svR acc (sv (tk n) ((B s).drop i).length ((B s).drop i))):=by
  intro j
  induction j with
  |zero=>
   intro i acc hi hj hacc
   have hd:(B s).drop i=[]:=List.drop_eq_nil_of_le (by rw[len_B];omega)
   refine Evt.step ?_
   simp only[toponymref15_all.l0,if_neg (show ¬ (i:Int)<(s.size:Int) by omega),hd,sv,svR,List.append_nil]
   exact Evt.now _
  |succ j ih=>
   intro i acc hi hj hacc
   by_cases hlt:i<s.size
   ·have hne:(B s).drop i≠[]:=by
     intro h
     have:=drop_nil h
     omega
    have hn0:n≠0:=fun h=>by have:=hn h;omega
    refine Evt.step ?_
    simp only[toponymref15_all.l0,if_pos (show(i:Int)<(s.size:Int) by omega)]
    refine Evt.bind (ht i hlt) ?_
    cases hk:tk n ((B s).drop i) with
    |error x=>
     have hx: ¬ x=0:=hz _ _ hne hk hn0
     rw[sv_err hne hk]
     exact Evt.ifn hx (Evt.now _)
    |ok p=>
     obtain⟨e,c⟩:=p
     obtain⟨h1,h2,_⟩:=tk_sound n _ _ _ hk
     rw[List.length_drop,len_B] at h1
     rw[sv_step hk,List.drop_drop]
     have e2:=ih (i+c) (acc++[e]) (by omega) (by omega) (by simp;omega)
     have hcap:acc.length<2199023255552:=by omega
     have he:(⟨e.f0,e.f1,e.f2,e.f3,e.f4⟩:S57)=e:=eta e
     simp only[tkR,if_true,if_pos hcap,Option.bind_some]
     rw[he]
     refine e2.val ?_
     cases sv (tk n) ((B s).drop (i+c)).length ((B s).drop (i+c)) with
     |error x=>rfl
     |ok es=>simp[svR]
   ·have hd:(B s).drop i=[]:=List.drop_eq_nil_of_le (by rw[len_B];omega)
    refine Evt.step ?_
    simp only[toponymref15_all.l0,if_neg (show ¬ (i:Int)<(s.size:Int) by omega),hd,sv,svR,List.append_nil]
    exact Evt.now _
 refine Evt.step ?_
 simp only[toponymref15_all.f]
 have:=loop s.size 0 [] (by omega) (by omega) (by simp)
 rw[List.drop_zero] at this
 exact this
theorem rtake_ev:∀ (n:Nat),n≤11→∀ (s:ByteArray) (i:Nat),s.size≤20000→i≤s.size→Evt (fun k=>toponymref15_take.f k s (i:Int) ((12 - n:Nat):Int)) (tkR i (tk (n+1) ((B s).drop i))):=by
 intro n
 induction n with
 |zero=>
  intro _ s i hs hi
  exact take_of 0 (by omega) s i hs hi (fun s' hs' h0=>rall_of 0 _ s' hs' (fun _=>h0 rfl) (fun i hi=>by have:=h0 rfl;omega) (fun l x _ _ h=>absurd rfl h))
 |succ n ih=>
  intro hn s i hs hi
  refine take_of (n+1) hn s i hs hi (fun s' hs' _=>rall_of (n+1) _ s' hs' (fun h=>by omega) (fun i hi=>?_) (fun l x _ hk _=>tk_nz n l x hk))
  rw[show((12 - (n+1):Nat):Int)+1=((12 - n:Nat):Int) by omega]
  exact ih (by omega) s' i hs' (by omega)
where
 take_of (n:Nat) (hn11:n≤11) (s:ByteArray) (i:Nat) (hs:s.size≤20000) (hi:i≤s.size) (hsv:∀ s':ByteArray,s'.size≤20000→(n=0→s'.size=0)→Evt (fun k=>toponymref15_all.f k s' (((12 - n:Nat):Int)+1)) (svR [] (sv (tk n) (B s').length (B s')))):
   Evt (fun k=>toponymref15_take.f k s (i:Int) ((12 - n:Nat):Int)) (tkR i (tk (n+1) ((B s).drop i))):=by
  refine Evt.step ?_
  simp only[toponymref15_take.f]
  cases hd:(B s).drop i with
  |nil=>
   rw[rhead_nil s i hs hi hd]
   simp only[Option.bind_some]
   exact Evt.ifn (by decide) (Evt.now _)
  |cons t l=>
   obtain⟨h1,h2,h3⟩:=drop_cons hd
   have ht:=t.toNat_lt
   have hll:l.length=s.size - (i+1):=by rw[← h3,List.length_drop,len_B]
   rw[rhead_eq s i hs t l hd,tk,h2]
   simp only[Option.bind_some]
   by_cases c1:t.toNat % 32=31
   ·rw[if_pos c1,if_pos c1]
    exact Evt.ifn (by decide) (Evt.now _)
   ·rw[if_neg c1,if_neg c1]
    cases hz:szd l with
    |error x=>
     have hx: ¬ x=0:=szd_err hz
     exact Evt.ifn hx (Evt.now _)
    |ok p=>
     obtain⟨m,hh⟩:=p
     obtain⟨z1,z2,z3,z4⟩:=szd_ok hz
     have w0:Veil (wrap64 ((s.size:Int) - (i:Int))=((1+l.length:Nat):Int)):=⟨(w64 _ (by omega)).trans (by omega)⟩
     have w1:Veil (wrap64 (((1+l.length:Nat):Int) - ((1+hh:Nat):Int))=((l.length - hh:Nat):Int)):=⟨(w64 _ (by omega)).trans (by omega)⟩
     have w2:Veil (wrap64 (((1+hh:Nat):Int)+(m:Int))=((1+hh+m:Nat):Int)):=⟨(w64 _ (by omega)).trans (by omega)⟩
     have w3:Veil (wrap64 ((i:Int)+((1+hh:Nat):Int))=((i+1+hh:Nat):Int)):=⟨(w64 _ (by omega)).trans (by omega)⟩
     have w4:Veil (wrap64 (((i+1+hh:Nat):Int)+(m:Int))=((i+1+hh+m:Nat):Int)):=⟨(w64 _ (by omega)).trans (by omega)⟩
     have w5:Veil (wrap64 ((t.toNat:Nat):Int)=((t.toNat:Nat):Int)):=⟨w64 _ (by omega)⟩
     have w6:Veil (wrap64 (((t.toNat / 64:Nat)):Int)=((t.toNat / 64:Nat):Int)):=⟨w64 _ (by omega)⟩
     have t1:Int.tdiv ((t.toNat:Nat):Int) 32=((t.toNat / 32:Nat):Int):=rfl
     have t2:Int.tdiv ((t.toNat:Nat):Int) 64=((t.toNat / 64:Nat):Int):=rfl
     have t3:Int.tmod ((t.toNat:Nat):Int) 32=((t.toNat % 32:Nat):Int):=rfl
     have t4:(((t.toNat / 32:Nat)):Int) % 256=((t.toNat / 32:Nat):Int):=by omega
     have t5:Int.tmod ((t.toNat / 32:Nat):Int) 2=((t.toNat / 32 % 2:Nat):Int):=rfl
     refine Evt.ifp rfl ?_
     simp only[hdR,w0.out,w1.out,w2.out,w3.out,w4.out,w5.out,t1,t2,t3,t4,t5,w6.out]
     by_cases c2:m>l.length - hh
     ·simp only[if_pos (show(m:Int)>((l.length - hh:Nat):Int) by omega),if_pos c2,tkR]
      exact Evt.now _
     ·simp only[if_neg (show ¬ (m:Int)>((l.length - hh:Nat):Int) by omega),if_neg c2]
      by_cases c3:1+hh+m>4000
      ·simp only[if_pos (show((1+hh+m:Nat):Int)>4000 by omega),if_pos c3,tkR]
       exact Evt.now _
      ·have hbody:s.extract (i+1+hh) (i+1+hh+m)=A8 ((l.drop hh).take m):=by
        rw[extract_B,← h3,List.drop_drop]
       have n1:(((i+1+hh:Nat):Int)).toNat=i+1+hh:=rfl
       have n2:(((i+1+hh+m:Nat):Int)).toNat=i+1+hh+m:=rfl
       have hnx:((i+(1+hh+m):Nat):Int)=((i+1+hh+m:Nat):Int):=by omega
       simp only[if_neg (show ¬ ((1+hh+m:Nat):Int)>4000 by omega),if_neg c3,if_pos (show 0≤(i:Int) by omega),if_pos (show(i:Int)<(s.size:Int) by omega),if_pos (show 0≤((i+1+hh:Nat):Int) by omega),if_pos (show((i+1+hh:Nat):Int)≤((i+1+hh+m:Nat):Int) by omega),if_pos (show((i+1+hh+m:Nat):Int)≤(s.size:Int) by omega),n1,n2,hbody]
       by_cases c4:t.toNat / 32 % 2=0
       ·simp only[if_neg (show ¬ ((t.toNat / 32 % 2:Nat):Int)=1 by omega),if_pos c4,tkR,hnx]
        exact Evt.now _
       ·simp only[if_pos (show((t.toNat / 32 % 2:Nat):Int)=1 by omega),if_neg c4]
        have hbl:((l.drop hh).take m).length=m:=by rw[List.length_take,List.length_drop];omega
        have hinc:Veil (wrap64 (((12 - n:Nat):Int)+1)=((12 - n:Nat):Int)+1):=⟨w64 _ (by omega)⟩
        have es:=fun h0=>hsv (A8 ((l.drop hh).take m)) (by rw[size_A8,hbl];omega) h0
        rw[B_A8] at es
        rw[hinc.out]
        by_cases c5:n=0
        ·subst c5
         simp only[if_pos (show((12 - 0:Nat):Int)=12 by rfl)]
         by_cases c6:0<m
         ·simp only[if_pos (show(m:Int)>0 by omega),true_and,if_pos c6,tkR]
          exact Evt.now _
         ·simp only[if_neg (show ¬ (m:Int)>0 by omega),true_and,if_neg c6]
          refine Evt.bind (es (fun _=>by rw[size_A8,hbl];omega)) ?_
          cases hs2:sv (tk 0) ((l.drop hh).take m).length ((l.drop hh).take m) with
          |error x=>
           have hm0:(l.drop hh).take m=[]:=List.eq_nil_of_length_eq_zero (by omega)
           rw[hm0] at hs2
           simp[sv] at hs2
          |ok es2=>
           simp only[svR,if_true,List.nil_append,tkR,hnx]
           exact Evt.now _
        ·simp only[if_neg (show ¬ ((12 - n:Nat):Int)=12 by omega),if_neg (show ¬ (n=0∧0<m) from fun h=>c5 h.1)]
         refine Evt.bind (es (fun h=>absurd h c5)) ?_
         cases hs2:sv (tk n) ((l.drop hh).take m).length ((l.drop hh).take m) with
         |error x=>
          obtain⟨n',rfl⟩:∃ n',n=n'+1:=⟨n - 1,by omega⟩
          have hx: ¬ x=0:=sv_nz (fun l x hk _ _=>tk_nz n' l x hk) (by omega) _ _ _ (Nat.le_refl _) hs2
          exact Evt.ifn hx (Evt.now _)
         |ok es2=>
          simp only[svR,if_true,List.nil_append,tkR,hnx]
          exact Evt.now _
theorem rDecode_ev (s:ByteArray) (hs:s.size≤20000):Evt (fun k=>toponymref15_Decode.f k s 0) (tkR 0 (tk 12 (B s))):=by
 have h:=rtake_ev 11 (by omega) s 0 hs (by omega)
 rw[List.drop_zero] at h
 unfold toponymref15_Decode.f
 simp only[if_neg (show ¬ (0:Int)<0 by omega),if_neg (show ¬ (0:Int)>(s.size:Int) by omega)]
 exact Evt.bind h (Evt.now _)
end Go.Proofs.Ytdjkemhmhkpmkaa.PbA
