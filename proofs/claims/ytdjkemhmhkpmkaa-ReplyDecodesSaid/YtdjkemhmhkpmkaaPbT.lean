import Derived.Test.YtdjkemhmhkpmkaaPbD
import Derived.Test.YtdjkemhmhkpmkaaGM2
import Derived.Test.YtdjkemhmhkpmkaaGAF49
import Derived.Test.YtdjkemhmhkpmkaaGM1
/- Plain laws of elements: what the program's reading functions tell; what was laid is read so, what is read was laid so, parts are read as parts. -/
namespace Go.Proofs.Ytdjkemhmhkpmkaa.PbA
open Go Go.RowKit Go.Proofs.Ytdjkemhmhkpmkaa.GA Go.Proofs.Ytdjkemhmhkpmkaa.OA Go.Proofs.Ytdjkemhmhkpmkaa.PuE Go.Proofs.YtdjkemhmhkpmkaaW.PrintWords Go.Proofs.YtdjkemhmhkpmkaaW.PrintLast Go.Proofs.YtdjkemhmhkpmkaaW.PrintMore
set_option linter.unusedVariables false
set_option linter.unusedSimpArgs false
abbrev TR:=Int × Bool × Int × ByteArray × List S57 × Int × Int
def tkR (i:Nat):Except Int (S57 × Nat)→TR
 |.error x=>(0,false,0,(⟨#[]⟩:ByteArray),[],0,x)
 |.ok (e,c)=>(e.f0,e.f1,e.f2,e.f3,e.f4,((i+c:Nat):Int),0)
def svR (acc:List S57):Except Int (List S57)→List S57 × Int
 |.error x=>([],x)
 |.ok es=>(acc++es,0)
theorem eta (e:S57):(⟨e.f0,e.f1,e.f2,e.f3,e.f4⟩:S57)=e:=by cases e;rfl
theorem szd_err {l:List UInt8} {x:Int} (h:szd l=.error x):x≠0:=by
 cases l with
 |nil=>rw[szd] at h;injection h with h;omega
 |cons c l=>
  rw[szd] at h
  repeat' first
   |(split at h)
   |(injection h with h;omega)
   |(cases h)
theorem sv_nz {n:Nat} (hf:∀ l x,tk n l=.error x→l≠[]→n≠0→x≠0) (hn:n≠0):∀ (j:Nat) (l:List UInt8) (x:Int),l.length≤j→sv (tk n) j l=.error x→x≠0
 |_,[],x,_,h=>by simp[sv] at h
 |0,a::l,x,hl,h=>by simp at hl
 |j+1,a::l,x,hl,h=>by
  simp only[sv] at h
  cases hk:tk n (a::l) with
  |error y=>
   rw[hk] at h
   injection h with h
   subst h
   exact hf _ _ hk (by simp) hn
  |ok p=>
   obtain⟨e,c⟩:=p
   obtain⟨h1,h2,_⟩:=tk_sound n _ _ _ hk
   rw[hk] at h
   simp only at h
   cases hs:sv (tk n) j ((a::l).drop c) with
   |error y=>
    rw[hs] at h
    injection h with h
    subst h
    exact sv_nz hf hn j _ _ (by simp at hl ⊢;omega) hs
   |ok es=>rw[hs] at h;cases h
theorem tk_nz:∀ (n:Nat) (l:List UInt8) (x:Int),tk (n+1) l=.error x→x≠0
 |n,[],x,h=>by rw[tk] at h;injection h with h;omega
 |n,t::l,x,h=>by
  rw[tk] at h
  by_cases c1:t.toNat % 32=31
  ·rw[if_pos c1] at h;injection h with h;omega
  ·rw[if_neg c1] at h
   cases hz:szd l with
   |error y=>rw[hz] at h;injection h with h;rw[← h];exact szd_err hz
   |ok p=>
    obtain⟨m,hh⟩:=p
    rw[hz] at h
    simp only at h
    by_cases c2:m>l.length - hh
    ·rw[if_pos c2] at h;injection h with h;omega
    ·rw[if_neg c2] at h
     by_cases c3:1+hh+m>4000
     ·rw[if_pos c3] at h;injection h with h;omega
     ·rw[if_neg c3] at h
      by_cases c4:t.toNat / 32 % 2=0
      ·rw[if_pos c4] at h;cases h
      ·rw[if_neg c4] at h
       by_cases c5:n=0∧0<m
       ·rw[if_pos c5] at h;injection h with h;omega
       ·rw[if_neg c5] at h
        cases hs:sv (tk n) ((l.drop hh).take m).length ((l.drop hh).take m) with
        |ok es=>rw[hs] at h;cases h
        |error y=>
         rw[hs] at h
         injection h with h
         subst h
         cases n with
         |zero=>
          have hm:m=0:=by omega
          subst hm
          simp[sv] at hs
         |succ n=>exact sv_nz (fun l x hk _ _=>tk_nz n l x hk) (by omega) _ _ _ (Nat.le_refl _) hs
theorem several_of (n:Nat) (s:ByteArray) (hs:s.size≤20000) (hn:n=0→s.size=0)
  (ht:∀ i,i<s.size→Evt (fun k=>ber_take.f k s (i:Int) (n:Int)) (tkR i (tk n ((B s).drop i)))) (hz:∀ l x,l≠[]→tk n l=.error x→n≠0→x≠0):
  Evt (fun k=>ber_several.f k s (n:Int)) (svR [] (sv (tk n) (B s).length (B s))):=by
 have loop:∀ (j i:Nat) (acc:List S57),i≤s.size→s.size - i≤j→acc.length≤i→Evt (fun k=>ber_several.l0 k acc (i:Int) s (n:Int)) (svR acc (sv (tk n) ((B s).drop i).length ((B s).drop i))):=by
  intro j
  induction j with
  |zero=>
   intro i acc hi hj hacc
   have hd:(B s).drop i=[]:=List.drop_eq_nil_of_le (by rw[len_B];omega)
   refine Evt.step ?_
   simp only[ber_several.l0,if_neg (show ¬ (i:Int)<(s.size:Int) by omega),hd,sv,svR,List.append_nil]
   exact Evt.now _
  |succ j ih=>
   intro i acc hi hj hacc
   by_cases hlt:i<s.size
   ·have hne:(B s).drop i≠[]:=by
     intro h
     have:=drop_nil h
     omega
    have hn0:n≠0:=fun h=>by have:=hn h;omega
    refine Evt.step ?_
    simp only[ber_several.l0,if_pos (show(i:Int)<(s.size:Int) by omega)]
    refine Evt.bind (ht i hlt) ?_
    cases hk:tk n ((B s).drop i) with
    |error x=>
     have hx: ¬ x=0:=hz _ _ hne hk hn0
     rw[sv_err hne hk]
     exact Evt.ifn hx (Evt.now _)
    |ok p=>
     obtain⟨e,c⟩:=p
     obtain⟨h1,h2,_⟩:=tk_sound n _ _ _ hk
     rw[List.length_drop,len_B] at h1
     rw[sv_step hk,List.drop_drop]
     have e2:=ih (i+c) (acc++[e]) (by omega) (by omega) (by simp;omega)
     have hcap:acc.length<2199023255552:=by omega
     have he:(⟨e.f0,e.f1,e.f2,e.f3,e.f4⟩:S57)=e:=eta e
     simp only[tkR,if_true,if_pos hcap,Option.bind_some]
     rw[he]
     refine e2.val ?_
     cases sv (tk n) ((B s).drop (i+c)).length ((B s).drop (i+c)) with
     |error x=>rfl
     |ok es=>simp[svR]
   ·have hd:(B s).drop i=[]:=List.drop_eq_nil_of_le (by rw[len_B];omega)
    refine Evt.step ?_
    simp only[ber_several.l0,if_neg (show ¬ (i:Int)<(s.size:Int) by omega),hd,sv,svR,List.append_nil]
    exact Evt.now _
 refine Evt.step ?_
 simp only[ber_several.f]
 have:=loop s.size 0 [] (by omega) (by omega) (by simp)
 rw[List.drop_zero] at this
 exact this
theorem extract_B (s:ByteArray) (a m:Nat):s.extract a (a+m)=A8 (((B s).drop a).take m):=by
 apply B_inj
 rw[B_extract,B_A8,List.drop_take,show a+m - a=m by omega]
theorem take_ev:∀ (n:Nat),n≤11→∀ (s:ByteArray) (i:Nat),s.size≤20000→i≤s.size→Evt (fun k=>ber_take.f k s (i:Int) ((n+1:Nat):Int)) (tkR i (tk (n+1) ((B s).drop i))):=by
 intro n
 induction n with
 |zero=>
  intro _ s i hs hi
  exact take_of 0 (by omega) s i hs hi (fun s' hs' h0=>several_of 0 s' hs' (fun _=>h0 rfl) (fun i hi=>by have:=h0 rfl;omega) (fun l x _ _ h=>absurd rfl h))
 |succ n ih=>
  intro hn s i hs hi
  exact take_of (n+1) hn s i hs hi (fun s' hs' _=>several_of (n+1) s' hs' (fun h=>by omega) (fun i hi=>ih (by omega) s' i hs' (by omega)) (fun l x _ hk _=>tk_nz n l x hk))
where
 take_of (n:Nat) (hn11:n≤11) (s:ByteArray) (i:Nat) (hs:s.size≤20000) (hi:i≤s.size) (hsv:∀ s':ByteArray,s'.size≤20000→(n=0→s'.size=0)→Evt (fun k=>ber_several.f k s' (n:Int)) (svR [] (sv (tk n) (B s').length (B s')))):
   Evt (fun k=>ber_take.f k s (i:Int) ((n+1:Nat):Int)) (tkR i (tk (n+1) ((B s).drop i))):=by
  refine Evt.step ?_
  simp only[ber_take.f]
  cases hd:(B s).drop i with
  |nil=>
   have:=drop_nil hd
   simp only[if_pos (show(i:Int)≥(s.size:Int) by omega),tk,tkR]
   exact Evt.now _
  |cons t l=>
   obtain⟨h1,h2,h3⟩:=drop_cons hd
   have ht:=t.toNat_lt
   have hll:l.length=s.size - (i+1):=by rw[← h3,List.length_drop,len_B]
   have hsz:=sized_eq s (i+1) hs (by omega)
   rw[h3] at hsz
   have hcast:wrap64 ((i:Int)+1)=((i+1:Nat):Int):=(w64 _ (by omega)).trans (by omega)
   have es0:Evt (fun _=>ber_sized.f s (wrap64 ((i:Int)+1))) (szR (i+1) (szd l)):=by rw[hcast];exact Evt.of_all fun _=>hsz
   clear hsz hcast
   refine Evt.ifn (show ¬ (i:Int)≥(s.size:Int) by omega) ?_
   refine Evt.ifp (show 0≤(i:Int) by omega) ?_
   refine Evt.ifp (show(i:Int)<(s.size:Int) by omega) ?_
   rw[tk,h2,(bits_t t).1]
   by_cases c1:t.toNat % 32=31
   ·rw[if_pos c1]
    exact Evt.ifp (show((t.toNat % 32:Nat):Int)=31 by rw[c1];rfl) (Evt.now _)
   ·refine Evt.ifn (show ¬ ((t.toNat % 32:Nat):Int)=31 from fun h=>c1 (by exact_mod_cast h)) ?_
    rw[if_neg c1]
    cases hz:szd l with
    |error x=>
     have hx: ¬ x=0:=szd_err hz
     rw[hz] at es0
     refine Evt.bind es0 ?_
     exact Evt.ifn hx (Evt.now _)
    |ok p=>
     obtain⟨m,hh⟩:=p
     obtain⟨z1,z2,z3,z4⟩:=szd_ok hz
     have w1:Veil (wrap64 ((s.size:Int) - ((i+1+hh:Nat):Int))=(s.size:Int) - ((i+1+hh:Nat):Int)):=⟨w64 _ (by omega)⟩
     have w2:Veil (wrap64 (((i+1+hh:Nat):Int)+(m:Int))=((i+1+hh+m:Nat):Int)):=⟨(w64 _ (by omega)).trans (by omega)⟩
     have w3:Veil (wrap64 (((i+1+hh+m:Nat):Int) - (i:Int))=((1+hh+m:Nat):Int)):=⟨(w64 _ (by omega)).trans (by omega)⟩
     rw[hz] at es0
     refine Evt.bind es0 ?_
     refine Evt.ifp rfl ?_
     clear es0
     simp only[szR,w1.out,w2.out,w3.out,(bits_t t).2]
     by_cases c2:m>l.length - hh
     ·simp only[if_pos (show(m:Int)>(s.size:Int) - ((i+1+hh:Nat):Int) by omega),if_pos c2,tkR]
      exact Evt.now _
     ·simp only[if_neg (show ¬ (m:Int)>(s.size:Int) - ((i+1+hh:Nat):Int) by omega),if_neg c2]
      by_cases c3:1+hh+m>4000
      ·simp only[if_pos (show((1+hh+m:Nat):Int)>4000 by omega),if_pos c3,tkR]
       exact Evt.now _
      ·have hbody:s.extract (i+1+hh) (i+1+hh+m)=A8 ((l.drop hh).take m):=by
        rw[extract_B,← h3,List.drop_drop]
       have n1:(((i+1+hh:Nat):Int)).toNat=i+1+hh:=rfl
       have n2:(((i+1+hh+m:Nat):Int)).toNat=i+1+hh+m:=rfl
       simp only[if_neg (show ¬ ((1+hh+m:Nat):Int)>4000 by omega),if_neg c3,if_pos (show 0≤((i+1+hh:Nat):Int) by omega),if_pos (show((i+1+hh:Nat):Int)≤((i+1+hh+m:Nat):Int) by omega),if_pos (show((i+1+hh+m:Nat):Int)≤(s.size:Int) by omega),n1,n2,hbody]
       have hw:Veil (wrap64 (t.toNat:Int) / 64=((t.toNat / 64:Nat):Int)):=⟨by rw[w64 _ (by omega)];omega⟩
       have hnx:((i+(1+hh+m):Nat):Int)=((i+1+hh+m:Nat):Int):=by omega
       by_cases c4:t.toNat / 32 % 2=0
       ·simp only[if_pos (show((t.toNat / 32 % 2*32:Nat):Int)=0 by omega),if_pos c4,tkR,hw.out,hnx]
        exact Evt.now _
       ·simp only[if_neg (show ¬ ((t.toNat / 32 % 2*32:Nat):Int)=0 by omega),if_neg c4]
        have hbl:((l.drop hh).take m).length=m:=by rw[List.length_take,List.length_drop];omega
        have hdec:Veil (wrap64 (((n+1:Nat):Int) - 1)=(n:Int)):=⟨(w64 _ (by omega)).trans (by omega)⟩
        have es:=fun h0=>hsv (A8 ((l.drop hh).take m)) (by rw[size_A8,hbl];omega) h0
        rw[B_A8] at es
        ·rw[hdec.out]
         by_cases c5:n=0
         ·subst c5
          simp only[if_pos (show((0+1:Nat):Int)=1 by rfl)]
          by_cases c6:0<m
          ·simp only[if_pos (show(m:Int)>0 by omega),true_and,if_pos c6,tkR]
           exact Evt.now _
          ·simp only[if_neg (show ¬ (m:Int)>0 by omega),true_and,if_neg c6]
           refine Evt.bind (es (fun _=>by rw[size_A8,hbl];omega)) ?_
           cases hs2:sv (tk 0) ((l.drop hh).take m).length ((l.drop hh).take m) with
           |error x=>
            have hm0:(l.drop hh).take m=[]:=List.eq_nil_of_length_eq_zero (by omega)
            rw[hm0] at hs2
            simp[sv] at hs2
           |ok es2=>
            simp only[svR,if_true,List.nil_append,tkR,hw.out,hnx]
            exact Evt.now _
         ·simp only[if_neg (show ¬ ((n+1:Nat):Int)=1 by omega),if_neg (show ¬ (n=0∧0<m) from fun h=>c5 h.1)]
          refine Evt.bind (es (fun h=>absurd h c5)) ?_
          cases hs2:sv (tk n) ((l.drop hh).take m).length ((l.drop hh).take m) with
          |error x=>
           obtain⟨n',rfl⟩:∃ n',n=n'+1:=⟨n - 1,by omega⟩
           have hx: ¬ x=0:=sv_nz (fun l x hk _ _=>tk_nz n' l x hk) (by omega) _ _ _ (Nat.le_refl _) hs2
           exact Evt.ifn hx (Evt.now _)
          |ok es2=>
           simp only[svR,if_true,List.nil_append,tkR,hw.out,hnx]
           exact Evt.now _
theorem Decode_ev (s:ByteArray) (i:Nat) (hs:s.size≤20000) (hi:i≤s.size):Evt (fun k=>ber_Decode.f k s (i:Int)) (tkR i (tk 12 ((B s).drop i))):=by
 unfold ber_Decode.f
 simp only[if_neg (show ¬ (i:Int)<0 by omega),if_neg (show ¬ (i:Int)>(s.size:Int) by omega)]
 exact Evt.bind (take_ev 11 (by omega) s i hs hi) (Evt.now _)
end Go.Proofs.Ytdjkemhmhkpmkaa.PbA
