import Derived.Test.YtdjkemhmhkpmkaaPrB
import Derived.Test.YtdjkemhmhkpmkaaGM3
import Derived.Test.YtdjkemhmhkpmkaaGAF28
import Derived.Test.YtdjkemhmhkpmkaaGAF51
/- Plain laws of replies: what is read out of bytes; what was laid is read as it was. -/
namespace Go.Proofs.Ytdjkemhmhkpmkaa.PrC
open Go Go.RowKit Go.Proofs.Ytdjkemhmhkpmkaa.GA Go.Proofs.Ytdjkemhmhkpmkaa.OA Go.Proofs.Ytdjkemhmhkpmkaa.PuE Go.Proofs.Ytdjkemhmhkpmkaa.PrI Go.Proofs.Ytdjkemhmhkpmkaa.PrS Go.Proofs.Ytdjkemhmhkpmkaa.PrB Go.Proofs.YtdjkemhmhkpmkaaW.PrintWords Go.Proofs.YtdjkemhmhkpmkaaW.PrintLast Go.Proofs.YtdjkemhmhkpmkaaW.PrintMore
set_option linter.unusedVariables false
set_option linter.unusedSimpArgs false
/-! ### how great an element is -/
def Sm (e:S57):Prop:=∃ n,PbA.san n e=true∧(PbA.lay n e).length≤4000
theorem flat_len (n:Nat):∀ l:List S57,(∀ y ∈ l,PbA.san n y=true)→l.length*2≤(l.flatMap (PbA.lay n)).length∧∀ y ∈ l,(PbA.lay n y).length≤(l.flatMap (PbA.lay n)).length
 |[],_=>by simp
 |a::l,h=>by
  obtain⟨h1,h2⟩:=flat_len n l (fun y hy=>h y (by simp[hy]))
  have h3:=PbA.lay_two n a (h a (by simp))
  rw[List.flatMap_cons,List.length_append,List.length_cons]
  refine⟨by omega,fun y hy=>?_⟩
  rcases List.mem_cons.1 hy with rfl|hy
  ·omega
  ·have:=h2 y hy;omega
theorem Sm.all {e:S57} (h:Sm e):e.f4.length≤4000∧e.f3.size≤4000∧∀ y ∈ e.f4,Sm y:=by
 obtain⟨n,hs,hl⟩:=h
 cases n with
 |zero=>simp[PbA.san] at hs
 |succ n=>
  have hs':PbA.okL e=true∧e.f4.all (PbA.san n)=true:=by
   have h1:(PbA.okL e && e.f4.all (PbA.san n))=true:=hs
   exact⟨(Bool.and_eq_true _ _ ▸ h1).1,(Bool.and_eq_true _ _ ▸ h1).2⟩
  have hk:∀ y ∈ e.f4,PbA.san n y=true:=List.all_eq_true.1 hs'.2
  have ho:=hs'.1
  unfold PbA.okL at ho
  cases hb:e.f1
  ·rw[hb] at ho
   have h0:e.f4.length=0:=by
    simp only[Bool.false_eq_true,if_false] at ho
    exact of_decide_eq_true (Bool.and_eq_true _ _ ▸ ho).2
   have hn:e.f4=[]:=List.length_eq_zero_iff.1 h0
   rw[PbA.lay_plain n e hb,List.length_append,len_B] at hl
   exact⟨by omega,by omega,by rw[hn];simp⟩
  ·rw[hb] at ho
   have h0:e.f3.size=0:=by
    simp only[if_true] at ho
    exact of_decide_eq_true (Bool.and_eq_true _ _ ▸ ho).2
   rw[PbA.lay_made n e hb,List.length_append] at hl
   obtain⟨h1,h2⟩:=flat_len n e.f4 hk
   exact⟨by omega,by omega,fun y hy=>⟨n,hk y hy,by have:=h2 y hy;omega⟩⟩
theorem two_of {l:List S57} (h:(l.length:Int)=2):∃ a b,l=[a,b]:=by
 match l,h with
 |[a,b],_=>exact⟨a,b,rfl⟩
 |[],h=>simp at h
 |[a],h=>simp at h
 |a::b::c::l,h=>simp at h;omega
theorem rd_mid (p:List S57) (y:S57) (r:List S57):rd_T57 (p++y::r) (p.length:Int)=y:=by
 unfold rd_T57
 simp
theorem rd_or (l:List S57) (i:Int):rd_T57 l i=z57∨rd_T57 l i ∈ l:=by
 unfold rd_T57
 rw[List.getD_eq_getElem?_getD]
 cases hg:l[i.toNat]? with
 |none=>exact .inl rfl
 |some z=>exact .inr (List.mem_of_getElem? hg)
/-! ### entries -/
def ent:List S57→List S46 × Bool
 |[]=>([],true)
 |e::r=>if (e.f4.length:Int)=2 then(⟨(rd_T57 e.f4 0).f3,(rd_T57 e.f4 1).f4.map fun y=>y.f3⟩::(ent r).1,(ent r).2) else([],false)
theorem ent_len:∀ l,(ent l).1.length≤l.length
 |[]=>by simp[ent]
 |e::r=>by
  have:=ent_len r
  unfold ent
  split
  ·simp only[List.length_cons];omega
  ·simp
theorem ent_kid:∀ l,(∀ y ∈ l,Sm y)→∀ v ∈ (ent l).1,v.f1.length≤4000
 |[],_=>by simp[ent]
 |e::r,h=>by
  have ih:=ent_kid r (fun y hy=>h y (by simp[hy]))
  intro v hv
  unfold ent at hv
  split at hv
  ·rename_i h2
   rcases List.mem_cons.1 hv with rfl|hv
   ·obtain⟨a,b,hab⟩:=two_of h2
    have hb:=(h e (by simp)).all.2.2 b (by rw[hab];simp)
    have hr:rd_T57 e.f4 1=b:=by rw[hab];rfl
    rw[hr]
    have:=hb.all.1
    simpa using this
   ·exact ih v hv
  ·simp at hv
theorem entered_ev (id:Int) (l1:List S57) (h2:(l1.length:Int)=2) (hL:(rd_T57 l1 1).f4.length≤4000) (hM:∀ e ∈ (rd_T57 l1 1).f4,(rd_T57 e.f4 1).f4.length≤4000):
  Evt (fun k=>reply_entered.f k id l1) (id,3,true,0,⟨#[]⟩,⟨#[]⟩,(rd_T57 l1 0).f3,(ent (rd_T57 l1 1).f4).1,(ent (rd_T57 l1 1).f4).2):=by
 have loop:∀ (t p:List S57) (acc:List S46),(rd_T57 l1 1).f4=p++t→acc.length≤p.length→Evt (fun k=>reply_entered.l0 k (p.length:Int) acc id l1) (id,3,true,0,⟨#[]⟩,⟨#[]⟩,(rd_T57 l1 0).f3,acc++(ent t).1,(ent t).2):=by
  intro t
  induction t with
  |nil=>
   intro p acc hp ha
   refine Evt.step ?_
   have hn: ¬ (p.length:Int)<((rd_T57 l1 1).f4.length:Int):=by rw[hp];simp
   simp only[reply_entered.l0,if_neg hn,ent,List.append_nil]
   exact Evt.now _
  |cons y t ih=>
   intro p acc hp ha
   have hy:rd_T57 (rd_T57 l1 1).f4 (p.length:Int)=y:=by rw[hp];exact rd_mid p y t
   have hlt:(p.length:Int)<((rd_T57 l1 1).f4.length:Int):=by rw[hp];simp;omega
   have hpl:p.length<4000:=by omega
   refine Evt.step ?_
   simp only[reply_entered.l0,if_pos hlt,if_pos (Int.natCast_nonneg p.length),hy]
   by_cases hk:(y.f4.length:Int)=2
   ·simp only[if_pos hk,if_pos (show(0:Int)<(y.f4.length:Int) by omega),if_pos (show(1:Int)<(y.f4.length:Int) by omega)]
    have hMy:=hM y (by rw[hp];simp)
    have inner:∀ (u s:List S57),(rd_T57 y.f4 1).f4=s++u→Evt (fun k=>reply_entered.l1 k (s.length:Int) (s.map fun z=>z.f3) id l1 (p.length:Int) acc) (id,3,true,0,⟨#[]⟩,⟨#[]⟩,(rd_T57 l1 0).f3,acc++(ent (y::t)).1,(ent (y::t)).2):=by
     intro u
     induction u with
     |nil=>
      intro s hs
      have hse:s=(rd_T57 y.f4 1).f4:=by rw[hs];simp
      have hn: ¬ (s.length:Int)<((rd_T57 y.f4 1).f4.length:Int):=by rw[hs];simp
      have hi:=ih (p++[y]) (acc++[⟨(rd_T57 y.f4 0).f3,s.map fun z=>z.f3⟩]) (by rw[hp,snoc]) (by simp;omega)
      have hnx:wrap64 ((p.length:Int)+1)=((p++[y]).length:Int):=by rw[w64 _ (by omega)];simp
      refine Evt.step ?_
      simp only[reply_entered.l1,hy,if_neg hn]
      refine Evt.ifp (by omega) ?_
      simp only[Option.bind_some,hnx]
      refine hi.val ?_
      conv=>rhs;unfold ent
      rw[if_pos hk,hse]
      simp
     |cons z u ih2=>
      intro s hs
      have hj:=ih2 (s++[z]) (by rw[hs,snoc])
      have hlt2:(s.length:Int)<((rd_T57 y.f4 1).f4.length:Int):=by rw[hs];simp;omega
      have hsl:s.length<4000:=by omega
      have hz:rd_T57 (rd_T57 y.f4 1).f4 (s.length:Int)=z:=by rw[hs];exact rd_mid s z u
      have hn2:wrap64 ((s.length:Int)+1)=((s++[z]).length:Int):=by rw[w64 _ (by omega)];simp
      refine Evt.step ?_
      simp only[reply_entered.l1,hy,if_pos hlt2,if_pos (Int.natCast_nonneg s.length),hz]
      refine Evt.ifp (by simp;omega) ?_
      simp only[Option.bind_some,hn2]
      rw[show(s.map (fun z=>z.f3)++[z.f3]:List ByteArray)=(s++[z]).map fun z=>z.f3 by simp]
      exact hj
    exact inner (rd_T57 y.f4 1).f4 [] rfl
   ·simp only[if_neg hk]
    refine(Evt.now _).val ?_
    conv=>rhs;unfold ent
    rw[if_neg hk]
    simp
 unfold reply_entered.f
 simp only[if_pos h2,if_pos (show(0:Int)<(l1.length:Int) by omega),if_pos (show(1:Int)<(l1.length:Int) by omega)]
 exact loop _ [] [] rfl (by simp)
/-! ### results -/
theorem asInt_ev (e:S57):∃ n x,Evt (fun k=>prims_AsInt.f k e.f0 e.f1 e.f2 e.f3 e.f4) (n,x):=by
 unfold prims_AsInt.f prims_plain.f
 cases e.f1
 ·simp only[Bool.false_eq_true,if_false,Option.bind_some]
  by_cases h:((e.f4.length:Int)==0)=true
  ·simp only[if_pos h]
   by_cases h1:(e.f3.size:Int)<1
   ·exact⟨0,160,by simp only[if_pos h1];exact Evt.now _⟩
   ·by_cases h4:(e.f3.size:Int)>4
    ·exact⟨0,160,by simp only[if_neg h1,if_pos h4];exact Evt.now _⟩
    ·obtain⟨a,b⟩:=wrap32_range (IntKind.i8.wrap (bt e.f3 0))
     simp only[if_neg h1,if_neg h4,if_pos (show(0:Int)<(e.f3.size:Int) by omega)]
     obtain⟨n,x,hh,_⟩:=asInt_l0 e.f3 12 _ 1 a b (by omega) (by omega) (by omega) (by decide)
     exact⟨n,x,Evt.mono_ (fun k=>prims_AsInt.mono_l k _ _ _) hh⟩
  ·exact⟨0,160,by simp only[if_neg h];exact Evt.now _⟩
 ·exact⟨0,160,by simp only[if_true,Option.bind_some,Bool.false_eq_true,if_false];exact Evt.now _⟩
def isT (e:S57):Bool:=if e.f0=0 then(if e.f2=4 then(e.f1==false) else false) else false
theorem texts_ev (l:List S57) (hl:l.length≤4000):Evt (fun k=>reply_texts.f k l) (l.all isT):=by
 have hx:∀ e:S57,reply_texts_1.f e.f0 e.f1 e.f2 e.f3 e.f4=some (!isT e):=by
  intro e
  unfold reply_texts_1.f prims_Is.f isT
  split
  ·split <;>rfl
  ·rfl
 have loop:∀ (t p:List S57),l=p++t→Evt (fun k=>reply_texts.l0 k (p.length:Int) l) (t.all isT):=by
  intro t
  induction t with
  |nil=>
   intro p hp
   refine Evt.step ?_
   have hn: ¬ (p.length:Int)<(l.length:Int):=by rw[hp];simp
   simp only[reply_texts.l0,if_neg hn]
   exact Evt.now _
  |cons y t ih=>
   intro p hp
   have hi:=ih (p++[y]) (by rw[hp,snoc])
   have hy:rd_T57 l (p.length:Int)=y:=by rw[hp];exact rd_mid p y t
   have hlt:(p.length:Int)<(l.length:Int):=by rw[hp];simp;omega
   have hnx:wrap64 ((p.length:Int)+1)=((p++[y]).length:Int):=by rw[w64 _ (by omega)];simp
   refine Evt.step ?_
   simp only[reply_texts.l0,if_pos hlt,if_pos (Int.natCast_nonneg p.length),hy,hx,Option.bind_some,hnx]
   cases hb:isT y
   ·simp only[Bool.not_false,if_true]
    exact(Evt.now _).val (by simp[hb])
   ·simp only[Bool.not_true,Bool.false_eq_true,if_false]
    exact hi.val (by simp[hb])
 exact loop l [] rfl
def kf (n x cur:Int):Int:=if tg x=n then x else cur
theorem read_step (x:Int) (hx:0≤x∧x≤10) (cur:Int) (l:List S57) (id:Int) {v} (h:Evt (fun k=>reply_read.l0 k (x+1) (kf (rd_T57 l 1).f2 x cur) l id) v):Evt (fun k=>reply_read.l0 k x cur l id) v:=by
 refine Evt.step ?_
 simp only[reply_read.l0,if_pos hx.2,tag_eq,Option.bind_some,w64 (x+1) (by omega)]
 unfold kf at h
 by_cases hc:tg x=(rd_T57 l 1).f2
 ·simp only[if_pos hc] at h ⊢;exact h
 ·simp only[if_neg hc] at h ⊢;exact h
def kd (n:Int):Int:=kf n 10 (kf n 9 (kf n 8 (kf n 7 (kf n 6 (kf n 5 (kf n 4 (kf n 3 (kf n 2 (kf n 1 0)))))))))
theorem kinds (l:List S57) (id:Int) {v} (h:Evt (fun k=>reply_read.l0 k 11 (kd (rd_T57 l 1).f2) l id) v):Evt (fun k=>reply_read.l0 k 1 0 l id) v:=by
 refine read_step 1 (by omega) _ _ _ ?_
 refine read_step 2 (by omega) _ _ _ ?_
 refine read_step 3 (by omega) _ _ _ ?_
 refine read_step 4 (by omega) _ _ _ ?_
 refine read_step 5 (by omega) _ _ _ ?_
 refine read_step 6 (by omega) _ _ _ ?_
 refine read_step 7 (by omega) _ _ _ ?_
 refine read_step 8 (by omega) _ _ _ ?_
 refine read_step 9 (by omega) _ _ _ ?_
 exact read_step 10 (by omega) _ _ _ h
theorem kd_tg (a:Int) (h:tg a>0):kd (tg a)=a:=by
 have key:∀ x ∈ [(1:Int),3,4,5,6,7,8,10],kd (tg x)=x:=by decide
 have ha:a ∈ [(1:Int),3,4,5,6,7,8,10]:=by
  simp only[List.mem_cons,List.not_mem_nil,or_false]
  by_cases hc:a=1∨a=3∨a=4∨a=5∨a=6∨a=7∨a=8∨a=10
  ·exact hc
  ·unfold tg at h
   rw[if_neg (by omega),if_neg (by omega),if_neg (by omega),if_neg (by omega),if_neg (by omega),if_neg (by omega),if_neg (by omega),if_neg (by omega)] at h
   omega
 exact key a ha
theorem tg_ne (a:Int):tg a≠4:=by
 unfold tg
 repeat' first
 |decide
 |split
abbrev T9:=Int × Int × Bool × Int × ByteArray × ByteArray × ByteArray × List S46 × Bool
def t9 (q:S27) (b:Bool):T9:=(q.f0,q.f1,q.f2,q.f3,q.f4,q.f5,q.f6,q.f7,b)
def q0:S27:=⟨0,0,false,0,⟨#[]⟩,⟨#[]⟩,⟨#[]⟩,[]⟩
theorem q0_bd:Bd q0:=⟨Nat.zero_le _,Nat.zero_le _,Nat.zero_le _,Nat.zero_le _,by simp[q0]⟩
/-- Reading ends. -/
theorem read_tot (e:S57) (he:Sm e):∃ q b,Bd q∧Evt (fun k=>reply_read.f k e.f0 e.f1 e.f2 e.f3 e.f4) (t9 q b):=by
 unfold reply_read.f
 by_cases h2:(e.f4.length:Int)=2
 ·obtain⟨a,b,hab⟩:=two_of h2
  have hr0:rd_T57 e.f4 0=a:=by rw[hab];rfl
  have hr1:rd_T57 e.f4 1=b:=by rw[hab];rfl
  have hb:Sm b:=he.all.2.2 b (by rw[hab];simp)
  obtain⟨n,x,hi⟩:=asInt_ev a
  simp only[if_pos h2,if_pos (show(0:Int)<(e.f4.length:Int) by omega),if_pos (show(1:Int)<(e.f4.length:Int) by omega),hr0,hr1]
  by_cases hx:x=0
  ·by_cases h4:b.f2=4
   ·by_cases h22:(b.f4.length:Int)=2
    ·obtain⟨c,d,hcd⟩:=two_of h22
     have hd:rd_T57 b.f4 1=d:=by rw[hcd];rfl
     have hc:rd_T57 b.f4 0=c:=by rw[hcd];rfl
     have hsd:Sm d:=hb.all.2.2 d (by rw[hcd];simp)
     have hsc:Sm c:=hb.all.2.2 c (by rw[hcd];simp)
     have hM:∀ y ∈ d.f4,(rd_T57 y.f4 1).f4.length≤4000:=by
      intro y hy
      have hsy:=hsd.all.2.2 y hy
      rcases rd_or y.f4 1 with hz|hz
      ·rw[hz];exact Nat.zero_le _
      ·exact(hsy.all.2.2 _ hz).all.1
     have hE:=entered_ev n b.f4 h22 (by rw[hd];exact hsd.all.1) (by rw[hd];exact hM)
     rw[hd,hc] at hE
     have hl:=ent_len d.f4
     have hk:=ent_kid d.f4 (fun y hy=>hsd.all.2.2 y hy)
     refine⟨⟨n,3,true,0,⟨#[]⟩,⟨#[]⟩,c.f3,(ent d.f4).1⟩,(ent d.f4).2,⟨Nat.zero_le _,Nat.zero_le _,?_,?_,?_⟩,?_⟩
     ·have:=hsc.all.2.1;show c.f3.size≤_;omega
     ·have:=hsd.all.1;show(ent d.f4).1.length≤_;omega
     ·intro v hv;have:=hk v hv;omega
     ·refine Evt.bind hi ?_
      simp only[if_pos hx,if_pos h4]
      exact Evt.bind hE (Evt.now _)
    ·refine⟨⟨n,3,true,0,⟨#[]⟩,⟨#[]⟩,⟨#[]⟩,[]⟩,false,⟨Nat.zero_le _,Nat.zero_le _,Nat.zero_le _,Nat.zero_le _,by simp⟩,?_⟩
     refine Evt.bind hi ?_
     simp only[if_pos hx,if_pos h4,reply_entered.f,if_neg h22,Option.bind_some]
     exact Evt.now _
   ·have fin:∃ q c,Bd q∧Evt (fun k=>reply_read.l0 k 11 (kd b.f2) e.f4 n) (t9 q c):=by
     by_cases h3:(b.f4.length:Int)<3
     ·refine⟨q0,false,q0_bd,Evt.step ?_⟩
      simp only[reply_read.l0,if_neg (show ¬ (11:Int)≤10 by omega),hr1,if_pos h3]
      exact Evt.now _
     ·by_cases h5:(b.f4.length:Int)>4
      ·refine⟨q0,false,q0_bd,Evt.step ?_⟩
       simp only[reply_read.l0,if_neg (show ¬ (11:Int)≤10 by omega),hr1,if_neg h3,if_pos h5]
       exact Evt.now _
      ·have ht:=texts_ev (List.drop 1 (List.take 3 b.f4)) (by simp;omega)
       by_cases hT:(List.drop 1 (List.take 3 b.f4)).all isT=true
       ·obtain⟨n2,x2,hi2⟩:=asInt_ev (rd_T57 b.f4 0)
        have hsz:∀ i:Int,(rd_T57 b.f4 i).f3.size≤140737488351232:=by
         intro i
         rcases rd_or b.f4 i with hz|hz
         ·rw[hz];exact Nat.zero_le _
         ·have:=(hb.all.2.2 _ hz).all.2.1
          omega
        by_cases h44:(b.f4.length:Int)=4
        ·refine⟨⟨n,kd b.f2,false,n2,(rd_T57 b.f4 1).f3,(rd_T57 b.f4 2).f3,(rd_T57 b.f4 3).f3,[]⟩,x2==0,⟨hsz 1,hsz 2,hsz 3,Nat.zero_le _,by simp⟩,Evt.step ?_⟩
         simp only[reply_read.l0,if_neg (show ¬ (11:Int)≤10 by omega),hr1,if_neg h3,if_neg h5,if_pos (show(3:Int)≤(b.f4.length:Int) by omega),Option.bind_some]
         refine Evt.bind ht ?_
         simp only[if_pos hT,if_pos (show(0:Int)<(b.f4.length:Int) by omega),if_pos (show(1:Int)<(b.f4.length:Int) by omega),if_pos (show(2:Int)<(b.f4.length:Int) by omega),if_pos (show(3:Int)<(b.f4.length:Int) by omega),if_pos h44]
         exact Evt.bind hi2 (Evt.now _)
        ·refine⟨⟨n,kd b.f2,false,n2,(rd_T57 b.f4 1).f3,(rd_T57 b.f4 2).f3,⟨#[]⟩,[]⟩,x2==0,⟨hsz 1,hsz 2,Nat.zero_le _,Nat.zero_le _,by simp⟩,Evt.step ?_⟩
         simp only[reply_read.l0,if_neg (show ¬ (11:Int)≤10 by omega),hr1,if_neg h3,if_neg h5,if_pos (show(3:Int)≤(b.f4.length:Int) by omega),Option.bind_some]
         refine Evt.bind ht ?_
         simp only[if_pos hT,if_pos (show(0:Int)<(b.f4.length:Int) by omega),if_pos (show(1:Int)<(b.f4.length:Int) by omega),if_pos (show(2:Int)<(b.f4.length:Int) by omega),if_neg h44]
         exact Evt.bind hi2 (Evt.now _)
       ·refine⟨q0,false,q0_bd,Evt.step ?_⟩
        simp only[reply_read.l0,if_neg (show ¬ (11:Int)≤10 by omega),hr1,if_neg h3,if_neg h5,if_pos (show(3:Int)≤(b.f4.length:Int) by omega),Option.bind_some]
        refine Evt.bind ht ?_
        simp only[if_neg hT]
        exact Evt.now _
    obtain⟨q,c,hq,hf⟩:=fin
    refine⟨q,c,hq,Evt.bind hi ?_⟩
    simp only[if_pos hx,if_neg h4]
    exact kinds _ _ (by rw[hr1];exact hf)
  ·refine⟨q0,false,q0_bd,Evt.bind hi ?_⟩
   simp only[if_neg hx]
   exact Evt.now _
 ·refine⟨q0,false,q0_bd,?_⟩
  simp only[if_neg h2]
  exact Evt.now _
theorem isT_tE (s:ByteArray):isT (tE s)=true:=rfl
/-- A reply that was laid is read as it was. -/
theorem read_el (r:S27) (h:Ok r):Evt (fun k=>reply_read.f k (el r).f0 (el r).f1 (el r).f2 (el r).f3 (el r).f4) (t9 r true):=by
 have i0:=h.id0
 have i1:=h.id1
 have hid:Evt (fun k=>prims_AsInt.f k (nE 2 r.f0).f0 (nE 2 r.f0).f1 (nE 2 r.f0).f2 (nE 2 r.f0).f3 (nE 2 r.f0).f4) (r.f0,0):=asInt_of r.f0 (by omega) 0 2
 have hf4:(el r).f4=[nE 2 r.f0,opE r]:=rfl
 have hr0:rd_T57 (el r).f4 0=nE 2 r.f0:=rfl
 have hr1:rd_T57 (el r).f4 1=opE r:=rfl
 unfold reply_read.f
 simp only[if_pos (show((el r).f4.length:Int)=2 from rfl),if_pos (show(0:Int)<((el r).f4.length:Int) by rw[hf4];show _<(2:Int);omega),if_pos (show(1:Int)<((el r).f4.length:Int) by rw[hf4];show _<(2:Int);omega),hr0,hr1]
 refine Evt.bind hid ?_
 simp only[if_true]
 cases hb:r.f2
 ·obtain⟨h1,h2,h3,h4,h5,h7,h6⟩:=h.re hb
  have ho:opE r=gE 1 (tg r.f1) ([nE 10 r.f3,tE r.f4,tE r.f5]++xE r.f6):=by unfold opE;rw[if_neg (by rw[hb];decide)]
  have hn4: ¬ (opE r).f2=4:=by rw[ho];exact tg_ne r.f1
  simp only[if_neg hn4]
  refine kinds _ _ ?_
  rw[hr1,show(opE r).f2=tg r.f1 by rw[ho];rfl,kd_tg r.f1 h1]
  have hl:(opE r).f4=nE 10 r.f3::tE r.f4::tE r.f5::xE r.f6:=by rw[ho];rfl
  have hc:Evt (fun k=>prims_AsInt.f k (nE 10 r.f3).f0 (nE 10 r.f3).f1 (nE 10 r.f3).f2 (nE 10 r.f3).f3 (nE 10 r.f3).f4) (r.f3,0):=asInt_of r.f3 (by omega) 0 10
  have ht:=texts_ev (List.drop 1 (List.take 3 (opE r).f4)) (by simp;omega)
  rw[show(List.drop 1 (List.take 3 (opE r).f4)).all isT=true by rw[hl];simp[isT_tE]] at ht
  have g0:rd_T57 (opE r).f4 0=nE 10 r.f3:=by rw[hl];rfl
  have g1:rd_T57 (opE r).f4 1=tE r.f4:=by rw[hl];rfl
  have g2:rd_T57 (opE r).f4 2=tE r.f5:=by rw[hl];rfl
  have hx:(r.f6.size=0∧(opE r).f4.length=3)∨(r.f6.size≠0∧(opE r).f4.length=4∧rd_T57 (opE r).f4 3=⟨2,false,10,r.f6,[]⟩):=by
   rw[hl]
   unfold xE
   by_cases hz:r.f6.size=0
   ·rw[if_pos hz];exact .inl ⟨hz,rfl⟩
   ·rw[if_neg hz];exact .inr ⟨hz,rfl,rfl⟩
  have hrr:∀ s:ByteArray,s=r.f6→t9 r true=(r.f0,r.f1,false,r.f3,r.f4,r.f5,s,[],true):=by
   intro s hs
   unfold t9
   rw[hs,hb,h7]
  refine Evt.step ?_
  simp only[reply_read.l0,if_neg (show ¬ (11:Int)≤10 by omega),hr1]
  rcases hx with⟨hz,hlen⟩|⟨hz,hlen,g3⟩
  ·simp only[if_neg (show ¬ ((opE r).f4.length:Int)<3 by omega),if_neg (show ¬ ((opE r).f4.length:Int)>4 by omega),if_pos (show(3:Int)≤((opE r).f4.length:Int) by omega),Option.bind_some]
   refine Evt.bind ht ?_
   simp only[if_true,if_pos (show(0:Int)<((opE r).f4.length:Int) by omega),if_pos (show(1:Int)<((opE r).f4.length:Int) by omega),if_pos (show(2:Int)<((opE r).f4.length:Int) by omega),if_neg (show ¬ ((opE r).f4.length:Int)=4 by omega),g0,g1,g2]
   refine Evt.bind hc ?_
   rw[hrr ⟨#[]⟩ (PbA.zero_size hz).symm]
   exact Evt.now _
  ·simp only[if_neg (show ¬ ((opE r).f4.length:Int)<3 by omega),if_neg (show ¬ ((opE r).f4.length:Int)>4 by omega),if_pos (show(3:Int)≤((opE r).f4.length:Int) by omega),Option.bind_some]
   refine Evt.bind ht ?_
   simp only[if_true,if_pos (show(0:Int)<((opE r).f4.length:Int) by omega),if_pos (show(1:Int)<((opE r).f4.length:Int) by omega),if_pos (show(2:Int)<((opE r).f4.length:Int) by omega),if_pos (show(3:Int)<((opE r).f4.length:Int) by omega),if_pos (show((opE r).f4.length:Int)=4 by omega),g0,g1,g2,g3]
   refine Evt.bind hc ?_
   rw[hrr r.f6 rfl]
   exact Evt.now _
 ·obtain⟨h1,h3,h4,h5,h6,h7,hy⟩:=h.en hb
  have ho:opE r=gE 1 4 [tE r.f6,gE 0 16 (r.f7.map aE)]:=by unfold opE;rw[if_pos hb]
  have hn4:(opE r).f2=4:=by rw[ho];rfl
  have hl:(opE r).f4=[tE r.f6,gE 0 16 (r.f7.map aE)]:=by rw[ho];rfl
  have g1:rd_T57 (opE r).f4 1=gE 0 16 (r.f7.map aE):=by rw[hl];rfl
  have g0:rd_T57 (opE r).f4 0=tE r.f6:=by rw[hl];rfl
  simp only[if_pos hn4]
  have hE:=entered_ev r.f0 (opE r).f4 (by rw[hl];rfl) (by rw[g1];show(r.f7.map aE).length≤4000;simp;omega) (by
   rw[g1]
   intro y hy2
   obtain⟨v,hv,rfl⟩:=List.mem_map.1 (show y ∈ r.f7.map aE from hy2)
   show(v.f1.map tE).length≤4000
   have:=(hy v hv).2.1
   simp
   omega)
  have he:∀ l:List S46,ent (l.map aE)=(l,true):=by
   intro l
   induction l with
   |nil=>rfl
   |cons v l ih=>
    rw[List.map_cons]
    unfold ent
    rw[if_pos (show((aE v).f4.length:Int)=2 from rfl),ih]
    have hm:((gE 0 17 (v.f1.map tE)).f4.map fun y=>y.f3)=v.f1:=by
     show(v.f1.map tE).map (fun y=>y.f3)=v.f1
     rw[List.map_map]
     exact List.map_id _
    show(⟨v.f0,(gE 0 17 (v.f1.map tE)).f4.map fun y=>y.f3⟩::l,true)=(v::l,true)
    rw[hm]
  rw[g1,g0,show(gE 0 16 (r.f7.map aE)).f4=r.f7.map aE from rfl,he] at hE
  refine Evt.bind hE ?_
  refine(Evt.now _).val ?_
  unfold t9
  rw[hb,h1,h3,PbA.zero_size h4,PbA.zero_size h5]
  rfl
/-! ### bytes -/
abbrev R9:=Int × Int × Bool × Int × ByteArray × ByteArray × ByteArray × List S46 × Int
def r9 (q:S27) (x:Int):R9:=(q.f0,q.f1,q.f2,q.f3,q.f4,q.f5,q.f6,q.f7,x)
/-- What Decode tells: nothing, or a reply that may be and is laid as these bytes. -/
theorem Decode_ev (s:ByteArray):(∃ x,(x=3∨x=270)∧Evt (fun k=>reply_Decode.f k s) (r9 q0 x))∨∃ q,Ok q∧Evt (fun k=>reply_Check.f k q.f0 q.f1 q.f2 q.f3 q.f4 q.f5 q.f6 q.f7) 0∧PbA.enc [el q]=(s,0)∧Evt (fun k=>reply_Decode.f k s) (r9 q 0):=by
 unfold reply_Decode.f
 by_cases hs:(s.size:Int)>4000
 ·refine .inl ⟨3,.inl rfl,?_⟩
  simp only[if_pos hs]
  exact Evt.now _
 ·simp only[if_neg hs]
  have hD:=PbA.Decode_ev s 0 (by omega) (by omega)
  cases ht:PbA.tk 12 ((B s).drop 0) with
  |error x=>
   rw[ht] at hD
   have hx: ¬ x=0:=PbA.tk_nz 11 _ _ ht
   refine .inl ⟨270,.inr rfl,Evt.bind hD ?_⟩
   exact Evt.ifn hx (Evt.now _)
  |ok p=>
   obtain⟨e,c⟩:=p
   rw[ht] at hD
   obtain⟨hc,_,hc4,hsan,hlay⟩:=PbA.tk_sound 12 _ _ _ ht
   have hsm:Sm e:=⟨12,hsan,by rw[hlay,List.length_take];omega⟩
   by_cases hto:((0+c:Nat):Int)=(s.size:Int)
   ·obtain⟨q,b,hq,hr⟩:=read_tot e hsm
    cases b
    ·refine .inl ⟨270,.inr rfl,Evt.bind hD ?_⟩
     refine Evt.ifp rfl (Evt.ifp hto ?_)
     refine Evt.bind hr ?_
     simp only[t9,Bool.false_eq_true,if_false]
     exact Evt.now _
    ·obtain⟨x,hx,hcx⟩:=Check_ev q hq
     by_cases hx0:x=0
     ·subst hx0
      have hok:=hx.2 rfl
      have hl:=laid_ev q hok
      by_cases hy:(PbA.enc [el q]).2=0
      ·by_cases hz:(PbA.enc [el q]).1.toList=s.toList
       ·refine .inr ⟨q,hok,hcx,?_,Evt.bind hD ?_⟩
        ·have:(PbA.enc [el q]).1=s:=B_inj (by rw[← toList_B,← toList_B,hz])
         rw[← this,← hy]
        ·refine Evt.ifp rfl (Evt.ifp hto ?_)
         refine Evt.bind hr ?_
         simp only[t9,if_true]
         refine Evt.bind hcx ?_
         simp only[if_true]
         refine Evt.bind hl ?_
         simp only[if_pos hy,if_pos hz]
         exact Evt.now _
       ·refine .inl ⟨270,.inr rfl,Evt.bind hD ?_⟩
        refine Evt.ifp rfl (Evt.ifp hto ?_)
        refine Evt.bind hr ?_
        simp only[t9,if_true]
        refine Evt.bind hcx ?_
        simp only[if_true]
        refine Evt.bind hl ?_
        simp only[if_pos hy,if_neg hz]
        exact Evt.now _
      ·refine .inl ⟨270,.inr rfl,Evt.bind hD ?_⟩
       refine Evt.ifp rfl (Evt.ifp hto ?_)
       refine Evt.bind hr ?_
       simp only[t9,if_true]
       refine Evt.bind hcx ?_
       simp only[if_true]
       refine Evt.bind hl ?_
       simp only[if_neg hy]
       exact Evt.now _
     ·refine .inl ⟨270,.inr rfl,Evt.bind hD ?_⟩
      refine Evt.ifp rfl (Evt.ifp hto ?_)
      refine Evt.bind hr ?_
      simp only[t9,if_true]
      refine Evt.bind hcx ?_
      simp only[if_neg hx0]
      exact Evt.now _
   ·refine .inl ⟨270,.inr rfl,Evt.bind hD ?_⟩
    exact Evt.ifp rfl (Evt.ifn hto (Evt.now _))
/-- The bytes that a reply is laid as are read as it. -/
theorem Decode_el (q:S27) (h:Ok q) (hc:Evt (fun k=>reply_Check.f k q.f0 q.f1 q.f2 q.f3 q.f4 q.f5 q.f6 q.f7) 0) (s:ByteArray) (hs:PbA.enc [el q]=(s,0)):Evt (fun k=>reply_Decode.f k s) (r9 q 0):=by
 have hl:(PbA.lay 12 (el q)).length≤4000:=by
  rw[enc_el q h] at hs
  by_cases hl:(PbA.lay 12 (el q)).length≤4000
  ·exact hl
  ·rw[if_neg hl] at hs
   exact absurd (Prod.mk.inj hs).2 (by decide)
 have hB:s=A8 (PbA.lay 12 (el q)):=by
  rw[enc_el q h,if_pos hl] at hs
  exact(Prod.mk.inj hs).1.symm
 have hsz:s.size=(PbA.lay 12 (el q)).length:=by rw[hB,size_A8]
 have hsan:=(el_fine q h).2
 have htk:=PbA.tk_back 12 (el q) [] hsan hl
 have hD:=PbA.Decode_ev s 0 (by omega) (by omega)
 rw[List.drop_zero,hB,B_A8,← List.append_nil (PbA.lay 12 (el q)),htk,List.append_nil,← hB] at hD
 unfold reply_Decode.f
 simp only[if_neg (show ¬ (s.size:Int)>4000 by omega)]
 refine Evt.bind hD ?_
 refine Evt.ifp rfl (Evt.ifp (show((0+(PbA.lay 12 (el q)).length:Nat):Int)=(s.size:Int) by omega) ?_)
 refine Evt.bind (read_el q h) ?_
 simp only[t9,if_true]
 refine Evt.bind hc ?_
 simp only[if_true]
 have hle:=laid_ev q h
 rw[hs] at hle
 refine Evt.bind hle ?_
 simp only[if_true]
 exact Evt.now _
theorem sm_self (a:S27):sm a a=true:=by
 have htx:∀ l:List ByteArray,tx l l=true:=by
  intro l
  induction l with
  |nil=>rfl
  |cons y l ih=>unfold tx;rw[if_pos rfl,ih]
 have hvs:∀ l:List S46,vs l l=true:=by
  intro l
  induction l with
  |nil=>rfl
  |cons y l ih=>
   unfold vs e46 txf
   rw[if_pos rfl,if_pos rfl,htx,if_pos rfl,ih]
 unfold sm vsf
 simp only[if_true,beq_self_eq_true,hvs]
end Go.Proofs.Ytdjkemhmhkpmkaa.PrC
