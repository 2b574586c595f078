import Derived.Test.YtdjkemhmhkpmkaaPbU
import Derived.Test.YtdjkemhmhkpmkaaPrC
import Derived.Test.YtdjkemhmhkpmkaaPrG
import Derived.Test.YtdjkemhmhkpmkaaPrL
import Derived.Test.YtdjkemhmhkpmkaaGAF16
import Derived.Test.YtdjkemhmhkpmkaaGM1
import Derived.Test.YtdjkemhmhkpmkaaGM2
import Derived.Test.YtdjkemhmhkpmkaaGAF31
import Derived.Test.YtdjkemhmhkpmkaaGAF32
import Derived.Test.YtdjkemhmhkpmkaaGM4
import Derived.Test.YtdjkemhmhkpmkaaGM2
import Derived.Test.YtdjkemhmhkpmkaaGM2
import Derived.Test.YtdjkemhmhkpmkaaGM2
/- Plain law of ReplyDecodes: the document reads what the program reads. -/
namespace Go.Proofs.Ytdjkemhmhkpmkaa.PrD
open Go Go.RowKit Go.Proofs.Ytdjkemhmhkpmkaa.GA Go.Proofs.Ytdjkemhmhkpmkaa.OA Go.Proofs.Ytdjkemhmhkpmkaa.PuE Go.Proofs.Ytdjkemhmhkpmkaa.PrI Go.Proofs.Ytdjkemhmhkpmkaa.PrS Go.Proofs.Ytdjkemhmhkpmkaa.PrB Go.Proofs.Ytdjkemhmhkpmkaa.PrC Go.Proofs.YtdjkemhmhkpmkaaW.PrintWords Go.Proofs.YtdjkemhmhkpmkaaW.PrintLast Go.Proofs.YtdjkemhmhkpmkaaW.PrintMore
set_option linter.unusedVariables false
set_option linter.unusedSimpArgs false
/-! ### shapes -/
def A0 (e:S57):Prop:=∃ n:Int, -2147483648≤n∧n≤2147483647∧e.f1=false∧e.f4=[]∧e.f3=sg n
def Pc (c:Int) (e:S57):Prop:=if c=116 then(e.f0=0∧e.f2=4∧e.f1=false) else if c=105 then(e.f0=0∧e.f2=2∧A0 e) else if c=101 then(e.f0=0∧e.f2=10∧A0 e) else if c=103 then(e.f0=0∧e.f2=16∧e.f1=true) else if c=115 then(e.f0=0∧e.f2=17∧e.f1=true) else True
theorem br (P Q:Prop) [Decidable P] [Decidable Q] (b:Bool):∃ r,(if P then(if Q then some b else some false) else some false)=some r∧(r=true↔P∧Q∧b=true):=by
 by_cases h1:P
 ·by_cases h2:Q
  ·exact⟨b,by rw[if_pos h1,if_pos h2],by simp[h1,h2]⟩
  ·exact⟨false,by rw[if_pos h1,if_neg h2],by simp[h1,h2]⟩
 ·exact⟨false,by rw[if_neg h1],by simp[h1]⟩
theorem A0_iff (e:S57) (n x:Int) (h:Evt (fun k=>toponymref16_AsInt.f k e.f0 e.f1 e.f2 e.f3 e.f4) (n,x)):x=0↔A0 e:=by
 obtain⟨n',x',h1,h2⟩:=PrL.rInt e
 have hu:=Evt.uniq h h1
 obtain⟨rfl,rfl⟩:=Prod.mk.inj hu
 constructor
 ·intro hx
  obtain⟨a,b,c,d,f⟩:=h2 hx
  exact⟨n,a,b,c,d,f⟩
 ·rintro⟨m,a,b,c,d,f⟩
  have h3:=PrL.rInt_of m ⟨a,b⟩ e.f0 e.f2
  rw[c,d,f] at h
  exact(Prod.mk.inj (Evt.uniq h h3)).2
theorem A0_val (e:S57) (n:Int) (hn: -2147483648≤n∧n≤2147483647) (c:e.f1=false) (d:e.f4=[]) (f:e.f3=sg n):Evt (fun k=>toponymref16_AsInt.f k e.f0 e.f1 e.f2 e.f3 e.f4) (n,0):=by
 rw[c,d,f]
 exact PrL.rInt_of n hn e.f0 e.f2
theorem shape_ev (e:S57) (c:Int) (hc:c≠98):∃ b,Evt (fun k=>toponymref26_shape.f k e.f0 e.f1 e.f2 e.f3 e.f4 c) b∧(b=true↔Pc c e):=by
 obtain⟨n,x,h1,_⟩:=PrL.rInt e
 have hA:=A0_iff e n x h1
 obtain⟨w,hw⟩:∃ w,toponymref16_AsBool.f e.f0 e.f1 e.f2 e.f3 e.f4=some w:=by
  unfold toponymref16_AsBool.f
  split
  ·exact⟨_,rfl⟩
  ·split
   ·exact⟨_,rfl⟩
   ·split
    ·rw[if_pos (by omega)];exact⟨_,rfl⟩
    ·exact⟨_,rfl⟩
 have fin:∀ {o:Option Bool} {b:Bool},o=some b→Evt (fun _:Nat=>o) b:=by
  intro o b h;rw[h];exact Evt.now _
 have pre:∀ {b:Bool},Evt (fun _:Nat=>(if c=116 then(if e.f0=0 then(if e.f2=4 then(some (!e.f1)) else(some false)) else(some false)) else(if c=105 then(if e.f0=0 then(if e.f2=2 then(some (x==0)) else(some false)) else(some false)) else(if c=101 then(if e.f0=0 then(if e.f2=10 then(some (x==0)) else(some false)) else(some false)) else(if c=98 then(if e.f0=0 then(if e.f2=1 then(some (w.2==0)) else(some false)) else(some false)) else(if c=103 then(if e.f0=0 then(if e.f2=16 then(some e.f1) else(some false)) else(some false)) else(if c=115 then(if e.f0=0 then(if e.f2=17 then(some e.f1) else(some false)) else(some false)) else(some true)))))))) b→Evt (fun k=>toponymref26_shape.f k e.f0 e.f1 e.f2 e.f3 e.f4 c) b:=by
  intro b h
  unfold toponymref26_shape.f
  refine Evt.bind h1 ?_
  rw[hw]
  exact h
 unfold Pc
 by_cases c1:c=116
 ·obtain⟨r,hr,hi⟩:=br (e.f0=0) (e.f2=4) (!e.f1)
  exact⟨r,pre (by simp only[if_pos c1];exact fin hr),by rw[if_pos c1,hi];simp⟩
 ·by_cases c2:c=105
  ·obtain⟨r,hr,hi⟩:=br (e.f0=0) (e.f2=2) (x==0)
   exact⟨r,pre (by simp only[if_neg c1,if_pos c2];exact fin hr),by rw[if_neg c1,if_pos c2,hi,← hA];simp⟩
  ·by_cases c3:c=101
   ·obtain⟨r,hr,hi⟩:=br (e.f0=0) (e.f2=10) (x==0)
    exact⟨r,pre (by simp only[if_neg c1,if_neg c2,if_pos c3];exact fin hr),by rw[if_neg c1,if_neg c2,if_pos c3,hi,← hA];simp⟩
   ·by_cases c4:c=103
    ·obtain⟨r,hr,hi⟩:=br (e.f0=0) (e.f2=16) e.f1
     exact⟨r,pre (by simp only[if_neg c1,if_neg c2,if_neg c3,if_neg hc,if_pos c4];exact fin hr),by rw[if_neg c1,if_neg c2,if_neg c3,if_pos c4,hi]⟩
    ·by_cases c5:c=115
     ·obtain⟨r,hr,hi⟩:=br (e.f0=0) (e.f2=17) e.f1
      exact⟨r,pre (by simp only[if_neg c1,if_neg c2,if_neg c3,if_neg hc,if_neg c4,if_pos c5];exact fin hr),by rw[if_neg c1,if_neg c2,if_neg c3,if_neg c4,if_pos c5,hi]⟩
     ·exact⟨true,pre (by simp only[if_neg c1,if_neg c2,if_neg c3,if_neg hc,if_neg c4,if_neg c5];exact Evt.now _),by rw[if_neg c1,if_neg c2,if_neg c3,if_neg c4,if_neg c5];simp⟩
theorem Shape_ev (l:List S57) (s:ByteArray) (hl:l.length≤4000) (hs:∀ i:Nat,i<s.size→bt s (i:Int)≠98):∃ b,Evt (fun k=>toponymref26_Shape.f k l s) b∧(b=true↔l.length=s.size∧∀ i:Nat,i<l.length→Pc (bt s (i:Int)) (rd_T57 l (i:Int))):=by
 unfold toponymref26_Shape.f
 by_cases h:(l.length:Int)=(s.size:Int)
 ·have hn:l.length=s.size:=by omega
  simp only[if_pos h]
  have loop:∀ j i:Nat,l.length - i≤j→i≤l.length→∃ b,Evt (fun k=>toponymref26_Shape.l0 k (i:Int) s l) b∧(b=true↔∀ m:Nat,i≤m→m<l.length→Pc (bt s (m:Int)) (rd_T57 l (m:Int))):=by
   intro j
   induction j with
   |zero=>
    intro i hj hi
    refine⟨true,Evt.step ?_,by simp;intro m h1 h2;omega⟩
    simp only[toponymref26_Shape.l0,if_neg (show ¬ (i:Int)<(l.length:Int) by omega)]
    exact Evt.now _
   |succ j ih=>
    intro i hj hi
    by_cases hlt:i<l.length
    ·obtain⟨b,h1,h2⟩:=shape_ev (rd_T57 l (i:Int)) (bt s (i:Int)) (hs i (by omega))
     obtain⟨b',h3,h4⟩:=ih (i+1) (by omega) (by omega)
     have hnx:wrap64 ((i:Int)+1)=((i+1:Nat):Int):=(w64 _ (by omega)).trans (by omega)
     cases b
     ·refine⟨false,Evt.step ?_,?_⟩
      ·simp only[toponymref26_Shape.l0,if_pos (show(i:Int)<(l.length:Int) by omega),if_pos (Int.natCast_nonneg i),if_pos (show(i:Int)<(s.size:Int) by omega)]
       refine Evt.bind h1 ?_
       simp only[Bool.false_eq_true,if_false]
       exact Evt.now _
      ·simp only[Bool.false_eq_true,false_iff]
       intro hall
       exact absurd (h2.2 (hall i (Nat.le_refl _) hlt)) (by decide)
     ·refine⟨b',Evt.step ?_,?_⟩
      ·simp only[toponymref26_Shape.l0,if_pos (show(i:Int)<(l.length:Int) by omega),if_pos (Int.natCast_nonneg i),if_pos (show(i:Int)<(s.size:Int) by omega),hnx]
       refine Evt.bind h1 ?_
       simp only[if_true]
       exact h3
      ·rw[h4]
       constructor
       ·intro hall m hm hm2
        by_cases hmi:m=i
        ·subst hmi;exact h2.1 rfl
        ·exact hall m (by omega) hm2
       ·intro hall m hm hm2
        exact hall m (by omega) hm2
    ·refine⟨true,Evt.step ?_,by simp;intro m h1 h2;omega⟩
     simp only[toponymref26_Shape.l0,if_neg (show ¬ (i:Int)<(l.length:Int) by omega)]
     exact Evt.now _
  obtain⟨b,h1,h2⟩:=loop l.length 0 (by omega) (by omega)
  refine⟨b,h1,?_⟩
  rw[h2]
  exact⟨fun hh=>⟨hn,fun i hi=>hh i (by omega) hi⟩,fun hh m _ hm=>hh.2 m hm⟩
 ·simp only[if_neg h]
  exact⟨false,Evt.now _,by simp;intro hh;omega⟩
def P116 (e:S57):Prop:=e.f0=0∧e.f2=4∧e.f1=false
theorem shape2 (l:List S57) (hl:l.length≤4000) (s:ByteArray) (c d:Int) (h2:s.size=2) (hc:bt s ((0:Nat):Int)=c) (hd:bt s ((1:Nat):Int)=d) (hcd:c≠98∧d≠98):∃ b,Evt (fun k=>toponymref26_Shape.f k l s) b∧(b=true↔∃ x y,l=[x,y]∧Pc c x∧Pc d y):=by
 obtain⟨b,h1,h3⟩:=Shape_ev l s hl (by
  intro i hi
  have:i=0∨i=1:=by omega
  rcases this with rfl|rfl
  ·rw[hc];exact hcd.1
  ·rw[hd];exact hcd.2)
 refine⟨b,h1,h3.trans ⟨?_,?_⟩⟩
 ·rintro⟨ha,hb⟩
  match l,ha,hb with
  |[x,y],_,hb=>
   have p0:=hb 0 (by simp)
   have p1:=hb 1 (by simp)
   rw[hc] at p0
   rw[hd] at p1
   exact⟨x,y,rfl,p0,p1⟩
  |[],ha,_=>simp at ha;omega
  |[_],ha,_=>simp at ha;omega
  |_::_::_::_,ha,_=>simp at ha;omega
 ·rintro⟨x,y,rfl,p0,p1⟩
  refine⟨by rw[h2];rfl,fun i hi=>?_⟩
  have:i=0∨i=1:=by simp at hi;omega
  rcases this with rfl|rfl
  ·rw[hc];exact p0
  ·rw[hd];exact p1
theorem ix_ev (l:List S57) (hl:l.length≤4000):∃ b,Evt (fun k=>toponymref26_Shape.f k l (⟨#[105,120]⟩:ByteArray)) b∧(b=true↔∃ x y,l=[x,y]∧Pc 105 x∧Pc 120 y):=shape2 l hl _ 105 120 rfl (by decide) (by decide) (by decide)
theorem tg_ev (l:List S57) (hl:l.length≤4000):∃ b,Evt (fun k=>toponymref26_Shape.f k l (⟨#[116,103]⟩:ByteArray)) b∧(b=true↔∃ x y,l=[x,y]∧Pc 116 x∧Pc 103 y):=shape2 l hl _ 116 103 rfl (by decide) (by decide) (by decide)
theorem ts_ev (l:List S57) (hl:l.length≤4000):∃ b,Evt (fun k=>toponymref26_Shape.f k l (⟨#[116,115]⟩:ByteArray)) b∧(b=true↔∃ x y,l=[x,y]∧Pc 116 x∧Pc 115 y):=shape2 l hl _ 116 115 rfl (by decide) (by decide) (by decide)
theorem ett_ev (l:List S57) (hl:l.length≤4000):∃ b,Evt (fun k=>toponymref26_Shape.f k l (⟨#[101,116,116]⟩:ByteArray)) b∧(b=true↔∃ x y z,l=[x,y,z]∧Pc 101 x∧Pc 116 y∧Pc 116 z):=by
 have e0:bt (⟨#[101,116,116]⟩:ByteArray) ((0:Nat):Int)=101:=by decide
 have e1:bt (⟨#[101,116,116]⟩:ByteArray) ((1:Nat):Int)=116:=by decide
 have e2:bt (⟨#[101,116,116]⟩:ByteArray) ((2:Nat):Int)=116:=by decide
 have hz:(⟨#[101,116,116]⟩:ByteArray).size=3:=rfl
 obtain⟨b,h1,h3⟩:=Shape_ev l ⟨#[101,116,116]⟩ hl (by
  intro i hi
  have:i=0∨i=1∨i=2:=by omega
  rcases this with rfl|rfl|rfl
  ·rw[e0];decide
  ·rw[e1];decide
  ·rw[e2];decide)
 refine⟨b,h1,h3.trans ⟨?_,?_⟩⟩
 ·rintro⟨ha,hb⟩
  rw[hz] at ha
  match l,ha,hb with
  |[x,y,z],_,hb=>
   have p0:=hb 0 (by simp)
   have p1:=hb 1 (by simp)
   have p2:=hb 2 (by simp)
   rw[e0] at p0
   rw[e1] at p1
   rw[e2] at p2
   exact⟨x,y,z,rfl,p0,p1,p2⟩
  |[],ha,_=>simp at ha
  |[_],ha,_=>simp at ha
  |[_,_],ha,_=>simp at ha
  |_::_::_::_::_,ha,_=>simp at ha
 ·rintro⟨x,y,z,rfl,p0,p1,p2⟩
  refine⟨rfl,fun i hi=>?_⟩
  have:i=0∨i=1∨i=2:=by simp at hi;omega
  rcases this with rfl|rfl|rfl
  ·rw[e0];exact p0
  ·rw[e1];exact p1
  ·rw[e2];exact p2
theorem ettx_ev (l:List S57) (hl:l.length≤4000):∃ b,Evt (fun k=>toponymref26_Shape.f k l (⟨#[101,116,116,120]⟩:ByteArray)) b∧(b=true↔∃ x y z w,l=[x,y,z,w]∧Pc 101 x∧Pc 116 y∧Pc 116 z):=by
 have e0:bt (⟨#[101,116,116,120]⟩:ByteArray) ((0:Nat):Int)=101:=by decide
 have e1:bt (⟨#[101,116,116,120]⟩:ByteArray) ((1:Nat):Int)=116:=by decide
 have e2:bt (⟨#[101,116,116,120]⟩:ByteArray) ((2:Nat):Int)=116:=by decide
 have e3:bt (⟨#[101,116,116,120]⟩:ByteArray) ((3:Nat):Int)=120:=by decide
 have hz:(⟨#[101,116,116,120]⟩:ByteArray).size=4:=rfl
 obtain⟨b,h1,h3⟩:=Shape_ev l ⟨#[101,116,116,120]⟩ hl (by
  intro i hi
  have:i=0∨i=1∨i=2∨i=3:=by omega
  rcases this with rfl|rfl|rfl|rfl
  ·rw[e0];decide
  ·rw[e1];decide
  ·rw[e2];decide
  ·rw[e3];decide)
 refine⟨b,h1,h3.trans ⟨?_,?_⟩⟩
 ·rintro⟨ha,hb⟩
  rw[hz] at ha
  match l,ha,hb with
  |[x,y,z,w],_,hb=>
   have p0:=hb 0 (by simp)
   have p1:=hb 1 (by simp)
   have p2:=hb 2 (by simp)
   rw[e0] at p0
   rw[e1] at p1
   rw[e2] at p2
   exact⟨x,y,z,w,rfl,p0,p1,p2⟩
  |[],ha,_=>simp at ha
  |[_],ha,_=>simp at ha
  |[_,_],ha,_=>simp at ha
  |[_,_,_],ha,_=>simp at ha
  |_::_::_::_::_::_,ha,_=>simp at ha
 ·rintro⟨x,y,z,w,rfl,p0,p1,p2⟩
  refine⟨rfl,fun i hi=>?_⟩
  have:i=0∨i=1∨i=2∨i=3:=by simp at hi;omega
  rcases this with rfl|rfl|rfl|rfl
  ·rw[e0];exact p0
  ·rw[e1];exact p1
  ·rw[e2];exact p2
  ·rw[e3];simp[Pc]
/-! ### texts -/
theorem rtexts_ev (e:S57) (hb:e.f1=true) (hl:e.f4.length≤4000):∃ v x,Evt (fun k=>toponymref16_Texts.f k e.f0 e.f1 e.f2 e.f3 e.f4) (v,x)∧(x=0↔e.f4.all isT=true)∧(x=0→v=e.f4.map fun y=>y.f3):=by
 obtain⟨l,hle⟩:∃ l,l=e.f4:=⟨_,rfl⟩
 rw[← hle] at hl ⊢
 rw[hb]
 unfold toponymref16_Texts.f
 have loop:∀ (t p:List S57) (acc:List ByteArray),l=p++t→acc.length=p.length→∃ v x,Evt (fun k=>toponymref16_Texts.l0 k acc (p.length:Int) true l) (v,x)∧(x=0↔t.all isT=true)∧(x=0→v=acc++t.map fun y=>y.f3):=by
  intro t
  induction t with
  |nil=>
   intro p acc hp ha
   refine⟨acc,0,Evt.step ?_,by simp,by simp⟩
   have hn: ¬ (p.length:Int)<(l.length:Int):=by rw[hp];simp
   simp only[toponymref16_Texts.l0,if_neg hn,if_true]
   exact Evt.now _
  |cons y t ih=>
   intro p acc hp ha
   have hlt:(p.length:Int)<(l.length:Int):=by rw[hp];simp;omega
   have hy:rd_T57 l (p.length:Int)=y:=by rw[hp];exact rd_mid p y t
   have hnx:wrap64 ((p.length:Int)+1)=((p++[y]).length:Int):=by rw[w64 _ (by omega)];simp
   cases hy2:isT y
   ·refine⟨[],160,Evt.step ?_,by simp[hy2],fun h=>absurd h (by decide)⟩
    unfold isT at hy2
    simp only[toponymref16_Texts.l0,if_pos hlt,if_pos (Int.natCast_nonneg p.length),hy]
    by_cases c0:y.f0=0
    ·rw[if_pos c0] at hy2
     by_cases c2:y.f2=4
     ·rw[if_pos c2] at hy2
      have:y.f1=true:=by simpa using hy2
      simp only[if_pos c0,if_pos c2,if_pos this]
      exact Evt.now _
     ·simp only[if_pos c0,if_neg c2]
      exact Evt.now _
    ·simp only[if_neg c0]
     exact Evt.now _
   ·obtain⟨v,x,h1,h2,h3⟩:=ih (p++[y]) (acc++[y.f3]) (by rw[hp,snoc]) (by simp;omega)
    refine⟨v,x,Evt.step ?_,by rw[h2];simp[hy2],fun h=>by rw[h3 h];simp⟩
    unfold isT at hy2
    by_cases c0:y.f0=0
    ·rw[if_pos c0] at hy2
     by_cases c2:y.f2=4
     ·rw[if_pos c2] at hy2
      have c1: ¬ y.f1=true:=by simpa using hy2
      simp only[toponymref16_Texts.l0,if_pos hlt,if_pos (Int.natCast_nonneg p.length),hy,if_pos c0,if_pos c2,if_neg c1,if_pos (show acc.length<8796093022208 by omega),Option.bind_some,hnx]
      exact h1
     ·rw[if_neg c2] at hy2;cases hy2
    ·rw[if_neg c0] at hy2;cases hy2
 obtain⟨v,x,h1,h2,h3⟩:=loop l [] [] rfl rfl
 exact⟨v,x,h1,h2,fun h=>by rw[h3 h];rfl⟩
/-! ### what an element is -/
theorem sm_leaf {e:S57} (h:Sm e) (hb:e.f1=false):e.f4=[]:=by
 obtain⟨n,hs,_⟩:=h
 cases n with
 |zero=>simp[PbA.san] at hs
 |succ n=>
  have h1:(PbA.okL e && e.f4.all (PbA.san n))=true:=hs
  have ho:=(Bool.and_eq_true _ _ ▸ h1:PbA.okL e=true∧_).1
  unfold PbA.okL at ho
  rw[hb] at ho
  simp only[Bool.false_eq_true,if_false] at ho
  exact List.length_eq_zero_iff.1 (of_decide_eq_true (Bool.and_eq_true _ _ ▸ ho).2)
theorem sm_made {e:S57} (h:Sm e) (hb:e.f1=true):e.f3=⟨#[]⟩:=by
 obtain⟨n,hs,_⟩:=h
 cases n with
 |zero=>simp[PbA.san] at hs
 |succ n=>
  have h1:(PbA.okL e && e.f4.all (PbA.san n))=true:=hs
  have ho:=(Bool.and_eq_true _ _ ▸ h1:PbA.okL e=true∧_).1
  unfold PbA.okL at ho
  rw[hb] at ho
  simp only[if_true] at ho
  exact PbA.zero_size (of_decide_eq_true (Bool.and_eq_true _ _ ▸ ho).2)
theorem mk_eq (e:S57) (a:Int) (b:Bool) (c:Int) (d:ByteArray) (l:List S57) (h0:e.f0=a) (h1:e.f1=b) (h2:e.f2=c) (h3:e.f3=d) (h4:e.f4=l):e=⟨a,b,c,d,l⟩:=by
 subst h0;subst h1;subst h2;subst h3;subst h4
 exact(PbA.eta e).symm
theorem Pt {e:S57} (h:Sm e):Pc 116 e↔e=tE e.f3:=by
 unfold Pc
 rw[if_pos rfl]
 constructor
 ·rintro⟨a,b,c⟩
  exact mk_eq e _ _ _ _ _ a c b rfl (sm_leaf h c)
 ·intro he
  rw[he]
  exact⟨rfl,rfl,rfl⟩
theorem Pi {e:S57} (m c:Int) (hm:(c=105∧m=2)∨(c=101∧m=10)):Pc c e↔∃ n:Int,(-2147483648≤n∧n≤2147483647)∧e=nE m n:=by
 unfold Pc
 constructor
 ·intro h
  have:e.f0=0∧e.f2=m∧A0 e:=by
   rcases hm with⟨rfl,rfl⟩|⟨rfl,rfl⟩
   ·rw[if_neg (by decide),if_pos rfl] at h;exact h
   ·rw[if_neg (by decide),if_neg (by decide),if_pos rfl] at h;exact h
  obtain⟨a,b,n,h1,h2,h3,h4,h5⟩:=this
  exact⟨n,⟨h1,h2⟩,mk_eq e _ _ _ _ _ a h3 b h5 h4⟩
 ·rintro⟨n,⟨h1,h2⟩,rfl⟩
  have hA:A0 (nE m n):=⟨n,h1,h2,rfl,rfl,rfl⟩
  rcases hm with⟨rfl,rfl⟩|⟨rfl,rfl⟩
  ·rw[if_neg (by decide),if_pos rfl];exact⟨rfl,rfl,hA⟩
  ·rw[if_neg (by decide),if_neg (by decide),if_pos rfl];exact⟨rfl,rfl,hA⟩
theorem Pg {e:S57} (h:Sm e) (m c:Int) (hm:(c=103∧m=16)∨(c=115∧m=17)):Pc c e↔e=gE 0 m e.f4:=by
 unfold Pc
 constructor
 ·intro h'
  have:e.f0=0∧e.f2=m∧e.f1=true:=by
   rcases hm with⟨rfl,rfl⟩|⟨rfl,rfl⟩
   ·rw[if_neg (by decide),if_neg (by decide),if_neg (by decide),if_pos rfl] at h';exact h'
   ·rw[if_neg (by decide),if_neg (by decide),if_neg (by decide),if_neg (by decide),if_pos rfl] at h';exact h'
  exact mk_eq e _ _ _ _ _ this.1 this.2.2 this.2.1 (sm_made h this.2.2) rfl
 ·intro he
  rw[he]
  rcases hm with⟨rfl,rfl⟩|⟨rfl,rfl⟩
  ·rw[if_neg (by decide),if_neg (by decide),if_neg (by decide),if_pos rfl];exact⟨rfl,rfl,rfl⟩
  ·rw[if_neg (by decide),if_neg (by decide),if_neg (by decide),if_neg (by decide),if_pos rfl];exact⟨rfl,rfl,rfl⟩
theorem all_tE (l:List S57) (h:∀ y ∈ l,Sm y):l.all isT=true↔l=(l.map fun y=>y.f3).map tE:=by
 constructor
 ·intro ha
  rw[List.map_map]
  refine(List.map_id l).symm.trans (List.map_congr_left ?_)
  intro y hy
  have hy2:=List.all_eq_true.1 ha y hy
  refine(Pt (h y hy)).1 ?_
  unfold Pc
  rw[if_pos rfl]
  unfold isT at hy2
  by_cases c0:y.f0=0
  ·rw[if_pos c0] at hy2
   by_cases c2:y.f2=4
   ·rw[if_pos c2] at hy2
    exact⟨c0,c2,by simpa using hy2⟩
   ·rw[if_neg c2] at hy2;cases hy2
  ·rw[if_neg c0] at hy2;cases hy2
 ·intro he
  rw[he]
  simp[isT_tE]
/-! ### alike elements -/
theorem nE_inj {m n n':Int} (hn: -2147483648≤n∧n≤2147483647) (hn': -2147483648≤n'∧n'≤2147483647) (h:nE m n=nE m n'):n=n':=by
 have h1:=A0_val (nE m n) n hn rfl rfl rfl
 have h2:=A0_val (nE m n') n' hn' rfl rfl rfl
 rw[h] at h1
 exact(Prod.mk.inj (Evt.uniq h1 h2)).1
theorem tE_inj {s t:ByteArray} (h:tE s=tE t):s=t:=congrArg S57.f3 h
theorem xE_inj {s t:ByteArray} (h:xE s=xE t):s=t:=by
 unfold xE at h
 by_cases h1:s.size=0
 ·by_cases h2:t.size=0
  ·rw[PbA.zero_size h1,PbA.zero_size h2]
  ·rw[if_pos h1,if_neg h2] at h;cases h
 ·by_cases h2:t.size=0
  ·rw[if_neg h1,if_pos h2] at h;cases h
  ·rw[if_neg h1,if_neg h2] at h
   exact congrArg S57.f3 (List.cons.inj h).1
theorem map_tE_inj {l m:List ByteArray} (h:l.map tE=m.map tE):l=m:=by
 have:=congrArg (List.map fun y:S57=>y.f3) h
 rw[List.map_map,List.map_map] at this
 rw[← List.map_id l,← List.map_id m]
 exact this
theorem aE_inj {v w:S46} (h:aE v=aE w):v=w:=by
 have h1:[tE v.f0,gE 0 17 (v.f1.map tE)]=[tE w.f0,gE 0 17 (w.f1.map tE)]:=congrArg S57.f4 h
 have h2:=List.cons.inj h1
 have h3:v.f1.map tE=w.f1.map tE:=congrArg S57.f4 (List.cons.inj h2.2).1
 have h4:=tE_inj h2.1
 have h5:=map_tE_inj h3
 cases v;cases w
 simp only at h4 h5
 rw[h4,h5]
theorem map_aE_inj:∀ {l m:List S46},l.map aE=m.map aE→l=m
 |[],[],_=>rfl
 |[],_::_,h=>by cases h
 |_::_,[],h=>by cases h
 |a::l,b::m,h=>by
  have h2:=List.cons.inj h
  rw[aE_inj h2.1,map_aE_inj h2.2]
/-! ### an answer's element -/
def kg (n x cur:Int):Int:=if (if tg x>0 then tg x else 0)=n then(if n>0 then x else cur) else cur
def kr (n:Int):Int:=kg n 10 (kg n 9 (kg n 8 (kg n 7 (kg n 6 (kg n 5 (kg n 4 (kg n 3 (kg n 2 (kg n 1 0)))))))))
theorem res_step (x:Int) (hx:0≤x∧x≤10) (cur n:Int) (l:List S57) {v} (h:Evt (fun k=>toponymref27_result.l0 k (x+1) (kg n x cur) n l) v):Evt (fun k=>toponymref27_result.l0 k x cur n l) v:=by
 refine Evt.step ?_
 have hw:wrap64 (x+1)=x+1:=w64 _ (by omega)
 simp only[toponymref27_result.l0,if_pos hx.2,PrE.rtag_eq,Option.bind_some,hw]
 unfold kg at h
 by_cases h1:(if tg x>0 then tg x else 0)=n
 ·rw[if_pos h1] at h
  simp only[if_pos h1]
  by_cases h2:n>0
  ·rw[if_pos h2] at h
   simp only[if_pos h2]
   exact h
  ·rw[if_neg h2] at h
   simp only[if_neg h2]
   exact h
 ·rw[if_neg h1] at h
  simp only[if_neg h1]
  exact h
theorem rkinds (n:Int) (l:List S57) {v} (h:Evt (fun k=>toponymref27_result.l0 k 11 (kr n) n l) v):Evt (fun k=>toponymref27_result.l0 k 1 0 n l) v:=by
 refine res_step 1 (by omega) _ _ _ ?_
 refine res_step 2 (by omega) _ _ _ ?_
 refine res_step 3 (by omega) _ _ _ ?_
 refine res_step 4 (by omega) _ _ _ ?_
 refine res_step 5 (by omega) _ _ _ ?_
 refine res_step 6 (by omega) _ _ _ ?_
 refine res_step 7 (by omega) _ _ _ ?_
 refine res_step 8 (by omega) _ _ _ ?_
 refine res_step 9 (by omega) _ _ _ ?_
 exact res_step 10 (by omega) _ _ _ h
theorem kr_tg (a:Int) (h:tg a>0):kr (tg a)=a:=by
 have key:∀ x ∈ [(1:Int),3,4,5,6,7,8,10],kr (tg x)=x:=by decide
 have ha:a ∈ [(1:Int),3,4,5,6,7,8,10]:=by
  simp only[List.mem_cons,List.not_mem_nil,or_false]
  by_cases hc:a=1∨a=3∨a=4∨a=5∨a=6∨a=7∨a=8∨a=10
  ·exact hc
  ·unfold tg at h
   rw[if_neg (by omega),if_neg (by omega),if_neg (by omega),if_neg (by omega),if_neg (by omega),if_neg (by omega),if_neg (by omega),if_neg (by omega)] at h
   omega
 exact key a ha
theorem kg_or (n x cur:Int) (h:tg cur>0→tg cur=n):tg (kg n x cur)>0→tg (kg n x cur)=n:=by
 unfold kg
 by_cases h1:(if tg x>0 then tg x else 0)=n
 ·rw[if_pos h1]
  by_cases h2:n>0
  ·rw[if_pos h2]
   intro h3
   rw[if_pos h3] at h1
   exact h1
  ·rw[if_neg h2];exact h
 ·rw[if_neg h1];exact h
theorem tg_kr (n:Int) (h:tg (kr n)>0):tg (kr n)=n:=by
 revert h
 unfold kr
 refine kg_or _ _ _ (kg_or _ _ _ (kg_or _ _ _ (kg_or _ _ _ (kg_or _ _ _ (kg_or _ _ _ (kg_or _ _ _ (kg_or _ _ _ (kg_or _ _ _ (kg_or _ _ _ ?_)))))))))
 intro h
 exact absurd h (by decide)
def Rf (l:List S57) (n:Int) (s1 s2 s3:ByteArray):Prop:=(-2147483648≤n∧n≤2147483647)∧l=nE 10 n::tE s1::tE s2::xE s3
theorem rresult_ev (tn:Int) (l:List S57) (hl:l.length≤4000) (hsm:∀ y ∈ l,Sm y):∃ q c,Bd q∧Evt (fun k=>toponymref27_result.f k tn l) (t9 q c)∧(c=true→∃ n s1 s2 s3,Rf l n s1 s2 s3∧q=⟨0,kr tn,false,n,s1,s2,s3,[]⟩)∧(∀ n s1 s2 s3,Rf l n s1 s2 s3→c=true)∧q.f0=0:=by
 unfold toponymref27_result.f
 have hsz:∀ y ∈ l,y.f3.size≤140737488351232:=fun y hy=>by have:=(hsm y hy).all.2.1;omega
 obtain⟨b1,h1,i1⟩:=ett_ev l hl
 obtain⟨b2,h2,i2⟩:=ettx_ev l hl
 have goal:∃ q c,Bd q∧Evt (fun k=>toponymref27_result.l0 k 11 (kr tn) tn l) (t9 q c)∧(c=true→∃ n s1 s2 s3,Rf l n s1 s2 s3∧q=⟨0,kr tn,false,n,s1,s2,s3,[]⟩)∧(∀ n s1 s2 s3,Rf l n s1 s2 s3→c=true)∧q.f0=0:=by
  cases b1
  ·cases b2
   ·refine⟨⟨0,kr tn,false,0,⟨#[]⟩,⟨#[]⟩,⟨#[]⟩,[]⟩,false,⟨Nat.zero_le _,Nat.zero_le _,Nat.zero_le _,Nat.zero_le _,by simp⟩,Evt.step ?_,by simp,?_,rfl⟩
    ·simp only[toponymref27_result.l0,if_neg (show ¬ (11:Int)≤10 by omega)]
     refine Evt.bind h1 ?_
     simp only[Bool.false_eq_true,if_false]
     refine Evt.bind h2 ?_
     simp only[Bool.false_eq_true,if_false]
     exact Evt.now _
    ·rintro n s1 s2 s3 ⟨hn,hl2⟩
     by_cases hz:s3.size=0
     ·have:xE s3=[]:=by unfold xE;rw[if_pos hz]
      rw[this] at hl2
      refine i1.2 ⟨_,_,_,hl2,(Pi 10 101 (.inr ⟨rfl,rfl⟩)).2 ⟨n,hn,rfl⟩,(Pt (hsm _ (by rw[hl2];simp))).2 rfl,(Pt (hsm _ (by rw[hl2];simp))).2 rfl⟩
     ·have:xE s3=[⟨2,false,10,s3,[]⟩]:=by unfold xE;rw[if_neg hz]
      rw[this] at hl2
      refine i2.2 ⟨_,_,_,_,hl2,(Pi 10 101 (.inr ⟨rfl,rfl⟩)).2 ⟨n,hn,rfl⟩,(Pt (hsm _ (by rw[hl2];simp))).2 rfl,(Pt (hsm _ (by rw[hl2];simp))).2 rfl⟩
   ·obtain⟨x,y,z,w,hl2,px,py,pz⟩:=i2.1 rfl
    obtain⟨n,hn,hx⟩:=(Pi 10 101 (.inr ⟨rfl,rfl⟩)).1 px
    have hy:=(Pt (hsm y (by rw[hl2];simp))).1 py
    have hz:=(Pt (hsm z (by rw[hl2];simp))).1 pz
    have hA:=A0_val x n hn (by rw[hx];rfl) (by rw[hx];rfl) (by rw[hx];rfl)
    have hw:=hsm w (by rw[hl2];simp)
    have g0:rd_T57 l 0=x:=by rw[hl2];rfl
    have g1:rd_T57 l 1=y:=by rw[hl2];rfl
    have g2:rd_T57 l 2=z:=by rw[hl2];rfl
    have g3:rd_T57 l 3=w:=by rw[hl2];rfl
    have hlen:(l.length:Int)=4:=by rw[hl2];rfl
    have tail:∃ c,Evt (fun k=>if w.f0=2 then(if w.f2=10 then(if w.f1=true then(some (0,kr tn,false,n,y.f3,z.f3,w.f3,([]:List S46),false)) else(some (0,kr tn,false,n,y.f3,z.f3,w.f3,([]:List S46),((w.f3).toList != ([]:List UInt8))))) else(some (0,kr tn,false,n,y.f3,z.f3,w.f3,([]:List S46),false))) else(some (0,kr tn,false,n,y.f3,z.f3,w.f3,([]:List S46),false))) (t9 ⟨0,kr tn,false,n,y.f3,z.f3,w.f3,[]⟩ c)∧(c=true↔xE w.f3=[w]):=by
     have key:xE w.f3=[w]→w.f3.size≠0∧w=⟨2,false,10,w.f3,[]⟩:=by
      intro h
      unfold xE at h
      by_cases hq:w.f3.size=0
      ·rw[if_pos hq] at h;cases h
      ·rw[if_neg hq] at h;exact⟨hq,(List.cons.inj h).1.symm⟩
     by_cases c0:w.f0=2
     ·by_cases c2:w.f2=10
      ·by_cases c1:w.f1=true
       ·simp only[if_pos c0,if_pos c2,if_pos c1]
        exact⟨false,Evt.now _,by
         simp only[Bool.false_eq_true,false_iff]
         intro h;have h3:=congrArg S57.f1 (key h).2;rw[c1] at h3;cases h3⟩
       ·have c1':w.f1=false:=by simpa using c1
        simp only[if_pos c0,if_pos c2,if_neg c1]
        refine⟨_,Evt.now _,?_⟩
        have hb:((w.f3).toList != ([]:List UInt8))=true↔w.f3.size≠0:=by
         rw[bne_iff_ne,ne_eq,PbA.toList_nil]
        rw[hb]
        constructor
        ·intro hq
         unfold xE
         rw[if_neg hq]
         exact congrArg (fun e:S57=>[e]) (mk_eq w _ _ _ _ _ c0 c1' c2 rfl (sm_leaf hw c1')).symm
        ·intro h;exact(key h).1
      ·simp only[if_pos c0,if_neg c2]
       exact⟨false,Evt.now _,by
        simp only[Bool.false_eq_true,false_iff]
        intro h;exact c2 (congrArg S57.f2 (key h).2)⟩
     ·simp only[if_neg c0]
      exact⟨false,Evt.now _,by
       simp only[Bool.false_eq_true,false_iff]
       intro h;exact c0 (congrArg S57.f0 (key h).2)⟩
    obtain⟨c,hc,ic⟩:=tail
    refine⟨⟨0,kr tn,false,n,y.f3,z.f3,w.f3,[]⟩,c,⟨hsz y (by rw[hl2];simp),hsz z (by rw[hl2];simp),hsz w (by rw[hl2];simp),Nat.zero_le _,by simp⟩,Evt.step ?_,?_,?_,rfl⟩
    ·simp only[toponymref27_result.l0,if_neg (show ¬ (11:Int)≤10 by omega)]
     refine Evt.bind h1 ?_
     simp only[Bool.false_eq_true,if_false]
     refine Evt.bind h2 ?_
     simp only[if_true,hlen,if_pos (show(0:Int)<4 by omega),if_pos (show(1:Int)<4 by omega),if_pos (show(2:Int)<4 by omega),if_pos (show(3:Int)<4 by omega),if_neg (show ¬ (4:Int)=3 by omega),g0,g1,g2,g3]
     refine Evt.bind hA ?_
     exact hc
    ·intro hct
     refine⟨n,y.f3,z.f3,w.f3,⟨hn,?_⟩,rfl⟩
     rw[ic.1 hct,hl2,← hx,← hy,← hz]
    ·rintro n' s1 s2 s3 ⟨hn',hl3⟩
     have hj:[x,y,z,w]=nE 10 n'::tE s1::tE s2::xE s3:=hl2.symm.trans hl3
     have j1:=(List.cons.inj (List.cons.inj (List.cons.inj hj).2).2).2
     have:w.f3=s3:=by
      unfold xE at j1
      by_cases hq:s3.size=0
      ·rw[if_pos hq] at j1;cases j1
      ·rw[if_neg hq] at j1;exact congrArg S57.f3 (List.cons.inj j1).1
     rw[← this] at j1
     exact ic.2 j1.symm
  ·obtain⟨x,y,z,hl2,px,py,pz⟩:=i1.1 rfl
   obtain⟨n,hn,hx⟩:=(Pi 10 101 (.inr ⟨rfl,rfl⟩)).1 px
   have hy:=(Pt (hsm y (by rw[hl2];simp))).1 py
   have hz:=(Pt (hsm z (by rw[hl2];simp))).1 pz
   have hA:=A0_val x n hn (by rw[hx];rfl) (by rw[hx];rfl) (by rw[hx];rfl)
   have g0:rd_T57 l 0=x:=by rw[hl2];rfl
   have g1:rd_T57 l 1=y:=by rw[hl2];rfl
   have g2:rd_T57 l 2=z:=by rw[hl2];rfl
   have hlen:(l.length:Int)=3:=by rw[hl2];rfl
   refine⟨⟨0,kr tn,false,n,y.f3,z.f3,⟨#[]⟩,[]⟩,true,⟨hsz y (by rw[hl2];simp),hsz z (by rw[hl2];simp),Nat.zero_le _,Nat.zero_le _,by simp⟩,Evt.step ?_,?_,fun _ _ _ _ _=>rfl,rfl⟩
   ·simp only[toponymref27_result.l0,if_neg (show ¬ (11:Int)≤10 by omega)]
    refine Evt.bind h1 ?_
    simp only[if_true,hlen,if_pos (show(0:Int)<3 by omega),if_pos (show(1:Int)<3 by omega),if_pos (show(2:Int)<3 by omega),g0,g1,g2]
    refine Evt.bind hA ?_
    exact Evt.now _
   ·intro _
    refine⟨n,y.f3,z.f3,⟨#[]⟩,⟨hn,?_⟩,rfl⟩
    rw[show xE ⟨#[]⟩=[] from rfl,hl2,← hx,← hy,← hz]
 obtain⟨q,c,a,b,d⟩:=goal
 exact⟨q,c,a,rkinds _ _ b,d⟩
/-! ### an entry's element -/
theorem rentry_l0 (l:List S57) (c d:S57) (hl2:l=[c,d]) (hd:Sm d):∀ (t p:List S57) (acc:List S46),d.f4=p++t→acc.length=p.length→
  ∃ vs b,Evt (fun k=>toponymref27_entry.l0 k (p.length:Int) acc l) (t9 ⟨0,3,true,0,⟨#[]⟩,⟨#[]⟩,c.f3,acc++vs⟩ b)∧(∀ v ∈ vs,v.f1.length≤4000)∧vs.length≤t.length∧(b=true→t=vs.map aE)∧(∀ ws:List S46,t=ws.map aE→b=true):=by
 have g0:rd_T57 l 0=c:=by rw[hl2];rfl
 have g1:rd_T57 l 1=d:=by rw[hl2];rfl
 have hlen:(l.length:Int)=2:=by rw[hl2];rfl
 have hd4:=hd.all.1
 intro t
 induction t with
 |nil=>
  intro p acc hp ha
  refine⟨[],true,Evt.step ?_,by simp,by simp,by simp,by simp⟩
  have hn: ¬ (p.length:Int)<(d.f4.length:Int):=by rw[hp];simp
  simp only[toponymref27_entry.l0,hlen,if_pos (show(1:Int)<2 by omega),if_pos (show(0:Int)<2 by omega),g0,g1,if_neg hn,List.append_nil]
  exact Evt.now _
 |cons y t ih=>
  intro p acc hp ha
  have hym:y ∈ d.f4:=by rw[hp];simp
  have hsy:=hd.all.2.2 y hym
  have hlt:(p.length:Int)<(d.f4.length:Int):=by rw[hp];simp;omega
  have hy:rd_T57 d.f4 (p.length:Int)=y:=by rw[hp];exact rd_mid p y t
  have hnx:wrap64 ((p.length:Int)+1)=((p++[y]).length:Int):=by rw[w64 _ (by omega)];simp
  have no:∀ (hno:∀ v:S46,y≠aE v),Evt (fun k=>toponymref27_entry.l0 k (p.length:Int) acc l) (t9 ⟨0,3,true,0,⟨#[]⟩,⟨#[]⟩,c.f3,acc⟩ false)→
    ∃ vs b,Evt (fun k=>toponymref27_entry.l0 k (p.length:Int) acc l) (t9 ⟨0,3,true,0,⟨#[]⟩,⟨#[]⟩,c.f3,acc++vs⟩ b)∧(∀ v ∈ vs,v.f1.length≤4000)∧vs.length≤(y::t).length∧(b=true→y::t=vs.map aE)∧(∀ ws:List S46,y::t=ws.map aE→b=true):=by
   intro hno h
   refine⟨[],false,by rw[List.append_nil];exact h,by simp,by simp,by simp,fun ws hws=>?_⟩
   cases ws with
   |nil=>cases hws
   |cons w ws=>exact absurd (List.cons.inj hws).1 (hno w)
  by_cases e0:y.f0=0
  ·by_cases e2:y.f2=16
   ·by_cases e1:y.f1=true
    ·obtain⟨b,h1,i1⟩:=ts_ev y.f4 hsy.all.1
     cases b
     ·refine no (fun v hv=>?_) (Evt.step ?_)
      ·have:y.f4=[tE v.f0,gE 0 17 (v.f1.map tE)]:=by rw[hv];rfl
       have:=i1.2 ⟨_,_,this,(Pt (hsy.all.2.2 _ (by rw[this];simp))).2 rfl,(Pg (hsy.all.2.2 _ (by rw[this];simp)) 17 115 (.inr ⟨rfl,rfl⟩)).2 rfl⟩
       exact absurd this (by decide)
      ·simp only[toponymref27_entry.l0,hlen,if_pos (show(1:Int)<2 by omega),if_pos (show(0:Int)<2 by omega),g0,g1,if_pos hlt,if_pos (Int.natCast_nonneg p.length),hy,if_pos e0,if_pos e2,if_pos e1]
       refine Evt.bind h1 ?_
       simp only[Bool.false_eq_true,if_false]
       exact Evt.now _
     ·obtain⟨x,z,hxz,px,pz⟩:=i1.1 rfl
      have hx:=(Pt (hsy.all.2.2 x (by rw[hxz];simp))).1 px
      have hsz:=hsy.all.2.2 z (by rw[hxz];simp)
      have hz:=(Pg hsz 17 115 (.inr ⟨rfl,rfl⟩)).1 pz
      have k0:rd_T57 y.f4 0=x:=by rw[hxz];rfl
      have k1:rd_T57 y.f4 1=z:=by rw[hxz];rfl
      have klen:(y.f4.length:Int)=2:=by rw[hxz];rfl
      obtain⟨v,xx,h2,i2,i3⟩:=rtexts_ev z (by rw[hz];rfl) hsz.all.1
      rw[all_tE z.f4 hsz.all.2.2] at i2
      by_cases hxx:xx=0
      ·have hv:=i3 hxx
       have hz4:=i2.1 hxx
       rw[← hv] at hz4
       have hvl:v.length≤4000:=by rw[hv,List.length_map];exact hsz.all.1
       have hyy:y=aE ⟨x.f3,v⟩:=by
        refine mk_eq y _ _ _ _ _ e0 e1 e2 (sm_made hsy e1) ?_
        show y.f4=[tE x.f3,gE 0 17 (v.map tE)]
        rw[hxz,← hx,← hz4,← hz]
       obtain⟨vs,b,h3,j1,j2,j3,j4⟩:=ih (p++[y]) (acc++[⟨x.f3,v⟩]) (by rw[hp,snoc]) (by simp;omega)
       refine⟨⟨x.f3,v⟩::vs,b,Evt.step ?_,?_,by simp;omega,?_,?_⟩
       ·simp only[toponymref27_entry.l0,hlen,if_pos (show(1:Int)<2 by omega),if_pos (show(0:Int)<2 by omega),g0,g1,if_pos hlt,if_pos (Int.natCast_nonneg p.length),hy,if_pos e0,if_pos e2,if_pos e1,klen,k0,k1]
        refine Evt.bind h1 ?_
        simp only[if_true]
        refine Evt.bind h2 ?_
        have hcap:acc.length+[(⟨x.f3,v⟩:S46)].length<3518437208883:=by simp;omega
        simp only[if_pos hxx,if_pos hcap,Option.bind_some,hnx]
        rw[List.append_assoc] at h3
        exact h3
       ·intro w hw
        rcases List.mem_cons.1 hw with rfl|hw
        ·exact hvl
        ·exact j1 w hw
       ·intro hb
        rw[List.map_cons,← hyy,j3 hb]
       ·intro ws hws
        cases ws with
        |nil=>cases hws
        |cons w ws=>exact j4 ws (List.cons.inj hws).2
      ·refine no (fun w hw=>?_) (Evt.step ?_)
       ·have h4:y.f4=[tE w.f0,gE 0 17 (w.f1.map tE)]:=by rw[hw];rfl
        have h5:=(List.cons.inj (List.cons.inj (hxz.symm.trans h4)).2).1
        refine hxx (i2.2 ?_)
        rw[h5]
        show w.f1.map tE=((w.f1.map tE).map fun y=>y.f3).map tE
        exact congrArg (List.map tE) ((List.map_id _).symm.trans (List.map_map (l:=w.f1) (f:=tE) (g:=fun y:S57=>y.f3)).symm)
       ·simp only[toponymref27_entry.l0,hlen,if_pos (show(1:Int)<2 by omega),if_pos (show(0:Int)<2 by omega),g0,g1,if_pos hlt,if_pos (Int.natCast_nonneg p.length),hy,if_pos e0,if_pos e2,if_pos e1,klen,k0,k1]
        refine Evt.bind h1 ?_
        simp only[if_true]
        refine Evt.bind h2 ?_
        simp only[if_neg hxx]
        exact Evt.now _
    ·refine no (fun v hv=>e1 (by rw[hv];rfl)) (Evt.step ?_)
     simp only[toponymref27_entry.l0,hlen,if_pos (show(1:Int)<2 by omega),if_pos (show(0:Int)<2 by omega),g0,g1,if_pos hlt,if_pos (Int.natCast_nonneg p.length),hy,if_pos e0,if_pos e2,if_neg e1]
     exact Evt.now _
   ·refine no (fun v hv=>e2 (by rw[hv];rfl)) (Evt.step ?_)
    simp only[toponymref27_entry.l0,hlen,if_pos (show(1:Int)<2 by omega),if_pos (show(0:Int)<2 by omega),g0,g1,if_pos hlt,if_pos (Int.natCast_nonneg p.length),hy,if_pos e0,if_neg e2]
    exact Evt.now _
  ·refine no (fun v hv=>e0 (by rw[hv];rfl)) (Evt.step ?_)
   simp only[toponymref27_entry.l0,hlen,if_pos (show(1:Int)<2 by omega),if_pos (show(0:Int)<2 by omega),g0,g1,if_pos hlt,if_pos (Int.natCast_nonneg p.length),hy,if_neg e0]
   exact Evt.now _
theorem rentry_ev (l:List S57) (hl:l.length≤4000) (hsm:∀ y ∈ l,Sm y):∃ q c,Bd q∧Evt (fun k=>toponymref27_entry.f k l) (t9 q c)∧(c=true→∃ s vs,l=[tE s,gE 0 16 (vs.map aE)]∧q=⟨0,3,true,0,⟨#[]⟩,⟨#[]⟩,s,vs⟩)∧(∀ (s:ByteArray) (vs:List S46),l=[tE s,gE 0 16 (vs.map aE)]→c=true):=by
 unfold toponymref27_entry.f
 obtain⟨b,h1,i1⟩:=tg_ev l hl
 cases b
 ·refine⟨⟨0,3,true,0,⟨#[]⟩,⟨#[]⟩,⟨#[]⟩,[]⟩,false,⟨Nat.zero_le _,Nat.zero_le _,Nat.zero_le _,Nat.zero_le _,by simp⟩,Evt.bind h1 ?_,by simp,?_⟩
  ·simp only[Bool.false_eq_true,if_false]
   exact Evt.now _
  ·intro s vs hl2
   exact i1.2 ⟨_,_,hl2,(Pt (hsm _ (by rw[hl2];simp))).2 rfl,(Pg (hsm _ (by rw[hl2];simp)) 16 103 (.inl ⟨rfl,rfl⟩)).2 rfl⟩
 ·obtain⟨c,d,hl2,pc,pd⟩:=i1.1 rfl
  have hsc:=hsm c (by rw[hl2];simp)
  have hsd:=hsm d (by rw[hl2];simp)
  have hc:=(Pt hsc).1 pc
  have hd:=(Pg hsd 16 103 (.inl ⟨rfl,rfl⟩)).1 pd
  obtain⟨vs,b,h2,j1,j2,j3,j4⟩:=rentry_l0 l c d hl2 hsd d.f4 [] [] rfl rfl
  rw[List.nil_append] at h2
  refine⟨⟨0,3,true,0,⟨#[]⟩,⟨#[]⟩,c.f3,vs⟩,b,⟨Nat.zero_le _,Nat.zero_le _,?_,?_,?_⟩,Evt.bind h1 ?_,?_,?_⟩
  ·have:=hsc.all.2.1;show c.f3.size≤_;omega
  ·have:=hsd.all.1;show vs.length≤_;omega
  ·intro v hv;have:=j1 v hv;omega
  ·simp only[if_true,if_pos (show(0:Int)<(l.length:Int) by rw[hl2];show _<(2:Int);omega)]
   exact h2
  ·intro hb
   refine⟨c.f3,vs,?_,rfl⟩
   rw[← j3 hb,hl2,← hc,← hd]
  ·intro s ws hws
   refine j4 ws ?_
   have:=(List.cons.inj (List.cons.inj (hl2.symm.trans hws)).2).1
   exact congrArg S57.f4 this
/-! ### bytes -/
theorem chk_ev (r:S27) (hb:Bd r):∃ x,Gd r x∧Evt (fun k=>reply_Check.f k r.f0 r.f1 r.f2 r.f3 r.f4 r.f5 r.f6 r.f7) x∧Evt (fun k=>toponymref27_Check.f k r.f0 r.f1 r.f2 r.f3 r.f4 r.f5 r.f6 r.f7) x:=by
 obtain⟨x,h1,h2⟩:=Check_ev r hb
 obtain⟨y,h3,h4⟩:=PrE.Check_both r hb
 have:=Evt.uniq h2 h3
 subst this
 exact⟨x,h1,h2,h4⟩
theorem bd_id {r:S27} (h:Bd r) (n:Int):Bd ⟨n,r.f1,r.f2,r.f3,r.f4,r.f5,r.f6,r.f7⟩:=⟨h.h4,h.h5,h.h6,h.h7,h.hy⟩
theorem rdec (s:ByteArray) (hs: ¬ (s.size:Int)>4000) (e:S57) (ht:PbA.tk 12 (B s)=.ok (e,s.size)) (he:Sm e):
  ∃ q x,Evt (fun k=>toponymref27_Decode.f k s) (r9 q x)∧(x=0∨(x=270∧q=q0))∧(x=0→Ok q∧Evt (fun k=>reply_Check.f k q.f0 q.f1 q.f2 q.f3 q.f4 q.f5 q.f6 q.f7) 0∧e=el q)∧
   (∀ q',Ok q'→Evt (fun k=>reply_Check.f k q'.f0 q'.f1 q'.f2 q'.f3 q'.f4 q'.f5 q'.f6 q'.f7) 0→e=el q'→x=0):=by
 have hD:=PbA.rDecode_ev s (by omega)
 rw[ht] at hD
 replace hD:Evt (fun k=>toponymref15_Decode.f k s 0) (e.f0,e.f1,e.f2,e.f3,e.f4,((0+s.size:Nat):Int),0):=hD
 unfold toponymref27_Decode.f
 simp only[if_neg hs]
 have hto:((0+s.size:Nat):Int)=(s.size:Int):=by omega
 have no:∀ {f:Nat→Option R9},(∀ q',Ok q'→Evt (fun k=>reply_Check.f k q'.f0 q'.f1 q'.f2 q'.f3 q'.f4 q'.f5 q'.f6 q'.f7) 0→e≠el q')→Evt f (r9 q0 270)→
   ∃ q x,Evt f (r9 q x)∧(x=0∨(x=270∧q=q0))∧(x=0→Ok q∧Evt (fun k=>reply_Check.f k q.f0 q.f1 q.f2 q.f3 q.f4 q.f5 q.f6 q.f7) 0∧e=el q)∧
   (∀ q',Ok q'→Evt (fun k=>reply_Check.f k q'.f0 q'.f1 q'.f2 q'.f3 q'.f4 q'.f5 q'.f6 q'.f7) 0→e=el q'→x=0):=
  fun hno h=>⟨q0,270,h,.inr ⟨rfl,rfl⟩,fun h=>absurd h (by decide),fun q' h1 h2 h3=>absurd h3 (hno q' h1 h2)⟩
 have op0:∀ q',(opE q').f0=1:=by intro q';unfold opE;split <;>rfl
 have op1:∀ q',(opE q').f1=true:=by intro q';unfold opE;split <;>rfl
 by_cases e0:e.f0=0
 ·by_cases e2:e.f2=16
  ·by_cases e1:e.f1=true
   ·obtain⟨b,h1,i1⟩:=ix_ev e.f4 he.all.1
    cases b
    ·refine no (fun q' hq _ hh=>?_) (Evt.bind hD (Evt.ifp rfl (Evt.ifp hto (Evt.ifp e0 (Evt.ifp e2 (Evt.ifp e1 (Evt.bind h1 ?_)))))))
     ·have h4:e.f4=[nE 2 q'.f0,opE q']:=by rw[hh];rfl
      have i0:=hq.id0
      have i2:=hq.id1
      exact absurd (i1.2 ⟨_,_,h4,(Pi 2 105 (.inl ⟨rfl,rfl⟩)).2 ⟨q'.f0,by omega,rfl⟩,by simp[Pc]⟩) (by decide)
     ·simp only[Bool.false_eq_true,if_false]
      exact Evt.now _
    ·obtain⟨a,o,hao,pa,_⟩:=i1.1 rfl
     obtain⟨n,hn,ha⟩:=(Pi 2 105 (.inl ⟨rfl,rfl⟩)).1 pa
     have hA:=A0_val a n hn (by rw[ha];rfl) (by rw[ha];rfl) (by rw[ha];rfl)
     have hso:=he.all.2.2 o (by rw[hao];simp)
     have g0:rd_T57 e.f4 0=a:=by rw[hao];rfl
     have g1:rd_T57 e.f4 1=o:=by rw[hao];rfl
     have hlen:(e.f4.length:Int)=2:=by rw[hao];rfl
     have heq:e=gE 0 16 e.f4:=mk_eq e _ _ _ _ _ e0 e1 e2 (sm_made he e1) rfl
     have split4:∀ q',e=el q'→a=nE 2 q'.f0∧o=opE q':=by
      intro q' hh
      have h4:e.f4=[nE 2 q'.f0,opE q']:=by rw[hh];rfl
      have h5:=List.cons.inj (hao.symm.trans h4)
      exact⟨h5.1,(List.cons.inj h5.2).1⟩
     have same:∀ q',Ok q'→e=el q'→n=q'.f0:=by
      intro q' hq hh
      have i0:=hq.id0
      have i2:=hq.id1
      exact nE_inj hn (by omega) (ha.symm.trans (split4 q' hh).1)
     by_cases o0:o.f0=1
     ·by_cases o1:o.f1=true
      ·obtain⟨qr,cr,hqr,hr,ir,jr,zr⟩:=rresult_ev o.f2 o.f4 hso.all.1 hso.all.2.2
       by_cases o2:o.f2=4
       ·obtain⟨qe,ce,hqe,hE,ie,je⟩:=rentry_ev o.f4 hso.all.1 hso.all.2.2
        obtain⟨x,hx1,hx2,hx3⟩:=chk_ev _ (bd_id hqe n)
        have ht4:∀ q',Ok q'→e=el q'→q'.f2=true∧opE q'=gE 1 4 [tE q'.f6,gE 0 16 (q'.f7.map aE)]:=by
         intro q' hq hh
         cases hb:q'.f2
         ·have h5:opE q'=gE 1 (tg q'.f1) ([nE 10 q'.f3,tE q'.f4,tE q'.f5]++xE q'.f6):=by unfold opE;rw[if_neg (by rw[hb];decide)]
          have h6:o.f2=tg q'.f1:=by rw[(split4 q' hh).2,h5];rfl
          exact absurd (h6.symm.trans o2) (tg_ne q'.f1)
         ·exact⟨rfl,by unfold opE;rw[if_pos hb]⟩
        cases ce
        ·refine no (fun q' hq _ hh=>?_) (Evt.bind hD (Evt.ifp rfl (Evt.ifp hto (Evt.ifp e0 (Evt.ifp e2 (Evt.ifp e1 (Evt.bind h1 (Evt.ifp rfl ?_))))))))
         ·obtain⟨_,h5⟩:=ht4 q' hq hh
          exact absurd (je q'.f6 q'.f7 (by rw[(split4 q' hh).2,h5];rfl)) (by decide)
         ·simp only[hlen,g0,g1,if_pos (show(1:Int)<2 by omega),if_pos (show(0:Int)<2 by omega),if_pos o0,if_pos o1]
          refine Evt.bind hr (Evt.ifp o2 (Evt.bind hE (Evt.bind hA ?_)))
          simp only[t9,Bool.false_eq_true,if_false]
          exact Evt.now _
        ·obtain⟨s6,vs,hl6,hq6⟩:=ie rfl
         subst hq6
         have hel:e=el ⟨n,3,true,0,⟨#[]⟩,⟨#[]⟩,s6,vs⟩:=by
          rw[heq,hao,ha]
          show _=gE 0 16 [nE 2 n,opE _]
          have:o=gE 1 4 o.f4:=mk_eq o _ _ _ _ _ o0 o1 o2 (sm_made hso o1) rfl
          rw[this,hl6]
          rfl
         by_cases hx0:x=0
         ·subst hx0
          refine⟨⟨n,3,true,0,⟨#[]⟩,⟨#[]⟩,s6,vs⟩,0,Evt.bind hD (Evt.ifp rfl (Evt.ifp hto (Evt.ifp e0 (Evt.ifp e2 (Evt.ifp e1 (Evt.bind h1 (Evt.ifp rfl ?_))))))),.inl rfl,fun _=>⟨hx1.2 rfl,hx2,hel⟩,fun _ _ _ _=>rfl⟩
          simp only[hlen,g0,g1,if_pos (show(1:Int)<2 by omega),if_pos (show(0:Int)<2 by omega),if_pos o0,if_pos o1]
          refine Evt.bind hr (Evt.ifp o2 (Evt.bind hE (Evt.bind hA ?_)))
          simp only[t9,if_true]
          exact Evt.bind hx3 (Evt.now _)
         ·refine no (fun q' hq hc hh=>?_) (Evt.bind hD (Evt.ifp rfl (Evt.ifp hto (Evt.ifp e0 (Evt.ifp e2 (Evt.ifp e1 (Evt.bind h1 (Evt.ifp rfl ?_))))))))
          ·obtain⟨hb,h5⟩:=ht4 q' hq hh
           have h6:o.f4=[tE q'.f6,gE 0 16 (q'.f7.map aE)]:=by rw[(split4 q' hh).2,h5];rfl
           have h7:=List.cons.inj (hl6.symm.trans h6)
           have h8:=tE_inj h7.1
           have h9:vs=q'.f7:=map_aE_inj (congrArg S57.f4 (List.cons.inj h7.2).1)
           obtain⟨k1,k3,k4,k5,_,_,_⟩:=hq.en hb
           have hsame:=same q' hq hh
           rw[k1,hb,k3,PbA.zero_size k4,PbA.zero_size k5,← h8,← h9,← hsame] at hc
           exact hx0 (Evt.uniq hx2 hc)
          ·simp only[hlen,g0,g1,if_pos (show(1:Int)<2 by omega),if_pos (show(0:Int)<2 by omega),if_pos o0,if_pos o1]
           refine Evt.bind hr (Evt.ifp o2 (Evt.bind hE (Evt.bind hA ?_)))
           simp only[t9,if_true]
           refine Evt.bind hx3 ?_
           simp only[if_neg hx0]
           exact Evt.now _
       ·have ht4:∀ q',Ok q'→e=el q'→q'.f2=false∧opE q'=gE 1 (tg q'.f1) (nE 10 q'.f3::tE q'.f4::tE q'.f5::xE q'.f6):=by
         intro q' hq hh
         cases hb:q'.f2
         ·exact⟨rfl,by unfold opE;rw[if_neg (by rw[hb];decide)];rfl⟩
         ·have h5:opE q'=gE 1 4 [tE q'.f6,gE 0 16 (q'.f7.map aE)]:=by unfold opE;rw[if_pos hb]
          exact absurd (by rw[(split4 q' hh).2,h5];rfl) o2
        have hrf:∀ q',Ok q'→e=el q'→Rf o.f4 q'.f3 q'.f4 q'.f5 q'.f6:=by
         intro q' hq hh
         obtain⟨hb,h5⟩:=ht4 q' hq hh
         obtain⟨_,k3,k4,_,_,_,_⟩:=hq.re hb
         exact⟨by omega,by rw[(split4 q' hh).2,h5];rfl⟩
        obtain⟨x,hx1,hx2,hx3⟩:=chk_ev _ (bd_id hqr n)
        cases cr
        ·refine no (fun q' hq _ hh=>?_) (Evt.bind hD (Evt.ifp rfl (Evt.ifp hto (Evt.ifp e0 (Evt.ifp e2 (Evt.ifp e1 (Evt.bind h1 (Evt.ifp rfl ?_))))))))
         ·exact absurd (jr _ _ _ _ (hrf q' hq hh)) (by decide)
         ·simp only[hlen,g0,g1,if_pos (show(1:Int)<2 by omega),if_pos (show(0:Int)<2 by omega),if_pos o0,if_pos o1]
          refine Evt.bind hr (Evt.ifn o2 (Evt.bind hA ?_))
          simp only[t9,Bool.false_eq_true,if_false]
          exact Evt.now _
        ·obtain⟨n2,s1,s2,s3,hR,hqq⟩:=ir rfl
         subst hqq
         by_cases hx0:x=0
         ·subst hx0
          refine⟨⟨n,kr o.f2,false,n2,s1,s2,s3,[]⟩,0,Evt.bind hD (Evt.ifp rfl (Evt.ifp hto (Evt.ifp e0 (Evt.ifp e2 (Evt.ifp e1 (Evt.bind h1 (Evt.ifp rfl ?_))))))),.inl rfl,fun _=>⟨hx1.2 rfl,hx2,?_⟩,fun _ _ _ _=>rfl⟩
          ·simp only[hlen,g0,g1,if_pos (show(1:Int)<2 by omega),if_pos (show(0:Int)<2 by omega),if_pos o0,if_pos o1]
           refine Evt.bind hr (Evt.ifn o2 (Evt.bind hA ?_))
           simp only[t9,if_true]
           exact Evt.bind hx3 (Evt.now _)
          ·have hok:=hx1.2 rfl
           have htg:tg (kr o.f2)=o.f2:=tg_kr _ (hok.re rfl).1
           rw[heq,hao,ha]
           show _=gE 0 16 [nE 2 n,gE 1 (tg (kr o.f2)) (nE 10 n2::tE s1::tE s2::xE s3)]
           rw[htg,← hR.2]
           have:o=gE 1 o.f2 o.f4:=mk_eq o _ _ _ _ _ o0 o1 rfl (sm_made hso o1) rfl
           rw[← this]
         ·refine no (fun q' hq hc hh=>?_) (Evt.bind hD (Evt.ifp rfl (Evt.ifp hto (Evt.ifp e0 (Evt.ifp e2 (Evt.ifp e1 (Evt.bind h1 (Evt.ifp rfl ?_))))))))
          ·obtain⟨hb,h5⟩:=ht4 q' hq hh
           have hR2:=hrf q' hq hh
           obtain⟨k1,k3,k4,_,_,k7,_⟩:=hq.re hb
           have h6:=List.cons.inj (hR.2.symm.trans hR2.2)
           have h7:=List.cons.inj h6.2
           have h8:=List.cons.inj h7.2
           have m0:=nE_inj hR.1 hR2.1 h6.1
           have m1:=tE_inj h7.1
           have m2:=tE_inj h8.1
           have m3:=xE_inj h8.2
           have m4:o.f2=tg q'.f1:=by rw[(split4 q' hh).2,h5];rfl
           have m5:q'.f1=kr o.f2:=by rw[m4,kr_tg _ k1]
           have hsame:=same q' hq hh
           rw[hb,k7,m5,← m0,← m1,← m2,← m3,← hsame] at hc
           exact hx0 (Evt.uniq hx2 hc)
          ·simp only[hlen,g0,g1,if_pos (show(1:Int)<2 by omega),if_pos (show(0:Int)<2 by omega),if_pos o0,if_pos o1]
           refine Evt.bind hr (Evt.ifn o2 (Evt.bind hA ?_))
           simp only[t9,if_true]
           refine Evt.bind hx3 ?_
           simp only[if_neg hx0]
           exact Evt.now _
      ·refine no (fun q' hq _ hh=>o1 (by rw[(split4 q' hh).2];exact op1 q')) (Evt.bind hD (Evt.ifp rfl (Evt.ifp hto (Evt.ifp e0 (Evt.ifp e2 (Evt.ifp e1 (Evt.bind h1 (Evt.ifp rfl ?_))))))))
       simp only[hlen,g0,g1,if_pos (show(1:Int)<2 by omega),if_pos (show(0:Int)<2 by omega),if_pos o0,if_neg o1]
       exact Evt.now _
     ·refine no (fun q' hq _ hh=>o0 (by rw[(split4 q' hh).2];exact op0 q')) (Evt.bind hD (Evt.ifp rfl (Evt.ifp hto (Evt.ifp e0 (Evt.ifp e2 (Evt.ifp e1 (Evt.bind h1 (Evt.ifp rfl ?_))))))))
      simp only[hlen,g0,g1,if_pos (show(1:Int)<2 by omega),if_pos (show(0:Int)<2 by omega),if_neg o0]
      exact Evt.now _
   ·exact no (fun q' hq _ hh=>e1 (by rw[hh];rfl)) (Evt.bind hD (Evt.ifp rfl (Evt.ifp hto (Evt.ifp e0 (Evt.ifp e2 (Evt.ifn e1 (Evt.now _)))))))
  ·exact no (fun q' hq _ hh=>e2 (by rw[hh];rfl)) (Evt.bind hD (Evt.ifp rfl (Evt.ifp hto (Evt.ifp e0 (Evt.ifn e2 (Evt.now _))))))
 ·exact no (fun q' hq _ hh=>e0 (by rw[hh];rfl)) (Evt.bind hD (Evt.ifp rfl (Evt.ifp hto (Evt.ifn e0 (Evt.now _)))))
theorem rdec_err (s:ByteArray) (hs: ¬ (s.size:Int)>4000) (h:(∃ x,PbA.tk 12 (B s)=.error x)∨∃ e c,PbA.tk 12 (B s)=.ok (e,c)∧c≠s.size):Evt (fun k=>toponymref27_Decode.f k s) (r9 q0 270):=by
 have hD:=PbA.rDecode_ev s (by omega)
 unfold toponymref27_Decode.f
 simp only[if_neg hs]
 rcases h with⟨x,h⟩|⟨e,c,h,hc⟩
 ·have hx: ¬ x=0:=PbA.tk_nz 11 _ _ h
  rw[h] at hD
  exact Evt.bind hD (Evt.ifn hx (Evt.now _))
 ·rw[h] at hD
  exact Evt.bind hD (Evt.ifp rfl (Evt.ifn (show ¬ ((0+c:Nat):Int)=(s.size:Int) by omega) (Evt.now _)))
/-- No reply is read where the document reads none. -/
theorem own3 (s:ByteArray) (hs: ¬ (s.size:Int)>4000): ¬ Evt (fun k=>reply_Decode.f k s) (r9 q0 3):=by
 rintro⟨K,hK⟩
 have h:=hK K (Nat.le_refl _)
 simp only[reply_Decode.f,if_neg hs] at h
 rw[Option.bind_eq_some_iff] at h
 obtain⟨v,_,h⟩:=h
 have fin:∀ {a:R9},a.2.2.2.2.2.2.2.2≠3→some a=some (r9 q0 3)→False:=by
  intro a ha h
  rw[Option.some.inj h] at ha
  exact ha rfl
 have fin270:= @fin (0,0,false,0,⟨#[]⟩,⟨#[]⟩,⟨#[]⟩,[],270) (by decide)
 split at h
 ·split at h
  ·rw[Option.bind_eq_some_iff] at h
   obtain⟨v2,_,h⟩:=h
   split at h
   ·rw[Option.bind_eq_some_iff] at h
    obtain⟨v3,_,h⟩:=h
    split at h
    ·rw[Option.bind_eq_some_iff] at h
     obtain⟨v4,_,h⟩:=h
     split at h
     ·split at h
      ·exact fin (by show(0:Int)≠3;decide) h
      ·exact fin270 h
     ·exact fin270 h
    ·exact fin270 h
   ·exact fin270 h
  ·exact fin270 h
 ·exact fin270 h
theorem both (s:ByteArray):∃ q x,Bd q∧Evt (fun k=>reply_Decode.f k s) (r9 q x)∧Evt (fun k=>toponymref27_Decode.f k s) (r9 q x):=by
 by_cases hs:(s.size:Int)>4000
 ·refine⟨q0,3,q0_bd,?_,?_⟩
  ·unfold reply_Decode.f
   simp only[if_pos hs]
   exact Evt.now _
  ·unfold toponymref27_Decode.f
   simp only[if_pos hs]
   exact Evt.now _
 have rej:(∀ q,Ok q→Evt (fun k=>reply_Check.f k q.f0 q.f1 q.f2 q.f3 q.f4 q.f5 q.f6 q.f7) 0→PbA.enc [el q]=(s,0)→False)→Evt (fun k=>reply_Decode.f k s) (r9 q0 270):=by
  intro hno
  rcases Decode_ev s with⟨x,hx,hD⟩|⟨q,h1,h2,h3,_⟩
  ·rcases hx with rfl|rfl
   ·exact absurd hD (own3 s hs)
   ·exact hD
  ·exact absurd (hno q h1 h2 h3) id
 have acc:∀ q,Ok q→PbA.enc [el q]=(s,0)→PbA.tk 12 (B s)=.ok (el q,s.size):=by
  intro q h hq
  have hl:(PbA.lay 12 (el q)).length≤4000:=by
   rw[enc_el q h] at hq
   by_cases hl:(PbA.lay 12 (el q)).length≤4000
   ·exact hl
   ·rw[if_neg hl] at hq
    exact absurd (Prod.mk.inj hq).2 (by decide)
  have hB:s=A8 (PbA.lay 12 (el q)):=by
   rw[enc_el q h,if_pos hl] at hq
   exact(Prod.mk.inj hq).1.symm
  have htk:=PbA.tk_back 12 (el q) [] (el_fine q h).2 hl
  rw[List.append_nil] at htk
  rw[hB,B_A8,size_A8]
  exact htk
 cases ht:PbA.tk 12 (B s) with
 |error x=>
  refine⟨q0,270,q0_bd,rej fun q h1 _ h3=>?_,rdec_err s hs (.inl ⟨x,ht⟩)⟩
  have:=acc q h1 h3
  rw[ht] at this
  cases this
 |ok p=>
  obtain⟨e,c⟩:=p
  by_cases hc:c=s.size
  ·subst hc
   obtain⟨_,_,hc4,hsan,hlay⟩:=PbA.tk_sound 12 _ _ _ ht
   have hsm:Sm e:=⟨12,hsan,by rw[hlay,List.length_take];omega⟩
   obtain⟨q,x,h1,h2,h3,h4⟩:=rdec s hs e ht hsm
   rcases h2 with rfl|⟨rfl,rfl⟩
   ·obtain⟨hok,hch,heq⟩:=h3 rfl
    refine⟨q,0,hok.bd,Decode_el q hok hch s ?_,h1⟩
    have hll:(PbA.lay 12 (el q)).length≤4000:=by rw[← heq,hlay,List.length_take];omega
    rw[enc_el q hok,if_pos hll,← heq,hlay,← len_B,List.take_length,A8_B]
   ·refine⟨q0,270,q0_bd,rej fun q h5 h6 h7=>?_,h1⟩
    have:=acc q h5 h7
    rw[ht] at this
    have he:e=el q:=(Prod.mk.inj (Except.ok.inj this)).1
    exact absurd (h4 q h5 h6 he) (by decide)
  ·refine⟨q0,270,q0_bd,rej fun q h1 _ h3=>?_,rdec_err s hs (.inr ⟨e,c,ht,hc⟩)⟩
   have:=acc q h1 h3
   rw[ht] at this
   exact hc (Prod.mk.inj (Except.ok.inj this)).2
theorem replyDecodes (s:ByteArray) (_:s.size≤140737488351232):∃ k,toponymlaw27_ReplyDecodes.f k s=some true:=by
 refine Evt.get (f:=fun k=>toponymlaw27_ReplyDecodes.f k s) ?_
 unfold toponymlaw27_ReplyDecodes.f
 obtain⟨q,x,hq,h1,h2⟩:=both s
 refine Evt.bind h1 (Evt.bind h2 ?_)
 have hS:=refSame q q hq.h7 hq.hy
 rw[sm_self] at hS
 refine Evt.bind hS ?_
 simp only[r9,if_true]
 exact Evt.bind awake_ev (Evt.now _)
end Go.Proofs.Ytdjkemhmhkpmkaa.PrD
