-- written by wip/gen.py, a program of this session: values' types
import Derived.Test.YtcokpnajkkjclaaProg
import Derived.Below
import Derived.Deep.Draws
import Derived.Deep.AppendLies
import Derived.Maps.AppendAt
import Derived.OwnWalk
import Derived.Laws.BytesArg
import Derived.Laws.MakeOwn
import Derived.Laws.OwnMore
import Derived.Deep.OwnRows
import Derived.Tactics
import Derived.Lib.ConvBytes
import Derived.Laws.Slices
import Derived.WalkKit
import Derived.KernelRfl
import Derived.RowKit3
import Derived.Deep.LoopGhost
import Derived.Deep.QuietTactic
import Derived.BigQuiet
import Derived.WideLaws
import Derived.Deep.DeepCutAuto
import Derived.Deep.CutBlock
import Derived.Deep.RegionHeld3
import Derived.Laws.Rows
import Derived.Lib.AppendStr
import Derived.ArgAppend
import Derived.Laws.IdiomCopy
import Derived.OrdersHeld
import Derived.Laws.BitsLemmas
import Derived.RowKit
import Derived.Test.YtcokpnajkkjclaaWEqStruct
import Derived.Test.YtcokpnajkkjclaaMB
namespace Go.Proofs.Ytcokpnajkkjclaa.GA
open Go.RowKit Go.Proofs.Ytcokpnajkkjclaa Go.Proofs.Ytcokpnajkkjclaa.MW Go.Proofs.YtcokpnajkkjclaaW.PrintWords Go.Proofs.YtcokpnajkkjclaaW.PrintLast Go.Proofs.YtcokpnajkkjclaaW.PrintMore
attribute [local go_sem] max2_int min2_int max_two min_two
set_option linter.unusedVariables false
set_option linter.unusedSimpArgs false
theorem info21:(Try.prog.info? 21).map (fun i=>(i.zero,i.size,i.bytes))=some (some (.int .i32 0),1,4):=by kernel_rfl
theorem info37:(Try.prog.info? 37).map (fun i=>(i.zero,i.size,i.bytes))=some (some (.agg #[(.int .i32 0),(.int .i32 0),(.int .i64 0)]),3,16):=by kernel_rfl
structure S39 where
 f0:Int
 f1:Int
 f2:Int
def z39:S39:=⟨(0:Int),(0:Int),(0:Int)⟩
def k39:Kd S39:=Kd.iso (Kd.pair (Kd.int .i32) (Kd.pair (Kd.int .i32) (Kd.int .i64))) (fun x:S39=>(x.f0,x.f1,x.f2))
theorem k39_heap:Kd.Heap k39:=Kd.heap_iso _ (Kd.heap_pair (Kd.heap_int .i32) (Kd.heap_pair (Kd.heap_int .i32) (Kd.heap_int .i64)))
theorem k39_open {w:World} {x:S39} {cs:List Value} (h:k39.K w x cs):cs=[.int .i32 x.f0,.int .i32 x.f1,.int .i64 x.f2]:=by
 obtain⟨_,_,rfl,rfl,⟨_,_,rfl,rfl,rfl⟩⟩:=h
 exact rfl
theorem k39_openM {w:World} {base:Nat} {ok:Nat→Prop} {x:S39} {cs:List Value} (h:k39.M w base ok x cs):cs=[.int .i32 x.f0,.int .i32 x.f1,.int .i64 x.f2]:=by
 obtain⟨_,_,rfl,rfl,⟨_,_,rfl,rfl,rfl⟩⟩:=h
 exact rfl
theorem k39_mk (w:World) (x:S39)  :k39.K w x [.int .i32 x.f0,.int .i32 x.f1,.int .i64 x.f2]:=⟨[.int .i32 x.f0],[.int .i32 x.f1,.int .i64 x.f2],rfl,rfl,⟨[.int .i32 x.f1],[.int .i64 x.f2],rfl,rfl,rfl⟩⟩
theorem k39_mkM (w:World) (base:Nat) (ok:Nat→Prop) (x:S39)  :k39.M w base ok x [.int .i32 x.f0,.int .i32 x.f1,.int .i64 x.f2]:=⟨[.int .i32 x.f0],[.int .i32 x.f1,.int .i64 x.f2],rfl,rfl,⟨[.int .i32 x.f1],[.int .i64 x.f2],rfl,rfl,rfl⟩⟩
theorem k39_mkF (W:World) (ok:Nat→Prop) (x:S39):Kd.FK k39 W ok x [.int .i32 x.f0,.int .i32 x.f1,.int .i64 x.f2]:=fun W2 _=>k39_mk W2 x
def rd_T39 (xs:List S39) (i:Int):S39:=xs.getD i.toNat z39
theorem at_T39 {w:World} {A:Option Addr} {n:Nat} {xs:List S39} (h:Kd.C k39 w A n xs) (i:Int) (h0:0≤i) (h1:i<n):∃ ad,A=some ad∧w.cell? (ad.add (i.toNat*3))=some (.int .i32 (rd_T39 xs i).f0)∧w.cell? ⟨(ad.add (i.toNat*3)).block,(ad.add (i.toNat*3)).off+1,none⟩=some (.int .i32 (rd_T39 xs i).f1)∧w.cell? ⟨(ad.add (i.toNat*3)).block,(ad.add (i.toNat*3)).off+2,none⟩=some (.int .i64 (rd_T39 xs i).f2):=by
 obtain⟨ad,c,e,_,hK,hc0⟩:=Kd.C_get h z39 i h0 h1
 have hc:∀ j u,c[j]? =some u→w.cell? (ad.add (i.toNat*3+j))=some u:=hc0
 obtain rfl:=k39_open hK
 exact⟨ad,e,hc 0 _ rfl,by rw[← add_field _ _ 1 (by omega)];exact hc 1 _ rfl,by rw[← add_field _ _ 2 (by omega)];exact hc 2 _ rfl⟩
structure S37 where
 f0:Int
 f1:Int
 f2:Int
def z37:S37:=⟨(0:Int),(0:Int),(0:Int)⟩
def k37:Kd S37:=Kd.iso (Kd.pair (Kd.int .i32) (Kd.pair (Kd.int .i32) (Kd.int .i64))) (fun x:S37=>(x.f0,x.f1,x.f2))
theorem k37_heap:Kd.Heap k37:=Kd.heap_iso _ (Kd.heap_pair (Kd.heap_int .i32) (Kd.heap_pair (Kd.heap_int .i32) (Kd.heap_int .i64)))
theorem k37_open {w:World} {x:S37} {cs:List Value} (h:k37.K w x cs):cs=[.int .i32 x.f0,.int .i32 x.f1,.int .i64 x.f2]:=by
 obtain⟨_,_,rfl,rfl,⟨_,_,rfl,rfl,rfl⟩⟩:=h
 exact rfl
theorem k37_openM {w:World} {base:Nat} {ok:Nat→Prop} {x:S37} {cs:List Value} (h:k37.M w base ok x cs):cs=[.int .i32 x.f0,.int .i32 x.f1,.int .i64 x.f2]:=by
 obtain⟨_,_,rfl,rfl,⟨_,_,rfl,rfl,rfl⟩⟩:=h
 exact rfl
theorem k37_mk (w:World) (x:S37)  :k37.K w x [.int .i32 x.f0,.int .i32 x.f1,.int .i64 x.f2]:=⟨[.int .i32 x.f0],[.int .i32 x.f1,.int .i64 x.f2],rfl,rfl,⟨[.int .i32 x.f1],[.int .i64 x.f2],rfl,rfl,rfl⟩⟩
theorem k37_mkM (w:World) (base:Nat) (ok:Nat→Prop) (x:S37)  :k37.M w base ok x [.int .i32 x.f0,.int .i32 x.f1,.int .i64 x.f2]:=⟨[.int .i32 x.f0],[.int .i32 x.f1,.int .i64 x.f2],rfl,rfl,⟨[.int .i32 x.f1],[.int .i64 x.f2],rfl,rfl,rfl⟩⟩
theorem k37_mkF (W:World) (ok:Nat→Prop) (x:S37):Kd.FK k37 W ok x [.int .i32 x.f0,.int .i32 x.f1,.int .i64 x.f2]:=fun W2 _=>k37_mk W2 x
def rd_T37 (xs:List S37) (i:Int):S37:=xs.getD i.toNat z37
theorem at_T37 {w:World} {A:Option Addr} {n:Nat} {xs:List S37} (h:Kd.C k37 w A n xs) (i:Int) (h0:0≤i) (h1:i<n):∃ ad,A=some ad∧w.cell? (ad.add (i.toNat*3))=some (.int .i32 (rd_T37 xs i).f0)∧w.cell? ⟨(ad.add (i.toNat*3)).block,(ad.add (i.toNat*3)).off+1,none⟩=some (.int .i32 (rd_T37 xs i).f1)∧w.cell? ⟨(ad.add (i.toNat*3)).block,(ad.add (i.toNat*3)).off+2,none⟩=some (.int .i64 (rd_T37 xs i).f2):=by
 obtain⟨ad,c,e,_,hK,hc0⟩:=Kd.C_get h z37 i h0 h1
 have hc:∀ j u,c[j]? =some u→w.cell? (ad.add (i.toNat*3+j))=some u:=hc0
 obtain rfl:=k37_open hK
 exact⟨ad,e,hc 0 _ rfl,by rw[← add_field _ _ 1 (by omega)];exact hc 1 _ rfl,by rw[← add_field _ _ 2 (by omega)];exact hc 2 _ rfl⟩
def rd_L5 (xs:List (List S37)) (i:Int):(List S37):=xs.getD i.toNat ([]:List S37)
theorem at_L5 {w:World} {A:Option Addr} {n:Nat} {xs:List (List S37)} (h:Kd.C (Kd.slice 37 k37) w A n xs) (i:Int) (h0:0≤i) (h1:i<n):∃ ad A0 c0,A=some ad∧w.cell? (ad.add i.toNat)=some (.slice A0 (rd_L5 xs i).length c0)∧(rd_L5 xs i).length≤c0∧k37.C w A0 (rd_L5 xs i).length (rd_L5 xs i):=by
 obtain⟨ad,c,e,_,hK,hc0⟩:=Kd.C_get h ([]:List S37) i h0 h1
 have hc:∀ j u,c[j]? =some u→w.cell? (ad.add (i.toNat*1+j))=some u:=hc0
 obtain⟨A0,c0,rfl,l0,g0⟩:=hK
 exact⟨ad,A0,c0,e,by have hq:=hc 0 _ rfl;rwa [Nat.mul_one,Nat.add_zero] at hq,l0,g0⟩
def rd_L6 (xs:List (List Int)) (i:Int):(List Int):=xs.getD i.toNat ([]:List Int)
theorem at_L6 {w:World} {A:Option Addr} {n:Nat} {xs:List (List Int)} (h:Kd.C (Kd.slice 21 (Kd.int .i32)) w A n xs) (i:Int) (h0:0≤i) (h1:i<n):∃ ad A0 c0,A=some ad∧w.cell? (ad.add i.toNat)=some (.slice A0 (rd_L6 xs i).length c0)∧(rd_L6 xs i).length≤c0∧(Kd.int .i32).C w A0 (rd_L6 xs i).length (rd_L6 xs i):=by
 obtain⟨ad,c,e,_,hK,hc0⟩:=Kd.C_get h ([]:List Int) i h0 h1
 have hc:∀ j u,c[j]? =some u→w.cell? (ad.add (i.toNat*1+j))=some u:=hc0
 obtain⟨A0,c0,rfl,l0,g0⟩:=hK
 exact⟨ad,A0,c0,e,by have hq:=hc 0 _ rfl;rwa [Nat.mul_one,Nat.add_zero] at hq,l0,g0⟩
theorem atF_T39 {w:World} {ok:Nat→Prop} {A:Option Addr} {n:Nat} {xs:List S39} (h:Kd.F k39 w ok A n xs) (i:Int) (h0:0≤i) (h1:i<n):∃ (ad:Addr),A=some ad∧w.cell? (ad.add (i.toNat*3))=some (.int .i32 ((rd_T39 xs i).f0))∧w.cell? ⟨(ad.add (i.toNat*3)).block,(ad.add (i.toNat*3)).off+1,none⟩=some (.int .i32 ((rd_T39 xs i).f1))∧w.cell? ⟨(ad.add (i.toNat*3)).block,(ad.add (i.toNat*3)).off+2,none⟩=some (.int .i64 ((rd_T39 xs i).f2)):=by
 obtain⟨ad,c,e,_,hK,hc0,_⟩:=Kd.F_get h z39 i h0 h1
 have hc:∀ j u,c[j]? =some u→w.cell? (ad.add (i.toNat*3+j))=some u:=hc0
 obtain rfl:=k39_open (Kd.FK_now hK)
 exact⟨ad,e,hc 0 _ rfl,by rw[← add_field _ _ 1 (by omega)];exact hc 1 _ rfl,by rw[← add_field _ _ 2 (by omega)];exact hc 2 _ rfl⟩
theorem atF_T37 {w:World} {ok:Nat→Prop} {A:Option Addr} {n:Nat} {xs:List S37} (h:Kd.F k37 w ok A n xs) (i:Int) (h0:0≤i) (h1:i<n):∃ (ad:Addr),A=some ad∧w.cell? (ad.add (i.toNat*3))=some (.int .i32 ((rd_T37 xs i).f0))∧w.cell? ⟨(ad.add (i.toNat*3)).block,(ad.add (i.toNat*3)).off+1,none⟩=some (.int .i32 ((rd_T37 xs i).f1))∧w.cell? ⟨(ad.add (i.toNat*3)).block,(ad.add (i.toNat*3)).off+2,none⟩=some (.int .i64 ((rd_T37 xs i).f2)):=by
 obtain⟨ad,c,e,_,hK,hc0,_⟩:=Kd.F_get h z37 i h0 h1
 have hc:∀ j u,c[j]? =some u→w.cell? (ad.add (i.toNat*3+j))=some u:=hc0
 obtain rfl:=k37_open (Kd.FK_now hK)
 exact⟨ad,e,hc 0 _ rfl,by rw[← add_field _ _ 1 (by omega)];exact hc 1 _ rfl,by rw[← add_field _ _ 2 (by omega)];exact hc 2 _ rfl⟩
theorem atF_L5 {w:World} {ok:Nat→Prop} {A:Option Addr} {n:Nat} {xs:List (List (S37))} (h:Kd.F (Kd.slice 37 k37) w ok A n xs) (i:Int) (h0:0≤i) (h1:i<n):∃ (ad:Addr) (A0:Option Addr) (c0:Nat),A=some ad∧w.cell? (ad.add i.toNat)=some (.slice A0 (rd_L5 xs i).length c0)∧(rd_L5 xs i).length≤c0∧Kd.F k37 w ok A0 (rd_L5 xs i).length (rd_L5 xs i):=by
 obtain⟨ad,c,e,_,hK,hc0,_⟩:=Kd.F_get h [] i h0 h1
 obtain⟨A0,c0,rfl,hl,hf⟩:=Kd.FK_slice_open hK
 refine⟨ad,A0,c0,e,?_,hl,hf⟩
 have h2:w.cell? (ad.add (i.toNat*1+0))=some (.slice A0 (rd_L5 xs i).length c0):=hc0 0 _ rfl
 rw[Nat.mul_one,Nat.add_zero] at h2
 exact h2
theorem atF_L6 {w:World} {ok:Nat→Prop} {A:Option Addr} {n:Nat} {xs:List (List Int)} (h:Kd.F (Kd.slice 21 (Kd.int .i32)) w ok A n xs) (i:Int) (h0:0≤i) (h1:i<n):∃ (ad:Addr) (A0:Option Addr) (c0:Nat),A=some ad∧w.cell? (ad.add i.toNat)=some (.slice A0 (rd_L6 xs i).length c0)∧(rd_L6 xs i).length≤c0∧Kd.F (Kd.int .i32) w ok A0 (rd_L6 xs i).length (rd_L6 xs i):=by
 obtain⟨ad,c,e,_,hK,hc0,_⟩:=Kd.F_get h [] i h0 h1
 obtain⟨A0,c0,rfl,hl,hf⟩:=Kd.FK_slice_open hK
 refine⟨ad,A0,c0,e,?_,hl,hf⟩
 have h2:w.cell? (ad.add (i.toNat*1+0))=some (.slice A0 (rd_L6 xs i).length c0):=hc0 0 _ rfl
 rw[Nat.mul_one,Nat.add_zero] at h2
 exact h2
theorem eqA37 (d:Nat) (w:World) (x0 y0:Int) (x1 y1:Int) (x2 y2:Int):
  (Op.equalIn (d+2) 37 (.agg #[.int .i32 x0,.int .i32 x1,.int .i64 x2]) (.agg #[.int .i32 y0,.int .i32 y1,.int .i64 y2])).run Try.prog w=.ok (x0==y0 && (x1==y1 && (x2==y2))) w:=by
 refine eqA_of Try.underlying37 (by kernel_rfl) ?_
 refine eqf_cons (by rfl) (by go_simp;rfl) (by go_simp;rfl) (by go_simp) ?_
 refine eqf_cons (by rfl) (by go_simp;rfl) (by go_simp;rfl) (by go_simp) ?_
 exact eqf_last (by rfl) (by go_simp;rfl) (by go_simp;rfl) (by go_simp)
end Go.Proofs.Ytcokpnajkkjclaa.GA
