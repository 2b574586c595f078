-- written by wip/gen.py, a program of this session: values' types
import Derived.Test.YtkbiiijmgbjnkaaProg
import Derived.Below
import Derived.Deep.Draws
import Derived.Deep.AppendLies
import Derived.Maps.AppendAt
import Derived.OwnWalk
import Derived.Laws.BytesArg
import Derived.Laws.MakeOwn
import Derived.Laws.OwnMore
import Derived.Deep.OwnRows
import Derived.Tactics
import Derived.Lib.ConvBytes
import Derived.Laws.Slices
import Derived.WalkKit
import Derived.KernelRfl
import Derived.RowKit3
import Derived.Deep.LoopGhost
import Derived.Deep.QuietTactic
import Derived.BigQuiet
import Derived.WideLaws
import Derived.Deep.DeepCutAuto
import Derived.Deep.CutBlock
import Derived.Deep.RegionHeld3
import Derived.Laws.Rows
import Derived.Lib.AppendStr
import Derived.ArgAppend
import Derived.Laws.IdiomCopy
import Derived.OrdersHeld
import Derived.Laws.BitsLemmas
import Derived.RowKit
import Derived.Test.YtkbiiijmgbjnkaaWEqStruct
import Derived.Test.YtkbiiijmgbjnkaaMB
namespace Go.Proofs.Ytkbiiijmgbjnkaa.GA
open Go.RowKit Go.Proofs.Ytkbiiijmgbjnkaa Go.Proofs.Ytkbiiijmgbjnkaa.MW Go.Proofs.YtkbiiijmgbjnkaaW.PrintWords Go.Proofs.YtkbiiijmgbjnkaaW.PrintLast Go.Proofs.YtkbiiijmgbjnkaaW.PrintMore
attribute [local go_sem] max2_int min2_int max_two min_two
set_option linter.unusedVariables false
set_option linter.unusedSimpArgs false
theorem info21:(Try.prog.info? 21).map (fun i=>(i.zero,i.size,i.bytes))=some (some (.int .i32 0),1,4):=by kernel_rfl
theorem info38:(Try.prog.info? 38).map (fun i=>(i.zero,i.size,i.bytes))=some (some (.agg #[(.int .i32 0),(.int .i32 0),(.int .i64 0)]),3,16):=by kernel_rfl
structure S38 where
 f0:Int
 f1:Int
 f2:Int
def z38:S38:=⟨(0:Int),(0:Int),(0:Int)⟩
def k38:Kd S38:=Kd.iso (Kd.pair (Kd.int .i32) (Kd.pair (Kd.int .i32) (Kd.int .i64))) (fun x:S38=>(x.f0,x.f1,x.f2))
theorem k38_heap:Kd.Heap k38:=Kd.heap_iso _ (Kd.heap_pair (Kd.heap_int .i32) (Kd.heap_pair (Kd.heap_int .i32) (Kd.heap_int .i64)))
theorem k38_open {w:World} {x:S38} {cs:List Value} (h:k38.K w x cs):cs=[.int .i32 x.f0,.int .i32 x.f1,.int .i64 x.f2]:=by
 obtain⟨_,_,rfl,rfl,⟨_,_,rfl,rfl,rfl⟩⟩:=h
 exact rfl
theorem k38_openM {w:World} {base:Nat} {ok:Nat→Prop} {x:S38} {cs:List Value} (h:k38.M w base ok x cs):cs=[.int .i32 x.f0,.int .i32 x.f1,.int .i64 x.f2]:=by
 obtain⟨_,_,rfl,rfl,⟨_,_,rfl,rfl,rfl⟩⟩:=h
 exact rfl
theorem k38_mk (w:World) (x:S38)  :k38.K w x [.int .i32 x.f0,.int .i32 x.f1,.int .i64 x.f2]:=⟨[.int .i32 x.f0],[.int .i32 x.f1,.int .i64 x.f2],rfl,rfl,⟨[.int .i32 x.f1],[.int .i64 x.f2],rfl,rfl,rfl⟩⟩
theorem k38_mkM (w:World) (base:Nat) (ok:Nat→Prop) (x:S38)  :k38.M w base ok x [.int .i32 x.f0,.int .i32 x.f1,.int .i64 x.f2]:=⟨[.int .i32 x.f0],[.int .i32 x.f1,.int .i64 x.f2],rfl,rfl,⟨[.int .i32 x.f1],[.int .i64 x.f2],rfl,rfl,rfl⟩⟩
theorem k38_mkF (W:World) (ok:Nat→Prop) (x:S38):Kd.FK k38 W ok x [.int .i32 x.f0,.int .i32 x.f1,.int .i64 x.f2]:=fun W2 _=>k38_mk W2 x
def rd_T38 (xs:List S38) (i:Int):S38:=xs.getD i.toNat z38
theorem at_T38 {w:World} {A:Option Addr} {n:Nat} {xs:List S38} (h:Kd.C k38 w A n xs) (i:Int) (h0:0≤i) (h1:i<n):∃ ad,A=some ad∧w.cell? (ad.add (i.toNat*3))=some (.int .i32 (rd_T38 xs i).f0)∧w.cell? ⟨(ad.add (i.toNat*3)).block,(ad.add (i.toNat*3)).off+1,none⟩=some (.int .i32 (rd_T38 xs i).f1)∧w.cell? ⟨(ad.add (i.toNat*3)).block,(ad.add (i.toNat*3)).off+2,none⟩=some (.int .i64 (rd_T38 xs i).f2):=by
 obtain⟨ad,c,e,_,hK,hc0⟩:=Kd.C_get h z38 i h0 h1
 have hc:∀ j u,c[j]? =some u→w.cell? (ad.add (i.toNat*3+j))=some u:=hc0
 obtain rfl:=k38_open hK
 exact⟨ad,e,hc 0 _ rfl,by rw[← add_field _ _ 1 (by omega)];exact hc 1 _ rfl,by rw[← add_field _ _ 2 (by omega)];exact hc 2 _ rfl⟩
def rd_L3 (xs:List (List S38)) (i:Int):(List S38):=xs.getD i.toNat ([]:List S38)
theorem at_L3 {w:World} {A:Option Addr} {n:Nat} {xs:List (List S38)} (h:Kd.C (Kd.slice 38 k38) w A n xs) (i:Int) (h0:0≤i) (h1:i<n):∃ ad A0 c0,A=some ad∧w.cell? (ad.add i.toNat)=some (.slice A0 (rd_L3 xs i).length c0)∧(rd_L3 xs i).length≤c0∧k38.C w A0 (rd_L3 xs i).length (rd_L3 xs i):=by
 obtain⟨ad,c,e,_,hK,hc0⟩:=Kd.C_get h ([]:List S38) i h0 h1
 have hc:∀ j u,c[j]? =some u→w.cell? (ad.add (i.toNat*1+j))=some u:=hc0
 obtain⟨A0,c0,rfl,l0,g0⟩:=hK
 exact⟨ad,A0,c0,e,by have hq:=hc 0 _ rfl;rwa [Nat.mul_one,Nat.add_zero] at hq,l0,g0⟩
def rd_L4 (xs:List (List Int)) (i:Int):(List Int):=xs.getD i.toNat ([]:List Int)
theorem at_L4 {w:World} {A:Option Addr} {n:Nat} {xs:List (List Int)} (h:Kd.C (Kd.slice 3 (Kd.int .i64)) w A n xs) (i:Int) (h0:0≤i) (h1:i<n):∃ ad A0 c0,A=some ad∧w.cell? (ad.add i.toNat)=some (.slice A0 (rd_L4 xs i).length c0)∧(rd_L4 xs i).length≤c0∧(Kd.int .i64).C w A0 (rd_L4 xs i).length (rd_L4 xs i):=by
 obtain⟨ad,c,e,_,hK,hc0⟩:=Kd.C_get h ([]:List Int) i h0 h1
 have hc:∀ j u,c[j]? =some u→w.cell? (ad.add (i.toNat*1+j))=some u:=hc0
 obtain⟨A0,c0,rfl,l0,g0⟩:=hK
 exact⟨ad,A0,c0,e,by have hq:=hc 0 _ rfl;rwa [Nat.mul_one,Nat.add_zero] at hq,l0,g0⟩
def rd_L6 (xs:List (List Int)) (i:Int):(List Int):=xs.getD i.toNat ([]:List Int)
theorem at_L6 {w:World} {A:Option Addr} {n:Nat} {xs:List (List Int)} (h:Kd.C (Kd.slice 21 (Kd.int .i32)) w A n xs) (i:Int) (h0:0≤i) (h1:i<n):∃ ad A0 c0,A=some ad∧w.cell? (ad.add i.toNat)=some (.slice A0 (rd_L6 xs i).length c0)∧(rd_L6 xs i).length≤c0∧(Kd.int .i32).C w A0 (rd_L6 xs i).length (rd_L6 xs i):=by
 obtain⟨ad,c,e,_,hK,hc0⟩:=Kd.C_get h ([]:List Int) i h0 h1
 have hc:∀ j u,c[j]? =some u→w.cell? (ad.add (i.toNat*1+j))=some u:=hc0
 obtain⟨A0,c0,rfl,l0,g0⟩:=hK
 exact⟨ad,A0,c0,e,by have hq:=hc 0 _ rfl;rwa [Nat.mul_one,Nat.add_zero] at hq,l0,g0⟩
structure S48 where
 f0:Int
 f1:Int
 f2:Int
def z48:S48:=⟨(0:Int),(0:Int),(0:Int)⟩
def k48:Kd S48:=Kd.iso (Kd.pair (Kd.int .i32) (Kd.pair (Kd.int .i32) (Kd.int .i64))) (fun x:S48=>(x.f0,x.f1,x.f2))
theorem k48_heap:Kd.Heap k48:=Kd.heap_iso _ (Kd.heap_pair (Kd.heap_int .i32) (Kd.heap_pair (Kd.heap_int .i32) (Kd.heap_int .i64)))
theorem k48_open {w:World} {x:S48} {cs:List Value} (h:k48.K w x cs):cs=[.int .i32 x.f0,.int .i32 x.f1,.int .i64 x.f2]:=by
 obtain⟨_,_,rfl,rfl,⟨_,_,rfl,rfl,rfl⟩⟩:=h
 exact rfl
theorem k48_openM {w:World} {base:Nat} {ok:Nat→Prop} {x:S48} {cs:List Value} (h:k48.M w base ok x cs):cs=[.int .i32 x.f0,.int .i32 x.f1,.int .i64 x.f2]:=by
 obtain⟨_,_,rfl,rfl,⟨_,_,rfl,rfl,rfl⟩⟩:=h
 exact rfl
theorem k48_mk (w:World) (x:S48)  :k48.K w x [.int .i32 x.f0,.int .i32 x.f1,.int .i64 x.f2]:=⟨[.int .i32 x.f0],[.int .i32 x.f1,.int .i64 x.f2],rfl,rfl,⟨[.int .i32 x.f1],[.int .i64 x.f2],rfl,rfl,rfl⟩⟩
theorem k48_mkM (w:World) (base:Nat) (ok:Nat→Prop) (x:S48)  :k48.M w base ok x [.int .i32 x.f0,.int .i32 x.f1,.int .i64 x.f2]:=⟨[.int .i32 x.f0],[.int .i32 x.f1,.int .i64 x.f2],rfl,rfl,⟨[.int .i32 x.f1],[.int .i64 x.f2],rfl,rfl,rfl⟩⟩
theorem k48_mkF (W:World) (ok:Nat→Prop) (x:S48):Kd.FK k48 W ok x [.int .i32 x.f0,.int .i32 x.f1,.int .i64 x.f2]:=fun W2 _=>k48_mk W2 x
def rd_T48 (xs:List S48) (i:Int):S48:=xs.getD i.toNat z48
theorem at_T48 {w:World} {A:Option Addr} {n:Nat} {xs:List S48} (h:Kd.C k48 w A n xs) (i:Int) (h0:0≤i) (h1:i<n):∃ ad,A=some ad∧w.cell? (ad.add (i.toNat*3))=some (.int .i32 (rd_T48 xs i).f0)∧w.cell? ⟨(ad.add (i.toNat*3)).block,(ad.add (i.toNat*3)).off+1,none⟩=some (.int .i32 (rd_T48 xs i).f1)∧w.cell? ⟨(ad.add (i.toNat*3)).block,(ad.add (i.toNat*3)).off+2,none⟩=some (.int .i64 (rd_T48 xs i).f2):=by
 obtain⟨ad,c,e,_,hK,hc0⟩:=Kd.C_get h z48 i h0 h1
 have hc:∀ j u,c[j]? =some u→w.cell? (ad.add (i.toNat*3+j))=some u:=hc0
 obtain rfl:=k48_open hK
 exact⟨ad,e,hc 0 _ rfl,by rw[← add_field _ _ 1 (by omega)];exact hc 1 _ rfl,by rw[← add_field _ _ 2 (by omega)];exact hc 2 _ rfl⟩
theorem atF_T38 {w:World} {ok:Nat→Prop} {A:Option Addr} {n:Nat} {xs:List S38} (h:Kd.F k38 w ok A n xs) (i:Int) (h0:0≤i) (h1:i<n):∃ (ad:Addr),A=some ad∧w.cell? (ad.add (i.toNat*3))=some (.int .i32 ((rd_T38 xs i).f0))∧w.cell? ⟨(ad.add (i.toNat*3)).block,(ad.add (i.toNat*3)).off+1,none⟩=some (.int .i32 ((rd_T38 xs i).f1))∧w.cell? ⟨(ad.add (i.toNat*3)).block,(ad.add (i.toNat*3)).off+2,none⟩=some (.int .i64 ((rd_T38 xs i).f2)):=by
 obtain⟨ad,c,e,_,hK,hc0,_⟩:=Kd.F_get h z38 i h0 h1
 have hc:∀ j u,c[j]? =some u→w.cell? (ad.add (i.toNat*3+j))=some u:=hc0
 obtain rfl:=k38_open (Kd.FK_now hK)
 exact⟨ad,e,hc 0 _ rfl,by rw[← add_field _ _ 1 (by omega)];exact hc 1 _ rfl,by rw[← add_field _ _ 2 (by omega)];exact hc 2 _ rfl⟩
theorem atF_L3 {w:World} {ok:Nat→Prop} {A:Option Addr} {n:Nat} {xs:List (List (S38))} (h:Kd.F (Kd.slice 38 k38) w ok A n xs) (i:Int) (h0:0≤i) (h1:i<n):∃ (ad:Addr) (A0:Option Addr) (c0:Nat),A=some ad∧w.cell? (ad.add i.toNat)=some (.slice A0 (rd_L3 xs i).length c0)∧(rd_L3 xs i).length≤c0∧Kd.F k38 w ok A0 (rd_L3 xs i).length (rd_L3 xs i):=by
 obtain⟨ad,c,e,_,hK,hc0,_⟩:=Kd.F_get h [] i h0 h1
 obtain⟨A0,c0,rfl,hl,hf⟩:=Kd.FK_slice_open hK
 refine⟨ad,A0,c0,e,?_,hl,hf⟩
 have h2:w.cell? (ad.add (i.toNat*1+0))=some (.slice A0 (rd_L3 xs i).length c0):=hc0 0 _ rfl
 rw[Nat.mul_one,Nat.add_zero] at h2
 exact h2
theorem atF_L4 {w:World} {ok:Nat→Prop} {A:Option Addr} {n:Nat} {xs:List (List Int)} (h:Kd.F (Kd.slice 3 (Kd.int .i64)) w ok A n xs) (i:Int) (h0:0≤i) (h1:i<n):∃ (ad:Addr) (A0:Option Addr) (c0:Nat),A=some ad∧w.cell? (ad.add i.toNat)=some (.slice A0 (rd_L4 xs i).length c0)∧(rd_L4 xs i).length≤c0∧Kd.F (Kd.int .i64) w ok A0 (rd_L4 xs i).length (rd_L4 xs i):=by
 obtain⟨ad,c,e,_,hK,hc0,_⟩:=Kd.F_get h [] i h0 h1
 obtain⟨A0,c0,rfl,hl,hf⟩:=Kd.FK_slice_open hK
 refine⟨ad,A0,c0,e,?_,hl,hf⟩
 have h2:w.cell? (ad.add (i.toNat*1+0))=some (.slice A0 (rd_L4 xs i).length c0):=hc0 0 _ rfl
 rw[Nat.mul_one,Nat.add_zero] at h2
 exact h2
theorem atF_L6 {w:World} {ok:Nat→Prop} {A:Option Addr} {n:Nat} {xs:List (List Int)} (h:Kd.F (Kd.slice 21 (Kd.int .i32)) w ok A n xs) (i:Int) (h0:0≤i) (h1:i<n):∃ (ad:Addr) (A0:Option Addr) (c0:Nat),A=some ad∧w.cell? (ad.add i.toNat)=some (.slice A0 (rd_L6 xs i).length c0)∧(rd_L6 xs i).length≤c0∧Kd.F (Kd.int .i32) w ok A0 (rd_L6 xs i).length (rd_L6 xs i):=by
 obtain⟨ad,c,e,_,hK,hc0,_⟩:=Kd.F_get h [] i h0 h1
 obtain⟨A0,c0,rfl,hl,hf⟩:=Kd.FK_slice_open hK
 refine⟨ad,A0,c0,e,?_,hl,hf⟩
 have h2:w.cell? (ad.add (i.toNat*1+0))=some (.slice A0 (rd_L6 xs i).length c0):=hc0 0 _ rfl
 rw[Nat.mul_one,Nat.add_zero] at h2
 exact h2
theorem atF_T48 {w:World} {ok:Nat→Prop} {A:Option Addr} {n:Nat} {xs:List S48} (h:Kd.F k48 w ok A n xs) (i:Int) (h0:0≤i) (h1:i<n):∃ (ad:Addr),A=some ad∧w.cell? (ad.add (i.toNat*3))=some (.int .i32 ((rd_T48 xs i).f0))∧w.cell? ⟨(ad.add (i.toNat*3)).block,(ad.add (i.toNat*3)).off+1,none⟩=some (.int .i32 ((rd_T48 xs i).f1))∧w.cell? ⟨(ad.add (i.toNat*3)).block,(ad.add (i.toNat*3)).off+2,none⟩=some (.int .i64 ((rd_T48 xs i).f2)):=by
 obtain⟨ad,c,e,_,hK,hc0,_⟩:=Kd.F_get h z48 i h0 h1
 have hc:∀ j u,c[j]? =some u→w.cell? (ad.add (i.toNat*3+j))=some u:=hc0
 obtain rfl:=k48_open (Kd.FK_now hK)
 exact⟨ad,e,hc 0 _ rfl,by rw[← add_field _ _ 1 (by omega)];exact hc 1 _ rfl,by rw[← add_field _ _ 2 (by omega)];exact hc 2 _ rfl⟩
theorem eqA38 (d:Nat) (w:World) (x0 y0:Int) (x1 y1:Int) (x2 y2:Int):
  (Op.equalIn (d+2) 38 (.agg #[.int .i32 x0,.int .i32 x1,.int .i64 x2]) (.agg #[.int .i32 y0,.int .i32 y1,.int .i64 y2])).run Try.prog w=.ok (x0==y0 && (x1==y1 && (x2==y2))) w:=by
 refine eqA_of Try.underlying38 (by kernel_rfl) ?_
 refine eqf_cons (by rfl) (by go_simp;rfl) (by go_simp;rfl) (by go_simp) ?_
 refine eqf_cons (by rfl) (by go_simp;rfl) (by go_simp;rfl) (by go_simp) ?_
 exact eqf_last (by rfl) (by go_simp;rfl) (by go_simp;rfl) (by go_simp)
end Go.Proofs.Ytkbiiijmgbjnkaa.GA
