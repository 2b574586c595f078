-- written by wip/gen.py, a program of this session: values' types
import Derived.Test.YtapinanmmhdpcaaProg
import Derived.Below
import Derived.Deep.Draws
import Derived.Deep.AppendLies
import Derived.Maps.AppendAt
import Derived.OwnWalk
import Derived.Laws.BytesArg
import Derived.Laws.MakeOwn
import Derived.Laws.OwnMore
import Derived.Deep.OwnRows
import Derived.Tactics
import Derived.Lib.ConvBytes
import Derived.Laws.Slices
import Derived.WalkKit
import Derived.KernelRfl
import Derived.RowKit3
import Derived.Deep.LoopGhost
import Derived.Deep.QuietTactic
import Derived.BigQuiet
import Derived.WideLaws
import Derived.Deep.DeepCutAuto
import Derived.Deep.CutBlock
import Derived.Deep.RegionHeld3
import Derived.Laws.Rows
import Derived.Lib.AppendStr
import Derived.ArgAppend
import Derived.Laws.IdiomCopy
import Derived.OrdersHeld
import Derived.Laws.BitsLemmas
import Derived.RowKit
import Derived.Test.YtapinanmmhdpcaaWEqStruct
import Derived.Lib.Strings
import Derived.Lib.Slices
import Derived.Lib.Walk
import Derived.Lib.Bytealg
import Derived.RegionTactic
import Derived.Lib.Builder
import Derived.Test.YtapinanmmhdpcaaMB
namespace Go.Proofs.Ytapinanmmhdpcaa.GA
open Go.RowKit Go.Proofs.Ytapinanmmhdpcaa Go.Proofs.Ytapinanmmhdpcaa.MW Go.Proofs.YtapinanmmhdpcaaW.PrintWords Go.Proofs.YtapinanmmhdpcaaW.PrintLast Go.Proofs.YtapinanmmhdpcaaW.PrintMore
attribute [local go_sem] max2_int min2_int max_two min_two
set_option linter.unusedVariables false
set_option linter.unusedSimpArgs false
theorem info5:(Try.prog.info? 5).map (fun i=>(i.zero,i.size,i.bytes))=some (some (.int .u8 0),1,1):=by kernel_rfl
theorem info9:(Try.prog.info? 9).map (fun i=>(i.zero,i.size,i.bytes))=some (some (.string ⟨#[]⟩),1,16):=by kernel_rfl
theorem info39:(Try.prog.info? 39).map (fun i=>(i.zero,i.size,i.bytes))=some (some (.slice none 0 0),1,24):=by kernel_rfl
theorem info53:(Try.prog.info? 53).map (fun i=>(i.zero,i.size,i.bytes))=some (some (.agg #[(.string ⟨#[]⟩),(.string ⟨#[]⟩)]),2,32):=by kernel_rfl
structure S53 where
 f0:ByteArray
 f1:ByteArray
def z53:S53:=⟨(⟨#[]⟩:ByteArray),(⟨#[]⟩:ByteArray)⟩
def k53:Kd S53:=Kd.iso (Kd.pair Kd.string Kd.string) (fun x:S53=>(x.f0,x.f1))
theorem k53_heap:Kd.Heap k53:=Kd.heap_iso _ (Kd.heap_pair Kd.heap_string Kd.heap_string)
theorem k53_open {w:World} {x:S53} {cs:List Value} (h:k53.K w x cs):cs=[.string x.f0,.string x.f1]:=by
 obtain⟨_,_,rfl,rfl,rfl⟩:=h
 exact rfl
theorem k53_openM {w:World} {base:Nat} {ok:Nat→Prop} {x:S53} {cs:List Value} (h:k53.M w base ok x cs):cs=[.string x.f0,.string x.f1]:=by
 obtain⟨_,_,rfl,rfl,rfl⟩:=h
 exact rfl
theorem k53_mk (w:World) (x:S53)  :k53.K w x [.string x.f0,.string x.f1]:=⟨[.string x.f0],[.string x.f1],rfl,rfl,rfl⟩
theorem k53_mkM (w:World) (base:Nat) (ok:Nat→Prop) (x:S53)  :k53.M w base ok x [.string x.f0,.string x.f1]:=⟨[.string x.f0],[.string x.f1],rfl,rfl,rfl⟩
theorem k53_mkF (W:World) (ok:Nat→Prop) (x:S53):Kd.FK k53 W ok x [.string x.f0,.string x.f1]:=fun W2 _=>k53_mk W2 x
def rd_T53 (xs:List S53) (i:Int):S53:=xs.getD i.toNat z53
theorem at_T53 {w:World} {A:Option Addr} {n:Nat} {xs:List S53} (h:Kd.C k53 w A n xs) (i:Int) (h0:0≤i) (h1:i<n):∃ ad,A=some ad∧w.cell? (ad.add (i.toNat*2))=some (.string (rd_T53 xs i).f0)∧w.cell? ⟨(ad.add (i.toNat*2)).block,(ad.add (i.toNat*2)).off+1,none⟩=some (.string (rd_T53 xs i).f1):=by
 obtain⟨ad,c,e,_,hK,hc0⟩:=Kd.C_get h z53 i h0 h1
 have hc:∀ j u,c[j]? =some u→w.cell? (ad.add (i.toNat*2+j))=some u:=hc0
 obtain rfl:=k53_open hK
 exact⟨ad,e,hc 0 _ rfl,by rw[← add_field _ _ 1 (by omega)];exact hc 1 _ rfl⟩
def rd_L2 (xs:List (List S53)) (i:Int):(List S53):=xs.getD i.toNat ([]:List S53)
theorem at_L2 {w:World} {A:Option Addr} {n:Nat} {xs:List (List S53)} (h:Kd.C (Kd.slice 53 k53) w A n xs) (i:Int) (h0:0≤i) (h1:i<n):∃ ad A0 c0,A=some ad∧w.cell? (ad.add i.toNat)=some (.slice A0 (rd_L2 xs i).length c0)∧(rd_L2 xs i).length≤c0∧k53.C w A0 (rd_L2 xs i).length (rd_L2 xs i):=by
 obtain⟨ad,c,e,_,hK,hc0⟩:=Kd.C_get h ([]:List S53) i h0 h1
 have hc:∀ j u,c[j]? =some u→w.cell? (ad.add (i.toNat*1+j))=some u:=hc0
 obtain⟨A0,c0,rfl,l0,g0⟩:=hK
 exact⟨ad,A0,c0,e,by have hq:=hc 0 _ rfl;rwa [Nat.mul_one,Nat.add_zero] at hq,l0,g0⟩
def rd_L3 (xs:List (List (List S53))) (i:Int):(List (List S53)):=xs.getD i.toNat ([]:List (List S53))
theorem at_L3 {w:World} {A:Option Addr} {n:Nat} {xs:List (List (List S53))} (h:Kd.C (Kd.slice 39 (Kd.slice 53 k53)) w A n xs) (i:Int) (h0:0≤i) (h1:i<n):∃ ad A0 c0,A=some ad∧w.cell? (ad.add i.toNat)=some (.slice A0 (rd_L3 xs i).length c0)∧(rd_L3 xs i).length≤c0∧(Kd.slice 53 k53).C w A0 (rd_L3 xs i).length (rd_L3 xs i):=by
 obtain⟨ad,c,e,_,hK,hc0⟩:=Kd.C_get h ([]:List (List S53)) i h0 h1
 have hc:∀ j u,c[j]? =some u→w.cell? (ad.add (i.toNat*1+j))=some u:=hc0
 obtain⟨A0,c0,rfl,l0,g0⟩:=hK
 exact⟨ad,A0,c0,e,by have hq:=hc 0 _ rfl;rwa [Nat.mul_one,Nat.add_zero] at hq,l0,g0⟩
def rd_L7 (xs:List (List Int)) (i:Int):(List Int):=xs.getD i.toNat ([]:List Int)
theorem at_L7 {w:World} {A:Option Addr} {n:Nat} {xs:List (List Int)} (h:Kd.C (Kd.slice 5 (Kd.int .u8)) w A n xs) (i:Int) (h0:0≤i) (h1:i<n):∃ ad A0 c0,A=some ad∧w.cell? (ad.add i.toNat)=some (.slice A0 (rd_L7 xs i).length c0)∧(rd_L7 xs i).length≤c0∧(Kd.int .u8).C w A0 (rd_L7 xs i).length (rd_L7 xs i):=by
 obtain⟨ad,c,e,_,hK,hc0⟩:=Kd.C_get h ([]:List Int) i h0 h1
 have hc:∀ j u,c[j]? =some u→w.cell? (ad.add (i.toNat*1+j))=some u:=hc0
 obtain⟨A0,c0,rfl,l0,g0⟩:=hK
 exact⟨ad,A0,c0,e,by have hq:=hc 0 _ rfl;rwa [Nat.mul_one,Nat.add_zero] at hq,l0,g0⟩
def rd_L8 (xs:List (List ByteArray)) (i:Int):(List ByteArray):=xs.getD i.toNat ([]:List ByteArray)
theorem at_L8 {w:World} {A:Option Addr} {n:Nat} {xs:List (List ByteArray)} (h:Kd.C (Kd.slice 9 Kd.string) w A n xs) (i:Int) (h0:0≤i) (h1:i<n):∃ ad A0 c0,A=some ad∧w.cell? (ad.add i.toNat)=some (.slice A0 (rd_L8 xs i).length c0)∧(rd_L8 xs i).length≤c0∧Kd.string.C w A0 (rd_L8 xs i).length (rd_L8 xs i):=by
 obtain⟨ad,c,e,_,hK,hc0⟩:=Kd.C_get h ([]:List ByteArray) i h0 h1
 have hc:∀ j u,c[j]? =some u→w.cell? (ad.add (i.toNat*1+j))=some u:=hc0
 obtain⟨A0,c0,rfl,l0,g0⟩:=hK
 exact⟨ad,A0,c0,e,by have hq:=hc 0 _ rfl;rwa [Nat.mul_one,Nat.add_zero] at hq,l0,g0⟩
theorem atF_T53 {w:World} {ok:Nat→Prop} {A:Option Addr} {n:Nat} {xs:List S53} (h:Kd.F k53 w ok A n xs) (i:Int) (h0:0≤i) (h1:i<n):∃ (ad:Addr),A=some ad∧w.cell? (ad.add (i.toNat*2))=some (.string ((rd_T53 xs i).f0))∧w.cell? ⟨(ad.add (i.toNat*2)).block,(ad.add (i.toNat*2)).off+1,none⟩=some (.string ((rd_T53 xs i).f1)):=by
 obtain⟨ad,c,e,_,hK,hc0,_⟩:=Kd.F_get h z53 i h0 h1
 have hc:∀ j u,c[j]? =some u→w.cell? (ad.add (i.toNat*2+j))=some u:=hc0
 obtain rfl:=k53_open (Kd.FK_now hK)
 exact⟨ad,e,hc 0 _ rfl,by rw[← add_field _ _ 1 (by omega)];exact hc 1 _ rfl⟩
theorem atF_L2 {w:World} {ok:Nat→Prop} {A:Option Addr} {n:Nat} {xs:List (List (S53))} (h:Kd.F (Kd.slice 53 k53) w ok A n xs) (i:Int) (h0:0≤i) (h1:i<n):∃ (ad:Addr) (A0:Option Addr) (c0:Nat),A=some ad∧w.cell? (ad.add i.toNat)=some (.slice A0 (rd_L2 xs i).length c0)∧(rd_L2 xs i).length≤c0∧Kd.F k53 w ok A0 (rd_L2 xs i).length (rd_L2 xs i):=by
 obtain⟨ad,c,e,_,hK,hc0,_⟩:=Kd.F_get h [] i h0 h1
 obtain⟨A0,c0,rfl,hl,hf⟩:=Kd.FK_slice_open hK
 refine⟨ad,A0,c0,e,?_,hl,hf⟩
 have h2:w.cell? (ad.add (i.toNat*1+0))=some (.slice A0 (rd_L2 xs i).length c0):=hc0 0 _ rfl
 rw[Nat.mul_one,Nat.add_zero] at h2
 exact h2
theorem atF_L3 {w:World} {ok:Nat→Prop} {A:Option Addr} {n:Nat} {xs:List (List (List (S53)))} (h:Kd.F (Kd.slice 39 (Kd.slice 53 k53)) w ok A n xs) (i:Int) (h0:0≤i) (h1:i<n):∃ (ad:Addr) (A0:Option Addr) (c0:Nat),A=some ad∧w.cell? (ad.add i.toNat)=some (.slice A0 (rd_L3 xs i).length c0)∧(rd_L3 xs i).length≤c0∧Kd.F (Kd.slice 53 k53) w ok A0 (rd_L3 xs i).length (rd_L3 xs i):=by
 obtain⟨ad,c,e,_,hK,hc0,_⟩:=Kd.F_get h [] i h0 h1
 obtain⟨A0,c0,rfl,hl,hf⟩:=Kd.FK_slice_open hK
 refine⟨ad,A0,c0,e,?_,hl,hf⟩
 have h2:w.cell? (ad.add (i.toNat*1+0))=some (.slice A0 (rd_L3 xs i).length c0):=hc0 0 _ rfl
 rw[Nat.mul_one,Nat.add_zero] at h2
 exact h2
theorem atF_L7 {w:World} {ok:Nat→Prop} {A:Option Addr} {n:Nat} {xs:List (List Int)} (h:Kd.F (Kd.slice 5 (Kd.int .u8)) w ok A n xs) (i:Int) (h0:0≤i) (h1:i<n):∃ (ad:Addr) (A0:Option Addr) (c0:Nat),A=some ad∧w.cell? (ad.add i.toNat)=some (.slice A0 (rd_L7 xs i).length c0)∧(rd_L7 xs i).length≤c0∧Kd.F (Kd.int .u8) w ok A0 (rd_L7 xs i).length (rd_L7 xs i):=by
 obtain⟨ad,c,e,_,hK,hc0,_⟩:=Kd.F_get h [] i h0 h1
 obtain⟨A0,c0,rfl,hl,hf⟩:=Kd.FK_slice_open hK
 refine⟨ad,A0,c0,e,?_,hl,hf⟩
 have h2:w.cell? (ad.add (i.toNat*1+0))=some (.slice A0 (rd_L7 xs i).length c0):=hc0 0 _ rfl
 rw[Nat.mul_one,Nat.add_zero] at h2
 exact h2
theorem atF_L8 {w:World} {ok:Nat→Prop} {A:Option Addr} {n:Nat} {xs:List (List ByteArray)} (h:Kd.F (Kd.slice 9 Kd.string) w ok A n xs) (i:Int) (h0:0≤i) (h1:i<n):∃ (ad:Addr) (A0:Option Addr) (c0:Nat),A=some ad∧w.cell? (ad.add i.toNat)=some (.slice A0 (rd_L8 xs i).length c0)∧(rd_L8 xs i).length≤c0∧Kd.F Kd.string w ok A0 (rd_L8 xs i).length (rd_L8 xs i):=by
 obtain⟨ad,c,e,_,hK,hc0,_⟩:=Kd.F_get h [] i h0 h1
 obtain⟨A0,c0,rfl,hl,hf⟩:=Kd.FK_slice_open hK
 refine⟨ad,A0,c0,e,?_,hl,hf⟩
 have h2:w.cell? (ad.add (i.toNat*1+0))=some (.slice A0 (rd_L8 xs i).length c0):=hc0 0 _ rfl
 rw[Nat.mul_one,Nat.add_zero] at h2
 exact h2
theorem eqA53 (d:Nat) (w:World) (x0 y0:ByteArray) (x1 y1:ByteArray):
  (Op.equalIn (d+2) 53 (.agg #[.string x0,.string x1]) (.agg #[.string y0,.string y1])).run Try.prog w=.ok (x0.toList==y0.toList && (x1.toList==y1.toList)) w:=by
 refine eqA_of Try.underlying53 (by kernel_rfl) ?_
 refine eqf_cons (by rfl) (by go_simp;rfl) (by go_simp;rfl) (by go_simp) ?_
 exact eqf_last (by rfl) (by go_simp;rfl) (by go_simp;rfl) (by go_simp)
end Go.Proofs.Ytapinanmmhdpcaa.GA
