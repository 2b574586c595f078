-- written by wip/gen.py, a program of this session: values' types
import Derived.Test.YtdjkemhmhkpmkaaProg
import Derived.Below
import Derived.Deep.Draws
import Derived.Deep.AppendLies
import Derived.Maps.AppendAt
import Derived.OwnWalk
import Derived.Laws.BytesArg
import Derived.Laws.MakeOwn
import Derived.Laws.OwnMore
import Derived.Deep.OwnRows
import Derived.Tactics
import Derived.Lib.ConvBytes
import Derived.Laws.Slices
import Derived.WalkKit
import Derived.KernelRfl
import Derived.RowKit3
import Derived.Deep.LoopGhost
import Derived.Deep.QuietTactic
import Derived.BigQuiet
import Derived.WideLaws
import Derived.Deep.DeepCutAuto
import Derived.Deep.CutBlock
import Derived.Deep.RegionHeld3
import Derived.Laws.Rows
import Derived.Lib.AppendStr
import Derived.ArgAppend
import Derived.Laws.IdiomCopy
import Derived.OrdersHeld
import Derived.Laws.BitsLemmas
import Derived.RowKit
import Derived.RegionTactic
import Derived.Lib.Builder
import Derived.Test.YtdjkemhmhkpmkaaMB
namespace Go.Proofs.Ytdjkemhmhkpmkaa.GA
open Go.RowKit Go.Proofs.Ytdjkemhmhkpmkaa Go.Proofs.Ytdjkemhmhkpmkaa.MW Go.Proofs.YtdjkemhmhkpmkaaW.PrintWords Go.Proofs.YtdjkemhmhkpmkaaW.PrintLast Go.Proofs.YtdjkemhmhkpmkaaW.PrintMore
attribute [local go_sem] max2_int min2_int max_two min_two
set_option linter.unusedVariables false
set_option linter.unusedSimpArgs false
theorem info5:(Try.prog.info? 5).map (fun i=>(i.zero,i.size,i.bytes))=some (some (.int .u8 0),1,1):=by kernel_rfl
theorem info9:(Try.prog.info? 9).map (fun i=>(i.zero,i.size,i.bytes))=some (some (.string ⟨#[]⟩),1,16):=by kernel_rfl
theorem info46:(Try.prog.info? 46).map (fun i=>(i.zero,i.size,i.bytes))=some (some (.agg #[(.string ⟨#[]⟩),(.slice none 0 0)]),2,40):=by kernel_rfl
theorem info57:(Try.prog.info? 57).map (fun i=>(i.zero,i.size,i.bytes))=some (some (.agg #[(.int .i64 0),(.bool false),(.int .i64 0),(.string ⟨#[]⟩),(.slice none 0 0)]),5,64):=by kernel_rfl
def rd_L3 (xs:List (List ByteArray)) (i:Int):(List ByteArray):=xs.getD i.toNat ([]:List ByteArray)
theorem at_L3 {w:World} {A:Option Addr} {n:Nat} {xs:List (List ByteArray)} (h:Kd.C (Kd.slice 9 Kd.string) w A n xs) (i:Int) (h0:0≤i) (h1:i<n):∃ ad A0 c0,A=some ad∧w.cell? (ad.add i.toNat)=some (.slice A0 (rd_L3 xs i).length c0)∧(rd_L3 xs i).length≤c0∧Kd.string.C w A0 (rd_L3 xs i).length (rd_L3 xs i):=by
 obtain⟨ad,c,e,_,hK,hc0⟩:=Kd.C_get h ([]:List ByteArray) i h0 h1
 have hc:∀ j u,c[j]? =some u→w.cell? (ad.add (i.toNat*1+j))=some u:=hc0
 obtain⟨A0,c0,rfl,l0,g0⟩:=hK
 exact⟨ad,A0,c0,e,by have hq:=hc 0 _ rfl;rwa [Nat.mul_one,Nat.add_zero] at hq,l0,g0⟩
structure S46 where
 f0:ByteArray
 f1:(List ByteArray)
def z46:S46:=⟨(⟨#[]⟩:ByteArray),([]:List ByteArray)⟩
def k46:Kd S46:=Kd.iso (Kd.pair Kd.string (Kd.slice 9 Kd.string)) (fun x:S46=>(x.f0,x.f1))
theorem k46_heap:Kd.Heap k46:=Kd.heap_iso _ (Kd.heap_pair Kd.heap_string (Kd.heap_slice 9 Kd.heap_string))
theorem k46_open {w:World} {x:S46} {cs:List Value} (h:k46.K w x cs):∃ A1 c1,cs=[.string x.f0,.slice A1 x.f1.length c1]∧x.f1.length≤c1∧Kd.string.C w A1 x.f1.length x.f1:=by
 obtain⟨_,_,rfl,rfl,⟨A1,c1,rfl,l1,g1⟩⟩:=h
 exact⟨A1,c1,rfl,l1,g1⟩
theorem k46_openM {w:World} {base:Nat} {ok:Nat→Prop} {x:S46} {cs:List Value} (h:k46.M w base ok x cs):∃ v1,cs=[.string x.f0,v1]∧Kd.string.R 9 w base ok v1 x.f1:=by
 obtain⟨_,_,rfl,rfl,⟨v1,rfl,g1⟩⟩:=h
 exact⟨v1,rfl,g1⟩
theorem k46_mk (w:World) (x:S46) {A1:Option Addr} {c1:Nat} (l1:x.f1.length≤c1) (g1:Kd.string.C w A1 x.f1.length x.f1):k46.K w x [.string x.f0,.slice A1 x.f1.length c1]:=⟨[.string x.f0],[.slice A1 x.f1.length c1],rfl,rfl,⟨A1,c1,rfl,l1,g1⟩⟩
theorem k46_mkM (w:World) (base:Nat) (ok:Nat→Prop) (x:S46) {v1:Value} (g1:Kd.string.R 9 w base ok v1 x.f1):k46.M w base ok x [.string x.f0,v1]:=⟨[.string x.f0],[v1],rfl,rfl,⟨v1,rfl,g1⟩⟩
theorem k46_openF {W:World} {ok:Nat→Prop} {x:S46} {cs:List Value} (h:Kd.FK k46 W ok x cs):∃ A1 c1,cs=[.string x.f0,.slice A1 x.f1.length c1]∧x.f1.length≤c1∧Kd.F Kd.string W ok A1 x.f1.length x.f1:=by
 obtain⟨A1,c1,rfl,l1,_⟩:=k46_open (Kd.FK_now h)
 exact⟨A1,c1,rfl,l1,(fun W' hW=>by obtain⟨A1_,c1_,he,l1_,g1_⟩:=k46_open (h W' hW);injection (Option.some.inj (show some (Value.slice A1 x.f1.length c1)=some (Value.slice A1_ x.f1.length c1_) from congrArg (fun l=>l[1]?) he)) with ha_ _ _;rw[ha_];exact g1_)⟩
theorem k46_mkF (W:World) (ok:Nat→Prop) (x:S46) {A1:Option Addr} {c1:Nat} (l1:x.f1.length≤c1) (g1:Kd.F Kd.string W ok A1 x.f1.length x.f1):Kd.FK k46 W ok x [.string x.f0,.slice A1 x.f1.length c1]:=fun W2 hW=>k46_mk W2 x l1 (g1 W2 hW)
def rd_T46 (xs:List S46) (i:Int):S46:=xs.getD i.toNat z46
theorem at_T46 {w:World} {A:Option Addr} {n:Nat} {xs:List S46} (h:Kd.C k46 w A n xs) (i:Int) (h0:0≤i) (h1:i<n):∃ ad A1 c1,A=some ad∧w.cell? (ad.add (i.toNat*2))=some (.string (rd_T46 xs i).f0)∧w.cell? ⟨(ad.add (i.toNat*2)).block,(ad.add (i.toNat*2)).off+1,none⟩=some (.slice A1 (rd_T46 xs i).f1.length c1)∧(rd_T46 xs i).f1.length≤c1∧Kd.string.C w A1 (rd_T46 xs i).f1.length (rd_T46 xs i).f1:=by
 obtain⟨ad,c,e,_,hK,hc0⟩:=Kd.C_get h z46 i h0 h1
 have hc:∀ j u,c[j]? =some u→w.cell? (ad.add (i.toNat*2+j))=some u:=hc0
 obtain⟨A1,c1,rfl,l1,g1⟩:=k46_open hK
 exact⟨ad,A1,c1,e,hc 0 _ rfl,by rw[← add_field _ _ 1 (by omega)];exact hc 1 _ rfl,l1,g1⟩
def rd_L6 (xs:List (List S46)) (i:Int):(List S46):=xs.getD i.toNat ([]:List S46)
theorem at_L6 {w:World} {A:Option Addr} {n:Nat} {xs:List (List S46)} (h:Kd.C (Kd.slice 46 k46) w A n xs) (i:Int) (h0:0≤i) (h1:i<n):∃ ad A0 c0,A=some ad∧w.cell? (ad.add i.toNat)=some (.slice A0 (rd_L6 xs i).length c0)∧(rd_L6 xs i).length≤c0∧k46.C w A0 (rd_L6 xs i).length (rd_L6 xs i):=by
 obtain⟨ad,c,e,_,hK,hc0⟩:=Kd.C_get h ([]:List S46) i h0 h1
 have hc:∀ j u,c[j]? =some u→w.cell? (ad.add (i.toNat*1+j))=some u:=hc0
 obtain⟨A0,c0,rfl,l0,g0⟩:=hK
 exact⟨ad,A0,c0,e,by have hq:=hc 0 _ rfl;rwa [Nat.mul_one,Nat.add_zero] at hq,l0,g0⟩
structure S27 where
 f0:Int
 f1:Int
 f2:Bool
 f3:Int
 f4:ByteArray
 f5:ByteArray
 f6:ByteArray
 f7:(List S46)
def z27:S27:=⟨(0:Int),(0:Int),false,(0:Int),(⟨#[]⟩:ByteArray),(⟨#[]⟩:ByteArray),(⟨#[]⟩:ByteArray),([]:List S46)⟩
def k27:Kd S27:=Kd.iso (Kd.pair (Kd.int .i64) (Kd.pair (Kd.int .i64) (Kd.pair Kd.bool (Kd.pair (Kd.int .i64) (Kd.pair Kd.string (Kd.pair Kd.string (Kd.pair Kd.string (Kd.slice 46 k46)))))))) (fun x:S27=>(x.f0,x.f1,x.f2,x.f3,x.f4,x.f5,x.f6,x.f7))
theorem k27_heap:Kd.Heap k27:=Kd.heap_iso _ (Kd.heap_pair (Kd.heap_int .i64) (Kd.heap_pair (Kd.heap_int .i64) (Kd.heap_pair Kd.heap_bool (Kd.heap_pair (Kd.heap_int .i64) (Kd.heap_pair Kd.heap_string (Kd.heap_pair Kd.heap_string (Kd.heap_pair Kd.heap_string (Kd.heap_slice 46 k46_heap))))))))
theorem k27_open {w:World} {x:S27} {cs:List Value} (h:k27.K w x cs):∃ A7 c7,cs=[.int .i64 x.f0,.int .i64 x.f1,.bool x.f2,.int .i64 x.f3,.string x.f4,.string x.f5,.string x.f6,.slice A7 x.f7.length c7]∧x.f7.length≤c7∧k46.C w A7 x.f7.length x.f7:=by
 obtain⟨_,_,rfl,rfl,⟨_,_,rfl,rfl,⟨_,_,rfl,rfl,⟨_,_,rfl,rfl,⟨_,_,rfl,rfl,⟨_,_,rfl,rfl,⟨_,_,rfl,rfl,⟨A7,c7,rfl,l7,g7⟩⟩⟩⟩⟩⟩⟩⟩:=h
 exact⟨A7,c7,rfl,l7,g7⟩
theorem k27_openM {w:World} {base:Nat} {ok:Nat→Prop} {x:S27} {cs:List Value} (h:k27.M w base ok x cs):∃ v7,cs=[.int .i64 x.f0,.int .i64 x.f1,.bool x.f2,.int .i64 x.f3,.string x.f4,.string x.f5,.string x.f6,v7]∧k46.R 46 w base ok v7 x.f7:=by
 obtain⟨_,_,rfl,rfl,⟨_,_,rfl,rfl,⟨_,_,rfl,rfl,⟨_,_,rfl,rfl,⟨_,_,rfl,rfl,⟨_,_,rfl,rfl,⟨_,_,rfl,rfl,⟨v7,rfl,g7⟩⟩⟩⟩⟩⟩⟩⟩:=h
 exact⟨v7,rfl,g7⟩
theorem k27_mk (w:World) (x:S27) {A7:Option Addr} {c7:Nat} (l7:x.f7.length≤c7) (g7:k46.C w A7 x.f7.length x.f7):k27.K w x [.int .i64 x.f0,.int .i64 x.f1,.bool x.f2,.int .i64 x.f3,.string x.f4,.string x.f5,.string x.f6,.slice A7 x.f7.length c7]:=⟨[.int .i64 x.f0],[.int .i64 x.f1,.bool x.f2,.int .i64 x.f3,.string x.f4,.string x.f5,.string x.f6,.slice A7 x.f7.length c7],rfl,rfl,⟨[.int .i64 x.f1],[.bool x.f2,.int .i64 x.f3,.string x.f4,.string x.f5,.string x.f6,.slice A7 x.f7.length c7],rfl,rfl,⟨[.bool x.f2],[.int .i64 x.f3,.string x.f4,.string x.f5,.string x.f6,.slice A7 x.f7.length c7],rfl,rfl,⟨[.int .i64 x.f3],[.string x.f4,.string x.f5,.string x.f6,.slice A7 x.f7.length c7],rfl,rfl,⟨[.string x.f4],[.string x.f5,.string x.f6,.slice A7 x.f7.length c7],rfl,rfl,⟨[.string x.f5],[.string x.f6,.slice A7 x.f7.length c7],rfl,rfl,⟨[.string x.f6],[.slice A7 x.f7.length c7],rfl,rfl,⟨A7,c7,rfl,l7,g7⟩⟩⟩⟩⟩⟩⟩⟩
theorem k27_mkM (w:World) (base:Nat) (ok:Nat→Prop) (x:S27) {v7:Value} (g7:k46.R 46 w base ok v7 x.f7):k27.M w base ok x [.int .i64 x.f0,.int .i64 x.f1,.bool x.f2,.int .i64 x.f3,.string x.f4,.string x.f5,.string x.f6,v7]:=⟨[.int .i64 x.f0],[.int .i64 x.f1,.bool x.f2,.int .i64 x.f3,.string x.f4,.string x.f5,.string x.f6,v7],rfl,rfl,⟨[.int .i64 x.f1],[.bool x.f2,.int .i64 x.f3,.string x.f4,.string x.f5,.string x.f6,v7],rfl,rfl,⟨[.bool x.f2],[.int .i64 x.f3,.string x.f4,.string x.f5,.string x.f6,v7],rfl,rfl,⟨[.int .i64 x.f3],[.string x.f4,.string x.f5,.string x.f6,v7],rfl,rfl,⟨[.string x.f4],[.string x.f5,.string x.f6,v7],rfl,rfl,⟨[.string x.f5],[.string x.f6,v7],rfl,rfl,⟨[.string x.f6],[v7],rfl,rfl,⟨v7,rfl,g7⟩⟩⟩⟩⟩⟩⟩⟩
theorem k27_openF {W:World} {ok:Nat→Prop} {x:S27} {cs:List Value} (h:Kd.FK k27 W ok x cs):∃ A7 c7,cs=[.int .i64 x.f0,.int .i64 x.f1,.bool x.f2,.int .i64 x.f3,.string x.f4,.string x.f5,.string x.f6,.slice A7 x.f7.length c7]∧x.f7.length≤c7∧Kd.F k46 W ok A7 x.f7.length x.f7:=by
 obtain⟨A7,c7,rfl,l7,_⟩:=k27_open (Kd.FK_now h)
 exact⟨A7,c7,rfl,l7,(fun W' hW=>by obtain⟨A7_,c7_,he,l7_,g7_⟩:=k27_open (h W' hW);injection (Option.some.inj (show some (Value.slice A7 x.f7.length c7)=some (Value.slice A7_ x.f7.length c7_) from congrArg (fun l=>l[7]?) he)) with ha_ _ _;rw[ha_];exact g7_)⟩
theorem k27_mkF (W:World) (ok:Nat→Prop) (x:S27) {A7:Option Addr} {c7:Nat} (l7:x.f7.length≤c7) (g7:Kd.F k46 W ok A7 x.f7.length x.f7):Kd.FK k27 W ok x [.int .i64 x.f0,.int .i64 x.f1,.bool x.f2,.int .i64 x.f3,.string x.f4,.string x.f5,.string x.f6,.slice A7 x.f7.length c7]:=fun W2 hW=>k27_mk W2 x l7 (g7 W2 hW)
def rd_T27 (xs:List S27) (i:Int):S27:=xs.getD i.toNat z27
theorem at_T27 {w:World} {A:Option Addr} {n:Nat} {xs:List S27} (h:Kd.C k27 w A n xs) (i:Int) (h0:0≤i) (h1:i<n):∃ ad A7 c7,A=some ad∧w.cell? (ad.add (i.toNat*8))=some (.int .i64 (rd_T27 xs i).f0)∧w.cell? ⟨(ad.add (i.toNat*8)).block,(ad.add (i.toNat*8)).off+1,none⟩=some (.int .i64 (rd_T27 xs i).f1)∧w.cell? ⟨(ad.add (i.toNat*8)).block,(ad.add (i.toNat*8)).off+2,none⟩=some (.bool (rd_T27 xs i).f2)∧w.cell? ⟨(ad.add (i.toNat*8)).block,(ad.add (i.toNat*8)).off+3,none⟩=some (.int .i64 (rd_T27 xs i).f3)∧w.cell? ⟨(ad.add (i.toNat*8)).block,(ad.add (i.toNat*8)).off+4,none⟩=some (.string (rd_T27 xs i).f4)∧w.cell? ⟨(ad.add (i.toNat*8)).block,(ad.add (i.toNat*8)).off+5,none⟩=some (.string (rd_T27 xs i).f5)∧w.cell? ⟨(ad.add (i.toNat*8)).block,(ad.add (i.toNat*8)).off+6,none⟩=some (.string (rd_T27 xs i).f6)∧w.cell? ⟨(ad.add (i.toNat*8)).block,(ad.add (i.toNat*8)).off+7,none⟩=some (.slice A7 (rd_T27 xs i).f7.length c7)∧(rd_T27 xs i).f7.length≤c7∧k46.C w A7 (rd_T27 xs i).f7.length (rd_T27 xs i).f7:=by
 obtain⟨ad,c,e,_,hK,hc0⟩:=Kd.C_get h z27 i h0 h1
 have hc:∀ j u,c[j]? =some u→w.cell? (ad.add (i.toNat*8+j))=some u:=hc0
 obtain⟨A7,c7,rfl,l7,g7⟩:=k27_open hK
 exact⟨ad,A7,c7,e,hc 0 _ rfl,by rw[← add_field _ _ 1 (by omega)];exact hc 1 _ rfl,by rw[← add_field _ _ 2 (by omega)];exact hc 2 _ rfl,by rw[← add_field _ _ 3 (by omega)];exact hc 3 _ rfl,by rw[← add_field _ _ 4 (by omega)];exact hc 4 _ rfl,by rw[← add_field _ _ 5 (by omega)];exact hc 5 _ rfl,by rw[← add_field _ _ 6 (by omega)];exact hc 6 _ rfl,by rw[← add_field _ _ 7 (by omega)];exact hc 7 _ rfl,l7,g7⟩
structure S57 where
 f0:Int
 f1:Bool
 f2:Int
 f3:ByteArray
 f4:(List S57)
def z57:S57:=⟨(0:Int),false,(0:Int),(⟨#[]⟩:ByteArray),([]:List S57)⟩
def F57 (d:Kd S57):Kd S57:=Kd.iso (Kd.pair (Kd.int .i64) (Kd.pair Kd.bool (Kd.pair (Kd.int .i64) (Kd.pair Kd.string (Kd.slice 57 d))))) (fun x:S57=>(x.f0,x.f1,x.f2,x.f3,x.f4))
theorem mono57:Kd.Mono F57:=Kd.mono_iso _ (Kd.mono_pair (Kd.mono_const _) (Kd.mono_pair (Kd.mono_const _) (Kd.mono_pair (Kd.mono_const _) (Kd.mono_pair (Kd.mono_const _) (Kd.mono_slice 57 Kd.mono_id)))))
theorem sub57:Kd.Sub F57 [57]:=Kd.sub_iso _ (Kd.sub_pair (Kd.sub_const _ (by decide)) (Kd.sub_pair (Kd.sub_const _ (by decide)) (Kd.sub_pair (Kd.sub_const _ (by decide)) (Kd.sub_pair (Kd.sub_const _ (by decide)) (Kd.sub_slice 57 (by decide) Kd.sub_id)))))
theorem sz57:∀ n,(Kd.upto F57 5 [57] n).sz=5:=Kd.upto_sz (fun _=>rfl)
def k57:Kd S57:=Kd.fix F57 5 [57] sz57 (Kd.upto_E sub57)
theorem k57_heap:Kd.Heap k57:=Kd.heap_fix (fun _ h_=>Kd.heap_iso _ (Kd.heap_pair (Kd.heap_int .i64) (Kd.heap_pair Kd.heap_bool (Kd.heap_pair (Kd.heap_int .i64) (Kd.heap_pair Kd.heap_string (Kd.heap_slice 57 h_))))))
theorem k57_open {w:World} {x:S57} {cs:List Value} (h:k57.K w x cs):∃ A4 c4,cs=[.int .i64 x.f0,.bool x.f1,.int .i64 x.f2,.string x.f3,.slice A4 x.f4.length c4]∧x.f4.length≤c4∧k57.C w A4 x.f4.length x.f4:=by
 obtain⟨n,h⟩:=h
 cases n with
 |zero=>exact h.elim
 |succ n=>
  obtain⟨_,_,rfl,rfl,⟨_,_,rfl,rfl,⟨_,_,rfl,rfl,⟨_,_,rfl,rfl,⟨A4,c4,rfl,l4,g4⟩⟩⟩⟩⟩:=h
  exact⟨A4,c4,rfl,l4,Kd.fix_C g4⟩
theorem k57_openM {w:World} {base:Nat} {ok:Nat→Prop} {x:S57} {cs:List Value} (h:k57.M w base ok x cs):∃ v4,cs=[.int .i64 x.f0,.bool x.f1,.int .i64 x.f2,.string x.f3,v4]∧k57.R 57 w base ok v4 x.f4:=by
 obtain⟨n,h⟩:=h
 cases n with
 |zero=>exact h.elim
 |succ n=>
  obtain⟨_,_,rfl,rfl,⟨_,_,rfl,rfl,⟨_,_,rfl,rfl,⟨_,_,rfl,rfl,⟨v4,rfl,g4⟩⟩⟩⟩⟩:=h
  exact⟨v4,rfl,Kd.fix_R g4⟩
theorem k57_mk (w:World) (x:S57) {A4:Option Addr} {c4:Nat} (l4:x.f4.length≤c4) (g4:k57.C w A4 x.f4.length x.f4):k57.K w x [.int .i64 x.f0,.bool x.f1,.int .i64 x.f2,.string x.f3,.slice A4 x.f4.length c4]:=by
 obtain⟨n4,q4⟩:=Kd.fix_C_back mono57 g4
 have r4:=Kd.upto_C_le mono57 sz57 (show n4≤n4 by omega) q4
 exact⟨n4+1,⟨[.int .i64 x.f0],[.bool x.f1,.int .i64 x.f2,.string x.f3,.slice A4 x.f4.length c4],rfl,rfl,⟨[.bool x.f1],[.int .i64 x.f2,.string x.f3,.slice A4 x.f4.length c4],rfl,rfl,⟨[.int .i64 x.f2],[.string x.f3,.slice A4 x.f4.length c4],rfl,rfl,⟨[.string x.f3],[.slice A4 x.f4.length c4],rfl,rfl,⟨A4,c4,rfl,l4,r4⟩⟩⟩⟩⟩⟩
theorem k57_mkM (w:World) (base:Nat) (ok:Nat→Prop) (x:S57) {v4:Value} (g4:k57.R 57 w base ok v4 x.f4):k57.M w base ok x [.int .i64 x.f0,.bool x.f1,.int .i64 x.f2,.string x.f3,v4]:=by
 obtain⟨n4,q4⟩:=Kd.fix_R_back mono57 g4
 have r4:=Kd.upto_R_le mono57 sz57 (show n4≤n4 by omega) q4
 exact⟨n4+1,⟨[.int .i64 x.f0],[.bool x.f1,.int .i64 x.f2,.string x.f3,v4],rfl,rfl,⟨[.bool x.f1],[.int .i64 x.f2,.string x.f3,v4],rfl,rfl,⟨[.int .i64 x.f2],[.string x.f3,v4],rfl,rfl,⟨[.string x.f3],[v4],rfl,rfl,⟨v4,rfl,r4⟩⟩⟩⟩⟩⟩
theorem k57_openF {W:World} {ok:Nat→Prop} {x:S57} {cs:List Value} (h:Kd.FK k57 W ok x cs):∃ A4 c4,cs=[.int .i64 x.f0,.bool x.f1,.int .i64 x.f2,.string x.f3,.slice A4 x.f4.length c4]∧x.f4.length≤c4∧Kd.F k57 W ok A4 x.f4.length x.f4:=by
 obtain⟨A4,c4,rfl,l4,_⟩:=k57_open (Kd.FK_now h)
 exact⟨A4,c4,rfl,l4,(fun W' hW=>by obtain⟨A4_,c4_,he,l4_,g4_⟩:=k57_open (h W' hW);injection (Option.some.inj (show some (Value.slice A4 x.f4.length c4)=some (Value.slice A4_ x.f4.length c4_) from congrArg (fun l=>l[4]?) he)) with ha_ _ _;rw[ha_];exact g4_)⟩
theorem k57_mkF (W:World) (ok:Nat→Prop) (x:S57) {A4:Option Addr} {c4:Nat} (l4:x.f4.length≤c4) (g4:Kd.F k57 W ok A4 x.f4.length x.f4):Kd.FK k57 W ok x [.int .i64 x.f0,.bool x.f1,.int .i64 x.f2,.string x.f3,.slice A4 x.f4.length c4]:=fun W2 hW=>k57_mk W2 x l4 (g4 W2 hW)
def rd_T57 (xs:List S57) (i:Int):S57:=xs.getD i.toNat z57
theorem at_T57 {w:World} {A:Option Addr} {n:Nat} {xs:List S57} (h:Kd.C k57 w A n xs) (i:Int) (h0:0≤i) (h1:i<n):∃ ad A4 c4,A=some ad∧w.cell? (ad.add (i.toNat*5))=some (.int .i64 (rd_T57 xs i).f0)∧w.cell? ⟨(ad.add (i.toNat*5)).block,(ad.add (i.toNat*5)).off+1,none⟩=some (.bool (rd_T57 xs i).f1)∧w.cell? ⟨(ad.add (i.toNat*5)).block,(ad.add (i.toNat*5)).off+2,none⟩=some (.int .i64 (rd_T57 xs i).f2)∧w.cell? ⟨(ad.add (i.toNat*5)).block,(ad.add (i.toNat*5)).off+3,none⟩=some (.string (rd_T57 xs i).f3)∧w.cell? ⟨(ad.add (i.toNat*5)).block,(ad.add (i.toNat*5)).off+4,none⟩=some (.slice A4 (rd_T57 xs i).f4.length c4)∧(rd_T57 xs i).f4.length≤c4∧k57.C w A4 (rd_T57 xs i).f4.length (rd_T57 xs i).f4:=by
 obtain⟨ad,c,e,_,hK,hc0⟩:=Kd.C_get h z57 i h0 h1
 have hc:∀ j u,c[j]? =some u→w.cell? (ad.add (i.toNat*5+j))=some u:=hc0
 obtain⟨A4,c4,rfl,l4,g4⟩:=k57_open hK
 exact⟨ad,A4,c4,e,hc 0 _ rfl,by rw[← add_field _ _ 1 (by omega)];exact hc 1 _ rfl,by rw[← add_field _ _ 2 (by omega)];exact hc 2 _ rfl,by rw[← add_field _ _ 3 (by omega)];exact hc 3 _ rfl,by rw[← add_field _ _ 4 (by omega)];exact hc 4 _ rfl,l4,g4⟩
def rd_L9 (xs:List (List S57)) (i:Int):(List S57):=xs.getD i.toNat ([]:List S57)
theorem at_L9 {w:World} {A:Option Addr} {n:Nat} {xs:List (List S57)} (h:Kd.C (Kd.slice 57 k57) w A n xs) (i:Int) (h0:0≤i) (h1:i<n):∃ ad A0 c0,A=some ad∧w.cell? (ad.add i.toNat)=some (.slice A0 (rd_L9 xs i).length c0)∧(rd_L9 xs i).length≤c0∧k57.C w A0 (rd_L9 xs i).length (rd_L9 xs i):=by
 obtain⟨ad,c,e,_,hK,hc0⟩:=Kd.C_get h ([]:List S57) i h0 h1
 have hc:∀ j u,c[j]? =some u→w.cell? (ad.add (i.toNat*1+j))=some u:=hc0
 obtain⟨A0,c0,rfl,l0,g0⟩:=hK
 exact⟨ad,A0,c0,e,by have hq:=hc 0 _ rfl;rwa [Nat.mul_one,Nat.add_zero] at hq,l0,g0⟩
def rd_L11 (xs:List (List Int)) (i:Int):(List Int):=xs.getD i.toNat ([]:List Int)
theorem at_L11 {w:World} {A:Option Addr} {n:Nat} {xs:List (List Int)} (h:Kd.C (Kd.slice 5 (Kd.int .u8)) w A n xs) (i:Int) (h0:0≤i) (h1:i<n):∃ ad A0 c0,A=some ad∧w.cell? (ad.add i.toNat)=some (.slice A0 (rd_L11 xs i).length c0)∧(rd_L11 xs i).length≤c0∧(Kd.int .u8).C w A0 (rd_L11 xs i).length (rd_L11 xs i):=by
 obtain⟨ad,c,e,_,hK,hc0⟩:=Kd.C_get h ([]:List Int) i h0 h1
 have hc:∀ j u,c[j]? =some u→w.cell? (ad.add (i.toNat*1+j))=some u:=hc0
 obtain⟨A0,c0,rfl,l0,g0⟩:=hK
 exact⟨ad,A0,c0,e,by have hq:=hc 0 _ rfl;rwa [Nat.mul_one,Nat.add_zero] at hq,l0,g0⟩
def rd_L12 (xs:List (List S27)) (i:Int):(List S27):=xs.getD i.toNat ([]:List S27)
theorem at_L12 {w:World} {A:Option Addr} {n:Nat} {xs:List (List S27)} (h:Kd.C (Kd.slice 27 k27) w A n xs) (i:Int) (h0:0≤i) (h1:i<n):∃ ad A0 c0,A=some ad∧w.cell? (ad.add i.toNat)=some (.slice A0 (rd_L12 xs i).length c0)∧(rd_L12 xs i).length≤c0∧k27.C w A0 (rd_L12 xs i).length (rd_L12 xs i):=by
 obtain⟨ad,c,e,_,hK,hc0⟩:=Kd.C_get h ([]:List S27) i h0 h1
 have hc:∀ j u,c[j]? =some u→w.cell? (ad.add (i.toNat*1+j))=some u:=hc0
 obtain⟨A0,c0,rfl,l0,g0⟩:=hK
 exact⟨ad,A0,c0,e,by have hq:=hc 0 _ rfl;rwa [Nat.mul_one,Nat.add_zero] at hq,l0,g0⟩
theorem atF_L3 {w:World} {ok:Nat→Prop} {A:Option Addr} {n:Nat} {xs:List (List ByteArray)} (h:Kd.F (Kd.slice 9 Kd.string) w ok A n xs) (i:Int) (h0:0≤i) (h1:i<n):∃ (ad:Addr) (A0:Option Addr) (c0:Nat),A=some ad∧w.cell? (ad.add i.toNat)=some (.slice A0 (rd_L3 xs i).length c0)∧(rd_L3 xs i).length≤c0∧Kd.F Kd.string w ok A0 (rd_L3 xs i).length (rd_L3 xs i):=by
 obtain⟨ad,c,e,_,hK,hc0,_⟩:=Kd.F_get h [] i h0 h1
 obtain⟨A0,c0,rfl,hl,hf⟩:=Kd.FK_slice_open hK
 refine⟨ad,A0,c0,e,?_,hl,hf⟩
 have h2:w.cell? (ad.add (i.toNat*1+0))=some (.slice A0 (rd_L3 xs i).length c0):=hc0 0 _ rfl
 rw[Nat.mul_one,Nat.add_zero] at h2
 exact h2
theorem atF_T46 {w:World} {ok:Nat→Prop} {A:Option Addr} {n:Nat} {xs:List S46} (h:Kd.F k46 w ok A n xs) (i:Int) (h0:0≤i) (h1:i<n):∃ (ad:Addr) (A1:Option Addr) (c1:Nat),A=some ad∧w.cell? (ad.add (i.toNat*2))=some (.string ((rd_T46 xs i).f0))∧w.cell? ⟨(ad.add (i.toNat*2)).block,(ad.add (i.toNat*2)).off+1,none⟩=some (.slice A1 (rd_T46 xs i).f1.length c1)∧(rd_T46 xs i).f1.length≤c1∧Kd.F Kd.string w ok A1 (rd_T46 xs i).f1.length (rd_T46 xs i).f1:=by
 obtain⟨ad,c,e,_,hK,hc0,_⟩:=Kd.F_get h z46 i h0 h1
 have hc:∀ j u,c[j]? =some u→w.cell? (ad.add (i.toNat*2+j))=some u:=hc0
 obtain⟨A1,c1,rfl,l1,g1⟩:=k46_openF hK
 exact⟨ad,A1,c1,e,hc 0 _ rfl,by rw[← add_field _ _ 1 (by omega)];exact hc 1 _ rfl,l1,g1⟩
theorem atF_L6 {w:World} {ok:Nat→Prop} {A:Option Addr} {n:Nat} {xs:List (List (S46))} (h:Kd.F (Kd.slice 46 k46) w ok A n xs) (i:Int) (h0:0≤i) (h1:i<n):∃ (ad:Addr) (A0:Option Addr) (c0:Nat),A=some ad∧w.cell? (ad.add i.toNat)=some (.slice A0 (rd_L6 xs i).length c0)∧(rd_L6 xs i).length≤c0∧Kd.F k46 w ok A0 (rd_L6 xs i).length (rd_L6 xs i):=by
 obtain⟨ad,c,e,_,hK,hc0,_⟩:=Kd.F_get h [] i h0 h1
 obtain⟨A0,c0,rfl,hl,hf⟩:=Kd.FK_slice_open hK
 refine⟨ad,A0,c0,e,?_,hl,hf⟩
 have h2:w.cell? (ad.add (i.toNat*1+0))=some (.slice A0 (rd_L6 xs i).length c0):=hc0 0 _ rfl
 rw[Nat.mul_one,Nat.add_zero] at h2
 exact h2
theorem atF_T27 {w:World} {ok:Nat→Prop} {A:Option Addr} {n:Nat} {xs:List S27} (h:Kd.F k27 w ok A n xs) (i:Int) (h0:0≤i) (h1:i<n):∃ (ad:Addr) (A7:Option Addr) (c7:Nat),A=some ad∧w.cell? (ad.add (i.toNat*8))=some (.int .i64 ((rd_T27 xs i).f0))∧w.cell? ⟨(ad.add (i.toNat*8)).block,(ad.add (i.toNat*8)).off+1,none⟩=some (.int .i64 ((rd_T27 xs i).f1))∧w.cell? ⟨(ad.add (i.toNat*8)).block,(ad.add (i.toNat*8)).off+2,none⟩=some (.bool ((rd_T27 xs i).f2))∧w.cell? ⟨(ad.add (i.toNat*8)).block,(ad.add (i.toNat*8)).off+3,none⟩=some (.int .i64 ((rd_T27 xs i).f3))∧w.cell? ⟨(ad.add (i.toNat*8)).block,(ad.add (i.toNat*8)).off+4,none⟩=some (.string ((rd_T27 xs i).f4))∧w.cell? ⟨(ad.add (i.toNat*8)).block,(ad.add (i.toNat*8)).off+5,none⟩=some (.string ((rd_T27 xs i).f5))∧w.cell? ⟨(ad.add (i.toNat*8)).block,(ad.add (i.toNat*8)).off+6,none⟩=some (.string ((rd_T27 xs i).f6))∧w.cell? ⟨(ad.add (i.toNat*8)).block,(ad.add (i.toNat*8)).off+7,none⟩=some (.slice A7 (rd_T27 xs i).f7.length c7)∧(rd_T27 xs i).f7.length≤c7∧Kd.F k46 w ok A7 (rd_T27 xs i).f7.length (rd_T27 xs i).f7:=by
 obtain⟨ad,c,e,_,hK,hc0,_⟩:=Kd.F_get h z27 i h0 h1
 have hc:∀ j u,c[j]? =some u→w.cell? (ad.add (i.toNat*8+j))=some u:=hc0
 obtain⟨A7,c7,rfl,l7,g7⟩:=k27_openF hK
 exact⟨ad,A7,c7,e,hc 0 _ rfl,by rw[← add_field _ _ 1 (by omega)];exact hc 1 _ rfl,by rw[← add_field _ _ 2 (by omega)];exact hc 2 _ rfl,by rw[← add_field _ _ 3 (by omega)];exact hc 3 _ rfl,by rw[← add_field _ _ 4 (by omega)];exact hc 4 _ rfl,by rw[← add_field _ _ 5 (by omega)];exact hc 5 _ rfl,by rw[← add_field _ _ 6 (by omega)];exact hc 6 _ rfl,by rw[← add_field _ _ 7 (by omega)];exact hc 7 _ rfl,l7,g7⟩
theorem atF_T57 {w:World} {ok:Nat→Prop} {A:Option Addr} {n:Nat} {xs:List S57} (h:Kd.F k57 w ok A n xs) (i:Int) (h0:0≤i) (h1:i<n):∃ (ad:Addr) (A4:Option Addr) (c4:Nat),A=some ad∧w.cell? (ad.add (i.toNat*5))=some (.int .i64 ((rd_T57 xs i).f0))∧w.cell? ⟨(ad.add (i.toNat*5)).block,(ad.add (i.toNat*5)).off+1,none⟩=some (.bool ((rd_T57 xs i).f1))∧w.cell? ⟨(ad.add (i.toNat*5)).block,(ad.add (i.toNat*5)).off+2,none⟩=some (.int .i64 ((rd_T57 xs i).f2))∧w.cell? ⟨(ad.add (i.toNat*5)).block,(ad.add (i.toNat*5)).off+3,none⟩=some (.string ((rd_T57 xs i).f3))∧w.cell? ⟨(ad.add (i.toNat*5)).block,(ad.add (i.toNat*5)).off+4,none⟩=some (.slice A4 (rd_T57 xs i).f4.length c4)∧(rd_T57 xs i).f4.length≤c4∧Kd.F k57 w ok A4 (rd_T57 xs i).f4.length (rd_T57 xs i).f4:=by
 obtain⟨ad,c,e,_,hK,hc0,_⟩:=Kd.F_get h z57 i h0 h1
 have hc:∀ j u,c[j]? =some u→w.cell? (ad.add (i.toNat*5+j))=some u:=hc0
 obtain⟨A4,c4,rfl,l4,g4⟩:=k57_openF hK
 exact⟨ad,A4,c4,e,hc 0 _ rfl,by rw[← add_field _ _ 1 (by omega)];exact hc 1 _ rfl,by rw[← add_field _ _ 2 (by omega)];exact hc 2 _ rfl,by rw[← add_field _ _ 3 (by omega)];exact hc 3 _ rfl,by rw[← add_field _ _ 4 (by omega)];exact hc 4 _ rfl,l4,g4⟩
theorem atF_L9 {w:World} {ok:Nat→Prop} {A:Option Addr} {n:Nat} {xs:List (List (S57))} (h:Kd.F (Kd.slice 57 k57) w ok A n xs) (i:Int) (h0:0≤i) (h1:i<n):∃ (ad:Addr) (A0:Option Addr) (c0:Nat),A=some ad∧w.cell? (ad.add i.toNat)=some (.slice A0 (rd_L9 xs i).length c0)∧(rd_L9 xs i).length≤c0∧Kd.F k57 w ok A0 (rd_L9 xs i).length (rd_L9 xs i):=by
 obtain⟨ad,c,e,_,hK,hc0,_⟩:=Kd.F_get h [] i h0 h1
 obtain⟨A0,c0,rfl,hl,hf⟩:=Kd.FK_slice_open hK
 refine⟨ad,A0,c0,e,?_,hl,hf⟩
 have h2:w.cell? (ad.add (i.toNat*1+0))=some (.slice A0 (rd_L9 xs i).length c0):=hc0 0 _ rfl
 rw[Nat.mul_one,Nat.add_zero] at h2
 exact h2
theorem atF_L11 {w:World} {ok:Nat→Prop} {A:Option Addr} {n:Nat} {xs:List (List Int)} (h:Kd.F (Kd.slice 5 (Kd.int .u8)) w ok A n xs) (i:Int) (h0:0≤i) (h1:i<n):∃ (ad:Addr) (A0:Option Addr) (c0:Nat),A=some ad∧w.cell? (ad.add i.toNat)=some (.slice A0 (rd_L11 xs i).length c0)∧(rd_L11 xs i).length≤c0∧Kd.F (Kd.int .u8) w ok A0 (rd_L11 xs i).length (rd_L11 xs i):=by
 obtain⟨ad,c,e,_,hK,hc0,_⟩:=Kd.F_get h [] i h0 h1
 obtain⟨A0,c0,rfl,hl,hf⟩:=Kd.FK_slice_open hK
 refine⟨ad,A0,c0,e,?_,hl,hf⟩
 have h2:w.cell? (ad.add (i.toNat*1+0))=some (.slice A0 (rd_L11 xs i).length c0):=hc0 0 _ rfl
 rw[Nat.mul_one,Nat.add_zero] at h2
 exact h2
theorem atF_L12 {w:World} {ok:Nat→Prop} {A:Option Addr} {n:Nat} {xs:List (List (S27))} (h:Kd.F (Kd.slice 27 k27) w ok A n xs) (i:Int) (h0:0≤i) (h1:i<n):∃ (ad:Addr) (A0:Option Addr) (c0:Nat),A=some ad∧w.cell? (ad.add i.toNat)=some (.slice A0 (rd_L12 xs i).length c0)∧(rd_L12 xs i).length≤c0∧Kd.F k27 w ok A0 (rd_L12 xs i).length (rd_L12 xs i):=by
 obtain⟨ad,c,e,_,hK,hc0,_⟩:=Kd.F_get h [] i h0 h1
 obtain⟨A0,c0,rfl,hl,hf⟩:=Kd.FK_slice_open hK
 refine⟨ad,A0,c0,e,?_,hl,hf⟩
 have h2:w.cell? (ad.add (i.toNat*1+0))=some (.slice A0 (rd_L12 xs i).length c0):=hc0 0 _ rfl
 rw[Nat.mul_one,Nat.add_zero] at h2
 exact h2
end Go.Proofs.Ytdjkemhmhkpmkaa.GA
