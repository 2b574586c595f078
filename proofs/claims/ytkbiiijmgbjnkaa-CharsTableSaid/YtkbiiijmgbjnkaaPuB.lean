import Derived.Test.YtkbiiijmgbjnkaaGM1
import Derived.Test.YtkbiiijmgbjnkaaGM1
import Derived.Test.YtkbiiijmgbjnkaaGM1
/- Plain laws of chapter 3: each number's kind and class; the document's table says the same (step functions are held against each other at their steps). -/
namespace Go.Proofs.Ytkbiiijmgbjnkaa.PuB
open Go Go.RowKit Go.Proofs.Ytkbiiijmgbjnkaa.GA Go.Proofs.YtkbiiijmgbjnkaaW.PrintWords Go.Proofs.YtkbiiijmgbjnkaaW.PrintLast Go.Proofs.YtkbiiijmgbjnkaaW.PrintMore
set_option linter.unusedVariables false
set_option linter.unusedSimpArgs false
set_option maxRecDepth 100000
set_option maxHeartbeats 4000000
theorem upk {α :Type} {f:Nat→Option α} (h:∀ k,LeO (f k) (f (k+1))) {r: α} {k:Nat} (hr:f k=some r):∀ j,f (k+j)=some r
 |0=>hr
 |j+1=>h _ _ (upk h hr j)
theorem up_to {α :Type} {f:Nat→Option α} (h:∀ k,LeO (f k) (f (k+1))) {r: α} {k k':Nat} (hr:f k=some r) (hk:k≤k'):f k'=some r:=by
 obtain⟨j,rfl⟩:=Nat.exists_eq_add_of_le hk
 exact upk h hr j
def B:List Int:=((0:Int)::(9:Int)::(14:Int)::(32:Int)::(33:Int)::(48:Int)::(58:Int)::(65:Int)::(91:Int)::(97:Int)::(123:Int)::(127:Int)::(128:Int)::(133:Int)::(134:Int)::(160:Int)::(161:Int)::(170:Int)::(171:Int)::(173:Int)::(174:Int)::(178:Int)::(180:Int)::(181:Int)::(182:Int)::(185:Int)::(186:Int)::(187:Int)::(192:Int)::(215:Int)::(216:Int)::(247:Int)::(248:Int)::(384:Int)::(700:Int)::(701:Int)::(768:Int)::(773:Int)::(774:Int)::(777:Int)::(778:Int)::(781:Int)::(803:Int)::(804:Int)::(807:Int)::(808:Int)::(809:Int)::(832:Int)::(834:Int)::(847:Int)::(848:Int)::(902:Int)::(903:Int)::(904:Int)::(907:Int)::(908:Int)::(909:Int)::(910:Int)::(930:Int)::(931:Int)::(975:Int)::(1025:Int)::(1026:Int)::(1040:Int)::(1104:Int)::(1105:Int)::(1106:Int)::(1488:Int)::(1515:Int)::(1632:Int)::(1642:Int)::(4352:Int)::(4371:Int)::(4449:Int)::(4470:Int)::(4520:Int)::(4547:Int)::(8192:Int)::(8203:Int)::(8208:Int)::(8210:Int)::(8232:Int)::(8234:Int)::(8239:Int)::(8240:Int)::(8260:Int)::(8261:Int)::(8287:Int)::(8288:Int)::(8292:Int)::(8298:Int)::(8304:Int)::(8305:Int)::(8308:Int)::(8314:Int)::(8320:Int)::(8330:Int)::(8486:Int)::(8487:Int)::(8490:Int)::(8492:Int)::(8544:Int)::(8556:Int)::(8560:Int)::(8572:Int)::(8722:Int)::(8723:Int)::(12288:Int)::(12289:Int)::(12353:Int)::(12437:Int)::(12441:Int)::(12442:Int)::(12443:Int)::(19968:Int)::(20224:Int)::(44032:Int)::(55204:Int)::(57344:Int)::(63744:Int)::(64256:Int)::(64262:Int)::(64976:Int)::(65008:Int)::(65024:Int)::(65040:Int)::(65279:Int)::(65280:Int)::(65281:Int)::(65296:Int)::(65306:Int)::(65313:Int)::(65339:Int)::(65345:Int)::(65371:Int)::(65375:Int)::(65529:Int)::(65533:Int)::(65536:Int)::(131070:Int)::(131072:Int)::(196606:Int)::(196608:Int)::(262142:Int)::(262144:Int)::(327678:Int)::(327680:Int)::(393214:Int)::(393216:Int)::(458750:Int)::(458752:Int)::(524286:Int)::(524288:Int)::(589822:Int)::(589824:Int)::(655358:Int)::(655360:Int)::(720894:Int)::(720896:Int)::(786430:Int)::(786432:Int)::(851966:Int)::(851968:Int)::(917502:Int)::(917504:Int)::(983038:Int)::(983040:Int)::(1048574:Int)::(1048576:Int)::(1114110:Int)::(1114112:Int)::[])
def repL:List Int→Int→Int→Int
 |[],acc,_=>acc
 |b::l,acc,r=>if b≤r then repL l b r else acc
def up:List Int→Int→Bool
 |[],_=>true
 |b::l,a=>decide (a<b) && up l b
theorem up_lt:∀ (l:List Int) (a:Int),up l a=true→∀ c ∈ l,a<c
 |[],_,_,_,hc=>by simp at hc
 |b::l,a,h,c,hc=>by
  simp only[up,Bool.and_eq_true,decide_eq_true_eq] at h
  rcases List.mem_cons.1 hc with rfl|hc
  ·exact h.1
  ·have:=up_lt l b h.2 c hc
   omega
theorem repL_ge:∀ (l:List Int) (a r:Int),up l a=true→a≤repL l a r
 |[],a,r,_=>Int.le_refl _
 |b::l,a,r,h=>by
  simp only[up,Bool.and_eq_true,decide_eq_true_eq] at h
  unfold repL
  split
  ·have:=repL_ge l b r h.2
   omega
  ·exact Int.le_refl _
theorem repL_le:∀ (l:List Int) (a r:Int),up l a=true→∀ c ∈ l,(c≤r↔c≤repL l a r)
 |[],_,_,_,_,hc=>by simp at hc
 |b::l,a,r,h,c,hc=>by
  have h':=h
  simp only[up,Bool.and_eq_true,decide_eq_true_eq] at h
  unfold repL
  split
  ·rename_i hb
   rcases List.mem_cons.1 hc with rfl|hc
   ·exact⟨fun _=>repL_ge l _ r h.2,fun _=>hb⟩
   ·exact repL_le l b r h.2 c hc
  ·rename_i hb
   have h1:=up_lt (b::l) a h' c hc
   have h2:b≤c:=by
    rcases List.mem_cons.1 hc with rfl|hc
    ·exact Int.le_refl _
    ·have:=up_lt l b h.2 c hc
     omega
   constructor <;>intro h3 <;>omega
theorem repL_mem:∀ (l:List Int) (a r:Int),repL l a r ∈ a::l
 |[],a,r=>by simp[repL]
 |b::l,a,r=>by
  unfold repL
  split
  ·have:=repL_mem l b r
   exact List.mem_cons_of_mem _ this
  ·simp
def rep (r:Int):Int:=repL B (-1) r
theorem rep_le (r:Int):∀ c ∈ B,(c≤r↔c≤rep r):=repL_le B (-1) r (by decide+kernel)
theorem rep_mem (r:Int):rep r ∈ (-1)::B:=repL_mem B (-1) r
section
variable {r r' : Int} (hB : ∀ c ∈ B, (c ≤ r ↔ c ≤ r'))
include hB
theorem t_ge (c:Int) (m:c ∈ B):(r≥c)=(r'≥c):=propext (hB c m)
theorem t_lt (c:Int) (m:c ∈ B):(r<c)=(r'<c):=propext (by have:=hB c m;omega)
theorem t_le (c:Int) (m:c+1 ∈ B):(r≤c)=(r'≤c):=propext (by have:=hB (c+1) m;omega)
theorem t_eq (c:Int) (m:c ∈ B) (m':c+1 ∈ B):(r=c)=(r'=c):=propext (by have:=hB c m;have:=hB (c+1) m';omega)
theorem t_beq (c:Int) (m:c ∈ B) (m':c+1 ∈ B):(r==c)=(r'==c):=by
 have h:=t_eq hB c m m'
 by_cases h1:r=c
 ·have h2:r'=c:=by rw[← h];exact h1
  rw[beq_iff_eq.2 h1,beq_iff_eq.2 h2]
 ·have h2: ¬ r'=c:=by rw[← h];exact h1
  rw[beq_eq_false_iff_ne.2 h1,beq_eq_false_iff_ne.2 h2]
theorem chars_letter_inv:chars_letter.f r=chars_letter.f r':=by
 unfold chars_letter.f
 simp only[t_ge hB 65 (by decide+kernel),t_le hB 90 (by decide+kernel),t_ge hB 97 (by decide+kernel),t_le hB 122 (by decide+kernel),t_eq hB 170 (by decide+kernel) (by decide+kernel),t_beq hB 181 (by decide+kernel) (by decide+kernel),t_eq hB 186 (by decide+kernel) (by decide+kernel),t_ge hB 192 (by decide+kernel),t_le hB 214 (by decide+kernel),t_ge hB 216 (by decide+kernel),t_le hB 246 (by decide+kernel),t_ge hB 248 (by decide+kernel),t_le hB 383 (by decide+kernel),t_eq hB 700 (by decide+kernel) (by decide+kernel),t_beq hB 902 (by decide+kernel) (by decide+kernel),t_ge hB 904 (by decide+kernel),t_le hB 906 (by decide+kernel),t_eq hB 908 (by decide+kernel) (by decide+kernel),t_ge hB 910 (by decide+kernel),t_le hB 929 (by decide+kernel),t_ge hB 931 (by decide+kernel),t_le hB 974 (by decide+kernel),t_eq hB 1025 (by decide+kernel) (by decide+kernel),t_ge hB 1040 (by decide+kernel),t_le hB 1103 (by decide+kernel),t_eq hB 1105 (by decide+kernel) (by decide+kernel),t_ge hB 1488 (by decide+kernel),t_le hB 1514 (by decide+kernel),t_ge hB 4352 (by decide+kernel),t_le hB 4370 (by decide+kernel),t_ge hB 4449 (by decide+kernel),t_le hB 4469 (by decide+kernel),t_ge hB 4520 (by decide+kernel),t_le hB 4546 (by decide+kernel),t_eq hB 8486 (by decide+kernel) (by decide+kernel),t_ge hB 8490 (by decide+kernel),t_le hB 8491 (by decide+kernel),t_ge hB 8544 (by decide+kernel),t_le hB 8555 (by decide+kernel),t_ge hB 8560 (by decide+kernel),t_le hB 8571 (by decide+kernel),t_ge hB 12353 (by decide+kernel),t_le hB 12436 (by decide+kernel),t_ge hB 19968 (by decide+kernel),t_le hB 20223 (by decide+kernel),t_ge hB 44032 (by decide+kernel),t_le hB 55203 (by decide+kernel),t_ge hB 64256 (by decide+kernel),t_le hB 64261 (by decide+kernel),t_ge hB 65313 (by decide+kernel),t_le hB 65338 (by decide+kernel),t_ge hB 65345 (by decide+kernel),t_le hB 65370 (by decide+kernel)]
theorem chars_digit_inv:chars_digit.f r=chars_digit.f r':=by
 unfold chars_digit.f
 simp only[t_ge hB 48 (by decide+kernel),t_le hB 57 (by decide+kernel),t_ge hB 178 (by decide+kernel),t_le hB 179 (by decide+kernel),t_eq hB 185 (by decide+kernel) (by decide+kernel),t_ge hB 1632 (by decide+kernel),t_le hB 1641 (by decide+kernel),t_eq hB 8304 (by decide+kernel) (by decide+kernel),t_ge hB 8308 (by decide+kernel),t_le hB 8313 (by decide+kernel),t_ge hB 8320 (by decide+kernel),t_le hB 8329 (by decide+kernel),t_ge hB 65296 (by decide+kernel),t_le hB 65305 (by decide+kernel)]
theorem chars_mark_inv:chars_mark.f r=chars_mark.f r':=by
 unfold chars_mark.f
 simp only[t_ge hB 768 (by decide+kernel),t_le hB 772 (by decide+kernel),t_ge hB 774 (by decide+kernel),t_le hB 776 (by decide+kernel),t_ge hB 778 (by decide+kernel),t_le hB 780 (by decide+kernel),t_eq hB 803 (by decide+kernel) (by decide+kernel),t_ge hB 807 (by decide+kernel),t_le hB 808 (by decide+kernel),t_ge hB 12441 (by decide+kernel),t_le hB 12442 (by decide+kernel)]
theorem chars_sign_inv:chars_sign.f r=chars_sign.f r':=by
 unfold chars_sign.f
 simp only[t_ge hB 33 (by decide+kernel),t_le hB 47 (by decide+kernel),t_ge hB 58 (by decide+kernel),t_le hB 64 (by decide+kernel),t_ge hB 91 (by decide+kernel),t_le hB 96 (by decide+kernel),t_ge hB 123 (by decide+kernel),t_le hB 126 (by decide+kernel),t_ge hB 161 (by decide+kernel),t_le hB 169 (by decide+kernel),t_ge hB 171 (by decide+kernel),t_le hB 172 (by decide+kernel),t_ge hB 174 (by decide+kernel),t_le hB 177 (by decide+kernel),t_eq hB 180 (by decide+kernel) (by decide+kernel),t_ge hB 182 (by decide+kernel),t_le hB 184 (by decide+kernel),t_ge hB 187 (by decide+kernel),t_le hB 191 (by decide+kernel),t_eq hB 215 (by decide+kernel) (by decide+kernel),t_beq hB 247 (by decide+kernel) (by decide+kernel),t_ge hB 8208 (by decide+kernel),t_le hB 8209 (by decide+kernel),t_eq hB 8260 (by decide+kernel) (by decide+kernel),t_beq hB 8722 (by decide+kernel) (by decide+kernel),t_ge hB 65281 (by decide+kernel),t_le hB 65295 (by decide+kernel),t_ge hB 65306 (by decide+kernel),t_le hB 65312 (by decide+kernel),t_ge hB 65339 (by decide+kernel),t_le hB 65344 (by decide+kernel),t_ge hB 65371 (by decide+kernel),t_le hB 65374 (by decide+kernel)]
theorem chars_space_inv:chars_space.f r=chars_space.f r':=by
 unfold chars_space.f
 simp only[t_ge hB 9 (by decide+kernel),t_le hB 13 (by decide+kernel),t_eq hB 32 (by decide+kernel) (by decide+kernel),t_beq hB 133 (by decide+kernel) (by decide+kernel),t_eq hB 160 (by decide+kernel) (by decide+kernel),t_ge hB 8192 (by decide+kernel),t_le hB 8202 (by decide+kernel),t_ge hB 8232 (by decide+kernel),t_le hB 8233 (by decide+kernel),t_eq hB 8239 (by decide+kernel) (by decide+kernel),t_beq hB 8287 (by decide+kernel) (by decide+kernel),t_beq hB 12288 (by decide+kernel) (by decide+kernel)]
theorem chars_gone_inv:chars_gone.f r=chars_gone.f r':=by
 unfold chars_gone.f
 simp only[t_ge hB 0 (by decide+kernel),t_le hB 8 (by decide+kernel),t_ge hB 14 (by decide+kernel),t_le hB 31 (by decide+kernel),t_ge hB 127 (by decide+kernel),t_le hB 132 (by decide+kernel),t_ge hB 134 (by decide+kernel),t_le hB 159 (by decide+kernel),t_eq hB 173 (by decide+kernel) (by decide+kernel),t_beq hB 847 (by decide+kernel) (by decide+kernel),t_ge hB 8203 (by decide+kernel),t_le hB 8207 (by decide+kernel),t_ge hB 8234 (by decide+kernel),t_le hB 8238 (by decide+kernel),t_ge hB 8288 (by decide+kernel),t_le hB 8291 (by decide+kernel),t_ge hB 8298 (by decide+kernel),t_le hB 8303 (by decide+kernel),t_ge hB 65024 (by decide+kernel),t_le hB 65039 (by decide+kernel),t_eq hB 65279 (by decide+kernel) (by decide+kernel),t_ge hB 65529 (by decide+kernel),t_le hB 65532 (by decide+kernel)]
theorem chars_Class_inv:chars_Class.f r=chars_Class.f r':=by
 unfold chars_Class.f
 simp only[t_eq hB 803 (by decide+kernel) (by decide+kernel),t_eq hB 807 (by decide+kernel) (by decide+kernel),t_eq hB 808 (by decide+kernel) (by decide+kernel),t_ge hB 12441 (by decide+kernel),chars_mark_inv hB]
theorem toponymref03_ascii_inv:toponymref03_ascii.f r=toponymref03_ascii.f r':=by
 unfold toponymref03_ascii.f
 simp only[t_ge hB 9 (by decide+kernel),t_le hB 13 (by decide+kernel),t_lt hB 32 (by decide+kernel),t_eq hB 32 (by decide+kernel) (by decide+kernel),t_ge hB 48 (by decide+kernel),t_le hB 57 (by decide+kernel),t_ge hB 65 (by decide+kernel),t_le hB 90 (by decide+kernel),t_ge hB 97 (by decide+kernel),t_le hB 122 (by decide+kernel),t_eq hB 127 (by decide+kernel) (by decide+kernel)]
end
/-! ### the table -/
def R:List S38:=(toponymref03_Rows.f 20).getD []
theorem rows20:toponymref03_Rows.f 20=some R:=by kernel_rfl
theorem rows_k (k:Nat) (hk:20≤k):toponymref03_Rows.f k=some R:=up_to (fun k=>toponymref03_Rows.mono k) rows20 hk
def look:List S38→Int→Int
 |[],_=>0
 |s::l,a=>if a≥s.f0 then(if a≤s.f1 then s.f2 else look l a) else look l a
theorem look_inv {r r':Int} (hB:∀ c ∈ B,(c≤r↔c≤r')):∀ l:List S38,(∀ s ∈ l,s.f0 ∈ B∧s.f1+1 ∈ B)→look l r=look l r'
 |[],_=>rfl
 |s::l,h=>by
  have h1:=h s (by simp)
  unfold look
  simp only[t_ge hB s.f0 h1.1,t_le hB s.f1 h1.2,look_inv hB l (fun q hq=>h q (by simp[hq]))]
theorem R_ends:∀ s ∈ R,s.f0 ∈ B∧s.f1+1 ∈ B:=by decide+kernel
theorem R_len:R.length=106:=by decide+kernel
theorem drop_get (l:List S38) (i:Int) (h0:0≤i) (h1:i<l.length):l.drop i.toNat=rd_T38 l i::l.drop (i+1).toNat:=by
 have hi:i.toNat<l.length:=by omega
 rw[List.drop_eq_getElem_cons hi,show(i+1).toNat=i.toNat+1 by omega]
 congr 1
 unfold rd_T38
 rw[List.getD_eq_getElem?_getD,List.getElem?_eq_getElem hi]
 rfl
theorem kind_l0 (a:Int) (l:List S38) (hl:l.length≤1000000):∀ (k:Nat) (i:Int),0≤i→i≤l.length→(l.length:Int) - i<k→toponymref03_Kind.l0 k i a l=some (look (l.drop i.toNat) a)
 |0,i,h0,h1,h2=>by omega
 |k+1,i,h0,h1,h2=>by
  unfold toponymref03_Kind.l0
  by_cases hi:i<(l.length:Int)
  ·rw[if_pos hi,if_pos h0,drop_get l i h0 hi]
   unfold look
   have ih:=kind_l0 a l hl k (i+1) (by omega) (by omega) (by omega)
   rw[IntWalk.wrap64_in (i+1) (by omega),ih]
   split
   ·split <;>rfl
   ·rfl
  ·rw[if_neg hi,List.drop_eq_nil_of_le (by omega)]
   rfl
theorem kind_l1 (a:Int) (l:List S38) (hl:l.length≤1000000):∀ (k:Nat) (i:Int),0≤i→i≤l.length→(l.length:Int) - i<k→toponymref03_Kind.l1 k i a l=some (look (l.drop i.toNat) a)
 |0,i,h0,h1,h2=>by omega
 |k+1,i,h0,h1,h2=>by
  unfold toponymref03_Kind.l1
  by_cases hi:i<(l.length:Int)
  ·rw[if_pos hi,if_pos h0,drop_get l i h0 hi]
   unfold look
   have ih:=kind_l1 a l hl k (i+1) (by omega) (by omega) (by omega)
   rw[IntWalk.wrap64_in (i+1) (by omega),ih]
   split
   ·split <;>rfl
   ·rfl
  ·rw[if_neg hi,List.drop_eq_nil_of_le (by omega)]
   rfl
/-- The document's kind. -/
def kd (r:Int):Option Int:=if r≥0 then(if r<128 then toponymref03_ascii.f r else some (look R r)) else some (look R r)
theorem kind_k (k:Nat) (hk:200≤k) (r:Int):toponymref03_Kind.f k r=kd r:=by
 unfold toponymref03_Kind.f kd
 have hl:=R_len
 rw[rows_k k (by omega)]
 simp only[Option.bind_some]
 rw[kind_l0 r R (by omega) k 0 (by omega) (by omega) (by omega),kind_l1 r R (by omega) k 0 (by omega) (by omega) (by omega)]
 simp only[Int.toNat_zero,List.drop_zero]
 split
 ·split
  ·cases toponymref03_ascii.f r <;>rfl
  ·rfl
 ·rfl
theorem kd_inv {r r':Int} (hB:∀ c ∈ B,(c≤r↔c≤r')):kd r=kd r':=by
 unfold kd
 simp only[t_ge hB 0 (by decide+kernel),t_lt hB 128 (by decide+kernel),toponymref03_ascii_inv hB,look_inv hB R R_ends]
/-! ### the last two of each plane -/
def hi (r:Int):Bool:=(decide (r≥131070) && decide (r≤131071)) || (decide (r≥196606) && decide (r≤196607)) || (decide (r≥262142) && decide (r≤262143)) || (decide (r≥327678) && decide (r≤327679)) || (decide (r≥393214) && decide (r≤393215)) || (decide (r≥458750) && decide (r≤458751)) || (decide (r≥524286) && decide (r≤524287)) || (decide (r≥589822) && decide (r≤589823)) || (decide (r≥655358) && decide (r≤655359)) || (decide (r≥720894) && decide (r≤720895)) || (decide (r≥786430) && decide (r≤786431)) || (decide (r≥851966) && decide (r≤851967)) || (decide (r≥917502) && decide (r≤917503)) || (decide (r≥983038) && decide (r≤983039)) || (decide (r≥1048574) && decide (r≤1048575)) || (decide (r≥1114110) && decide (r≤1114111))
theorem hi_inv {r r':Int} (hB:∀ c ∈ B,(c≤r↔c≤r')):hi r=hi r':=by
 unfold hi
 simp only[t_ge hB 131070 (by decide+kernel),t_le hB 131071 (by decide+kernel),t_ge hB 196606 (by decide+kernel),t_le hB 196607 (by decide+kernel),t_ge hB 262142 (by decide+kernel),t_le hB 262143 (by decide+kernel),t_ge hB 327678 (by decide+kernel),t_le hB 327679 (by decide+kernel),t_ge hB 393214 (by decide+kernel),t_le hB 393215 (by decide+kernel),t_ge hB 458750 (by decide+kernel),t_le hB 458751 (by decide+kernel),t_ge hB 524286 (by decide+kernel),t_le hB 524287 (by decide+kernel),t_ge hB 589822 (by decide+kernel),t_le hB 589823 (by decide+kernel),t_ge hB 655358 (by decide+kernel),t_le hB 655359 (by decide+kernel),t_ge hB 720894 (by decide+kernel),t_le hB 720895 (by decide+kernel),t_ge hB 786430 (by decide+kernel),t_le hB 786431 (by decide+kernel),t_ge hB 851966 (by decide+kernel),t_le hB 851967 (by decide+kernel),t_ge hB 917502 (by decide+kernel),t_le hB 917503 (by decide+kernel),t_ge hB 983038 (by decide+kernel),t_le hB 983039 (by decide+kernel),t_ge hB 1048574 (by decide+kernel),t_le hB 1048575 (by decide+kernel),t_ge hB 1114110 (by decide+kernel),t_le hB 1114111 (by decide+kernel)]
def bad (a0:Int):Option Bool:=(some (if a0≥832 then((decide (a0≤833))) else(false):Bool)).bind fun b1=>((some (if b1=true then(true) else(if a0≥57344 then((decide (a0≤63743))) else(false)):Bool)).bind fun b4=>((some (if b4=true then(true) else(if a0≥64976 then((decide (a0≤65007))) else(false)):Bool)).bind fun b8=>((some (if b8=true then(true) else(if a0≥65533 then((decide (a0≤65535))) else(false)):Bool)).bind fun b12=>((some (if b12=true then(true) else(if a0>65535 then(if a0≤1114111 then(hi a0) else(false)) else(false)):Bool)).bind fun b16=>(some b16)))))
def kindC (a0:Int):Option Int:=(chars_letter.f a0).bind fun t1=>(if t1=true then(some 1) else((chars_digit.f a0).bind fun t5=>(if t5=true then(some 2) else((chars_mark.f a0).bind fun t9=>(if t9=true then(some 3) else((chars_sign.f a0).bind fun t13=>(if t13=true then(some 4) else((chars_space.f a0).bind fun t17=>(if t17=true then(some 5) else((chars_gone.f a0).bind fun t21=>(if t21=true then(some 6) else((bad a0).bind fun t25=>(if t25=true then(some 7) else(some 0))))))))))))))
theorem and_low (x:Nat):x &&& 65534=(x % 65536) &&& 65534:=by
 apply Nat.eq_of_testBit_eq
 intro i
 rw[show 65536=2 ^ 16 from rfl]
 simp only[Nat.testBit_and,Nat.testBit_mod_two_pow]
 by_cases hi:i<16
 ·simp[hi]
 ·have:Nat.testBit 65534 i=false:=Nat.testBit_lt_two_pow (Nat.lt_of_lt_of_le (show 65534<2 ^ 16 by decide) (Nat.pow_le_pow_right (by decide) (by omega)))
  simp[this]
theorem and_top (m:Nat) (h:m<65536):m &&& 65534=65534↔65534≤m:=by
 constructor
 ·intro he
  have:=Nat.and_le_left (n:=m) (m:=65534)
  omega
 ·intro hm
  have:m=65534∨m=65535:=by omega
  rcases this with rfl|rfl <;>decide
theorem bits_nat (x:Nat) (h:x≤1114111):Go.bits .and .i32 (x:Int) 65534=((x &&& 65534:Nat):Int):=by
 have hx:x &&& 65534≤65534:=Nat.and_le_right
 have h1:(BitVec.ofInt 32 (x:Int)).toNat=x:=by
  rw[BitVec.ofInt_natCast,BitVec.toNat_ofNat];exact Nat.mod_eq_of_lt (by omega)
 have h2:(BitVec.ofInt 32 (65534:Int)).toNat=65534:=by decide
 show IntKind.i32.wrap ((BitVec.ofInt 32 (x:Int) &&& BitVec.ofInt 32 (65534:Int)).toNat:Int)=_
 rw[BitVec.toNat_and,h1,h2]
 exact IntWalk.i32_in _ (by omega)
theorem bits_hi (r:Int) (h0:r>65535) (h1:r≤1114111):(Go.bits .and .i32 r 65534==65534)=hi r:=by
 obtain⟨x,rfl⟩:∃ x:Nat,r=x:=⟨r.toNat,by omega⟩
 rw[bits_nat x (by omega),and_low x]
 have ht:=and_top (x % 65536) (Nat.mod_lt _ (by decide))
 by_cases hm:65534≤x % 65536
 ·rw[ht.2 hm]
  have:hi (x:Int)=true:=by
   unfold hi
   simp only[Bool.or_eq_true,Bool.and_eq_true,decide_eq_true_eq]
   omega
  rw[this]
  rfl
 ·have h2:((x % 65536 &&& 65534:Nat):Int)≠65534:=fun he=>hm (ht.1 (by omega))
  rw[beq_eq_false_iff_ne.2 h2]
  have:hi (x:Int)=false:=by
   rw[Bool.eq_false_iff]
   intro hh
   unfold hi at hh
   simp only[Bool.or_eq_true,Bool.and_eq_true,decide_eq_true_eq] at hh
   omega
  rw[this]
theorem bad_eq (r:Int):chars_bad.f r=bad r:=by
 unfold chars_bad.f bad
 by_cases h0:r>65535
 ·by_cases h1:r≤1114111
  ·simp only[bits_hi r h0 h1]
  ·simp only[h1,if_false]
 ·simp only[h0,if_false]
theorem kind_eq (r:Int):chars_Kind.f r=kindC r:=by
 unfold chars_Kind.f kindC
 rw[bad_eq r]
theorem t_gt {r r':Int} (hB:∀ c ∈ B,(c≤r↔c≤r')) (c:Int) (m:c+1 ∈ B):(r>c)=(r'>c):=propext (by have:=hB (c+1) m;omega)
theorem bad_inv {r r':Int} (hB:∀ c ∈ B,(c≤r↔c≤r')):bad r=bad r':=by
 unfold bad
 simp only[t_gt hB 65535 (by decide+kernel),t_le hB 1114111 (by decide+kernel),t_le hB 63743 (by decide+kernel),t_le hB 65007 (by decide+kernel),t_le hB 65535 (by decide+kernel),t_le hB 833 (by decide+kernel),t_ge hB 57344 (by decide+kernel),t_ge hB 64976 (by decide+kernel),t_ge hB 65533 (by decide+kernel),t_ge hB 832 (by decide+kernel),hi_inv hB]
theorem kindC_inv {r r':Int} (hB:∀ c ∈ B,(c≤r↔c≤r')):kindC r=kindC r':=by
 unfold kindC
 simp only[chars_letter_inv hB,chars_digit_inv hB,chars_mark_inv hB,chars_sign_inv hB,chars_space_inv hB,chars_gone_inv hB,bad_inv hB]
def cl (r:Int):Option Int:=(kd r).bind fun t1=>(if t1=3 then(if r=807 then(some 202) else(if r=808 then(some 202) else(if r=803 then(some 220) else(if r=12441 then(some 8) else(if r=12442 then(some 8) else(some 230)))))) else(some 0))
theorem class_k (k:Nat) (hk:200≤k) (r:Int):toponymref03_Class.f k r=cl r:=by
 unfold toponymref03_Class.f cl
 rw[kind_k k hk r]
theorem cl_inv {r r':Int} (hB:∀ c ∈ B,(c≤r↔c≤r')):cl r=cl r':=by
 unfold cl
 simp only[kd_inv hB,t_eq hB 807 (by decide+kernel) (by decide+kernel),t_eq hB 808 (by decide+kernel) (by decide+kernel),t_eq hB 803 (by decide+kernel) (by decide+kernel),t_eq hB 12441 (by decide+kernel) (by decide+kernel),t_eq hB 12442 (by decide+kernel) (by decide+kernel)]
def cls (r:Int):Int:=(chars_Class.f r).getD 0
def knd (r:Int):Int:=(kindC r).getD 0
theorem all_reps:∀ x ∈ (-1)::B,(kindC x=kd x∧kindC x=some (knd x)∧0≤knd x∧knd x≤7)∧(chars_Class.f x=cl x∧chars_Class.f x=some (cls x)∧((cls x != 0)==(knd x==3))=true)∧((0≤x∧ ¬ 1114112≤x)∨knd x=0):=by decide+kernel
theorem cls_rep (r:Int):cls r=cls (rep r):=by
 unfold cls
 rw[chars_Class_inv (rep_le r)]
theorem knd_rep (r:Int):knd r=knd (rep r):=by
 unfold knd
 rw[kindC_inv (rep_le r)]
theorem class_some (r:Int):chars_Class.f r=some (cls r):=by
 rw[cls_rep r,chars_Class_inv (rep_le r)]
 exact(all_reps _ (rep_mem r)).2.1.2.1
theorem class_ref (k:Nat) (hk:200≤k) (r:Int):toponymref03_Class.f k r=some (cls r):=by
 rw[class_k k hk r,cl_inv (rep_le r),← (all_reps _ (rep_mem r)).2.1.1,← chars_Class_inv (rep_le r),class_some r]
theorem kind_some (r:Int):chars_Kind.f r=some (knd r):=by
 rw[kind_eq r,knd_rep r,kindC_inv (rep_le r)]
 exact(all_reps _ (rep_mem r)).1.2.1
theorem kind_ref (k:Nat) (hk:200≤k) (r:Int):toponymref03_Kind.f k r=some (knd r):=by
 rw[kind_k k hk r,kd_inv (rep_le r),← (all_reps _ (rep_mem r)).1.1,← kindC_inv (rep_le r),← kind_eq r,kind_some r]
theorem knd_in (r:Int):0≤knd r∧knd r≤7:=by
 rw[knd_rep r]
 exact(all_reps _ (rep_mem r)).1.2.2
theorem marks (r:Int):((cls r != 0)==(knd r==3))=true:=by
 rw[knd_rep r,cls_rep r]
 exact(all_reps _ (rep_mem r)).2.1.2.2
theorem outside (r:Int) (h: ¬ (r≥0∧r≤1114111)):knd r=0:=by
 rw[knd_rep r]
 rcases(all_reps _ (rep_mem r)).2.2 with h2|h2
 ·have h3:=rep_le r 0 (by decide+kernel)
  have h4:=rep_le r 1114112 (by decide+kernel)
  omega
 ·exact h2
end Go.Proofs.Ytkbiiijmgbjnkaa.PuB
