/-
  The library's functions that the proof leans on, by the shelf's contracts at this program: laid by the kit's program, in plain words.
-/
import Derived.Shelf.Strings.Trim
import Derived.Shelf.Small.Utf8
import Derived.Shelf.Small.Wraps
import Derived.Shelf.Strings.BuilderK
import Derived.Shelf.Strconv.Itoa4
import Derived.Shelf.Strconv.ErrVarParseInt
import Derived.Shelf.Strings.Shaped
import Derived.Shelf.Strings.Runes
import Derived.Shelf.Strings.AsciiSet
import Derived.Shelf.Strings.Explode
import Derived.Shelf.Unicode.DecodeSlow
import Derived.Test.YtpdfifdlhpmofaaGreatDoorProg
namespace Go.Proofs
open Go.Shelf
theorem Ye{p:Prop}(h:p:=by repeat' first|kernel_rfl|(intro _;kernel_rfl)|constructor|decide):p:=h
def Tryz.lays169_ren:Ren:=⟨fun|169=>79|n=>n,fun|70=>154|9=>9|0=>0|72=>157|37=>155|127=>211|3=>3|5=>5|n=>n,fun|n=>n⟩
theorem Tryz.lays169 : Go.Proofs.Lays.n169 Tryz.prog Tryz.lays169_ren:=Ye
theorem Tryz.Builder_Extra_169 : Builder.Extra Tryz.prog Tryz.lays169_ren:=Ye
open Go.RowKit in
theorem Tryz.Builder_String_any (B b : Nat) (l : List UInt8) (w : World) (h : Lib.IsBuilder 157 5 B b (Lib.byteCells l) w) (hBw : B ≤ w.heap.size) :
 Calls Tryz.prog 79 #[.pointer (some ⟨b, 0, none⟩)] w fun e w' => e = .returned (.string ⟨l.toArray⟩) ∧ Below B w w' := Any.Builder_String_any Tryz.lays169 Tryz.Builder_Extra_169 B b l w h hBw
def Tryz.lays160_ren:Ren:=⟨fun|160=>147|232=>165|231=>164|227=>166|234=>168|233=>167|236=>170|235=>169|228=>178|271=>180|151=>179|197=>144|120=>191|152=>190|260=>159|137=>202|119=>203|224=>162|225=>161|217=>160|266=>176|n=>n,fun|9=>9|4=>4|3=>3|5=>5|117=>305|116=>304|0=>0|124=>308|21=>21|105=>282|46=>301|119=>317|139=>320|138=>319|n=>n,fun|3=>3|4=>4|n=>n⟩
theorem Tryz.lays160 : Go.Proofs.Lays.n160 Tryz.prog Tryz.lays160_ren:=Ye
def Tryz.lays104_ren:Ren:=⟨fun|104=>71|211=>95|207=>111|n=>n,fun|9=>9|4=>4|24=>152|3=>3|n=>n,fun|n=>n⟩
theorem Tryz.lays104 : Go.Proofs.Lays.n104 Tryz.prog Tryz.lays104_ren:=Ye
open Go.RowKit in
theorem Tryz.strings_CutSuffix (s p : ByteArray) (w : World) (hs : s.size ≤ 9223372036854775807) :
 Calls Tryz.prog 71 #[.string s, .string p] w fun e w' => e = .returned (.tuple #[.string ⟨(Lib.trimSuffix s.data.toList p.data.toList).toArray⟩, .bool (Lib.hasSuffix s.data.toList p.data.toList)]) ∧ w' = w := Any.strings_CutSuffix Tryz.lays104 s p w hs
def Tryz.laysM171_ren:Ren:=⟨fun|171=>196|243=>204|246=>173|283=>186|284=>187|285=>188|286=>189|129=>198|317=>197|318=>199|319=>200|320=>201|337=>205|338=>206|n=>n,fun|3=>3|9=>9|2=>2|4=>4|171=>334|0=>0|53=>327|37=>155|5=>5|173=>337|212=>345|51=>321|20=>20|213=>346|46=>301|232=>354|233=>355|n=>n,fun|17=>7|18=>8|19=>9|n=>n⟩
theorem Tryz.laysM171 : Go.Proofs.LaysM.n171 Tryz.prog Tryz.laysM171_ren:=Ye
open Go.RowKit Go.Sort Go.Lib in
theorem Tryz.strconv_Itoa (n : Int) (h0 : -9223372036854775808 ≤ n) (h1 : n ≤ 9223372036854775807) (w : World) (htab : Lib.TabIs Tryz.prog w "internal/strconv.uint64pow10" .u64 Lib.pow10Tab) :
 Calls Tryz.prog 196 #[.int .i64 n] w fun e w' => e = .returned (.string ⟨(Lib.itoa n).toArray⟩) ∧ ∃ k os, w' = grow (w.drewN k) os := Any.strconv_Itoa Tryz.laysM171 n h0 h1 w htab
def Tryz.laysM173_ren:Ren:=⟨fun|173=>149|246=>173|283=>186|284=>187|285=>188|286=>189|129=>198|317=>197|318=>199|319=>200|320=>201|337=>205|338=>206|n=>n,fun|2=>2|3=>3|9=>9|4=>4|171=>334|0=>0|53=>327|37=>155|5=>5|173=>337|212=>345|51=>321|20=>20|213=>346|46=>301|232=>354|233=>355|n=>n,fun|17=>7|18=>8|19=>9|n=>n⟩
theorem Tryz.laysM173 : Go.Proofs.LaysM.n173 Tryz.prog Tryz.laysM173_ren:=Ye
open Go.RowKit Go.Sort Go.Lib in
theorem Tryz.strconv_FormatInt_10 (n : Int) (h0 : -9223372036854775808 ≤ n) (h1 : n ≤ 9223372036854775807) (w : World) (htab : Lib.TabIs Tryz.prog w "internal/strconv.uint64pow10" .u64 Lib.pow10Tab) :
 Calls Tryz.prog 149 #[.int .i64 n, .int .i64 10] w fun e w' => e = .returned (.string ⟨(Lib.itoa n).toArray⟩) ∧ ∃ k os, w' = grow (w.drewN k) os := Any.strconv_FormatInt_10 Tryz.laysM173 n h0 h1 w htab
def Tryz.laysC174_ren:Ren:=⟨fun|174=>148|247=>171|245=>172|287=>181|279=>182|280=>183|281=>184|282=>185|321=>192|322=>193|316=>194|171=>196|205=>195|243=>204|246=>173|283=>186|284=>187|285=>188|286=>189|129=>198|317=>197|318=>199|319=>200|320=>201|337=>205|338=>206|n=>n,fun|9=>9|3=>3|2=>2|75=>85|85=>286|4=>4|167=>326|5=>5|53=>327|175=>328|46=>301|168=>330|37=>155|0=>0|210=>342|21=>21|127=>211|145=>352|143=>350|171=>334|173=>337|212=>345|51=>321|20=>20|213=>346|232=>354|233=>355|80=>163|n=>n,fun|15=>5|16=>6|17=>7|18=>8|19=>9|n=>n⟩
theorem Tryz.laysC174 : Go.Proofs.LaysC.n174 Tryz.prog Tryz.laysC174_ren:=Ye
open Go.RowKit in
theorem Tryz.strconv_ParseInt_10_at64_ok (s : ByteArray) (hmax : s.size ≤ 9223372036854775806) (v : Int) (h : Lib.parseIntB 64 s.data.toList = .ok v) (w : World) :
 Calls Tryz.prog 148 #[.string s, .int .i64 10, .int .i64 64] w fun e w' => e = .returned (.tuple #[.int .i64 v, .nilIface]) ∧ (w' = w ∨ ∃ t, w' = Lib.bytesWorld w 5 t) := Any.strconv_ParseInt_10_at64_ok Tryz.laysC174 s hmax v h w
open Go.RowKit in
theorem Tryz.strconv_ParseInt_10_at64_syntax (s : ByteArray) (hlim : s.size ≤ 281474976710656) (h : Lib.parseIntB 64 s.data.toList = Lib.parseIntB 64 []) (ev : Value) (w : World) (hv : w.cell? ⟨5, 0, none⟩ = some ev) (hev : ev = .nilIface ∨ ∃ te pe, ev = .iface te pe) :
 Calls Tryz.prog 148 #[.string s, .int .i64 10, .int .i64 64] w fun e w' => ∃ N, e = .returned (.tuple #[.int .i64 (0), .iface 330 (.pointer (some ⟨N, 0, none⟩))]) ∧ w.heap.size ≤ N ∧ w'.heap[N]? = some (.cells #[.string ⟨#[80, 97, 114, 115, 101, 73, 110, 116]⟩, .string s, ev] 342 (0, 0)) ∧ Below w.heap.size w w' := Any.strconv_ParseInt_10_at64_syntax Tryz.laysC174 s hlim h ev w hv hev
open Go.RowKit in
theorem Tryz.strconv_ParseInt_10_at64_range (s : ByteArray) (hlim : s.size ≤ 281474976710656) (h : Lib.parseIntB 64 s.data.toList = .range) (ev : Value) (w : World) (hv : w.cell? ⟨6, 0, none⟩ = some ev) (hev : ev = .nilIface ∨ ∃ te pe, ev = .iface te pe) :
 Calls Tryz.prog 148 #[.string s, .int .i64 10, .int .i64 64] w fun e w' => ∃ N, e = .returned (.tuple #[.int .i64 (Lib.intSat 64 s.data.toList), .iface 330 (.pointer (some ⟨N, 0, none⟩))]) ∧ w.heap.size ≤ N ∧ w'.heap[N]? = some (.cells #[.string ⟨#[80, 97, 114, 115, 101, 73, 110, 116]⟩, .string s, ev] 342 (0, 0)) ∧ Below w.heap.size w w' := Any.strconv_ParseInt_10_at64_range Tryz.laysC174 s hlim h ev w hv hev
def Tryz.lays221_ren:Ren:=⟨fun|221=>94|268=>108|138=>109|143=>110|195=>143|197=>144|218=>145|219=>146|260=>159|217=>160|225=>161|224=>162|267=>163|266=>176|314=>177|n=>n,fun|9=>9|3=>3|31=>90|4=>4|0=>0|105=>282|21=>21|5=>5|46=>301|119=>317|139=>320|138=>319|146=>322|51=>321|n=>n,fun|1=>2|3=>3|4=>4|n=>n⟩
theorem Tryz.lays221 : Go.Proofs.Lays.n221 Tryz.prog Tryz.lays221_ren:=Ye
open Go.RowKit Go.Lib in
theorem Tryz.strings_genSplit (s sep : ByteArray) (sv : Nat) (n : Int) (N : Nat) (m : Int) (w : World) (hs : s.size < 4294967281) (hm : w.cell? ⟨2, 0, none⟩ = some (.int .i64 m)) (h1 : 1 ≤ sep.size) (hsv : sv ≤ sep.size) (hn0 : n ≠ 0) (hn63 : n ≤ 9223372036854775807) (hN : (N : Int) = min (if n < 0 then (Lib.countB s sep : Int) + 1 else n) ((s.size : Int) + 1)) :
 Calls Tryz.prog 94 #[.string s, .string sep, .int .i64 sv, .int .i64 n] w fun e w' =>
   e = .returned (.slice (some ⟨w.heap.size, 0, none⟩) (Lib.splitB sep sv (N - 1) s).length N) ∧ w' = w.alloc (.cells (Lib.cellsOf (Lib.splitB sep sv (N - 1) s) N) 9) := Any.strings_genSplit Tryz.lays221 (by kernel_rfl) s sep sv n N m w hs hm h1 hsv hn0 hn63 hN
def Tryz.lays146_ren:Ren:=⟨fun|146=>72|221=>94|268=>108|138=>109|143=>110|195=>143|197=>144|218=>145|219=>146|260=>159|217=>160|225=>161|224=>162|267=>163|266=>176|314=>177|n=>n,fun|9=>9|31=>90|3=>3|4=>4|0=>0|105=>282|21=>21|5=>5|46=>301|119=>317|139=>320|138=>319|146=>322|51=>321|n=>n,fun|1=>2|3=>3|4=>4|n=>n⟩
theorem Tryz.lays146 : Go.Proofs.Lays.n146 Tryz.prog Tryz.lays146_ren:=Ye
open Go.RowKit Go.Lib in
theorem Tryz.strings_Split (s sep : ByteArray) (m : Int) (w : World) (hs : s.size < 4294967281) (hm : w.cell? ⟨2, 0, none⟩ = some (.int .i64 m)) (h1 : 1 ≤ sep.size) :
 Calls Tryz.prog 72 #[.string s, .string sep] w fun e w' =>
   e = .returned (.slice (some ⟨w.heap.size, 0, none⟩) (Lib.countB s sep + 1) (Lib.countB s sep + 1)) ∧ w' = w.alloc (.cells ((Lib.splitB sep 0 (Lib.countB s sep) s).map Value.string).toArray 9) := Any.strings_Split Tryz.lays146 (by kernel_rfl) s sep m w hs hm h1
end Go.Proofs
