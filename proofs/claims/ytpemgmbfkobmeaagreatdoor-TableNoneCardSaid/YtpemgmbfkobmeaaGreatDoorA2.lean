/- Facts on the types and functions of this translation, by program (types.py). -/
import Derived.Test.YtpemgmbfkobmeaaGreatDoorA1
import Derived.Test.YtpemgmbfkobmeaaGreatDoorProg
import Derived.KernelRfl
import Derived.Shelf.Strings.Builder1
import Derived.Shelf.Strings.Builder2
import Derived.Shelf.Small.Utf8
import Derived.Shelf.Small.Strs
import Derived.Shelf.Strings.BuilderF
import Derived.Shelf.Strings.Search1
import Derived.Shelf.Sort.Plain
import Derived.Shelf.Strings.Prefix
import Derived.Shelf.Strings.Runes
import Derived.Shelf.Strings.AsciiSet
import Derived.Shelf.Bits.Mul64
import Derived.Shelf.Strings.Repeat
import Derived.Shelf.Unicode.DecodeSlow
import Derived.Shelf.Slices.Turned
import Derived.Shelf.Slices.In.SortNone
import Derived.Test.YtpemgmbfkobmeaaGreatDoorRowW
import Derived.WalkKit
import Derived.ProofKit
import Derived.OpenShut
import Derived.ShutString
import Derived.ChangeOld
import Derived.Below
import Derived.Carry
import Derived.SizedLaws
import Derived.Lib.SmallJoins
import Derived.SevenTiedAt
import Derived.Deep.Slices
namespace Go.Proofs.Sol
open Go Go.Proofs
set_option maxRecDepth 100000
instance ti1 : TI Tryz.prog 1 1 8 := ⟨by kernel_rfl⟩
instance tz1 : TZ Tryz.prog 1 [.nilFunc] := ⟨by kernel_rfl⟩
instance zv1 : ZV Tryz.prog 1 (.nilFunc) := ⟨by kernel_rfl⟩
instance sc1 : SC Tryz.prog 1 := ⟨by kernel_rfl⟩
instance ti2 : TI Tryz.prog 2 1 8 := ⟨by kernel_rfl⟩
instance tz2 : TZ Tryz.prog 2 [.int .i64 0] := ⟨by kernel_rfl⟩
instance zv2 : ZV Tryz.prog 2 (.int .i64 0) := ⟨by kernel_rfl⟩
instance sc2 : SC Tryz.prog 2 := ⟨by kernel_rfl⟩
instance ti3 : TI Tryz.prog 3 1 8 := ⟨by kernel_rfl⟩
instance tz3 : TZ Tryz.prog 3 [.int .i64 0] := ⟨by kernel_rfl⟩
instance zv3 : ZV Tryz.prog 3 (.int .i64 0) := ⟨by kernel_rfl⟩
instance sc3 : SC Tryz.prog 3 := ⟨by kernel_rfl⟩
instance ti4 : TI Tryz.prog 4 1 1 := ⟨by kernel_rfl⟩
instance tz4 : TZ Tryz.prog 4 [.bool false] := ⟨by kernel_rfl⟩
instance zv4 : ZV Tryz.prog 4 (.bool false) := ⟨by kernel_rfl⟩
instance sc4 : SC Tryz.prog 4 := ⟨by kernel_rfl⟩
instance ti5 : TI Tryz.prog 5 1 1 := ⟨by kernel_rfl⟩
instance tz5 : TZ Tryz.prog 5 [.int .u8 0] := ⟨by kernel_rfl⟩
instance zv5 : ZV Tryz.prog 5 (.int .u8 0) := ⟨by kernel_rfl⟩
instance sc5 : SC Tryz.prog 5 := ⟨by kernel_rfl⟩
instance ti6 : TI Tryz.prog 6 1 1 := ⟨by kernel_rfl⟩
instance tz6 : TZ Tryz.prog 6 [.int .u8 0] := ⟨by kernel_rfl⟩
instance zv6 : ZV Tryz.prog 6 (.int .u8 0) := ⟨by kernel_rfl⟩
instance sc6 : SC Tryz.prog 6 := ⟨by kernel_rfl⟩
instance ti7 : TI Tryz.prog 7 4 24 := ⟨by kernel_rfl⟩
instance tz7 : TZ Tryz.prog 7 [.int .i64 0, .int .i64 0, .bool false, .int .u8 0] := ⟨by kernel_rfl⟩
instance ag7 : AG Tryz.prog 7 := ⟨by kernel_rfl⟩
instance ti8 : TI Tryz.prog 8 4 24 := ⟨by kernel_rfl⟩
instance tz8 : TZ Tryz.prog 8 [.int .i64 0, .int .i64 0, .bool false, .int .u8 0] := ⟨by kernel_rfl⟩
instance ag8 : AG Tryz.prog 8 := ⟨by kernel_rfl⟩
instance ti9 : TI Tryz.prog 9 1 16 := ⟨by kernel_rfl⟩
instance tz9 : TZ Tryz.prog 9 [.string ⟨⟨[]⟩⟩] := ⟨by kernel_rfl⟩
instance zv9 : ZV Tryz.prog 9 (.string ⟨⟨[]⟩⟩) := ⟨by kernel_rfl⟩
instance sc9 : SC Tryz.prog 9 := ⟨by kernel_rfl⟩
instance ti10 : TI Tryz.prog 10 1 16 := ⟨by kernel_rfl⟩
instance tz10 : TZ Tryz.prog 10 [.string ⟨⟨[]⟩⟩] := ⟨by kernel_rfl⟩
instance zv10 : ZV Tryz.prog 10 (.string ⟨⟨[]⟩⟩) := ⟨by kernel_rfl⟩
instance sc10 : SC Tryz.prog 10 := ⟨by kernel_rfl⟩
instance ti11 : TI Tryz.prog 11 1 16 := ⟨by kernel_rfl⟩
instance tz11 : TZ Tryz.prog 11 [.string ⟨⟨[]⟩⟩] := ⟨by kernel_rfl⟩
instance zv11 : ZV Tryz.prog 11 (.string ⟨⟨[]⟩⟩) := ⟨by kernel_rfl⟩
instance sc11 : SC Tryz.prog 11 := ⟨by kernel_rfl⟩
instance ti17 : TI Tryz.prog 17 1 8 := ⟨by kernel_rfl⟩
instance tz17 : TZ Tryz.prog 17 [.pointer none] := ⟨by kernel_rfl⟩
instance zv17 : ZV Tryz.prog 17 (.pointer none) := ⟨by kernel_rfl⟩
instance sc17 : SC Tryz.prog 17 := ⟨by kernel_rfl⟩
instance ti20 : TI Tryz.prog 20 1 16 := ⟨by kernel_rfl⟩
instance tz20 : TZ Tryz.prog 20 [.nilIface] := ⟨by kernel_rfl⟩
instance zv20 : ZV Tryz.prog 20 (.nilIface) := ⟨by kernel_rfl⟩
instance sc20 : SC Tryz.prog 20 := ⟨by kernel_rfl⟩
instance ti21 : TI Tryz.prog 21 1 4 := ⟨by kernel_rfl⟩
instance tz21 : TZ Tryz.prog 21 [.int .i32 0] := ⟨by kernel_rfl⟩
instance zv21 : ZV Tryz.prog 21 (.int .i32 0) := ⟨by kernel_rfl⟩
instance sc21 : SC Tryz.prog 21 := ⟨by kernel_rfl⟩
instance ti22 : TI Tryz.prog 22 1 24 := ⟨by kernel_rfl⟩
instance tz22 : TZ Tryz.prog 22 [.slice none 0 0] := ⟨by kernel_rfl⟩
instance zv22 : ZV Tryz.prog 22 (.slice none 0 0) := ⟨by kernel_rfl⟩
instance sc22 : SC Tryz.prog 22 := ⟨by kernel_rfl⟩
instance ti25 : TI Tryz.prog 25 1 8 := ⟨by kernel_rfl⟩
instance tz25 : TZ Tryz.prog 25 [.pointer none] := ⟨by kernel_rfl⟩
instance zv25 : ZV Tryz.prog 25 (.pointer none) := ⟨by kernel_rfl⟩
instance sc25 : SC Tryz.prog 25 := ⟨by kernel_rfl⟩
instance ti26 : TI Tryz.prog 26 1 8 := ⟨by kernel_rfl⟩
instance tz26 : TZ Tryz.prog 26 [.pointer none] := ⟨by kernel_rfl⟩
instance zv26 : ZV Tryz.prog 26 (.pointer none) := ⟨by kernel_rfl⟩
instance sc26 : SC Tryz.prog 26 := ⟨by kernel_rfl⟩
instance ti29 : TI Tryz.prog 29 1 8 := ⟨by kernel_rfl⟩
instance tz29 : TZ Tryz.prog 29 [.pointer none] := ⟨by kernel_rfl⟩
instance zv29 : ZV Tryz.prog 29 (.pointer none) := ⟨by kernel_rfl⟩
instance sc29 : SC Tryz.prog 29 := ⟨by kernel_rfl⟩
instance ti31 : TI Tryz.prog 31 1 8 := ⟨by kernel_rfl⟩
instance tz31 : TZ Tryz.prog 31 [.int .i64 0] := ⟨by kernel_rfl⟩
instance zv31 : ZV Tryz.prog 31 (.int .i64 0) := ⟨by kernel_rfl⟩
instance sc31 : SC Tryz.prog 31 := ⟨by kernel_rfl⟩
instance ti34 : TI Tryz.prog 34 3 32 := ⟨by kernel_rfl⟩
instance tz34 : TZ Tryz.prog 34 [.int .i64 0, .int .i64 0, .string ⟨⟨[]⟩⟩] := ⟨by kernel_rfl⟩
instance ag34 : AG Tryz.prog 34 := ⟨by kernel_rfl⟩
instance ti35 : TI Tryz.prog 35 3 32 := ⟨by kernel_rfl⟩
instance tz35 : TZ Tryz.prog 35 [.int .i64 0, .int .i64 0, .string ⟨⟨[]⟩⟩] := ⟨by kernel_rfl⟩
instance ag35 : AG Tryz.prog 35 := ⟨by kernel_rfl⟩
instance ti38 : TI Tryz.prog 38 1 8 := ⟨by kernel_rfl⟩
instance tz38 : TZ Tryz.prog 38 [.int .u64 0] := ⟨by kernel_rfl⟩
instance zv38 : ZV Tryz.prog 38 (.int .u64 0) := ⟨by kernel_rfl⟩
instance sc38 : SC Tryz.prog 38 := ⟨by kernel_rfl⟩
instance ti41 : TI Tryz.prog 41 1 24 := ⟨by kernel_rfl⟩
instance tz41 : TZ Tryz.prog 41 [.slice none 0 0] := ⟨by kernel_rfl⟩
instance zv41 : ZV Tryz.prog 41 (.slice none 0 0) := ⟨by kernel_rfl⟩
instance sc41 : SC Tryz.prog 41 := ⟨by kernel_rfl⟩
instance ti49 : TI Tryz.prog 49 3 24 := ⟨by kernel_rfl⟩
instance tz49 : TZ Tryz.prog 49 [.int .i64 0, .int .i64 0, .int .i64 0] := ⟨by kernel_rfl⟩
instance ag49 : AG Tryz.prog 49 := ⟨by kernel_rfl⟩
instance ti50 : TI Tryz.prog 50 3 24 := ⟨by kernel_rfl⟩
instance tz50 : TZ Tryz.prog 50 [.int .i64 0, .int .i64 0, .int .i64 0] := ⟨by kernel_rfl⟩
instance ag50 : AG Tryz.prog 50 := ⟨by kernel_rfl⟩
instance ti62 : TI Tryz.prog 62 7 56 := ⟨by kernel_rfl⟩
instance tz62 : TZ Tryz.prog 62 [.int .i64 0, .int .i64 0, .int .i64 0, .int .i64 0, .int .i64 0, .int .i64 0, .int .i64 0] := ⟨by kernel_rfl⟩
instance ag62 : AG Tryz.prog 62 := ⟨by kernel_rfl⟩
instance ti63 : TI Tryz.prog 63 7 56 := ⟨by kernel_rfl⟩
instance tz63 : TZ Tryz.prog 63 [.int .i64 0, .int .i64 0, .int .i64 0, .int .i64 0, .int .i64 0, .int .i64 0, .int .i64 0] := ⟨by kernel_rfl⟩
instance ag63 : AG Tryz.prog 63 := ⟨by kernel_rfl⟩
instance ti70 : TI Tryz.prog 70 1 24 := ⟨by kernel_rfl⟩
instance tz70 : TZ Tryz.prog 70 [.slice none 0 0] := ⟨by kernel_rfl⟩
instance zv70 : ZV Tryz.prog 70 (.slice none 0 0) := ⟨by kernel_rfl⟩
instance sc70 : SC Tryz.prog 70 := ⟨by kernel_rfl⟩
instance ti71 : TI Tryz.prog 71 1 8 := ⟨by kernel_rfl⟩
instance tz71 : TZ Tryz.prog 71 [.pointer none] := ⟨by kernel_rfl⟩
instance zv71 : ZV Tryz.prog 71 (.pointer none) := ⟨by kernel_rfl⟩
instance sc71 : SC Tryz.prog 71 := ⟨by kernel_rfl⟩
instance ti73 : TI Tryz.prog 73 1 8 := ⟨by kernel_rfl⟩
instance tz73 : TZ Tryz.prog 73 [.pointer none] := ⟨by kernel_rfl⟩
instance zv73 : ZV Tryz.prog 73 (.pointer none) := ⟨by kernel_rfl⟩
instance sc73 : SC Tryz.prog 73 := ⟨by kernel_rfl⟩
instance ti75 : TI Tryz.prog 75 1 8 := ⟨by kernel_rfl⟩
instance tz75 : TZ Tryz.prog 75 [.nilFunc] := ⟨by kernel_rfl⟩
instance zv75 : ZV Tryz.prog 75 (.nilFunc) := ⟨by kernel_rfl⟩
instance sc75 : SC Tryz.prog 75 := ⟨by kernel_rfl⟩
instance ti83 : TI Tryz.prog 83 1 24 := ⟨by kernel_rfl⟩
instance tz83 : TZ Tryz.prog 83 [.slice none 0 0] := ⟨by kernel_rfl⟩
instance zv83 : ZV Tryz.prog 83 (.slice none 0 0) := ⟨by kernel_rfl⟩
instance sc83 : SC Tryz.prog 83 := ⟨by kernel_rfl⟩
instance ti84 : TI Tryz.prog 84 1 24 := ⟨by kernel_rfl⟩
instance tz84 : TZ Tryz.prog 84 [.slice none 0 0] := ⟨by kernel_rfl⟩
instance ag84 : AG Tryz.prog 84 := ⟨by kernel_rfl⟩
instance ti85 : TI Tryz.prog 85 1 24 := ⟨by kernel_rfl⟩
instance tz85 : TZ Tryz.prog 85 [.slice none 0 0] := ⟨by kernel_rfl⟩
instance ag85 : AG Tryz.prog 85 := ⟨by kernel_rfl⟩
instance ti88 : TI Tryz.prog 88 2 16 := ⟨by kernel_rfl⟩
instance tz88 : TZ Tryz.prog 88 [.int .i64 0, .int .i64 0] := ⟨by kernel_rfl⟩
instance ag88 : AG Tryz.prog 88 := ⟨by kernel_rfl⟩
instance ti89 : TI Tryz.prog 89 2 16 := ⟨by kernel_rfl⟩
instance tz89 : TZ Tryz.prog 89 [.int .i64 0, .int .i64 0] := ⟨by kernel_rfl⟩
instance ag89 : AG Tryz.prog 89 := ⟨by kernel_rfl⟩
instance ti90 : TI Tryz.prog 90 3 24 := ⟨by kernel_rfl⟩
instance tz90 : TZ Tryz.prog 90 [.int .i64 0, .int .i64 0, .int .i64 0] := ⟨by kernel_rfl⟩
instance ag90 : AG Tryz.prog 90 := ⟨by kernel_rfl⟩
instance ti91 : TI Tryz.prog 91 3 24 := ⟨by kernel_rfl⟩
instance tz91 : TZ Tryz.prog 91 [.int .i64 0, .int .i64 0, .int .i64 0] := ⟨by kernel_rfl⟩
instance ag91 : AG Tryz.prog 91 := ⟨by kernel_rfl⟩
instance ti92 : TI Tryz.prog 92 1 8 := ⟨by kernel_rfl⟩
instance tz92 : TZ Tryz.prog 92 [.pointer none] := ⟨by kernel_rfl⟩
instance zv92 : ZV Tryz.prog 92 (.pointer none) := ⟨by kernel_rfl⟩
instance sc92 : SC Tryz.prog 92 := ⟨by kernel_rfl⟩
instance ti95 : TI Tryz.prog 95 1 24 := ⟨by kernel_rfl⟩
instance tz95 : TZ Tryz.prog 95 [.slice none 0 0] := ⟨by kernel_rfl⟩
instance zv95 : ZV Tryz.prog 95 (.slice none 0 0) := ⟨by kernel_rfl⟩
instance sc95 : SC Tryz.prog 95 := ⟨by kernel_rfl⟩
instance ti109 : TI Tryz.prog 109 1 24 := ⟨by kernel_rfl⟩
instance tz109 : TZ Tryz.prog 109 [.slice none 0 0] := ⟨by kernel_rfl⟩
instance zv109 : ZV Tryz.prog 109 (.slice none 0 0) := ⟨by kernel_rfl⟩
instance sc109 : SC Tryz.prog 109 := ⟨by kernel_rfl⟩
instance ti114 : TI Tryz.prog 114 2 16 := ⟨by kernel_rfl⟩
instance tz114 : TZ Tryz.prog 114 [.int .i64 0, .bool false] := ⟨by kernel_rfl⟩
instance ag114 : AG Tryz.prog 114 := ⟨by kernel_rfl⟩
instance ti115 : TI Tryz.prog 115 2 16 := ⟨by kernel_rfl⟩
instance tz115 : TZ Tryz.prog 115 [.int .i64 0, .bool false] := ⟨by kernel_rfl⟩
instance ag115 : AG Tryz.prog 115 := ⟨by kernel_rfl⟩
instance ti117 : TI Tryz.prog 117 1 24 := ⟨by kernel_rfl⟩
instance tz117 : TZ Tryz.prog 117 [.slice none 0 0] := ⟨by kernel_rfl⟩
instance zv117 : ZV Tryz.prog 117 (.slice none 0 0) := ⟨by kernel_rfl⟩
instance sc117 : SC Tryz.prog 117 := ⟨by kernel_rfl⟩
instance ti118 : TI Tryz.prog 118 4 32 := ⟨by kernel_rfl⟩
instance tz118 : TZ Tryz.prog 118 [.int .i64 0, .int .i64 0, .int .i64 0, .int .i64 0] := ⟨by kernel_rfl⟩
instance ag118 : AG Tryz.prog 118 := ⟨by kernel_rfl⟩
instance ti119 : TI Tryz.prog 119 4 32 := ⟨by kernel_rfl⟩
instance tz119 : TZ Tryz.prog 119 [.int .i64 0, .int .i64 0, .int .i64 0, .int .i64 0] := ⟨by kernel_rfl⟩
instance ag119 : AG Tryz.prog 119 := ⟨by kernel_rfl⟩
instance ti123 : TI Tryz.prog 123 3 32 := ⟨by kernel_rfl⟩
instance tz123 : TZ Tryz.prog 123 [.int .i64 0, .int .i64 0, .string ⟨⟨[]⟩⟩] := ⟨by kernel_rfl⟩
instance ag123 : AG Tryz.prog 123 := ⟨by kernel_rfl⟩
instance ti124 : TI Tryz.prog 124 3 32 := ⟨by kernel_rfl⟩
instance tz124 : TZ Tryz.prog 124 [.int .i64 0, .int .i64 0, .string ⟨⟨[]⟩⟩] := ⟨by kernel_rfl⟩
instance ag124 : AG Tryz.prog 124 := ⟨by kernel_rfl⟩
instance ti125 : TI Tryz.prog 125 7 72 := ⟨by kernel_rfl⟩
instance tz125 : TZ Tryz.prog 125 [.int .i64 0, .int .i64 0, .int .i64 0, .string ⟨⟨[]⟩⟩, .int .i64 0, .int .i64 0, .string ⟨⟨[]⟩⟩] := ⟨by kernel_rfl⟩
instance ag125 : AG Tryz.prog 125 := ⟨by kernel_rfl⟩
instance ti126 : TI Tryz.prog 126 7 72 := ⟨by kernel_rfl⟩
instance tz126 : TZ Tryz.prog 126 [.int .i64 0, .int .i64 0, .int .i64 0, .string ⟨⟨[]⟩⟩, .int .i64 0, .int .i64 0, .string ⟨⟨[]⟩⟩] := ⟨by kernel_rfl⟩
instance ag126 : AG Tryz.prog 126 := ⟨by kernel_rfl⟩
instance ti127 : TI Tryz.prog 127 1 8 := ⟨by kernel_rfl⟩
instance tz127 : TZ Tryz.prog 127 [.pointer none] := ⟨by kernel_rfl⟩
instance zv127 : ZV Tryz.prog 127 (.pointer none) := ⟨by kernel_rfl⟩
instance sc127 : SC Tryz.prog 127 := ⟨by kernel_rfl⟩
instance ti136 : TI Tryz.prog 136 1 24 := ⟨by kernel_rfl⟩
instance tz136 : TZ Tryz.prog 136 [.slice none 0 0] := ⟨by kernel_rfl⟩
instance zv136 : ZV Tryz.prog 136 (.slice none 0 0) := ⟨by kernel_rfl⟩
instance sc136 : SC Tryz.prog 136 := ⟨by kernel_rfl⟩
instance ti140 : TI Tryz.prog 140 1 24 := ⟨by kernel_rfl⟩
instance tz140 : TZ Tryz.prog 140 [.slice none 0 0] := ⟨by kernel_rfl⟩
instance zv140 : ZV Tryz.prog 140 (.slice none 0 0) := ⟨by kernel_rfl⟩
instance sc140 : SC Tryz.prog 140 := ⟨by kernel_rfl⟩
instance ti143 : TI Tryz.prog 143 9 88 := ⟨by kernel_rfl⟩
instance tz143 : TZ Tryz.prog 143 [.int .i64 0, .int .i64 0, .int .i64 0, .int .i64 0, .int .i64 0, .string ⟨⟨[]⟩⟩, .int .i64 0, .int .i64 0, .string ⟨⟨[]⟩⟩] := ⟨by kernel_rfl⟩
instance ag143 : AG Tryz.prog 143 := ⟨by kernel_rfl⟩
instance ti144 : TI Tryz.prog 144 9 88 := ⟨by kernel_rfl⟩
instance tz144 : TZ Tryz.prog 144 [.int .i64 0, .int .i64 0, .int .i64 0, .int .i64 0, .int .i64 0, .string ⟨⟨[]⟩⟩, .int .i64 0, .int .i64 0, .string ⟨⟨[]⟩⟩] := ⟨by kernel_rfl⟩
instance ag144 : AG Tryz.prog 144 := ⟨by kernel_rfl⟩
instance ti146 : TI Tryz.prog 146 1 24 := ⟨by kernel_rfl⟩
instance tz146 : TZ Tryz.prog 146 [.slice none 0 0] := ⟨by kernel_rfl⟩
instance zv146 : ZV Tryz.prog 146 (.slice none 0 0) := ⟨by kernel_rfl⟩
instance sc146 : SC Tryz.prog 146 := ⟨by kernel_rfl⟩
instance ti147 : TI Tryz.prog 147 1 24 := ⟨by kernel_rfl⟩
instance tz147 : TZ Tryz.prog 147 [.slice none 0 0] := ⟨by kernel_rfl⟩
instance zv147 : ZV Tryz.prog 147 (.slice none 0 0) := ⟨by kernel_rfl⟩
instance sc147 : SC Tryz.prog 147 := ⟨by kernel_rfl⟩
instance ti148 : TI Tryz.prog 148 7 88 := ⟨by kernel_rfl⟩
instance tz148 : TZ Tryz.prog 148 [.slice none 0 0, .slice none 0 0, .bool false, .int .i64 0, .int .i64 0, .int .i64 0, .bool false] := ⟨by kernel_rfl⟩
instance ag148 : AG Tryz.prog 148 := ⟨by kernel_rfl⟩
instance ti149 : TI Tryz.prog 149 7 88 := ⟨by kernel_rfl⟩
instance tz149 : TZ Tryz.prog 149 [.slice none 0 0, .slice none 0 0, .bool false, .int .i64 0, .int .i64 0, .int .i64 0, .bool false] := ⟨by kernel_rfl⟩
instance ag149 : AG Tryz.prog 149 := ⟨by kernel_rfl⟩
instance ti150 : TI Tryz.prog 150 1 8 := ⟨by kernel_rfl⟩
instance tz150 : TZ Tryz.prog 150 [.pointer none] := ⟨by kernel_rfl⟩
instance zv150 : ZV Tryz.prog 150 (.pointer none) := ⟨by kernel_rfl⟩
instance sc150 : SC Tryz.prog 150 := ⟨by kernel_rfl⟩
instance ti151 : TI Tryz.prog 151 1 8 := ⟨by kernel_rfl⟩
instance tz151 : TZ Tryz.prog 151 [.pointer none] := ⟨by kernel_rfl⟩
instance zv151 : ZV Tryz.prog 151 (.pointer none) := ⟨by kernel_rfl⟩
instance sc151 : SC Tryz.prog 151 := ⟨by kernel_rfl⟩
instance ti152 : TI Tryz.prog 152 12 88 := ⟨by kernel_rfl⟩
instance tz152 : TZ Tryz.prog 152 [.pointer none, .pointer none, .pointer none, .int .i64 0, .int .i64 0, .int .i64 0, .int .i64 0, .int .i64 0, .int .i64 0, .bool false, .bool false, .pointer none] := ⟨by kernel_rfl⟩
instance ag152 : AG Tryz.prog 152 := ⟨by kernel_rfl⟩
instance ti153 : TI Tryz.prog 153 12 88 := ⟨by kernel_rfl⟩
instance tz153 : TZ Tryz.prog 153 [.pointer none, .pointer none, .pointer none, .int .i64 0, .int .i64 0, .int .i64 0, .int .i64 0, .int .i64 0, .int .i64 0, .bool false, .bool false, .pointer none] := ⟨by kernel_rfl⟩
instance ag153 : AG Tryz.prog 153 := ⟨by kernel_rfl⟩
instance ti155 : TI Tryz.prog 155 1 16 := ⟨by kernel_rfl⟩
instance tz155 : TZ Tryz.prog 155 [.nilIface] := ⟨by kernel_rfl⟩
instance zv155 : ZV Tryz.prog 155 (.nilIface) := ⟨by kernel_rfl⟩
instance sc155 : SC Tryz.prog 155 := ⟨by kernel_rfl⟩
instance ti156 : TI Tryz.prog 156 1 16 := ⟨by kernel_rfl⟩
instance tz156 : TZ Tryz.prog 156 [.nilIface] := ⟨by kernel_rfl⟩
instance zv156 : ZV Tryz.prog 156 (.nilIface) := ⟨by kernel_rfl⟩
instance sc156 : SC Tryz.prog 156 := ⟨by kernel_rfl⟩
instance ti158 : TI Tryz.prog 158 3 24 := ⟨by kernel_rfl⟩
instance tz158 : TZ Tryz.prog 158 [.int .i64 0, .int .i64 0, .int .i64 0] := ⟨by kernel_rfl⟩
instance ag158 : AG Tryz.prog 158 := ⟨by kernel_rfl⟩
instance ti159 : TI Tryz.prog 159 3 24 := ⟨by kernel_rfl⟩
instance tz159 : TZ Tryz.prog 159 [.int .i64 0, .int .i64 0, .int .i64 0] := ⟨by kernel_rfl⟩
instance ag159 : AG Tryz.prog 159 := ⟨by kernel_rfl⟩
instance ti161 : TI Tryz.prog 161 1 8 := ⟨by kernel_rfl⟩
instance tz161 : TZ Tryz.prog 161 [.nilFunc] := ⟨by kernel_rfl⟩
instance zv161 : ZV Tryz.prog 161 (.nilFunc) := ⟨by kernel_rfl⟩
instance sc161 : SC Tryz.prog 161 := ⟨by kernel_rfl⟩
instance ti163 : TI Tryz.prog 163 2 24 := ⟨by kernel_rfl⟩
instance tz163 : TZ Tryz.prog 163 [.int .i64 0, .string ⟨⟨[]⟩⟩] := ⟨by kernel_rfl⟩
instance ag163 : AG Tryz.prog 163 := ⟨by kernel_rfl⟩
instance ti164 : TI Tryz.prog 164 2 24 := ⟨by kernel_rfl⟩
instance tz164 : TZ Tryz.prog 164 [.int .i64 0, .string ⟨⟨[]⟩⟩] := ⟨by kernel_rfl⟩
instance ag164 : AG Tryz.prog 164 := ⟨by kernel_rfl⟩
instance ti169 : TI Tryz.prog 169 1 8 := ⟨by kernel_rfl⟩
instance tz169 : TZ Tryz.prog 169 [.map none] := ⟨by kernel_rfl⟩
instance zv169 : ZV Tryz.prog 169 (.map none) := ⟨by kernel_rfl⟩
instance sc169 : SC Tryz.prog 169 := ⟨by kernel_rfl⟩
instance ti170 : TI Tryz.prog 170 7 104 := ⟨by kernel_rfl⟩
instance tz170 : TZ Tryz.prog 170 [.slice none 0 0, .map none, .slice none 0 0, .int .i64 0, .slice none 0 0, .int .i64 0, .bool false] := ⟨by kernel_rfl⟩
instance ag170 : AG Tryz.prog 170 := ⟨by kernel_rfl⟩
instance ti171 : TI Tryz.prog 171 7 104 := ⟨by kernel_rfl⟩
instance tz171 : TZ Tryz.prog 171 [.slice none 0 0, .map none, .slice none 0 0, .int .i64 0, .slice none 0 0, .int .i64 0, .bool false] := ⟨by kernel_rfl⟩
instance ag171 : AG Tryz.prog 171 := ⟨by kernel_rfl⟩
instance ti172 : TI Tryz.prog 172 1 8 := ⟨by kernel_rfl⟩
instance tz172 : TZ Tryz.prog 172 [.nilFunc] := ⟨by kernel_rfl⟩
instance zv172 : ZV Tryz.prog 172 (.nilFunc) := ⟨by kernel_rfl⟩
instance sc172 : SC Tryz.prog 172 := ⟨by kernel_rfl⟩
instance ti173 : TI Tryz.prog 173 1 24 := ⟨by kernel_rfl⟩
instance tz173 : TZ Tryz.prog 173 [.slice none 0 0] := ⟨by kernel_rfl⟩
instance zv173 : ZV Tryz.prog 173 (.slice none 0 0) := ⟨by kernel_rfl⟩
instance sc173 : SC Tryz.prog 173 := ⟨by kernel_rfl⟩
instance ti176 : TI Tryz.prog 176 7 56 := ⟨by kernel_rfl⟩
instance tz176 : TZ Tryz.prog 176 [.int .i64 0, .int .i64 0, .int .i64 0, .int .i64 0, .int .i64 0, .int .i64 0, .int .i64 0] := ⟨by kernel_rfl⟩
instance ag176 : AG Tryz.prog 176 := ⟨by kernel_rfl⟩
instance ti177 : TI Tryz.prog 177 7 56 := ⟨by kernel_rfl⟩
instance tz177 : TZ Tryz.prog 177 [.int .i64 0, .int .i64 0, .int .i64 0, .int .i64 0, .int .i64 0, .int .i64 0, .int .i64 0] := ⟨by kernel_rfl⟩
instance ag177 : AG Tryz.prog 177 := ⟨by kernel_rfl⟩
instance ti179 : TI Tryz.prog 179 1 8 := ⟨by kernel_rfl⟩
instance tz179 : TZ Tryz.prog 179 [.pointer none] := ⟨by kernel_rfl⟩
instance zv179 : ZV Tryz.prog 179 (.pointer none) := ⟨by kernel_rfl⟩
instance sc179 : SC Tryz.prog 179 := ⟨by kernel_rfl⟩
instance ti180 : TI Tryz.prog 180 2 32 := ⟨by kernel_rfl⟩
instance tz180 : TZ Tryz.prog 180 [.pointer none, .slice none 0 0] := ⟨by kernel_rfl⟩
instance ag180 : AG Tryz.prog 180 := ⟨by kernel_rfl⟩
instance ti181 : TI Tryz.prog 181 2 32 := ⟨by kernel_rfl⟩
instance tz181 : TZ Tryz.prog 181 [.pointer none, .slice none 0 0] := ⟨by kernel_rfl⟩
instance ag181 : AG Tryz.prog 181 := ⟨by kernel_rfl⟩
instance ti188 : TI Tryz.prog 188 1 8 := ⟨by kernel_rfl⟩
instance tz188 : TZ Tryz.prog 188 [.pointer none] := ⟨by kernel_rfl⟩
instance zv188 : ZV Tryz.prog 188 (.pointer none) := ⟨by kernel_rfl⟩
instance sc188 : SC Tryz.prog 188 := ⟨by kernel_rfl⟩
instance ti191 : TI Tryz.prog 191 2 32 := ⟨by kernel_rfl⟩
instance tz191 : TZ Tryz.prog 191 [.int .i64 0, .slice none 0 0] := ⟨by kernel_rfl⟩
instance ag191 : AG Tryz.prog 191 := ⟨by kernel_rfl⟩
instance ti192 : TI Tryz.prog 192 2 32 := ⟨by kernel_rfl⟩
instance tz192 : TZ Tryz.prog 192 [.int .i64 0, .slice none 0 0] := ⟨by kernel_rfl⟩
instance ag192 : AG Tryz.prog 192 := ⟨by kernel_rfl⟩
instance ti193 : TI Tryz.prog 193 6 48 := ⟨by kernel_rfl⟩
instance tz193 : TZ Tryz.prog 193 [.int .i64 0, .int .i64 0, .int .i64 0, .int .i64 0, .int .i64 0, .int .i64 0] := ⟨by kernel_rfl⟩
instance ag193 : AG Tryz.prog 193 := ⟨by kernel_rfl⟩
instance ti196 : TI Tryz.prog 196 4 32 := ⟨by kernel_rfl⟩
instance tz196 : TZ Tryz.prog 196 [.pointer none, .int .i64 0, .int .i64 0, .int .i64 0] := ⟨by kernel_rfl⟩
instance ag196 : AG Tryz.prog 196 := ⟨by kernel_rfl⟩
instance ti197 : TI Tryz.prog 197 4 32 := ⟨by kernel_rfl⟩
instance tz197 : TZ Tryz.prog 197 [.pointer none, .int .i64 0, .int .i64 0, .int .i64 0] := ⟨by kernel_rfl⟩
instance ag197 : AG Tryz.prog 197 := ⟨by kernel_rfl⟩
instance ti202 : TI Tryz.prog 202 4 32 := ⟨by kernel_rfl⟩
instance tz202 : TZ Tryz.prog 202 [.pointer none, .int .i64 0, .int .i64 0, .int .i64 0] := ⟨by kernel_rfl⟩
instance ag202 : AG Tryz.prog 202 := ⟨by kernel_rfl⟩
instance ti203 : TI Tryz.prog 203 4 32 := ⟨by kernel_rfl⟩
instance tz203 : TZ Tryz.prog 203 [.pointer none, .int .i64 0, .int .i64 0, .int .i64 0] := ⟨by kernel_rfl⟩
instance ag203 : AG Tryz.prog 203 := ⟨by kernel_rfl⟩
instance ti205 : TI Tryz.prog 205 1 24 := ⟨by kernel_rfl⟩
instance tz205 : TZ Tryz.prog 205 [.slice none 0 0] := ⟨by kernel_rfl⟩
instance zv205 : ZV Tryz.prog 205 (.slice none 0 0) := ⟨by kernel_rfl⟩
instance sc205 : SC Tryz.prog 205 := ⟨by kernel_rfl⟩
instance ti209 : TI Tryz.prog 209 8 80 := ⟨by kernel_rfl⟩
instance tz209 : TZ Tryz.prog 209 [.int .i64 0, .int .i64 0, .int .i64 0, .int .i64 0, .string ⟨⟨[]⟩⟩, .int .i64 0, .int .i64 0, .string ⟨⟨[]⟩⟩] := ⟨by kernel_rfl⟩
instance ag209 : AG Tryz.prog 209 := ⟨by kernel_rfl⟩
instance ti210 : TI Tryz.prog 210 8 80 := ⟨by kernel_rfl⟩
instance tz210 : TZ Tryz.prog 210 [.int .i64 0, .int .i64 0, .int .i64 0, .int .i64 0, .string ⟨⟨[]⟩⟩, .int .i64 0, .int .i64 0, .string ⟨⟨[]⟩⟩] := ⟨by kernel_rfl⟩
instance ag210 : AG Tryz.prog 210 := ⟨by kernel_rfl⟩
instance ti211 : TI Tryz.prog 211 1 8 := ⟨by kernel_rfl⟩
instance tz211 : TZ Tryz.prog 211 [.nilFunc] := ⟨by kernel_rfl⟩
instance zv211 : ZV Tryz.prog 211 (.nilFunc) := ⟨by kernel_rfl⟩
instance sc211 : SC Tryz.prog 211 := ⟨by kernel_rfl⟩
instance ti215 : TI Tryz.prog 215 1 8 := ⟨by kernel_rfl⟩
instance tz215 : TZ Tryz.prog 215 [.nilFunc] := ⟨by kernel_rfl⟩
instance zv215 : ZV Tryz.prog 215 (.nilFunc) := ⟨by kernel_rfl⟩
instance sc215 : SC Tryz.prog 215 := ⟨by kernel_rfl⟩
instance ti216 : TI Tryz.prog 216 1 8 := ⟨by kernel_rfl⟩
instance tz216 : TZ Tryz.prog 216 [.map none] := ⟨by kernel_rfl⟩
instance zv216 : ZV Tryz.prog 216 (.map none) := ⟨by kernel_rfl⟩
instance sc216 : SC Tryz.prog 216 := ⟨by kernel_rfl⟩
instance ti217 : TI Tryz.prog 217 2 16 := ⟨by kernel_rfl⟩
instance tz217 : TZ Tryz.prog 217 [.map none, .map none] := ⟨by kernel_rfl⟩
instance ag217 : AG Tryz.prog 217 := ⟨by kernel_rfl⟩
instance ti218 : TI Tryz.prog 218 2 16 := ⟨by kernel_rfl⟩
instance tz218 : TZ Tryz.prog 218 [.map none, .map none] := ⟨by kernel_rfl⟩
instance ag218 : AG Tryz.prog 218 := ⟨by kernel_rfl⟩
instance ti220 : TI Tryz.prog 220 1 8 := ⟨by kernel_rfl⟩
instance tz220 : TZ Tryz.prog 220 [.pointer none] := ⟨by kernel_rfl⟩
instance zv220 : ZV Tryz.prog 220 (.pointer none) := ⟨by kernel_rfl⟩
instance sc220 : SC Tryz.prog 220 := ⟨by kernel_rfl⟩
instance ti222 : TI Tryz.prog 222 3 24 := ⟨by kernel_rfl⟩
instance tz222 : TZ Tryz.prog 222 [.pointer none, .int .i64 0, .int .i64 0] := ⟨by kernel_rfl⟩
instance ag222 : AG Tryz.prog 222 := ⟨by kernel_rfl⟩
instance ti223 : TI Tryz.prog 223 3 24 := ⟨by kernel_rfl⟩
instance tz223 : TZ Tryz.prog 223 [.pointer none, .int .i64 0, .int .i64 0] := ⟨by kernel_rfl⟩
instance ag223 : AG Tryz.prog 223 := ⟨by kernel_rfl⟩
instance ti235 : TI Tryz.prog 235 1 8 := ⟨by kernel_rfl⟩
instance tz235 : TZ Tryz.prog 235 [.int .u64 0] := ⟨by kernel_rfl⟩
instance zv235 : ZV Tryz.prog 235 (.int .u64 0) := ⟨by kernel_rfl⟩
instance sc235 : SC Tryz.prog 235 := ⟨by kernel_rfl⟩
instance ti243 : TI Tryz.prog 243 1 24 := ⟨by kernel_rfl⟩
instance tz243 : TZ Tryz.prog 243 [.slice none 0 0] := ⟨by kernel_rfl⟩
instance zv243 : ZV Tryz.prog 243 (.slice none 0 0) := ⟨by kernel_rfl⟩
instance sc243 : SC Tryz.prog 243 := ⟨by kernel_rfl⟩
instance ti245 : TI Tryz.prog 245 3 40 := ⟨by kernel_rfl⟩
instance tz245 : TZ Tryz.prog 245 [.int .i64 0, .int .i64 0, .slice none 0 0] := ⟨by kernel_rfl⟩
instance ag245 : AG Tryz.prog 245 := ⟨by kernel_rfl⟩
instance ti246 : TI Tryz.prog 246 3 40 := ⟨by kernel_rfl⟩
instance tz246 : TZ Tryz.prog 246 [.int .i64 0, .int .i64 0, .slice none 0 0] := ⟨by kernel_rfl⟩
instance ag246 : AG Tryz.prog 246 := ⟨by kernel_rfl⟩
instance ti247 : TI Tryz.prog 247 1 8 := ⟨by kernel_rfl⟩
instance tz247 : TZ Tryz.prog 247 [.nilFunc] := ⟨by kernel_rfl⟩
instance zv247 : ZV Tryz.prog 247 (.nilFunc) := ⟨by kernel_rfl⟩
instance sc247 : SC Tryz.prog 247 := ⟨by kernel_rfl⟩
instance ti250 : TI Tryz.prog 250 1 8 := ⟨by kernel_rfl⟩
instance tz250 : TZ Tryz.prog 250 [.pointer none] := ⟨by kernel_rfl⟩
instance zv250 : ZV Tryz.prog 250 (.pointer none) := ⟨by kernel_rfl⟩
instance sc250 : SC Tryz.prog 250 := ⟨by kernel_rfl⟩
instance ti252 : TI Tryz.prog 252 4 4 := ⟨by kernel_rfl⟩
instance tz252 : TZ Tryz.prog 252 [.int .u8 0, .int .u8 0, .int .u8 0, .int .u8 0] := ⟨by kernel_rfl⟩
instance ag252 : AG Tryz.prog 252 := ⟨by kernel_rfl⟩
instance ti253 : TI Tryz.prog 253 2 24 := ⟨by kernel_rfl⟩
instance tz253 : TZ Tryz.prog 253 [.string ⟨⟨[]⟩⟩, .int .i64 0] := ⟨by kernel_rfl⟩
instance ag253 : AG Tryz.prog 253 := ⟨by kernel_rfl⟩
instance ti254 : TI Tryz.prog 254 2 24 := ⟨by kernel_rfl⟩
instance tz254 : TZ Tryz.prog 254 [.string ⟨⟨[]⟩⟩, .int .i64 0] := ⟨by kernel_rfl⟩
instance ag254 : AG Tryz.prog 254 := ⟨by kernel_rfl⟩
instance ti264 : TI Tryz.prog 264 1 8 := ⟨by kernel_rfl⟩
instance tz264 : TZ Tryz.prog 264 [.pointer none] := ⟨by kernel_rfl⟩
instance zv264 : ZV Tryz.prog 264 (.pointer none) := ⟨by kernel_rfl⟩
instance sc264 : SC Tryz.prog 264 := ⟨by kernel_rfl⟩
instance ti265 : TI Tryz.prog 265 1 8 := ⟨by kernel_rfl⟩
instance tz265 : TZ Tryz.prog 265 [.int .u64 0] := ⟨by kernel_rfl⟩
instance zv265 : ZV Tryz.prog 265 (.int .u64 0) := ⟨by kernel_rfl⟩
instance sc265 : SC Tryz.prog 265 := ⟨by kernel_rfl⟩
instance ti266 : TI Tryz.prog 266 3 24 := ⟨by kernel_rfl⟩
instance tz266 : TZ Tryz.prog 266 [.pointer none, .pointer none, .int .u64 0] := ⟨by kernel_rfl⟩
instance ag266 : AG Tryz.prog 266 := ⟨by kernel_rfl⟩
instance ti267 : TI Tryz.prog 267 3 24 := ⟨by kernel_rfl⟩
instance tz267 : TZ Tryz.prog 267 [.pointer none, .pointer none, .int .u64 0] := ⟨by kernel_rfl⟩
instance ag267 : AG Tryz.prog 267 := ⟨by kernel_rfl⟩
instance ti269 : TI Tryz.prog 269 1 16 := ⟨by kernel_rfl⟩
instance tz269 : TZ Tryz.prog 269 [.nilIface] := ⟨by kernel_rfl⟩
instance zv269 : ZV Tryz.prog 269 (.nilIface) := ⟨by kernel_rfl⟩
instance sc269 : SC Tryz.prog 269 := ⟨by kernel_rfl⟩
instance ti270 : TI Tryz.prog 270 1 16 := ⟨by kernel_rfl⟩
instance tz270 : TZ Tryz.prog 270 [.nilIface] := ⟨by kernel_rfl⟩
instance zv270 : ZV Tryz.prog 270 (.nilIface) := ⟨by kernel_rfl⟩
instance sc270 : SC Tryz.prog 270 := ⟨by kernel_rfl⟩
instance ti272 : TI Tryz.prog 272 1 1 := ⟨by kernel_rfl⟩
instance tz272 : TZ Tryz.prog 272 [.int .u8 0] := ⟨by kernel_rfl⟩
instance zv272 : ZV Tryz.prog 272 (.int .u8 0) := ⟨by kernel_rfl⟩
instance sc272 : SC Tryz.prog 272 := ⟨by kernel_rfl⟩
instance ti276 : TI Tryz.prog 276 1 8 := ⟨by kernel_rfl⟩
instance tz276 : TZ Tryz.prog 276 [.pointer none] := ⟨by kernel_rfl⟩
instance zv276 : ZV Tryz.prog 276 (.pointer none) := ⟨by kernel_rfl⟩
instance sc276 : SC Tryz.prog 276 := ⟨by kernel_rfl⟩
instance ti277 : TI Tryz.prog 277 2 32 := ⟨by kernel_rfl⟩
instance tz277 : TZ Tryz.prog 277 [.string ⟨⟨[]⟩⟩, .nilIface] := ⟨by kernel_rfl⟩
instance ag277 : AG Tryz.prog 277 := ⟨by kernel_rfl⟩
instance ti278 : TI Tryz.prog 278 2 32 := ⟨by kernel_rfl⟩
instance tz278 : TZ Tryz.prog 278 [.string ⟨⟨[]⟩⟩, .nilIface] := ⟨by kernel_rfl⟩
instance ag278 : AG Tryz.prog 278 := ⟨by kernel_rfl⟩
instance ti279 : TI Tryz.prog 279 1 8 := ⟨by kernel_rfl⟩
instance tz279 : TZ Tryz.prog 279 [.nilFunc] := ⟨by kernel_rfl⟩
instance zv279 : ZV Tryz.prog 279 (.nilFunc) := ⟨by kernel_rfl⟩
instance sc279 : SC Tryz.prog 279 := ⟨by kernel_rfl⟩
instance ti281 : TI Tryz.prog 281 1 8 := ⟨by kernel_rfl⟩
instance tz281 : TZ Tryz.prog 281 [.nilFunc] := ⟨by kernel_rfl⟩
instance zv281 : ZV Tryz.prog 281 (.nilFunc) := ⟨by kernel_rfl⟩
instance sc281 : SC Tryz.prog 281 := ⟨by kernel_rfl⟩
instance ti282 : TI Tryz.prog 282 1 4 := ⟨by kernel_rfl⟩
instance tz282 : TZ Tryz.prog 282 [.int .u32 0] := ⟨by kernel_rfl⟩
instance zv282 : ZV Tryz.prog 282 (.int .u32 0) := ⟨by kernel_rfl⟩
instance sc282 : SC Tryz.prog 282 := ⟨by kernel_rfl⟩
instance ti288 : TI Tryz.prog 288 1 8 := ⟨by kernel_rfl⟩
instance tz288 : TZ Tryz.prog 288 [.pointer none] := ⟨by kernel_rfl⟩
instance zv288 : ZV Tryz.prog 288 (.pointer none) := ⟨by kernel_rfl⟩
instance sc288 : SC Tryz.prog 288 := ⟨by kernel_rfl⟩
instance ti289 : TI Tryz.prog 289 6 48 := ⟨by kernel_rfl⟩
instance tz289 : TZ Tryz.prog 289 [.pointer none, .int .i64 0, .int .i64 0, .int .i64 0, .nilFunc, .bool false] := ⟨by kernel_rfl⟩
instance ag289 : AG Tryz.prog 289 := ⟨by kernel_rfl⟩
instance ti290 : TI Tryz.prog 290 6 48 := ⟨by kernel_rfl⟩
instance tz290 : TZ Tryz.prog 290 [.pointer none, .int .i64 0, .int .i64 0, .int .i64 0, .nilFunc, .bool false] := ⟨by kernel_rfl⟩
instance ag290 : AG Tryz.prog 290 := ⟨by kernel_rfl⟩
instance ti293 : TI Tryz.prog 293 1 8 := ⟨by kernel_rfl⟩
instance tz293 : TZ Tryz.prog 293 [.pointer none] := ⟨by kernel_rfl⟩
instance zv293 : ZV Tryz.prog 293 (.pointer none) := ⟨by kernel_rfl⟩
instance sc293 : SC Tryz.prog 293 := ⟨by kernel_rfl⟩
instance ti297 : TI Tryz.prog 297 256 256 := ⟨by kernel_rfl⟩
instance tz297 : TZ Tryz.prog 297 [.bool false, .bool false, .bool false, .bool false, .bool false, .bool false, .bool false, .bool false, .bool false, .bool false, .bool false, .bool false, .bool false, .bool false, .bool false, .bool false, .bool false, .bool false, .bool false, .bool false, .bool false, .bool false, .bool false, .bool false, .bool false, .bool false, .bool false, .bool false, .bool false, .bool false, .bool false, .bool false, .bool false, .bool false, .bool false, .bool false, .bool false, .bool false, .bool false, .bool false, .bool false, .bool false, .bool false, .bool false, .bool false, .bool false, .bool false, .bool false, .bool false, .bool false, .bool false, .bool false, .bool false, .bool false, .bool false, .bool false, .bool false, .bool false, .bool false, .bool false, .bool false, .bool false, .bool false, .bool false, .bool false, .bool false, .bool false, .bool false, .bool false, .bool false, .bool false, .bool false, .bool false, .bool false, .bool false, .bool false, .bool false, .bool false, .bool false, .bool false, .bool false, .bool false, .bool false, .bool false, .bool false, .bool false, .bool false, .bool false, .bool false, .bool false, .bool false, .bool false, .bool false, .bool false, .bool false, .bool false, .bool false, .bool false, .bool false, .bool false, .bool false, .bool false, .bool false, .bool false, .bool false, .bool false, .bool false, .bool false, .bool false, .bool false, .bool false, .bool false, .bool false, .bool false, .bool false, .bool false, .bool false, .bool false, .bool false, .bool false, .bool false, .bool false, .bool false, .bool false, .bool false, .bool false, .bool false, .bool false, .bool false, .bool false, .bool false, .bool false, .bool false, .bool false, .bool false, .bool false, .bool false, .bool false, .bool false, .bool false, .bool false, .bool false, .bool false, .bool false, .bool false, .bool false, .bool false, .bool false, .bool false, .bool false, .bool false, .bool false, .bool false, .bool false, .bool false, .bool false, .bool false, .bool false, .bool false, .bool false, .bool false, .bool false, .bool false, .bool false, .bool false, .bool false, .bool false, .bool false, .bool false, .bool false, .bool false, .bool false, .bool false, .bool false, .bool false, .bool false, .bool false, .bool false, .bool false, .bool false, .bool false, .bool false, .bool false, .bool false, .bool false, .bool false, .bool false, .bool false, .bool false, .bool false, .bool false, .bool false, .bool false, .bool false, .bool false, .bool false, .bool false, .bool false, .bool false, .bool false, .bool false, .bool false, .bool false, .bool false, .bool false, .bool false, .bool false, .bool false, .bool false, .bool false, .bool false, .bool false, .bool false, .bool false, .bool false, .bool false, .bool false, .bool false, .bool false, .bool false, .bool false, .bool false, .bool false, .bool false, .bool false, .bool false, .bool false, .bool false, .bool false, .bool false, .bool false, .bool false, .bool false, .bool false, .bool false, .bool false, .bool false, .bool false, .bool false, .bool false, .bool false, .bool false, .bool false, .bool false, .bool false, .bool false, .bool false, .bool false, .bool false, .bool false, .bool false, .bool false, .bool false, .bool false, .bool false, .bool false] := ⟨by kernel_rfl⟩
instance ag297 : AG Tryz.prog 297 := ⟨by kernel_rfl⟩
instance ti298 : TI Tryz.prog 298 256 256 := ⟨by kernel_rfl⟩
instance tz298 : TZ Tryz.prog 298 [.bool false, .bool false, .bool false, .bool false, .bool false, .bool false, .bool false, .bool false, .bool false, .bool false, .bool false, .bool false, .bool false, .bool false, .bool false, .bool false, .bool false, .bool false, .bool false, .bool false, .bool false, .bool false, .bool false, .bool false, .bool false, .bool false, .bool false, .bool false, .bool false, .bool false, .bool false, .bool false, .bool false, .bool false, .bool false, .bool false, .bool false, .bool false, .bool false, .bool false, .bool false, .bool false, .bool false, .bool false, .bool false, .bool false, .bool false, .bool false, .bool false, .bool false, .bool false, .bool false, .bool false, .bool false, .bool false, .bool false, .bool false, .bool false, .bool false, .bool false, .bool false, .bool false, .bool false, .bool false, .bool false, .bool false, .bool false, .bool false, .bool false, .bool false, .bool false, .bool false, .bool false, .bool false, .bool false, .bool false, .bool false, .bool false, .bool false, .bool false, .bool false, .bool false, .bool false, .bool false, .bool false, .bool false, .bool false, .bool false, .bool false, .bool false, .bool false, .bool false, .bool false, .bool false, .bool false, .bool false, .bool false, .bool false, .bool false, .bool false, .bool false, .bool false, .bool false, .bool false, .bool false, .bool false, .bool false, .bool false, .bool false, .bool false, .bool false, .bool false, .bool false, .bool false, .bool false, .bool false, .bool false, .bool false, .bool false, .bool false, .bool false, .bool false, .bool false, .bool false, .bool false, .bool false, .bool false, .bool false, .bool false, .bool false, .bool false, .bool false, .bool false, .bool false, .bool false, .bool false, .bool false, .bool false, .bool false, .bool false, .bool false, .bool false, .bool false, .bool false, .bool false, .bool false, .bool false, .bool false, .bool false, .bool false, .bool false, .bool false, .bool false, .bool false, .bool false, .bool false, .bool false, .bool false, .bool false, .bool false, .bool false, .bool false, .bool false, .bool false, .bool false, .bool false, .bool false, .bool false, .bool false, .bool false, .bool false, .bool false, .bool false, .bool false, .bool false, .bool false, .bool false, .bool false, .bool false, .bool false, .bool false, .bool false, .bool false, .bool false, .bool false, .bool false, .bool false, .bool false, .bool false, .bool false, .bool false, .bool false, .bool false, .bool false, .bool false, .bool false, .bool false, .bool false, .bool false, .bool false, .bool false, .bool false, .bool false, .bool false, .bool false, .bool false, .bool false, .bool false, .bool false, .bool false, .bool false, .bool false, .bool false, .bool false, .bool false, .bool false, .bool false, .bool false, .bool false, .bool false, .bool false, .bool false, .bool false, .bool false, .bool false, .bool false, .bool false, .bool false, .bool false, .bool false, .bool false, .bool false, .bool false, .bool false, .bool false, .bool false, .bool false, .bool false, .bool false, .bool false, .bool false, .bool false, .bool false, .bool false, .bool false, .bool false, .bool false, .bool false, .bool false, .bool false, .bool false, .bool false, .bool false, .bool false, .bool false, .bool false] := ⟨by kernel_rfl⟩
instance ag298 : AG Tryz.prog 298 := ⟨by kernel_rfl⟩
instance ti302 : TI Tryz.prog 302 1 8 := ⟨by kernel_rfl⟩
instance tz302 : TZ Tryz.prog 302 [.pointer none] := ⟨by kernel_rfl⟩
instance zv302 : ZV Tryz.prog 302 (.pointer none) := ⟨by kernel_rfl⟩
instance sc302 : SC Tryz.prog 302 := ⟨by kernel_rfl⟩
instance ti310 : TI Tryz.prog 310 1 16 := ⟨by kernel_rfl⟩
instance tz310 : TZ Tryz.prog 310 [.nilIface] := ⟨by kernel_rfl⟩
instance zv310 : ZV Tryz.prog 310 (.nilIface) := ⟨by kernel_rfl⟩
instance sc310 : SC Tryz.prog 310 := ⟨by kernel_rfl⟩
instance ti313 : TI Tryz.prog 313 1 16 := ⟨by kernel_rfl⟩
instance tz313 : TZ Tryz.prog 313 [.nilIface] := ⟨by kernel_rfl⟩
instance zv313 : ZV Tryz.prog 313 (.nilIface) := ⟨by kernel_rfl⟩
instance sc313 : SC Tryz.prog 313 := ⟨by kernel_rfl⟩
instance ti314 : TI Tryz.prog 314 1 16 := ⟨by kernel_rfl⟩
instance tz314 : TZ Tryz.prog 314 [.nilIface] := ⟨by kernel_rfl⟩
instance zv314 : ZV Tryz.prog 314 (.nilIface) := ⟨by kernel_rfl⟩
instance sc314 : SC Tryz.prog 314 := ⟨by kernel_rfl⟩
instance ti315 : TI Tryz.prog 315 1 24 := ⟨by kernel_rfl⟩
instance tz315 : TZ Tryz.prog 315 [.slice none 0 0] := ⟨by kernel_rfl⟩
instance zv315 : ZV Tryz.prog 315 (.slice none 0 0) := ⟨by kernel_rfl⟩
instance sc315 : SC Tryz.prog 315 := ⟨by kernel_rfl⟩
instance ti322 : TI Tryz.prog 322 1 4 := ⟨by kernel_rfl⟩
instance tz322 : TZ Tryz.prog 322 [.int .u32 0] := ⟨by kernel_rfl⟩
instance ag322 : AG Tryz.prog 322 := ⟨by kernel_rfl⟩
instance ti323 : TI Tryz.prog 323 1 4 := ⟨by kernel_rfl⟩
instance tz323 : TZ Tryz.prog 323 [.int .u32 0] := ⟨by kernel_rfl⟩
instance ag323 : AG Tryz.prog 323 := ⟨by kernel_rfl⟩
instance ti331 : TI Tryz.prog 331 1 8 := ⟨by kernel_rfl⟩
instance tz331 : TZ Tryz.prog 331 [.int .i64 0] := ⟨by kernel_rfl⟩
instance zv331 : ZV Tryz.prog 331 (.int .i64 0) := ⟨by kernel_rfl⟩
instance sc331 : SC Tryz.prog 331 := ⟨by kernel_rfl⟩
instance ti344 : TI Tryz.prog 344 1 8 := ⟨by kernel_rfl⟩
instance tz344 : TZ Tryz.prog 344 [.int .u64 0] := ⟨by kernel_rfl⟩
instance zv344 : ZV Tryz.prog 344 (.int .u64 0) := ⟨by kernel_rfl⟩
instance sc344 : SC Tryz.prog 344 := ⟨by kernel_rfl⟩
instance ti348 : TI Tryz.prog 348 1 8 := ⟨by kernel_rfl⟩
instance tz348 : TZ Tryz.prog 348 [.pointer none] := ⟨by kernel_rfl⟩
instance zv348 : ZV Tryz.prog 348 (.pointer none) := ⟨by kernel_rfl⟩
instance sc348 : SC Tryz.prog 348 := ⟨by kernel_rfl⟩
instance ti350 : TI Tryz.prog 350 256 256 := ⟨by kernel_rfl⟩
instance tz350 : TZ Tryz.prog 350 [.int .u8 0, .int .u8 0, .int .u8 0, .int .u8 0, .int .u8 0, .int .u8 0, .int .u8 0, .int .u8 0, .int .u8 0, .int .u8 0, .int .u8 0, .int .u8 0, .int .u8 0, .int .u8 0, .int .u8 0, .int .u8 0, .int .u8 0, .int .u8 0, .int .u8 0, .int .u8 0, .int .u8 0, .int .u8 0, .int .u8 0, .int .u8 0, .int .u8 0, .int .u8 0, .int .u8 0, .int .u8 0, .int .u8 0, .int .u8 0, .int .u8 0, .int .u8 0, .int .u8 0, .int .u8 0, .int .u8 0, .int .u8 0, .int .u8 0, .int .u8 0, .int .u8 0, .int .u8 0, .int .u8 0, .int .u8 0, .int .u8 0, .int .u8 0, .int .u8 0, .int .u8 0, .int .u8 0, .int .u8 0, .int .u8 0, .int .u8 0, .int .u8 0, .int .u8 0, .int .u8 0, .int .u8 0, .int .u8 0, .int .u8 0, .int .u8 0, .int .u8 0, .int .u8 0, .int .u8 0, .int .u8 0, .int .u8 0, .int .u8 0, .int .u8 0, .int .u8 0, .int .u8 0, .int .u8 0, .int .u8 0, .int .u8 0, .int .u8 0, .int .u8 0, .int .u8 0, .int .u8 0, .int .u8 0, .int .u8 0, .int .u8 0, .int .u8 0, .int .u8 0, .int .u8 0, .int .u8 0, .int .u8 0, .int .u8 0, .int .u8 0, .int .u8 0, .int .u8 0, .int .u8 0, .int .u8 0, .int .u8 0, .int .u8 0, .int .u8 0, .int .u8 0, .int .u8 0, .int .u8 0, .int .u8 0, .int .u8 0, .int .u8 0, .int .u8 0, .int .u8 0, .int .u8 0, .int .u8 0, .int .u8 0, .int .u8 0, .int .u8 0, .int .u8 0, .int .u8 0, .int .u8 0, .int .u8 0, .int .u8 0, .int .u8 0, .int .u8 0, .int .u8 0, .int .u8 0, .int .u8 0, .int .u8 0, .int .u8 0, .int .u8 0, .int .u8 0, .int .u8 0, .int .u8 0, .int .u8 0, .int .u8 0, .int .u8 0, .int .u8 0, .int .u8 0, .int .u8 0, .int .u8 0, .int .u8 0, .int .u8 0, .int .u8 0, .int .u8 0, .int .u8 0, .int .u8 0, .int .u8 0, .int .u8 0, .int .u8 0, .int .u8 0, .int .u8 0, .int .u8 0, .int .u8 0, .int .u8 0, .int .u8 0, .int .u8 0, .int .u8 0, .int .u8 0, .int .u8 0, .int .u8 0, .int .u8 0, .int .u8 0, .int .u8 0, .int .u8 0, .int .u8 0, .int .u8 0, .int .u8 0, .int .u8 0, .int .u8 0, .int .u8 0, .int .u8 0, .int .u8 0, .int .u8 0, .int .u8 0, .int .u8 0, .int .u8 0, .int .u8 0, .int .u8 0, .int .u8 0, .int .u8 0, .int .u8 0, .int .u8 0, .int .u8 0, .int .u8 0, .int .u8 0, .int .u8 0, .int .u8 0, .int .u8 0, .int .u8 0, .int .u8 0, .int .u8 0, .int .u8 0, .int .u8 0, .int .u8 0, .int .u8 0, .int .u8 0, .int .u8 0, .int .u8 0, .int .u8 0, .int .u8 0, .int .u8 0, .int .u8 0, .int .u8 0, .int .u8 0, .int .u8 0, .int .u8 0, .int .u8 0, .int .u8 0, .int .u8 0, .int .u8 0, .int .u8 0, .int .u8 0, .int .u8 0, .int .u8 0, .int .u8 0, .int .u8 0, .int .u8 0, .int .u8 0, .int .u8 0, .int .u8 0, .int .u8 0, .int .u8 0, .int .u8 0, .int .u8 0, .int .u8 0, .int .u8 0, .int .u8 0, .int .u8 0, .int .u8 0, .int .u8 0, .int .u8 0, .int .u8 0, .int .u8 0, .int .u8 0, .int .u8 0, .int .u8 0, .int .u8 0, .int .u8 0, .int .u8 0, .int .u8 0, .int .u8 0, .int .u8 0, .int .u8 0, .int .u8 0, .int .u8 0, .int .u8 0, .int .u8 0, .int .u8 0, .int .u8 0, .int .u8 0, .int .u8 0, .int .u8 0, .int .u8 0, .int .u8 0, .int .u8 0, .int .u8 0, .int .u8 0, .int .u8 0, .int .u8 0, .int .u8 0, .int .u8 0, .int .u8 0, .int .u8 0, .int .u8 0, .int .u8 0, .int .u8 0, .int .u8 0, .int .u8 0, .int .u8 0, .int .u8 0] := ⟨by kernel_rfl⟩
instance ag350 : AG Tryz.prog 350 := ⟨by kernel_rfl⟩
instance ti351 : TI Tryz.prog 351 2 2 := ⟨by kernel_rfl⟩
instance tz351 : TZ Tryz.prog 351 [.int .u8 0, .int .u8 0] := ⟨by kernel_rfl⟩
instance ag351 : AG Tryz.prog 351 := ⟨by kernel_rfl⟩
instance ti352 : TI Tryz.prog 352 2 2 := ⟨by kernel_rfl⟩
instance tz352 : TZ Tryz.prog 352 [.int .u8 0, .int .u8 0] := ⟨by kernel_rfl⟩
instance ag352 : AG Tryz.prog 352 := ⟨by kernel_rfl⟩
instance ti353 : TI Tryz.prog 353 32 32 := ⟨by kernel_rfl⟩
instance tz353 : TZ Tryz.prog 353 [.int .u8 0, .int .u8 0, .int .u8 0, .int .u8 0, .int .u8 0, .int .u8 0, .int .u8 0, .int .u8 0, .int .u8 0, .int .u8 0, .int .u8 0, .int .u8 0, .int .u8 0, .int .u8 0, .int .u8 0, .int .u8 0, .int .u8 0, .int .u8 0, .int .u8 0, .int .u8 0, .int .u8 0, .int .u8 0, .int .u8 0, .int .u8 0, .int .u8 0, .int .u8 0, .int .u8 0, .int .u8 0, .int .u8 0, .int .u8 0, .int .u8 0, .int .u8 0] := ⟨by kernel_rfl⟩
instance ag353 : AG Tryz.prog 353 := ⟨by kernel_rfl⟩
instance ti357 : TI Tryz.prog 357 1 8 := ⟨by kernel_rfl⟩
instance tz357 : TZ Tryz.prog 357 [.pointer none] := ⟨by kernel_rfl⟩
instance zv357 : ZV Tryz.prog 357 (.pointer none) := ⟨by kernel_rfl⟩
instance sc357 : SC Tryz.prog 357 := ⟨by kernel_rfl⟩
instance ul0 : UL Tryz.prog 0 (Go.TypeDesc.tuple #[]) := ⟨Tryz.underlying0⟩
instance ul1 : UL Tryz.prog 1 (Go.TypeDesc.func #[] #[] false) := ⟨Tryz.underlying1⟩
instance ul2 : UL Tryz.prog 2 (Go.TypeDesc.int IntKind.i64) := ⟨Tryz.underlying2⟩
instance ul3 : UL Tryz.prog 3 (Go.TypeDesc.int IntKind.i64) := ⟨Tryz.underlying3⟩
instance ul4 : UL Tryz.prog 4 (Go.TypeDesc.bool) := ⟨Tryz.underlying4⟩
instance ul5 : UL Tryz.prog 5 (Go.TypeDesc.int IntKind.u8) := ⟨Tryz.underlying5⟩
instance ul6 : UL Tryz.prog 6 (Go.TypeDesc.int IntKind.u8) := ⟨Tryz.underlying6⟩
instance ul7 : UL Tryz.prog 7 (Go.TypeDesc.struct #[{ name := "x", type := 2, offset := 0, embedded := false, tag := "", pkgPath := "runtime", byteOffset := 0 }, { name := "y", type := 3, offset := 1, embedded := false, tag := "", pkgPath := "runtime", byteOffset := 8 }, { name := "signed", type := 4, offset := 2, embedded := false, tag := "", pkgPath := "runtime", byteOffset := 16 }, { name := "code", type := 6, offset := 3, embedded := false, tag := "", pkgPath := "runtime", byteOffset := 17 }]) := ⟨Tryz.underlying7⟩
instance pl7 : PL Tryz.prog 7 [(0, 1), (1, 1), (2, 1), (3, 1)] := ⟨by kernel_rfl⟩
instance fo7_0 : FO Tryz.prog 7 0 0 2 := ⟨_, Tryz.underlying7, by kernel_rfl, by kernel_rfl⟩
instance fo7_1 : FO Tryz.prog 7 1 1 3 := ⟨_, Tryz.underlying7, by kernel_rfl, by kernel_rfl⟩
instance fo7_2 : FO Tryz.prog 7 2 2 4 := ⟨_, Tryz.underlying7, by kernel_rfl, by kernel_rfl⟩
instance fo7_3 : FO Tryz.prog 7 3 3 6 := ⟨_, Tryz.underlying7, by kernel_rfl, by kernel_rfl⟩
instance ul8 : UL Tryz.prog 8 (Go.TypeDesc.struct #[{ name := "x", type := 2, offset := 0, embedded := false, tag := "", pkgPath := "runtime", byteOffset := 0 }, { name := "y", type := 3, offset := 1, embedded := false, tag := "", pkgPath := "runtime", byteOffset := 8 }, { name := "signed", type := 4, offset := 2, embedded := false, tag := "", pkgPath := "runtime", byteOffset := 16 }, { name := "code", type := 6, offset := 3, embedded := false, tag := "", pkgPath := "runtime", byteOffset := 17 }]) := ⟨Tryz.underlying8⟩
instance pl8 : PL Tryz.prog 8 [(0, 1), (1, 1), (2, 1), (3, 1)] := ⟨by kernel_rfl⟩
instance fo8_0 : FO Tryz.prog 8 0 0 2 := ⟨_, Tryz.underlying8, by kernel_rfl, by kernel_rfl⟩
instance fo8_1 : FO Tryz.prog 8 1 1 3 := ⟨_, Tryz.underlying8, by kernel_rfl, by kernel_rfl⟩
instance fo8_2 : FO Tryz.prog 8 2 2 4 := ⟨_, Tryz.underlying8, by kernel_rfl, by kernel_rfl⟩
instance fo8_3 : FO Tryz.prog 8 3 3 6 := ⟨_, Tryz.underlying8, by kernel_rfl, by kernel_rfl⟩
instance ul9 : UL Tryz.prog 9 (Go.TypeDesc.string) := ⟨Tryz.underlying9⟩
instance ul10 : UL Tryz.prog 10 (Go.TypeDesc.string) := ⟨Tryz.underlying10⟩
instance ul11 : UL Tryz.prog 11 (Go.TypeDesc.string) := ⟨Tryz.underlying11⟩
instance ul20 : UL Tryz.prog 20 (Go.TypeDesc.interface #[]) := ⟨Tryz.underlying20⟩
instance ul21 : UL Tryz.prog 21 (Go.TypeDesc.int IntKind.i32) := ⟨Tryz.underlying21⟩
instance ul22 : UL Tryz.prog 22 (Go.TypeDesc.slice 35) := ⟨Tryz.underlying22⟩
instance ul25 : UL Tryz.prog 25 (Go.TypeDesc.pointer 171) := ⟨Tryz.underlying25⟩
instance ul26 : UL Tryz.prog 26 (Go.TypeDesc.pointer 153) := ⟨Tryz.underlying26⟩
instance ul27 : UL Tryz.prog 27 (Go.TypeDesc.tuple #[25, 26, 4]) := ⟨Tryz.underlying27⟩
instance ul29 : UL Tryz.prog 29 (Go.TypeDesc.pointer 149) := ⟨Tryz.underlying29⟩
instance ul31 : UL Tryz.prog 31 (Go.TypeDesc.int IntKind.i64) := ⟨Tryz.underlying31⟩
instance ul32 : UL Tryz.prog 32 (Go.TypeDesc.tuple #[31, 31]) := ⟨Tryz.underlying32⟩
instance ul34 : UL Tryz.prog 34 (Go.TypeDesc.struct #[{ name := "Kind", type := 3, offset := 0, embedded := false, tag := "", pkgPath := "", byteOffset := 0 }, { name := "At", type := 3, offset := 1, embedded := false, tag := "", pkgPath := "", byteOffset := 8 }, { name := "Data", type := 9, offset := 2, embedded := false, tag := "", pkgPath := "", byteOffset := 16 }]) := ⟨Tryz.underlying34⟩
instance pl34 : PL Tryz.prog 34 [(0, 1), (1, 1), (2, 1)] := ⟨by kernel_rfl⟩
instance fo34_0 : FO Tryz.prog 34 0 0 3 := ⟨_, Tryz.underlying34, by kernel_rfl, by kernel_rfl⟩
instance fo34_1 : FO Tryz.prog 34 1 1 3 := ⟨_, Tryz.underlying34, by kernel_rfl, by kernel_rfl⟩
instance fo34_2 : FO Tryz.prog 34 2 2 9 := ⟨_, Tryz.underlying34, by kernel_rfl, by kernel_rfl⟩
instance ul35 : UL Tryz.prog 35 (Go.TypeDesc.struct #[{ name := "Kind", type := 3, offset := 0, embedded := false, tag := "", pkgPath := "", byteOffset := 0 }, { name := "At", type := 3, offset := 1, embedded := false, tag := "", pkgPath := "", byteOffset := 8 }, { name := "Data", type := 9, offset := 2, embedded := false, tag := "", pkgPath := "", byteOffset := 16 }]) := ⟨Tryz.underlying35⟩
instance pl35 : PL Tryz.prog 35 [(0, 1), (1, 1), (2, 1)] := ⟨by kernel_rfl⟩
instance fo35_0 : FO Tryz.prog 35 0 0 3 := ⟨_, Tryz.underlying35, by kernel_rfl, by kernel_rfl⟩
instance fo35_1 : FO Tryz.prog 35 1 1 3 := ⟨_, Tryz.underlying35, by kernel_rfl, by kernel_rfl⟩
instance fo35_2 : FO Tryz.prog 35 2 2 9 := ⟨_, Tryz.underlying35, by kernel_rfl, by kernel_rfl⟩
instance ul38 : UL Tryz.prog 38 (Go.TypeDesc.int IntKind.u64) := ⟨Tryz.underlying38⟩
instance ul41 : UL Tryz.prog 41 (Go.TypeDesc.slice 5) := ⟨Tryz.underlying41⟩
instance ul44 : UL Tryz.prog 44 (Go.TypeDesc.tuple #[26, 31]) := ⟨Tryz.underlying44⟩
instance ul46 : UL Tryz.prog 46 (Go.TypeDesc.tuple #[9, 31]) := ⟨Tryz.underlying46⟩
instance ul49 : UL Tryz.prog 49 (Go.TypeDesc.struct #[{ name := "Extents", type := 3, offset := 0, embedded := false, tag := "", pkgPath := "", byteOffset := 0 }, { name := "Slots", type := 3, offset := 1, embedded := false, tag := "", pkgPath := "", byteOffset := 8 }, { name := "Log", type := 3, offset := 2, embedded := false, tag := "", pkgPath := "", byteOffset := 16 }]) := ⟨Tryz.underlying49⟩
instance pl49 : PL Tryz.prog 49 [(0, 1), (1, 1), (2, 1)] := ⟨by kernel_rfl⟩
instance fo49_0 : FO Tryz.prog 49 0 0 3 := ⟨_, Tryz.underlying49, by kernel_rfl, by kernel_rfl⟩
instance fo49_1 : FO Tryz.prog 49 1 1 3 := ⟨_, Tryz.underlying49, by kernel_rfl, by kernel_rfl⟩
instance fo49_2 : FO Tryz.prog 49 2 2 3 := ⟨_, Tryz.underlying49, by kernel_rfl, by kernel_rfl⟩
instance ul50 : UL Tryz.prog 50 (Go.TypeDesc.struct #[{ name := "Extents", type := 3, offset := 0, embedded := false, tag := "", pkgPath := "", byteOffset := 0 }, { name := "Slots", type := 3, offset := 1, embedded := false, tag := "", pkgPath := "", byteOffset := 8 }, { name := "Log", type := 3, offset := 2, embedded := false, tag := "", pkgPath := "", byteOffset := 16 }]) := ⟨Tryz.underlying50⟩
instance pl50 : PL Tryz.prog 50 [(0, 1), (1, 1), (2, 1)] := ⟨by kernel_rfl⟩
instance fo50_0 : FO Tryz.prog 50 0 0 3 := ⟨_, Tryz.underlying50, by kernel_rfl, by kernel_rfl⟩
instance fo50_1 : FO Tryz.prog 50 1 1 3 := ⟨_, Tryz.underlying50, by kernel_rfl, by kernel_rfl⟩
instance fo50_2 : FO Tryz.prog 50 2 2 3 := ⟨_, Tryz.underlying50, by kernel_rfl, by kernel_rfl⟩
instance ul51 : UL Tryz.prog 51 (Go.TypeDesc.tuple #[25, 26]) := ⟨Tryz.underlying51⟩
instance ul58 : UL Tryz.prog 58 (Go.TypeDesc.tuple #[3, 31]) := ⟨Tryz.underlying58⟩
instance ul62 : UL Tryz.prog 62 (Go.TypeDesc.struct #[{ name := "Node", type := 3, offset := 0, embedded := false, tag := "", pkgPath := "", byteOffset := 0 }, { name := "Role", type := 3, offset := 1, embedded := false, tag := "", pkgPath := "", byteOffset := 8 }, { name := "Boot", type := 3, offset := 2, embedded := false, tag := "", pkgPath := "", byteOffset := 16 }, { name := "Cursor", type := 3, offset := 3, embedded := false, tag := "", pkgPath := "", byteOffset := 24 }, { name := "Config", type := 50, offset := 4, embedded := false, tag := "", pkgPath := "", byteOffset := 32 }]) := ⟨Tryz.underlying62⟩
instance pl62 : PL Tryz.prog 62 [(0, 1), (1, 1), (2, 1), (3, 1), (4, 3)] := ⟨by kernel_rfl⟩
instance fo62_0 : FO Tryz.prog 62 0 0 3 := ⟨_, Tryz.underlying62, by kernel_rfl, by kernel_rfl⟩
instance fo62_1 : FO Tryz.prog 62 1 1 3 := ⟨_, Tryz.underlying62, by kernel_rfl, by kernel_rfl⟩
instance fo62_2 : FO Tryz.prog 62 2 2 3 := ⟨_, Tryz.underlying62, by kernel_rfl, by kernel_rfl⟩
instance fo62_3 : FO Tryz.prog 62 3 3 3 := ⟨_, Tryz.underlying62, by kernel_rfl, by kernel_rfl⟩
instance fo62_4 : FO Tryz.prog 62 4 4 50 := ⟨_, Tryz.underlying62, by kernel_rfl, by kernel_rfl⟩
instance ul63 : UL Tryz.prog 63 (Go.TypeDesc.struct #[{ name := "Node", type := 3, offset := 0, embedded := false, tag := "", pkgPath := "", byteOffset := 0 }, { name := "Role", type := 3, offset := 1, embedded := false, tag := "", pkgPath := "", byteOffset := 8 }, { name := "Boot", type := 3, offset := 2, embedded := false, tag := "", pkgPath := "", byteOffset := 16 }, { name := "Cursor", type := 3, offset := 3, embedded := false, tag := "", pkgPath := "", byteOffset := 24 }, { name := "Config", type := 50, offset := 4, embedded := false, tag := "", pkgPath := "", byteOffset := 32 }]) := ⟨Tryz.underlying63⟩
instance pl63 : PL Tryz.prog 63 [(0, 1), (1, 1), (2, 1), (3, 1), (4, 3)] := ⟨by kernel_rfl⟩
instance fo63_0 : FO Tryz.prog 63 0 0 3 := ⟨_, Tryz.underlying63, by kernel_rfl, by kernel_rfl⟩
instance fo63_1 : FO Tryz.prog 63 1 1 3 := ⟨_, Tryz.underlying63, by kernel_rfl, by kernel_rfl⟩
instance fo63_2 : FO Tryz.prog 63 2 2 3 := ⟨_, Tryz.underlying63, by kernel_rfl, by kernel_rfl⟩
instance fo63_3 : FO Tryz.prog 63 3 3 3 := ⟨_, Tryz.underlying63, by kernel_rfl, by kernel_rfl⟩
instance fo63_4 : FO Tryz.prog 63 4 4 50 := ⟨_, Tryz.underlying63, by kernel_rfl, by kernel_rfl⟩
instance ul67 : UL Tryz.prog 67 (Go.TypeDesc.tuple #[63, 31]) := ⟨Tryz.underlying67⟩
instance ul70 : UL Tryz.prog 70 (Go.TypeDesc.slice 3) := ⟨Tryz.underlying70⟩
instance ul71 : UL Tryz.prog 71 (Go.TypeDesc.pointer 192) := ⟨Tryz.underlying71⟩
instance ul73 : UL Tryz.prog 73 (Go.TypeDesc.pointer 85) := ⟨Tryz.underlying73⟩
instance ul75 : UL Tryz.prog 75 (Go.TypeDesc.func #[3] #[4] false) := ⟨Tryz.underlying75⟩
instance ul79 : UL Tryz.prog 79 (Go.TypeDesc.tuple #[71, 31]) := ⟨Tryz.underlying79⟩
instance ul81 : UL Tryz.prog 81 (Go.TypeDesc.tuple #[73, 31]) := ⟨Tryz.underlying81⟩
instance ul83 : UL Tryz.prog 83 (Go.TypeDesc.slice 4) := ⟨Tryz.underlying83⟩
instance ul84 : UL Tryz.prog 84 (Go.TypeDesc.struct #[{ name := "L", type := 83, offset := 0, embedded := false, tag := "", pkgPath := "", byteOffset := 0 }]) := ⟨Tryz.underlying84⟩
instance pl84 : PL Tryz.prog 84 [(0, 1)] := ⟨by kernel_rfl⟩
instance fo84_0 : FO Tryz.prog 84 0 0 83 := ⟨_, Tryz.underlying84, by kernel_rfl, by kernel_rfl⟩
instance ul85 : UL Tryz.prog 85 (Go.TypeDesc.struct #[{ name := "L", type := 83, offset := 0, embedded := false, tag := "", pkgPath := "", byteOffset := 0 }]) := ⟨Tryz.underlying85⟩
instance pl85 : PL Tryz.prog 85 [(0, 1)] := ⟨by kernel_rfl⟩
instance fo85_0 : FO Tryz.prog 85 0 0 83 := ⟨_, Tryz.underlying85, by kernel_rfl, by kernel_rfl⟩
instance ul88 : UL Tryz.prog 88 (Go.TypeDesc.struct #[{ name := "A", type := 3, offset := 0, embedded := false, tag := "", pkgPath := "", byteOffset := 0 }, { name := "B", type := 3, offset := 1, embedded := false, tag := "", pkgPath := "", byteOffset := 8 }]) := ⟨Tryz.underlying88⟩
instance pl88 : PL Tryz.prog 88 [(0, 1), (1, 1)] := ⟨by kernel_rfl⟩
instance fo88_0 : FO Tryz.prog 88 0 0 3 := ⟨_, Tryz.underlying88, by kernel_rfl, by kernel_rfl⟩
instance fo88_1 : FO Tryz.prog 88 1 1 3 := ⟨_, Tryz.underlying88, by kernel_rfl, by kernel_rfl⟩
instance ul89 : UL Tryz.prog 89 (Go.TypeDesc.struct #[{ name := "A", type := 3, offset := 0, embedded := false, tag := "", pkgPath := "", byteOffset := 0 }, { name := "B", type := 3, offset := 1, embedded := false, tag := "", pkgPath := "", byteOffset := 8 }]) := ⟨Tryz.underlying89⟩
instance pl89 : PL Tryz.prog 89 [(0, 1), (1, 1)] := ⟨by kernel_rfl⟩
instance fo89_0 : FO Tryz.prog 89 0 0 3 := ⟨_, Tryz.underlying89, by kernel_rfl, by kernel_rfl⟩
instance fo89_1 : FO Tryz.prog 89 1 1 3 := ⟨_, Tryz.underlying89, by kernel_rfl, by kernel_rfl⟩
instance ul90 : UL Tryz.prog 90 (Go.TypeDesc.struct #[{ name := "V", type := 89, offset := 0, embedded := false, tag := "", pkgPath := "", byteOffset := 0 }, { name := "Slot", type := 3, offset := 2, embedded := false, tag := "", pkgPath := "", byteOffset := 16 }]) := ⟨Tryz.underlying90⟩
instance pl90 : PL Tryz.prog 90 [(0, 2), (2, 1)] := ⟨by kernel_rfl⟩
instance fo90_0 : FO Tryz.prog 90 0 0 89 := ⟨_, Tryz.underlying90, by kernel_rfl, by kernel_rfl⟩
instance fo90_1 : FO Tryz.prog 90 1 2 3 := ⟨_, Tryz.underlying90, by kernel_rfl, by kernel_rfl⟩
instance ul91 : UL Tryz.prog 91 (Go.TypeDesc.struct #[{ name := "V", type := 89, offset := 0, embedded := false, tag := "", pkgPath := "", byteOffset := 0 }, { name := "Slot", type := 3, offset := 2, embedded := false, tag := "", pkgPath := "", byteOffset := 16 }]) := ⟨Tryz.underlying91⟩
instance pl91 : PL Tryz.prog 91 [(0, 2), (2, 1)] := ⟨by kernel_rfl⟩
instance fo91_0 : FO Tryz.prog 91 0 0 89 := ⟨_, Tryz.underlying91, by kernel_rfl, by kernel_rfl⟩
instance fo91_1 : FO Tryz.prog 91 1 2 3 := ⟨_, Tryz.underlying91, by kernel_rfl, by kernel_rfl⟩
instance ul92 : UL Tryz.prog 92 (Go.TypeDesc.pointer 197) := ⟨Tryz.underlying92⟩
instance ul93 : UL Tryz.prog 93 (Go.TypeDesc.tuple #[91, 31]) := ⟨Tryz.underlying93⟩
instance ul95 : UL Tryz.prog 95 (Go.TypeDesc.slice 91) := ⟨Tryz.underlying95⟩
instance ul96 : UL Tryz.prog 96 (Go.TypeDesc.tuple #[95, 31]) := ⟨Tryz.underlying96⟩
instance ul99 : UL Tryz.prog 99 (Go.TypeDesc.tuple #[3, 3, 31]) := ⟨Tryz.underlying99⟩
instance ul109 : UL Tryz.prog 109 (Go.TypeDesc.slice 115) := ⟨Tryz.underlying109⟩
instance ul114 : UL Tryz.prog 114 (Go.TypeDesc.struct #[{ name := "Extent", type := 3, offset := 0, embedded := false, tag := "", pkgPath := "", byteOffset := 0 }, { name := "Is", type := 4, offset := 1, embedded := false, tag := "", pkgPath := "", byteOffset := 8 }]) := ⟨Tryz.underlying114⟩
instance pl114 : PL Tryz.prog 114 [(0, 1), (1, 1)] := ⟨by kernel_rfl⟩
instance fo114_0 : FO Tryz.prog 114 0 0 3 := ⟨_, Tryz.underlying114, by kernel_rfl, by kernel_rfl⟩
instance fo114_1 : FO Tryz.prog 114 1 1 4 := ⟨_, Tryz.underlying114, by kernel_rfl, by kernel_rfl⟩
instance ul115 : UL Tryz.prog 115 (Go.TypeDesc.struct #[{ name := "Extent", type := 3, offset := 0, embedded := false, tag := "", pkgPath := "", byteOffset := 0 }, { name := "Is", type := 4, offset := 1, embedded := false, tag := "", pkgPath := "", byteOffset := 8 }]) := ⟨Tryz.underlying115⟩
instance pl115 : PL Tryz.prog 115 [(0, 1), (1, 1)] := ⟨by kernel_rfl⟩
instance fo115_0 : FO Tryz.prog 115 0 0 3 := ⟨_, Tryz.underlying115, by kernel_rfl, by kernel_rfl⟩
instance fo115_1 : FO Tryz.prog 115 1 1 4 := ⟨_, Tryz.underlying115, by kernel_rfl, by kernel_rfl⟩
instance ul117 : UL Tryz.prog 117 (Go.TypeDesc.slice 119) := ⟨Tryz.underlying117⟩
instance ul118 : UL Tryz.prog 118 (Go.TypeDesc.struct #[{ name := "Extent", type := 3, offset := 0, embedded := false, tag := "", pkgPath := "", byteOffset := 0 }, { name := "Entry", type := 91, offset := 1, embedded := false, tag := "", pkgPath := "", byteOffset := 8 }]) := ⟨Tryz.underlying118⟩
instance pl118 : PL Tryz.prog 118 [(0, 1), (1, 3)] := ⟨by kernel_rfl⟩
instance fo118_0 : FO Tryz.prog 118 0 0 3 := ⟨_, Tryz.underlying118, by kernel_rfl, by kernel_rfl⟩
instance fo118_1 : FO Tryz.prog 118 1 1 91 := ⟨_, Tryz.underlying118, by kernel_rfl, by kernel_rfl⟩
instance ul119 : UL Tryz.prog 119 (Go.TypeDesc.struct #[{ name := "Extent", type := 3, offset := 0, embedded := false, tag := "", pkgPath := "", byteOffset := 0 }, { name := "Entry", type := 91, offset := 1, embedded := false, tag := "", pkgPath := "", byteOffset := 8 }]) := ⟨Tryz.underlying119⟩
instance pl119 : PL Tryz.prog 119 [(0, 1), (1, 3)] := ⟨by kernel_rfl⟩
instance fo119_0 : FO Tryz.prog 119 0 0 3 := ⟨_, Tryz.underlying119, by kernel_rfl, by kernel_rfl⟩
instance fo119_1 : FO Tryz.prog 119 1 1 91 := ⟨_, Tryz.underlying119, by kernel_rfl, by kernel_rfl⟩
instance ul123 : UL Tryz.prog 123 (Go.TypeDesc.struct #[{ name := "V", type := 89, offset := 0, embedded := false, tag := "", pkgPath := "", byteOffset := 0 }, { name := "Data", type := 9, offset := 2, embedded := false, tag := "", pkgPath := "", byteOffset := 16 }]) := ⟨Tryz.underlying123⟩
instance pl123 : PL Tryz.prog 123 [(0, 2), (2, 1)] := ⟨by kernel_rfl⟩
instance fo123_0 : FO Tryz.prog 123 0 0 89 := ⟨_, Tryz.underlying123, by kernel_rfl, by kernel_rfl⟩
instance fo123_1 : FO Tryz.prog 123 1 2 9 := ⟨_, Tryz.underlying123, by kernel_rfl, by kernel_rfl⟩
instance ul124 : UL Tryz.prog 124 (Go.TypeDesc.struct #[{ name := "V", type := 89, offset := 0, embedded := false, tag := "", pkgPath := "", byteOffset := 0 }, { name := "Data", type := 9, offset := 2, embedded := false, tag := "", pkgPath := "", byteOffset := 16 }]) := ⟨Tryz.underlying124⟩
instance pl124 : PL Tryz.prog 124 [(0, 2), (2, 1)] := ⟨by kernel_rfl⟩
instance fo124_0 : FO Tryz.prog 124 0 0 89 := ⟨_, Tryz.underlying124, by kernel_rfl, by kernel_rfl⟩
instance fo124_1 : FO Tryz.prog 124 1 2 9 := ⟨_, Tryz.underlying124, by kernel_rfl, by kernel_rfl⟩
instance ul125 : UL Tryz.prog 125 (Go.TypeDesc.struct #[{ name := "Extent", type := 3, offset := 0, embedded := false, tag := "", pkgPath := "", byteOffset := 0 }, { name := "A", type := 124, offset := 1, embedded := false, tag := "", pkgPath := "", byteOffset := 8 }, { name := "B", type := 124, offset := 4, embedded := false, tag := "", pkgPath := "", byteOffset := 40 }]) := ⟨Tryz.underlying125⟩
instance pl125 : PL Tryz.prog 125 [(0, 1), (1, 3), (4, 3)] := ⟨by kernel_rfl⟩
instance fo125_0 : FO Tryz.prog 125 0 0 3 := ⟨_, Tryz.underlying125, by kernel_rfl, by kernel_rfl⟩
instance fo125_1 : FO Tryz.prog 125 1 1 124 := ⟨_, Tryz.underlying125, by kernel_rfl, by kernel_rfl⟩
instance fo125_2 : FO Tryz.prog 125 2 4 124 := ⟨_, Tryz.underlying125, by kernel_rfl, by kernel_rfl⟩
instance ul126 : UL Tryz.prog 126 (Go.TypeDesc.struct #[{ name := "Extent", type := 3, offset := 0, embedded := false, tag := "", pkgPath := "", byteOffset := 0 }, { name := "A", type := 124, offset := 1, embedded := false, tag := "", pkgPath := "", byteOffset := 8 }, { name := "B", type := 124, offset := 4, embedded := false, tag := "", pkgPath := "", byteOffset := 40 }]) := ⟨Tryz.underlying126⟩
instance pl126 : PL Tryz.prog 126 [(0, 1), (1, 3), (4, 3)] := ⟨by kernel_rfl⟩
instance fo126_0 : FO Tryz.prog 126 0 0 3 := ⟨_, Tryz.underlying126, by kernel_rfl, by kernel_rfl⟩
instance fo126_1 : FO Tryz.prog 126 1 1 124 := ⟨_, Tryz.underlying126, by kernel_rfl, by kernel_rfl⟩
instance fo126_2 : FO Tryz.prog 126 2 4 124 := ⟨_, Tryz.underlying126, by kernel_rfl, by kernel_rfl⟩
instance ul127 : UL Tryz.prog 127 (Go.TypeDesc.pointer 203) := ⟨Tryz.underlying127⟩
instance ul128 : UL Tryz.prog 128 (Go.TypeDesc.tuple #[126, 4, 31]) := ⟨Tryz.underlying128⟩
instance ul130 : UL Tryz.prog 130 (Go.TypeDesc.tuple #[3, 126, 31]) := ⟨Tryz.underlying130⟩
instance ul134 : UL Tryz.prog 134 (Go.TypeDesc.tuple #[4, 31]) := ⟨Tryz.underlying134⟩
instance ul136 : UL Tryz.prog 136 (Go.TypeDesc.slice 126) := ⟨Tryz.underlying136⟩
instance ul137 : UL Tryz.prog 137 (Go.TypeDesc.tuple #[136, 31]) := ⟨Tryz.underlying137⟩
instance ul140 : UL Tryz.prog 140 (Go.TypeDesc.slice 144) := ⟨Tryz.underlying140⟩
instance ul143 : UL Tryz.prog 143 (Go.TypeDesc.struct #[{ name := "Kind", type := 3, offset := 0, embedded := false, tag := "", pkgPath := "", byteOffset := 0 }, { name := "Extent", type := 3, offset := 1, embedded := false, tag := "", pkgPath := "", byteOffset := 8 }, { name := "Pair", type := 126, offset := 2, embedded := false, tag := "", pkgPath := "", byteOffset := 16 }]) := ⟨Tryz.underlying143⟩
instance pl143 : PL Tryz.prog 143 [(0, 1), (1, 1), (2, 7)] := ⟨by kernel_rfl⟩
instance fo143_0 : FO Tryz.prog 143 0 0 3 := ⟨_, Tryz.underlying143, by kernel_rfl, by kernel_rfl⟩
instance fo143_1 : FO Tryz.prog 143 1 1 3 := ⟨_, Tryz.underlying143, by kernel_rfl, by kernel_rfl⟩
instance fo143_2 : FO Tryz.prog 143 2 2 126 := ⟨_, Tryz.underlying143, by kernel_rfl, by kernel_rfl⟩
instance ul144 : UL Tryz.prog 144 (Go.TypeDesc.struct #[{ name := "Kind", type := 3, offset := 0, embedded := false, tag := "", pkgPath := "", byteOffset := 0 }, { name := "Extent", type := 3, offset := 1, embedded := false, tag := "", pkgPath := "", byteOffset := 8 }, { name := "Pair", type := 126, offset := 2, embedded := false, tag := "", pkgPath := "", byteOffset := 16 }]) := ⟨Tryz.underlying144⟩
instance pl144 : PL Tryz.prog 144 [(0, 1), (1, 1), (2, 7)] := ⟨by kernel_rfl⟩
instance fo144_0 : FO Tryz.prog 144 0 0 3 := ⟨_, Tryz.underlying144, by kernel_rfl, by kernel_rfl⟩
instance fo144_1 : FO Tryz.prog 144 1 1 3 := ⟨_, Tryz.underlying144, by kernel_rfl, by kernel_rfl⟩
instance fo144_2 : FO Tryz.prog 144 2 2 126 := ⟨_, Tryz.underlying144, by kernel_rfl, by kernel_rfl⟩
instance ul146 : UL Tryz.prog 146 (Go.TypeDesc.slice 9) := ⟨Tryz.underlying146⟩
instance ul147 : UL Tryz.prog 147 (Go.TypeDesc.slice 164) := ⟨Tryz.underlying147⟩
instance ul148 : UL Tryz.prog 148 (Go.TypeDesc.struct #[{ name := "Seen", type := 146, offset := 0, embedded := false, tag := "", pkgPath := "", byteOffset := 0 }, { name := "Staged", type := 147, offset := 1, embedded := false, tag := "", pkgPath := "", byteOffset := 24 }, { name := "Active", type := 4, offset := 2, embedded := false, tag := "", pkgPath := "", byteOffset := 48 }, { name := "From", type := 3, offset := 3, embedded := false, tag := "", pkgPath := "", byteOffset := 56 }, { name := "Many", type := 3, offset := 4, embedded := false, tag := "", pkgPath := "", byteOffset := 64 }, { name := "Used", type := 3, offset := 5, embedded := false, tag := "", pkgPath := "", byteOffset := 72 }, { name := "Sure", type := 4, offset := 6, embedded := false, tag := "", pkgPath := "", byteOffset := 80 }]) := ⟨Tryz.underlying148⟩
instance pl148 : PL Tryz.prog 148 [(0, 1), (1, 1), (2, 1), (3, 1), (4, 1), (5, 1), (6, 1)] := ⟨by kernel_rfl⟩
instance fo148_0 : FO Tryz.prog 148 0 0 146 := ⟨_, Tryz.underlying148, by kernel_rfl, by kernel_rfl⟩
instance fo148_1 : FO Tryz.prog 148 1 1 147 := ⟨_, Tryz.underlying148, by kernel_rfl, by kernel_rfl⟩
instance fo148_2 : FO Tryz.prog 148 2 2 4 := ⟨_, Tryz.underlying148, by kernel_rfl, by kernel_rfl⟩
instance fo148_3 : FO Tryz.prog 148 3 3 3 := ⟨_, Tryz.underlying148, by kernel_rfl, by kernel_rfl⟩
instance fo148_4 : FO Tryz.prog 148 4 4 3 := ⟨_, Tryz.underlying148, by kernel_rfl, by kernel_rfl⟩
instance fo148_5 : FO Tryz.prog 148 5 5 3 := ⟨_, Tryz.underlying148, by kernel_rfl, by kernel_rfl⟩
instance fo148_6 : FO Tryz.prog 148 6 6 4 := ⟨_, Tryz.underlying148, by kernel_rfl, by kernel_rfl⟩
instance ul149 : UL Tryz.prog 149 (Go.TypeDesc.struct #[{ name := "Seen", type := 146, offset := 0, embedded := false, tag := "", pkgPath := "", byteOffset := 0 }, { name := "Staged", type := 147, offset := 1, embedded := false, tag := "", pkgPath := "", byteOffset := 24 }, { name := "Active", type := 4, offset := 2, embedded := false, tag := "", pkgPath := "", byteOffset := 48 }, { name := "From", type := 3, offset := 3, embedded := false, tag := "", pkgPath := "", byteOffset := 56 }, { name := "Many", type := 3, offset := 4, embedded := false, tag := "", pkgPath := "", byteOffset := 64 }, { name := "Used", type := 3, offset := 5, embedded := false, tag := "", pkgPath := "", byteOffset := 72 }, { name := "Sure", type := 4, offset := 6, embedded := false, tag := "", pkgPath := "", byteOffset := 80 }]) := ⟨Tryz.underlying149⟩
instance pl149 : PL Tryz.prog 149 [(0, 1), (1, 1), (2, 1), (3, 1), (4, 1), (5, 1), (6, 1)] := ⟨by kernel_rfl⟩
instance fo149_0 : FO Tryz.prog 149 0 0 146 := ⟨_, Tryz.underlying149, by kernel_rfl, by kernel_rfl⟩
instance fo149_1 : FO Tryz.prog 149 1 1 147 := ⟨_, Tryz.underlying149, by kernel_rfl, by kernel_rfl⟩
instance fo149_2 : FO Tryz.prog 149 2 2 4 := ⟨_, Tryz.underlying149, by kernel_rfl, by kernel_rfl⟩
instance fo149_3 : FO Tryz.prog 149 3 3 3 := ⟨_, Tryz.underlying149, by kernel_rfl, by kernel_rfl⟩
instance fo149_4 : FO Tryz.prog 149 4 4 3 := ⟨_, Tryz.underlying149, by kernel_rfl, by kernel_rfl⟩
instance fo149_5 : FO Tryz.prog 149 5 5 3 := ⟨_, Tryz.underlying149, by kernel_rfl, by kernel_rfl⟩
instance fo149_6 : FO Tryz.prog 149 6 6 4 := ⟨_, Tryz.underlying149, by kernel_rfl, by kernel_rfl⟩
instance ul150 : UL Tryz.prog 150 (Go.TypeDesc.pointer 223) := ⟨Tryz.underlying150⟩
instance ul151 : UL Tryz.prog 151 (Go.TypeDesc.pointer 218) := ⟨Tryz.underlying151⟩
instance ul152 : UL Tryz.prog 152 (Go.TypeDesc.struct #[{ name := "d", type := 25, offset := 0, embedded := false, tag := "", pkgPath := "solder/wal", byteOffset := 0 }, { name := "front", type := 150, offset := 1, embedded := false, tag := "", pkgPath := "solder/wal", byteOffset := 8 }, { name := "log", type := 150, offset := 2, embedded := false, tag := "", pkgPath := "solder/wal", byteOffset := 16 }, { name := "from", type := 3, offset := 3, embedded := false, tag := "", pkgPath := "solder/wal", byteOffset := 24 }, { name := "many", type := 3, offset := 4, embedded := false, tag := "", pkgPath := "solder/wal", byteOffset := 32 }, { name := "gen", type := 3, offset := 5, embedded := false, tag := "", pkgPath := "solder/wal", byteOffset := 40 }, { name := "at", type := 3, offset := 6, embedded := false, tag := "", pkgPath := "solder/wal", byteOffset := 48 }, { name := "seq", type := 3, offset := 7, embedded := false, tag := "", pkgPath := "solder/wal", byteOffset := 56 }, { name := "used", type := 3, offset := 8, embedded := false, tag := "", pkgPath := "solder/wal", byteOffset := 64 }, { name := "active", type := 4, offset := 9, embedded := false, tag := "", pkgPath := "solder/wal", byteOffset := 72 }, { name := "committed", type := 4, offset := 10, embedded := false, tag := "", pkgPath := "solder/wal", byteOffset := 73 }, { name := "over", type := 151, offset := 11, embedded := false, tag := "", pkgPath := "solder/wal", byteOffset := 80 }]) := ⟨Tryz.underlying152⟩
instance pl152 : PL Tryz.prog 152 [(0, 1), (1, 1), (2, 1), (3, 1), (4, 1), (5, 1), (6, 1), (7, 1), (8, 1), (9, 1), (10, 1), (11, 1)] := ⟨by kernel_rfl⟩
instance fo152_0 : FO Tryz.prog 152 0 0 25 := ⟨_, Tryz.underlying152, by kernel_rfl, by kernel_rfl⟩
instance fo152_1 : FO Tryz.prog 152 1 1 150 := ⟨_, Tryz.underlying152, by kernel_rfl, by kernel_rfl⟩
instance fo152_2 : FO Tryz.prog 152 2 2 150 := ⟨_, Tryz.underlying152, by kernel_rfl, by kernel_rfl⟩
instance fo152_3 : FO Tryz.prog 152 3 3 3 := ⟨_, Tryz.underlying152, by kernel_rfl, by kernel_rfl⟩
instance fo152_4 : FO Tryz.prog 152 4 4 3 := ⟨_, Tryz.underlying152, by kernel_rfl, by kernel_rfl⟩
instance fo152_5 : FO Tryz.prog 152 5 5 3 := ⟨_, Tryz.underlying152, by kernel_rfl, by kernel_rfl⟩
instance fo152_6 : FO Tryz.prog 152 6 6 3 := ⟨_, Tryz.underlying152, by kernel_rfl, by kernel_rfl⟩
instance fo152_7 : FO Tryz.prog 152 7 7 3 := ⟨_, Tryz.underlying152, by kernel_rfl, by kernel_rfl⟩
instance fo152_8 : FO Tryz.prog 152 8 8 3 := ⟨_, Tryz.underlying152, by kernel_rfl, by kernel_rfl⟩
instance fo152_9 : FO Tryz.prog 152 9 9 4 := ⟨_, Tryz.underlying152, by kernel_rfl, by kernel_rfl⟩
instance fo152_10 : FO Tryz.prog 152 10 10 4 := ⟨_, Tryz.underlying152, by kernel_rfl, by kernel_rfl⟩
instance fo152_11 : FO Tryz.prog 152 11 11 151 := ⟨_, Tryz.underlying152, by kernel_rfl, by kernel_rfl⟩
instance ul153 : UL Tryz.prog 153 (Go.TypeDesc.struct #[{ name := "d", type := 25, offset := 0, embedded := false, tag := "", pkgPath := "solder/wal", byteOffset := 0 }, { name := "front", type := 150, offset := 1, embedded := false, tag := "", pkgPath := "solder/wal", byteOffset := 8 }, { name := "log", type := 150, offset := 2, embedded := false, tag := "", pkgPath := "solder/wal", byteOffset := 16 }, { name := "from", type := 3, offset := 3, embedded := false, tag := "", pkgPath := "solder/wal", byteOffset := 24 }, { name := "many", type := 3, offset := 4, embedded := false, tag := "", pkgPath := "solder/wal", byteOffset := 32 }, { name := "gen", type := 3, offset := 5, embedded := false, tag := "", pkgPath := "solder/wal", byteOffset := 40 }, { name := "at", type := 3, offset := 6, embedded := false, tag := "", pkgPath := "solder/wal", byteOffset := 48 }, { name := "seq", type := 3, offset := 7, embedded := false, tag := "", pkgPath := "solder/wal", byteOffset := 56 }, { name := "used", type := 3, offset := 8, embedded := false, tag := "", pkgPath := "solder/wal", byteOffset := 64 }, { name := "active", type := 4, offset := 9, embedded := false, tag := "", pkgPath := "solder/wal", byteOffset := 72 }, { name := "committed", type := 4, offset := 10, embedded := false, tag := "", pkgPath := "solder/wal", byteOffset := 73 }, { name := "over", type := 151, offset := 11, embedded := false, tag := "", pkgPath := "solder/wal", byteOffset := 80 }]) := ⟨Tryz.underlying153⟩
instance pl153 : PL Tryz.prog 153 [(0, 1), (1, 1), (2, 1), (3, 1), (4, 1), (5, 1), (6, 1), (7, 1), (8, 1), (9, 1), (10, 1), (11, 1)] := ⟨by kernel_rfl⟩
instance fo153_0 : FO Tryz.prog 153 0 0 25 := ⟨_, Tryz.underlying153, by kernel_rfl, by kernel_rfl⟩
instance fo153_1 : FO Tryz.prog 153 1 1 150 := ⟨_, Tryz.underlying153, by kernel_rfl, by kernel_rfl⟩
instance fo153_2 : FO Tryz.prog 153 2 2 150 := ⟨_, Tryz.underlying153, by kernel_rfl, by kernel_rfl⟩
instance fo153_3 : FO Tryz.prog 153 3 3 3 := ⟨_, Tryz.underlying153, by kernel_rfl, by kernel_rfl⟩
instance fo153_4 : FO Tryz.prog 153 4 4 3 := ⟨_, Tryz.underlying153, by kernel_rfl, by kernel_rfl⟩
instance fo153_5 : FO Tryz.prog 153 5 5 3 := ⟨_, Tryz.underlying153, by kernel_rfl, by kernel_rfl⟩
instance fo153_6 : FO Tryz.prog 153 6 6 3 := ⟨_, Tryz.underlying153, by kernel_rfl, by kernel_rfl⟩
instance fo153_7 : FO Tryz.prog 153 7 7 3 := ⟨_, Tryz.underlying153, by kernel_rfl, by kernel_rfl⟩
instance fo153_8 : FO Tryz.prog 153 8 8 3 := ⟨_, Tryz.underlying153, by kernel_rfl, by kernel_rfl⟩
instance fo153_9 : FO Tryz.prog 153 9 9 4 := ⟨_, Tryz.underlying153, by kernel_rfl, by kernel_rfl⟩
instance fo153_10 : FO Tryz.prog 153 10 10 4 := ⟨_, Tryz.underlying153, by kernel_rfl, by kernel_rfl⟩
instance fo153_11 : FO Tryz.prog 153 11 11 151 := ⟨_, Tryz.underlying153, by kernel_rfl, by kernel_rfl⟩
instance ul155 : UL Tryz.prog 155 (Go.TypeDesc.interface #[("Error", 86)]) := ⟨Tryz.underlying155⟩
instance ul156 : UL Tryz.prog 156 (Go.TypeDesc.interface #[("Error", 86)]) := ⟨Tryz.underlying156⟩
instance ul158 : UL Tryz.prog 158 (Go.TypeDesc.struct #[{ name := "Gen", type := 3, offset := 0, embedded := false, tag := "", pkgPath := "", byteOffset := 0 }, { name := "Seq", type := 3, offset := 1, embedded := false, tag := "", pkgPath := "", byteOffset := 8 }, { name := "At", type := 3, offset := 2, embedded := false, tag := "", pkgPath := "", byteOffset := 16 }]) := ⟨Tryz.underlying158⟩
instance pl158 : PL Tryz.prog 158 [(0, 1), (1, 1), (2, 1)] := ⟨by kernel_rfl⟩
instance fo158_0 : FO Tryz.prog 158 0 0 3 := ⟨_, Tryz.underlying158, by kernel_rfl, by kernel_rfl⟩
instance fo158_1 : FO Tryz.prog 158 1 1 3 := ⟨_, Tryz.underlying158, by kernel_rfl, by kernel_rfl⟩
instance fo158_2 : FO Tryz.prog 158 2 2 3 := ⟨_, Tryz.underlying158, by kernel_rfl, by kernel_rfl⟩
instance ul159 : UL Tryz.prog 159 (Go.TypeDesc.struct #[{ name := "Gen", type := 3, offset := 0, embedded := false, tag := "", pkgPath := "", byteOffset := 0 }, { name := "Seq", type := 3, offset := 1, embedded := false, tag := "", pkgPath := "", byteOffset := 8 }, { name := "At", type := 3, offset := 2, embedded := false, tag := "", pkgPath := "", byteOffset := 16 }]) := ⟨Tryz.underlying159⟩
instance pl159 : PL Tryz.prog 159 [(0, 1), (1, 1), (2, 1)] := ⟨by kernel_rfl⟩
instance fo159_0 : FO Tryz.prog 159 0 0 3 := ⟨_, Tryz.underlying159, by kernel_rfl, by kernel_rfl⟩
instance fo159_1 : FO Tryz.prog 159 1 1 3 := ⟨_, Tryz.underlying159, by kernel_rfl, by kernel_rfl⟩
instance fo159_2 : FO Tryz.prog 159 2 2 3 := ⟨_, Tryz.underlying159, by kernel_rfl, by kernel_rfl⟩
instance ul161 : UL Tryz.prog 161 (Go.TypeDesc.func #[279] #[] false) := ⟨Tryz.underlying161⟩
instance ul163 : UL Tryz.prog 163 (Go.TypeDesc.struct #[{ name := "At", type := 3, offset := 0, embedded := false, tag := "", pkgPath := "", byteOffset := 0 }, { name := "Data", type := 9, offset := 1, embedded := false, tag := "", pkgPath := "", byteOffset := 8 }]) := ⟨Tryz.underlying163⟩
instance pl163 : PL Tryz.prog 163 [(0, 1), (1, 1)] := ⟨by kernel_rfl⟩
instance fo163_0 : FO Tryz.prog 163 0 0 3 := ⟨_, Tryz.underlying163, by kernel_rfl, by kernel_rfl⟩
instance fo163_1 : FO Tryz.prog 163 1 1 9 := ⟨_, Tryz.underlying163, by kernel_rfl, by kernel_rfl⟩
instance ul164 : UL Tryz.prog 164 (Go.TypeDesc.struct #[{ name := "At", type := 3, offset := 0, embedded := false, tag := "", pkgPath := "", byteOffset := 0 }, { name := "Data", type := 9, offset := 1, embedded := false, tag := "", pkgPath := "", byteOffset := 8 }]) := ⟨Tryz.underlying164⟩
instance pl164 : PL Tryz.prog 164 [(0, 1), (1, 1)] := ⟨by kernel_rfl⟩
instance fo164_0 : FO Tryz.prog 164 0 0 3 := ⟨_, Tryz.underlying164, by kernel_rfl, by kernel_rfl⟩
instance fo164_1 : FO Tryz.prog 164 1 1 9 := ⟨_, Tryz.underlying164, by kernel_rfl, by kernel_rfl⟩
instance ul169 : UL Tryz.prog 169 (Go.TypeDesc.map 3 9) := ⟨Tryz.underlying169⟩
instance ul170 : UL Tryz.prog 170 (Go.TypeDesc.struct #[{ name := "sure", type := 146, offset := 0, embedded := false, tag := "", pkgPath := "solder/disk", byteOffset := 0 }, { name := "seen", type := 169, offset := 1, embedded := false, tag := "", pkgPath := "solder/disk", byteOffset := 24 }, { name := "waits", type := 147, offset := 2, embedded := false, tag := "", pkgPath := "solder/disk", byteOffset := 32 }, { name := "ops", type := 3, offset := 3, embedded := false, tag := "", pkgPath := "solder/disk", byteOffset := 56 }, { name := "fails", type := 70, offset := 4, embedded := false, tag := "", pkgPath := "solder/disk", byteOffset := 64 }, { name := "at", type := 3, offset := 5, embedded := false, tag := "", pkgPath := "solder/disk", byteOffset := 88 }, { name := "off", type := 4, offset := 6, embedded := false, tag := "", pkgPath := "solder/disk", byteOffset := 96 }]) := ⟨Tryz.underlying170⟩
instance pl170 : PL Tryz.prog 170 [(0, 1), (1, 1), (2, 1), (3, 1), (4, 1), (5, 1), (6, 1)] := ⟨by kernel_rfl⟩
instance fo170_0 : FO Tryz.prog 170 0 0 146 := ⟨_, Tryz.underlying170, by kernel_rfl, by kernel_rfl⟩
instance fo170_1 : FO Tryz.prog 170 1 1 169 := ⟨_, Tryz.underlying170, by kernel_rfl, by kernel_rfl⟩
instance fo170_2 : FO Tryz.prog 170 2 2 147 := ⟨_, Tryz.underlying170, by kernel_rfl, by kernel_rfl⟩
instance fo170_3 : FO Tryz.prog 170 3 3 3 := ⟨_, Tryz.underlying170, by kernel_rfl, by kernel_rfl⟩
instance fo170_4 : FO Tryz.prog 170 4 4 70 := ⟨_, Tryz.underlying170, by kernel_rfl, by kernel_rfl⟩
instance fo170_5 : FO Tryz.prog 170 5 5 3 := ⟨_, Tryz.underlying170, by kernel_rfl, by kernel_rfl⟩
instance fo170_6 : FO Tryz.prog 170 6 6 4 := ⟨_, Tryz.underlying170, by kernel_rfl, by kernel_rfl⟩
instance ul171 : UL Tryz.prog 171 (Go.TypeDesc.struct #[{ name := "sure", type := 146, offset := 0, embedded := false, tag := "", pkgPath := "solder/disk", byteOffset := 0 }, { name := "seen", type := 169, offset := 1, embedded := false, tag := "", pkgPath := "solder/disk", byteOffset := 24 }, { name := "waits", type := 147, offset := 2, embedded := false, tag := "", pkgPath := "solder/disk", byteOffset := 32 }, { name := "ops", type := 3, offset := 3, embedded := false, tag := "", pkgPath := "solder/disk", byteOffset := 56 }, { name := "fails", type := 70, offset := 4, embedded := false, tag := "", pkgPath := "solder/disk", byteOffset := 64 }, { name := "at", type := 3, offset := 5, embedded := false, tag := "", pkgPath := "solder/disk", byteOffset := 88 }, { name := "off", type := 4, offset := 6, embedded := false, tag := "", pkgPath := "solder/disk", byteOffset := 96 }]) := ⟨Tryz.underlying171⟩
instance pl171 : PL Tryz.prog 171 [(0, 1), (1, 1), (2, 1), (3, 1), (4, 1), (5, 1), (6, 1)] := ⟨by kernel_rfl⟩
instance fo171_0 : FO Tryz.prog 171 0 0 146 := ⟨_, Tryz.underlying171, by kernel_rfl, by kernel_rfl⟩
instance fo171_1 : FO Tryz.prog 171 1 1 169 := ⟨_, Tryz.underlying171, by kernel_rfl, by kernel_rfl⟩
instance fo171_2 : FO Tryz.prog 171 2 2 147 := ⟨_, Tryz.underlying171, by kernel_rfl, by kernel_rfl⟩
instance fo171_3 : FO Tryz.prog 171 3 3 3 := ⟨_, Tryz.underlying171, by kernel_rfl, by kernel_rfl⟩
instance fo171_4 : FO Tryz.prog 171 4 4 70 := ⟨_, Tryz.underlying171, by kernel_rfl, by kernel_rfl⟩
instance fo171_5 : FO Tryz.prog 171 5 5 3 := ⟨_, Tryz.underlying171, by kernel_rfl, by kernel_rfl⟩
instance fo171_6 : FO Tryz.prog 171 6 6 4 := ⟨_, Tryz.underlying171, by kernel_rfl, by kernel_rfl⟩
instance ul172 : UL Tryz.prog 172 (Go.TypeDesc.func #[] #[156] false) := ⟨Tryz.underlying172⟩
instance ul173 : UL Tryz.prog 173 (Go.TypeDesc.slice 172) := ⟨Tryz.underlying173⟩
instance ul174 : UL Tryz.prog 174 (Go.TypeDesc.tuple #[9, 4]) := ⟨Tryz.underlying174⟩
instance ul176 : UL Tryz.prog 176 (Go.TypeDesc.struct #[{ name := "super", type := 3, offset := 0, embedded := false, tag := "", pkgPath := "solder/layout", byteOffset := 0 }, { name := "journal", type := 3, offset := 1, embedded := false, tag := "", pkgPath := "solder/layout", byteOffset := 8 }, { name := "table", type := 3, offset := 2, embedded := false, tag := "", pkgPath := "solder/layout", byteOffset := 16 }, { name := "extents", type := 3, offset := 3, embedded := false, tag := "", pkgPath := "solder/layout", byteOffset := 24 }, { name := "slots", type := 3, offset := 4, embedded := false, tag := "", pkgPath := "solder/layout", byteOffset := 32 }, { name := "log", type := 3, offset := 5, embedded := false, tag := "", pkgPath := "solder/layout", byteOffset := 40 }, { name := "end", type := 3, offset := 6, embedded := false, tag := "", pkgPath := "solder/layout", byteOffset := 48 }]) := ⟨Tryz.underlying176⟩
instance pl176 : PL Tryz.prog 176 [(0, 1), (1, 1), (2, 1), (3, 1), (4, 1), (5, 1), (6, 1)] := ⟨by kernel_rfl⟩
instance fo176_0 : FO Tryz.prog 176 0 0 3 := ⟨_, Tryz.underlying176, by kernel_rfl, by kernel_rfl⟩
instance fo176_1 : FO Tryz.prog 176 1 1 3 := ⟨_, Tryz.underlying176, by kernel_rfl, by kernel_rfl⟩
instance fo176_2 : FO Tryz.prog 176 2 2 3 := ⟨_, Tryz.underlying176, by kernel_rfl, by kernel_rfl⟩
instance fo176_3 : FO Tryz.prog 176 3 3 3 := ⟨_, Tryz.underlying176, by kernel_rfl, by kernel_rfl⟩
instance fo176_4 : FO Tryz.prog 176 4 4 3 := ⟨_, Tryz.underlying176, by kernel_rfl, by kernel_rfl⟩
instance fo176_5 : FO Tryz.prog 176 5 5 3 := ⟨_, Tryz.underlying176, by kernel_rfl, by kernel_rfl⟩
instance fo176_6 : FO Tryz.prog 176 6 6 3 := ⟨_, Tryz.underlying176, by kernel_rfl, by kernel_rfl⟩
instance ul177 : UL Tryz.prog 177 (Go.TypeDesc.struct #[{ name := "super", type := 3, offset := 0, embedded := false, tag := "", pkgPath := "solder/layout", byteOffset := 0 }, { name := "journal", type := 3, offset := 1, embedded := false, tag := "", pkgPath := "solder/layout", byteOffset := 8 }, { name := "table", type := 3, offset := 2, embedded := false, tag := "", pkgPath := "solder/layout", byteOffset := 16 }, { name := "extents", type := 3, offset := 3, embedded := false, tag := "", pkgPath := "solder/layout", byteOffset := 24 }, { name := "slots", type := 3, offset := 4, embedded := false, tag := "", pkgPath := "solder/layout", byteOffset := 32 }, { name := "log", type := 3, offset := 5, embedded := false, tag := "", pkgPath := "solder/layout", byteOffset := 40 }, { name := "end", type := 3, offset := 6, embedded := false, tag := "", pkgPath := "solder/layout", byteOffset := 48 }]) := ⟨Tryz.underlying177⟩
instance pl177 : PL Tryz.prog 177 [(0, 1), (1, 1), (2, 1), (3, 1), (4, 1), (5, 1), (6, 1)] := ⟨by kernel_rfl⟩
instance fo177_0 : FO Tryz.prog 177 0 0 3 := ⟨_, Tryz.underlying177, by kernel_rfl, by kernel_rfl⟩
instance fo177_1 : FO Tryz.prog 177 1 1 3 := ⟨_, Tryz.underlying177, by kernel_rfl, by kernel_rfl⟩
instance fo177_2 : FO Tryz.prog 177 2 2 3 := ⟨_, Tryz.underlying177, by kernel_rfl, by kernel_rfl⟩
instance fo177_3 : FO Tryz.prog 177 3 3 3 := ⟨_, Tryz.underlying177, by kernel_rfl, by kernel_rfl⟩
instance fo177_4 : FO Tryz.prog 177 4 4 3 := ⟨_, Tryz.underlying177, by kernel_rfl, by kernel_rfl⟩
instance fo177_5 : FO Tryz.prog 177 5 5 3 := ⟨_, Tryz.underlying177, by kernel_rfl, by kernel_rfl⟩
instance fo177_6 : FO Tryz.prog 177 6 6 3 := ⟨_, Tryz.underlying177, by kernel_rfl, by kernel_rfl⟩
instance ul179 : UL Tryz.prog 179 (Go.TypeDesc.pointer 181) := ⟨Tryz.underlying179⟩
instance ul180 : UL Tryz.prog 180 (Go.TypeDesc.struct #[{ name := "addr", type := 179, offset := 0, embedded := false, tag := "", pkgPath := "strings", byteOffset := 0 }, { name := "buf", type := 41, offset := 1, embedded := false, tag := "", pkgPath := "strings", byteOffset := 8 }]) := ⟨Tryz.underlying180⟩
instance pl180 : PL Tryz.prog 180 [(0, 1), (1, 1)] := ⟨by kernel_rfl⟩
instance fo180_0 : FO Tryz.prog 180 0 0 179 := ⟨_, Tryz.underlying180, by kernel_rfl, by kernel_rfl⟩
instance fo180_1 : FO Tryz.prog 180 1 1 41 := ⟨_, Tryz.underlying180, by kernel_rfl, by kernel_rfl⟩
instance ul181 : UL Tryz.prog 181 (Go.TypeDesc.struct #[{ name := "addr", type := 179, offset := 0, embedded := false, tag := "", pkgPath := "strings", byteOffset := 0 }, { name := "buf", type := 41, offset := 1, embedded := false, tag := "", pkgPath := "strings", byteOffset := 8 }]) := ⟨Tryz.underlying181⟩
instance pl181 : PL Tryz.prog 181 [(0, 1), (1, 1)] := ⟨by kernel_rfl⟩
instance fo181_0 : FO Tryz.prog 181 0 0 179 := ⟨_, Tryz.underlying181, by kernel_rfl, by kernel_rfl⟩
instance fo181_1 : FO Tryz.prog 181 1 1 41 := ⟨_, Tryz.underlying181, by kernel_rfl, by kernel_rfl⟩
instance ul182 : UL Tryz.prog 182 (Go.TypeDesc.tuple #[3, 156]) := ⟨Tryz.underlying182⟩
instance ul188 : UL Tryz.prog 188 (Go.TypeDesc.pointer 254) := ⟨Tryz.underlying188⟩
instance ul191 : UL Tryz.prog 191 (Go.TypeDesc.struct #[{ name := "many", type := 3, offset := 0, embedded := false, tag := "", pkgPath := "solder/marks", byteOffset := 0 }, { name := "b", type := 41, offset := 1, embedded := false, tag := "", pkgPath := "solder/marks", byteOffset := 8 }]) := ⟨Tryz.underlying191⟩
instance pl191 : PL Tryz.prog 191 [(0, 1), (1, 1)] := ⟨by kernel_rfl⟩
instance fo191_0 : FO Tryz.prog 191 0 0 3 := ⟨_, Tryz.underlying191, by kernel_rfl, by kernel_rfl⟩
instance fo191_1 : FO Tryz.prog 191 1 1 41 := ⟨_, Tryz.underlying191, by kernel_rfl, by kernel_rfl⟩
instance ul192 : UL Tryz.prog 192 (Go.TypeDesc.struct #[{ name := "many", type := 3, offset := 0, embedded := false, tag := "", pkgPath := "solder/marks", byteOffset := 0 }, { name := "b", type := 41, offset := 1, embedded := false, tag := "", pkgPath := "solder/marks", byteOffset := 8 }]) := ⟨Tryz.underlying192⟩
instance pl192 : PL Tryz.prog 192 [(0, 1), (1, 1)] := ⟨by kernel_rfl⟩
instance fo192_0 : FO Tryz.prog 192 0 0 3 := ⟨_, Tryz.underlying192, by kernel_rfl, by kernel_rfl⟩
instance fo192_1 : FO Tryz.prog 192 1 1 41 := ⟨_, Tryz.underlying192, by kernel_rfl, by kernel_rfl⟩
instance ul193 : UL Tryz.prog 193 (Go.TypeDesc.array 2 91) := ⟨Tryz.underlying193⟩
instance ul194 : UL Tryz.prog 194 (Go.TypeDesc.tuple #[3, 3, 193, 31]) := ⟨Tryz.underlying194⟩
instance ul196 : UL Tryz.prog 196 (Go.TypeDesc.struct #[{ name := "w", type := 26, offset := 0, embedded := false, tag := "", pkgPath := "solder/table", byteOffset := 0 }, { name := "c", type := 50, offset := 1, embedded := false, tag := "", pkgPath := "solder/table", byteOffset := 8 }]) := ⟨Tryz.underlying196⟩
instance pl196 : PL Tryz.prog 196 [(0, 1), (1, 3)] := ⟨by kernel_rfl⟩
instance fo196_0 : FO Tryz.prog 196 0 0 26 := ⟨_, Tryz.underlying196, by kernel_rfl, by kernel_rfl⟩
instance fo196_1 : FO Tryz.prog 196 1 1 50 := ⟨_, Tryz.underlying196, by kernel_rfl, by kernel_rfl⟩
instance ul197 : UL Tryz.prog 197 (Go.TypeDesc.struct #[{ name := "w", type := 26, offset := 0, embedded := false, tag := "", pkgPath := "solder/table", byteOffset := 0 }, { name := "c", type := 50, offset := 1, embedded := false, tag := "", pkgPath := "solder/table", byteOffset := 8 }]) := ⟨Tryz.underlying197⟩
instance pl197 : PL Tryz.prog 197 [(0, 1), (1, 3)] := ⟨by kernel_rfl⟩
instance fo197_0 : FO Tryz.prog 197 0 0 26 := ⟨_, Tryz.underlying197, by kernel_rfl, by kernel_rfl⟩
instance fo197_1 : FO Tryz.prog 197 1 1 50 := ⟨_, Tryz.underlying197, by kernel_rfl, by kernel_rfl⟩
instance ul202 : UL Tryz.prog 202 (Go.TypeDesc.struct #[{ name := "w", type := 26, offset := 0, embedded := false, tag := "", pkgPath := "solder/side", byteOffset := 0 }, { name := "c", type := 50, offset := 1, embedded := false, tag := "", pkgPath := "solder/side", byteOffset := 8 }]) := ⟨Tryz.underlying202⟩
instance pl202 : PL Tryz.prog 202 [(0, 1), (1, 3)] := ⟨by kernel_rfl⟩
instance fo202_0 : FO Tryz.prog 202 0 0 26 := ⟨_, Tryz.underlying202, by kernel_rfl, by kernel_rfl⟩
instance fo202_1 : FO Tryz.prog 202 1 1 50 := ⟨_, Tryz.underlying202, by kernel_rfl, by kernel_rfl⟩
instance ul203 : UL Tryz.prog 203 (Go.TypeDesc.struct #[{ name := "w", type := 26, offset := 0, embedded := false, tag := "", pkgPath := "solder/side", byteOffset := 0 }, { name := "c", type := 50, offset := 1, embedded := false, tag := "", pkgPath := "solder/side", byteOffset := 8 }]) := ⟨Tryz.underlying203⟩
instance pl203 : PL Tryz.prog 203 [(0, 1), (1, 3)] := ⟨by kernel_rfl⟩
instance fo203_0 : FO Tryz.prog 203 0 0 26 := ⟨_, Tryz.underlying203, by kernel_rfl, by kernel_rfl⟩
instance fo203_1 : FO Tryz.prog 203 1 1 50 := ⟨_, Tryz.underlying203, by kernel_rfl, by kernel_rfl⟩
instance ul205 : UL Tryz.prog 205 (Go.TypeDesc.slice 210) := ⟨Tryz.underlying205⟩
instance ul206 : UL Tryz.prog 206 (Go.TypeDesc.tuple #[205, 31]) := ⟨Tryz.underlying206⟩
instance ul209 : UL Tryz.prog 209 (Go.TypeDesc.struct #[{ name := "n", type := 3, offset := 0, embedded := false, tag := "", pkgPath := "solder/side", byteOffset := 0 }, { name := "p", type := 126, offset := 1, embedded := false, tag := "", pkgPath := "solder/side", byteOffset := 8 }]) := ⟨Tryz.underlying209⟩
instance pl209 : PL Tryz.prog 209 [(0, 1), (1, 7)] := ⟨by kernel_rfl⟩
instance fo209_0 : FO Tryz.prog 209 0 0 3 := ⟨_, Tryz.underlying209, by kernel_rfl, by kernel_rfl⟩
instance fo209_1 : FO Tryz.prog 209 1 1 126 := ⟨_, Tryz.underlying209, by kernel_rfl, by kernel_rfl⟩
instance ul210 : UL Tryz.prog 210 (Go.TypeDesc.struct #[{ name := "n", type := 3, offset := 0, embedded := false, tag := "", pkgPath := "solder/side", byteOffset := 0 }, { name := "p", type := 126, offset := 1, embedded := false, tag := "", pkgPath := "solder/side", byteOffset := 8 }]) := ⟨Tryz.underlying210⟩
instance pl210 : PL Tryz.prog 210 [(0, 1), (1, 7)] := ⟨by kernel_rfl⟩
instance fo210_0 : FO Tryz.prog 210 0 0 3 := ⟨_, Tryz.underlying210, by kernel_rfl, by kernel_rfl⟩
instance fo210_1 : FO Tryz.prog 210 1 1 126 := ⟨_, Tryz.underlying210, by kernel_rfl, by kernel_rfl⟩
instance ul211 : UL Tryz.prog 211 (Go.TypeDesc.func #[210] #[4] false) := ⟨Tryz.underlying211⟩
instance ul215 : UL Tryz.prog 215 (Go.TypeDesc.func #[3] #[31] false) := ⟨Tryz.underlying215⟩
instance ul216 : UL Tryz.prog 216 (Go.TypeDesc.map 3 9) := ⟨Tryz.underlying216⟩
instance ul217 : UL Tryz.prog 217 (Go.TypeDesc.struct #[{ name := "kept", type := 216, offset := 0, embedded := false, tag := "", pkgPath := "solder/shadow", byteOffset := 0 }, { name := "loose", type := 216, offset := 1, embedded := false, tag := "", pkgPath := "solder/shadow", byteOffset := 8 }]) := ⟨Tryz.underlying217⟩
instance pl217 : PL Tryz.prog 217 [(0, 1), (1, 1)] := ⟨by kernel_rfl⟩
instance fo217_0 : FO Tryz.prog 217 0 0 216 := ⟨_, Tryz.underlying217, by kernel_rfl, by kernel_rfl⟩
instance fo217_1 : FO Tryz.prog 217 1 1 216 := ⟨_, Tryz.underlying217, by kernel_rfl, by kernel_rfl⟩
instance ul218 : UL Tryz.prog 218 (Go.TypeDesc.struct #[{ name := "kept", type := 216, offset := 0, embedded := false, tag := "", pkgPath := "solder/shadow", byteOffset := 0 }, { name := "loose", type := 216, offset := 1, embedded := false, tag := "", pkgPath := "solder/shadow", byteOffset := 8 }]) := ⟨Tryz.underlying218⟩
instance pl218 : PL Tryz.prog 218 [(0, 1), (1, 1)] := ⟨by kernel_rfl⟩
instance fo218_0 : FO Tryz.prog 218 0 0 216 := ⟨_, Tryz.underlying218, by kernel_rfl, by kernel_rfl⟩
instance fo218_1 : FO Tryz.prog 218 1 1 216 := ⟨_, Tryz.underlying218, by kernel_rfl, by kernel_rfl⟩
instance ul220 : UL Tryz.prog 220 (Go.TypeDesc.pointer 31) := ⟨Tryz.underlying220⟩
instance ul222 : UL Tryz.prog 222 (Go.TypeDesc.struct #[{ name := "d", type := 25, offset := 0, embedded := false, tag := "", pkgPath := "solder/region", byteOffset := 0 }, { name := "from", type := 3, offset := 1, embedded := false, tag := "", pkgPath := "solder/region", byteOffset := 8 }, { name := "many", type := 3, offset := 2, embedded := false, tag := "", pkgPath := "solder/region", byteOffset := 16 }]) := ⟨Tryz.underlying222⟩
instance pl222 : PL Tryz.prog 222 [(0, 1), (1, 1), (2, 1)] := ⟨by kernel_rfl⟩
instance fo222_0 : FO Tryz.prog 222 0 0 25 := ⟨_, Tryz.underlying222, by kernel_rfl, by kernel_rfl⟩
instance fo222_1 : FO Tryz.prog 222 1 1 3 := ⟨_, Tryz.underlying222, by kernel_rfl, by kernel_rfl⟩
instance fo222_2 : FO Tryz.prog 222 2 2 3 := ⟨_, Tryz.underlying222, by kernel_rfl, by kernel_rfl⟩
instance ul223 : UL Tryz.prog 223 (Go.TypeDesc.struct #[{ name := "d", type := 25, offset := 0, embedded := false, tag := "", pkgPath := "solder/region", byteOffset := 0 }, { name := "from", type := 3, offset := 1, embedded := false, tag := "", pkgPath := "solder/region", byteOffset := 8 }, { name := "many", type := 3, offset := 2, embedded := false, tag := "", pkgPath := "solder/region", byteOffset := 16 }]) := ⟨Tryz.underlying223⟩
instance pl223 : PL Tryz.prog 223 [(0, 1), (1, 1), (2, 1)] := ⟨by kernel_rfl⟩
instance fo223_0 : FO Tryz.prog 223 0 0 25 := ⟨_, Tryz.underlying223, by kernel_rfl, by kernel_rfl⟩
instance fo223_1 : FO Tryz.prog 223 1 1 3 := ⟨_, Tryz.underlying223, by kernel_rfl, by kernel_rfl⟩
instance fo223_2 : FO Tryz.prog 223 2 2 3 := ⟨_, Tryz.underlying223, by kernel_rfl, by kernel_rfl⟩
instance ul229 : UL Tryz.prog 229 (Go.TypeDesc.tuple #[150, 31]) := ⟨Tryz.underlying229⟩
instance ul232 : UL Tryz.prog 232 (Go.TypeDesc.tuple #[147, 31]) := ⟨Tryz.underlying232⟩
instance ul235 : UL Tryz.prog 235 (Go.TypeDesc.int IntKind.u64) := ⟨Tryz.underlying235⟩
instance ul236 : UL Tryz.prog 236 (Go.TypeDesc.tuple #[235, 235]) := ⟨Tryz.underlying236⟩
instance ul241 : UL Tryz.prog 241 (Go.TypeDesc.tuple #[159, 31]) := ⟨Tryz.underlying241⟩
instance ul243 : UL Tryz.prog 243 (Go.TypeDesc.slice 246) := ⟨Tryz.underlying243⟩
instance ul245 : UL Tryz.prog 245 (Go.TypeDesc.struct #[{ name := "Seq", type := 3, offset := 0, embedded := false, tag := "", pkgPath := "", byteOffset := 0 }, { name := "At", type := 3, offset := 1, embedded := false, tag := "", pkgPath := "", byteOffset := 8 }, { name := "Sectors", type := 147, offset := 2, embedded := false, tag := "", pkgPath := "", byteOffset := 16 }]) := ⟨Tryz.underlying245⟩
instance pl245 : PL Tryz.prog 245 [(0, 1), (1, 1), (2, 1)] := ⟨by kernel_rfl⟩
instance fo245_0 : FO Tryz.prog 245 0 0 3 := ⟨_, Tryz.underlying245, by kernel_rfl, by kernel_rfl⟩
instance fo245_1 : FO Tryz.prog 245 1 1 3 := ⟨_, Tryz.underlying245, by kernel_rfl, by kernel_rfl⟩
instance fo245_2 : FO Tryz.prog 245 2 2 147 := ⟨_, Tryz.underlying245, by kernel_rfl, by kernel_rfl⟩
instance ul246 : UL Tryz.prog 246 (Go.TypeDesc.struct #[{ name := "Seq", type := 3, offset := 0, embedded := false, tag := "", pkgPath := "", byteOffset := 0 }, { name := "At", type := 3, offset := 1, embedded := false, tag := "", pkgPath := "", byteOffset := 8 }, { name := "Sectors", type := 147, offset := 2, embedded := false, tag := "", pkgPath := "", byteOffset := 16 }]) := ⟨Tryz.underlying246⟩
instance pl246 : PL Tryz.prog 246 [(0, 1), (1, 1), (2, 1)] := ⟨by kernel_rfl⟩
instance fo246_0 : FO Tryz.prog 246 0 0 3 := ⟨_, Tryz.underlying246, by kernel_rfl, by kernel_rfl⟩
instance fo246_1 : FO Tryz.prog 246 1 1 3 := ⟨_, Tryz.underlying246, by kernel_rfl, by kernel_rfl⟩
instance fo246_2 : FO Tryz.prog 246 2 2 147 := ⟨_, Tryz.underlying246, by kernel_rfl, by kernel_rfl⟩
instance ul247 : UL Tryz.prog 247 (Go.TypeDesc.func #[246] #[4] false) := ⟨Tryz.underlying247⟩
instance ul248 : UL Tryz.prog 248 (Go.TypeDesc.tuple #[31, 4]) := ⟨Tryz.underlying248⟩
instance ul250 : UL Tryz.prog 250 (Go.TypeDesc.pointer 5) := ⟨Tryz.underlying250⟩
instance ul252 : UL Tryz.prog 252 (Go.TypeDesc.array 4 5) := ⟨Tryz.underlying252⟩
instance ul253 : UL Tryz.prog 253 (Go.TypeDesc.struct #[{ name := "rest", type := 9, offset := 0, embedded := false, tag := "", pkgPath := "solder/field", byteOffset := 0 }, { name := "err", type := 31, offset := 1, embedded := false, tag := "", pkgPath := "solder/field", byteOffset := 16 }]) := ⟨Tryz.underlying253⟩
instance pl253 : PL Tryz.prog 253 [(0, 1), (1, 1)] := ⟨by kernel_rfl⟩
instance fo253_0 : FO Tryz.prog 253 0 0 9 := ⟨_, Tryz.underlying253, by kernel_rfl, by kernel_rfl⟩
instance fo253_1 : FO Tryz.prog 253 1 1 31 := ⟨_, Tryz.underlying253, by kernel_rfl, by kernel_rfl⟩
instance ul254 : UL Tryz.prog 254 (Go.TypeDesc.struct #[{ name := "rest", type := 9, offset := 0, embedded := false, tag := "", pkgPath := "solder/field", byteOffset := 0 }, { name := "err", type := 31, offset := 1, embedded := false, tag := "", pkgPath := "solder/field", byteOffset := 16 }]) := ⟨Tryz.underlying254⟩
instance pl254 : PL Tryz.prog 254 [(0, 1), (1, 1)] := ⟨by kernel_rfl⟩
instance fo254_0 : FO Tryz.prog 254 0 0 9 := ⟨_, Tryz.underlying254, by kernel_rfl, by kernel_rfl⟩
instance fo254_1 : FO Tryz.prog 254 1 1 31 := ⟨_, Tryz.underlying254, by kernel_rfl, by kernel_rfl⟩
instance ul256 : UL Tryz.prog 256 (Go.TypeDesc.tuple #[3, 5]) := ⟨Tryz.underlying256⟩
instance ul259 : UL Tryz.prog 259 (Go.TypeDesc.tuple #[193, 31]) := ⟨Tryz.underlying259⟩
instance ul264 : UL Tryz.prog 264 (Go.TypeDesc.unsafePointer) := ⟨Tryz.underlying264⟩
instance ul266 : UL Tryz.prog 266 (Go.TypeDesc.struct #[{ name := "typ_", type := 17, offset := 0, embedded := false, tag := "", pkgPath := "internal/reflectlite", byteOffset := 0 }, { name := "ptr", type := 264, offset := 1, embedded := false, tag := "", pkgPath := "internal/reflectlite", byteOffset := 8 }, { name := "flag", type := 265, offset := 2, embedded := true, tag := "", pkgPath := "internal/reflectlite", byteOffset := 16 }]) := ⟨Tryz.underlying266⟩
instance pl266 : PL Tryz.prog 266 [(0, 1), (1, 1), (2, 1)] := ⟨by kernel_rfl⟩
instance fo266_0 : FO Tryz.prog 266 0 0 17 := ⟨_, Tryz.underlying266, by kernel_rfl, by kernel_rfl⟩
instance fo266_1 : FO Tryz.prog 266 1 1 264 := ⟨_, Tryz.underlying266, by kernel_rfl, by kernel_rfl⟩
instance fo266_2 : FO Tryz.prog 266 2 2 265 := ⟨_, Tryz.underlying266, by kernel_rfl, by kernel_rfl⟩
instance ul267 : UL Tryz.prog 267 (Go.TypeDesc.struct #[{ name := "typ_", type := 17, offset := 0, embedded := false, tag := "", pkgPath := "internal/reflectlite", byteOffset := 0 }, { name := "ptr", type := 264, offset := 1, embedded := false, tag := "", pkgPath := "internal/reflectlite", byteOffset := 8 }, { name := "flag", type := 265, offset := 2, embedded := true, tag := "", pkgPath := "internal/reflectlite", byteOffset := 16 }]) := ⟨Tryz.underlying267⟩
instance pl267 : PL Tryz.prog 267 [(0, 1), (1, 1), (2, 1)] := ⟨by kernel_rfl⟩
instance fo267_0 : FO Tryz.prog 267 0 0 17 := ⟨_, Tryz.underlying267, by kernel_rfl, by kernel_rfl⟩
instance fo267_1 : FO Tryz.prog 267 1 1 264 := ⟨_, Tryz.underlying267, by kernel_rfl, by kernel_rfl⟩
instance fo267_2 : FO Tryz.prog 267 2 2 265 := ⟨_, Tryz.underlying267, by kernel_rfl, by kernel_rfl⟩
instance ul269 : UL Tryz.prog 269 (Go.TypeDesc.interface #[("AssignableTo", 274), ("Comparable", 23), ("Elem", 271), ("Implements", 274), ("Kind", 273), ("Name", 86), ("PkgPath", 86), ("Size", 372), ("String", 86), ("internal/reflectlite.common", 365), ("internal/reflectlite.uncommon", 373)]) := ⟨Tryz.underlying269⟩
instance ul270 : UL Tryz.prog 270 (Go.TypeDesc.interface #[("AssignableTo", 274), ("Comparable", 23), ("Elem", 271), ("Implements", 274), ("Kind", 273), ("Name", 86), ("PkgPath", 86), ("Size", 372), ("String", 86), ("internal/reflectlite.common", 365), ("internal/reflectlite.uncommon", 373)]) := ⟨Tryz.underlying270⟩
instance ul272 : UL Tryz.prog 272 (Go.TypeDesc.int IntKind.u8) := ⟨Tryz.underlying272⟩
instance ul276 : UL Tryz.prog 276 (Go.TypeDesc.pointer 278) := ⟨Tryz.underlying276⟩
instance ul277 : UL Tryz.prog 277 (Go.TypeDesc.struct #[{ name := "what", type := 9, offset := 0, embedded := false, tag := "", pkgPath := "solder/wal", byteOffset := 0 }, { name := "err", type := 156, offset := 1, embedded := false, tag := "", pkgPath := "solder/wal", byteOffset := 16 }]) := ⟨Tryz.underlying277⟩
instance pl277 : PL Tryz.prog 277 [(0, 1), (1, 1)] := ⟨by kernel_rfl⟩
instance fo277_0 : FO Tryz.prog 277 0 0 9 := ⟨_, Tryz.underlying277, by kernel_rfl, by kernel_rfl⟩
instance fo277_1 : FO Tryz.prog 277 1 1 156 := ⟨_, Tryz.underlying277, by kernel_rfl, by kernel_rfl⟩
instance ul278 : UL Tryz.prog 278 (Go.TypeDesc.struct #[{ name := "what", type := 9, offset := 0, embedded := false, tag := "", pkgPath := "solder/wal", byteOffset := 0 }, { name := "err", type := 156, offset := 1, embedded := false, tag := "", pkgPath := "solder/wal", byteOffset := 16 }]) := ⟨Tryz.underlying278⟩
instance pl278 : PL Tryz.prog 278 [(0, 1), (1, 1)] := ⟨by kernel_rfl⟩
instance fo278_0 : FO Tryz.prog 278 0 0 9 := ⟨_, Tryz.underlying278, by kernel_rfl, by kernel_rfl⟩
instance fo278_1 : FO Tryz.prog 278 1 1 156 := ⟨_, Tryz.underlying278, by kernel_rfl, by kernel_rfl⟩
instance ul279 : UL Tryz.prog 279 (Go.TypeDesc.func #[3, 9] #[4] false) := ⟨Tryz.underlying279⟩
instance ul281 : UL Tryz.prog 281 (Go.TypeDesc.func #[164] #[4] false) := ⟨Tryz.underlying281⟩
instance ul282 : UL Tryz.prog 282 (Go.TypeDesc.int IntKind.u32) := ⟨Tryz.underlying282⟩
instance ul283 : UL Tryz.prog 283 (Go.TypeDesc.tuple #[282, 282]) := ⟨Tryz.underlying283⟩
instance ul285 : UL Tryz.prog 285 (Go.TypeDesc.tuple #[38, 38]) := ⟨Tryz.underlying285⟩
instance ul288 : UL Tryz.prog 288 (Go.TypeDesc.pointer 290) := ⟨Tryz.underlying288⟩
instance ul289 : UL Tryz.prog 289 (Go.TypeDesc.struct #[{ name := "r", type := 150, offset := 0, embedded := false, tag := "", pkgPath := "solder/logscan", byteOffset := 0 }, { name := "at", type := 3, offset := 1, embedded := false, tag := "", pkgPath := "solder/logscan", byteOffset := 8 }, { name := "seq", type := 3, offset := 2, embedded := false, tag := "", pkgPath := "solder/logscan", byteOffset := 16 }, { name := "used", type := 3, offset := 3, embedded := false, tag := "", pkgPath := "solder/logscan", byteOffset := 24 }, { name := "tell", type := 247, offset := 4, embedded := false, tag := "", pkgPath := "solder/logscan", byteOffset := 32 }, { name := "finished", type := 4, offset := 5, embedded := false, tag := "", pkgPath := "solder/logscan", byteOffset := 40 }]) := ⟨Tryz.underlying289⟩
instance pl289 : PL Tryz.prog 289 [(0, 1), (1, 1), (2, 1), (3, 1), (4, 1), (5, 1)] := ⟨by kernel_rfl⟩
instance fo289_0 : FO Tryz.prog 289 0 0 150 := ⟨_, Tryz.underlying289, by kernel_rfl, by kernel_rfl⟩
instance fo289_1 : FO Tryz.prog 289 1 1 3 := ⟨_, Tryz.underlying289, by kernel_rfl, by kernel_rfl⟩
instance fo289_2 : FO Tryz.prog 289 2 2 3 := ⟨_, Tryz.underlying289, by kernel_rfl, by kernel_rfl⟩
instance fo289_3 : FO Tryz.prog 289 3 3 3 := ⟨_, Tryz.underlying289, by kernel_rfl, by kernel_rfl⟩
instance fo289_4 : FO Tryz.prog 289 4 4 247 := ⟨_, Tryz.underlying289, by kernel_rfl, by kernel_rfl⟩
instance fo289_5 : FO Tryz.prog 289 5 5 4 := ⟨_, Tryz.underlying289, by kernel_rfl, by kernel_rfl⟩
instance ul290 : UL Tryz.prog 290 (Go.TypeDesc.struct #[{ name := "r", type := 150, offset := 0, embedded := false, tag := "", pkgPath := "solder/logscan", byteOffset := 0 }, { name := "at", type := 3, offset := 1, embedded := false, tag := "", pkgPath := "solder/logscan", byteOffset := 8 }, { name := "seq", type := 3, offset := 2, embedded := false, tag := "", pkgPath := "solder/logscan", byteOffset := 16 }, { name := "used", type := 3, offset := 3, embedded := false, tag := "", pkgPath := "solder/logscan", byteOffset := 24 }, { name := "tell", type := 247, offset := 4, embedded := false, tag := "", pkgPath := "solder/logscan", byteOffset := 32 }, { name := "finished", type := 4, offset := 5, embedded := false, tag := "", pkgPath := "solder/logscan", byteOffset := 40 }]) := ⟨Tryz.underlying290⟩
instance pl290 : PL Tryz.prog 290 [(0, 1), (1, 1), (2, 1), (3, 1), (4, 1), (5, 1)] := ⟨by kernel_rfl⟩
instance fo290_0 : FO Tryz.prog 290 0 0 150 := ⟨_, Tryz.underlying290, by kernel_rfl, by kernel_rfl⟩
instance fo290_1 : FO Tryz.prog 290 1 1 3 := ⟨_, Tryz.underlying290, by kernel_rfl, by kernel_rfl⟩
instance fo290_2 : FO Tryz.prog 290 2 2 3 := ⟨_, Tryz.underlying290, by kernel_rfl, by kernel_rfl⟩
instance fo290_3 : FO Tryz.prog 290 3 3 3 := ⟨_, Tryz.underlying290, by kernel_rfl, by kernel_rfl⟩
instance fo290_4 : FO Tryz.prog 290 4 4 247 := ⟨_, Tryz.underlying290, by kernel_rfl, by kernel_rfl⟩
instance fo290_5 : FO Tryz.prog 290 5 5 4 := ⟨_, Tryz.underlying290, by kernel_rfl, by kernel_rfl⟩
instance ul293 : UL Tryz.prog 293 (Go.TypeDesc.pointer 323) := ⟨Tryz.underlying293⟩
instance ul297 : UL Tryz.prog 297 (Go.TypeDesc.array 256 4) := ⟨Tryz.underlying297⟩
instance ul298 : UL Tryz.prog 298 (Go.TypeDesc.array 256 4) := ⟨Tryz.underlying298⟩
instance ul299 : UL Tryz.prog 299 (Go.TypeDesc.tuple #[298, 4]) := ⟨Tryz.underlying299⟩
instance ul302 : UL Tryz.prog 302 (Go.TypeDesc.pointer 298) := ⟨Tryz.underlying302⟩
instance ul310 : UL Tryz.prog 310 (Go.TypeDesc.interface #[("As", 312)]) := ⟨Tryz.underlying310⟩
instance ul311 : UL Tryz.prog 311 (Go.TypeDesc.tuple #[310, 4]) := ⟨Tryz.underlying311⟩
instance ul313 : UL Tryz.prog 313 (Go.TypeDesc.interface #[("Unwrap", 172)]) := ⟨Tryz.underlying313⟩
instance ul314 : UL Tryz.prog 314 (Go.TypeDesc.interface #[("Unwrap", 316)]) := ⟨Tryz.underlying314⟩
instance ul315 : UL Tryz.prog 315 (Go.TypeDesc.slice 156) := ⟨Tryz.underlying315⟩
instance ul322 : UL Tryz.prog 322 (Go.TypeDesc.struct #[{ name := "turned", type := 282, offset := 0, embedded := false, tag := "", pkgPath := "solder/cyclic", byteOffset := 0 }]) := ⟨Tryz.underlying322⟩
instance pl322 : PL Tryz.prog 322 [(0, 1)] := ⟨by kernel_rfl⟩
instance fo322_0 : FO Tryz.prog 322 0 0 282 := ⟨_, Tryz.underlying322, by kernel_rfl, by kernel_rfl⟩
instance ul323 : UL Tryz.prog 323 (Go.TypeDesc.struct #[{ name := "turned", type := 282, offset := 0, embedded := false, tag := "", pkgPath := "solder/cyclic", byteOffset := 0 }]) := ⟨Tryz.underlying323⟩
instance pl323 : PL Tryz.prog 323 [(0, 1)] := ⟨by kernel_rfl⟩
instance fo323_0 : FO Tryz.prog 323 0 0 282 := ⟨_, Tryz.underlying323, by kernel_rfl, by kernel_rfl⟩
instance ul326 : UL Tryz.prog 326 (Go.TypeDesc.tuple #[21, 3]) := ⟨Tryz.underlying326⟩
instance ul331 : UL Tryz.prog 331 (Go.TypeDesc.int IntKind.i64) := ⟨Tryz.underlying331⟩
instance ul332 : UL Tryz.prog 332 (Go.TypeDesc.tuple #[3, 331]) := ⟨Tryz.underlying332⟩
instance ul336 : UL Tryz.prog 336 (Go.TypeDesc.tuple #[3, 4]) := ⟨Tryz.underlying336⟩
instance ul341 : UL Tryz.prog 341 (Go.TypeDesc.tuple #[3, 147, 31]) := ⟨Tryz.underlying341⟩
instance ul344 : UL Tryz.prog 344 (Go.TypeDesc.int IntKind.u64) := ⟨Tryz.underlying344⟩
instance ul348 : UL Tryz.prog 348 (Go.TypeDesc.pointer 3) := ⟨Tryz.underlying348⟩
instance ul350 : UL Tryz.prog 350 (Go.TypeDesc.array 256 5) := ⟨Tryz.underlying350⟩
instance ul351 : UL Tryz.prog 351 (Go.TypeDesc.struct #[{ name := "lo", type := 5, offset := 0, embedded := false, tag := "", pkgPath := "unicode/utf8", byteOffset := 0 }, { name := "hi", type := 5, offset := 1, embedded := false, tag := "", pkgPath := "unicode/utf8", byteOffset := 1 }]) := ⟨Tryz.underlying351⟩
instance pl351 : PL Tryz.prog 351 [(0, 1), (1, 1)] := ⟨by kernel_rfl⟩
instance fo351_0 : FO Tryz.prog 351 0 0 5 := ⟨_, Tryz.underlying351, by kernel_rfl, by kernel_rfl⟩
instance fo351_1 : FO Tryz.prog 351 1 1 5 := ⟨_, Tryz.underlying351, by kernel_rfl, by kernel_rfl⟩
instance ul352 : UL Tryz.prog 352 (Go.TypeDesc.struct #[{ name := "lo", type := 5, offset := 0, embedded := false, tag := "", pkgPath := "unicode/utf8", byteOffset := 0 }, { name := "hi", type := 5, offset := 1, embedded := false, tag := "", pkgPath := "unicode/utf8", byteOffset := 1 }]) := ⟨Tryz.underlying352⟩
instance pl352 : PL Tryz.prog 352 [(0, 1), (1, 1)] := ⟨by kernel_rfl⟩
instance fo352_0 : FO Tryz.prog 352 0 0 5 := ⟨_, Tryz.underlying352, by kernel_rfl, by kernel_rfl⟩
instance fo352_1 : FO Tryz.prog 352 1 1 5 := ⟨_, Tryz.underlying352, by kernel_rfl, by kernel_rfl⟩
instance ul353 : UL Tryz.prog 353 (Go.TypeDesc.array 16 352) := ⟨Tryz.underlying353⟩
instance ul357 : UL Tryz.prog 357 (Go.TypeDesc.pointer 344) := ⟨Tryz.underlying357⟩
instance ul358 : UL Tryz.prog 358 (Go.TypeDesc.tuple #[3, 3]) := ⟨Tryz.underlying358⟩
theorem ec3 : EC Tryz.prog 3 1 [.int] := EC_int sc3 ul3
theorem se50 : SE Tryz.prog 50 [(0, 3), (1, 3), (2, 3)] := ⟨_, Tryz.underlying50, by rfl, by kernel_rfl, by kernel_rfl⟩
theorem ecf50 : ECF Tryz.prog 1 0 [(0, 3), (1, 3), (2, 3)] [.int, .int, .int] := ECF_cons (ec3.mono (by decide)) rfl (ECF_cons (ec3.mono (by decide)) rfl (ECF_cons (ec3.mono (by decide)) rfl (ECF_nil 1 _)))
theorem ec50 : EC Tryz.prog 50 2 [.int, .int, .int] := EC_struct se50 ag50 ti50 ecf50 rfl
instance eqs50 : EQS Tryz.prog 50 [.int, .int, .int] := EQS_mk se50 ecf50 (by decide)
theorem se63 : SE Tryz.prog 63 [(0, 3), (1, 3), (2, 3), (3, 3), (4, 50)] := ⟨_, Tryz.underlying63, by rfl, by kernel_rfl, by kernel_rfl⟩
theorem ecf63 : ECF Tryz.prog 2 0 [(0, 3), (1, 3), (2, 3), (3, 3), (4, 50)] [.int, .int, .int, .int, .int, .int, .int] := ECF_cons (ec3.mono (by decide)) rfl (ECF_cons (ec3.mono (by decide)) rfl (ECF_cons (ec3.mono (by decide)) rfl (ECF_cons (ec3.mono (by decide)) rfl (ECF_cons (ec50.mono (by decide)) rfl (ECF_nil 2 _)))))
theorem ec63 : EC Tryz.prog 63 3 [.int, .int, .int, .int, .int, .int, .int] := EC_struct se63 ag63 ti63 ecf63 rfl
instance eqs63 : EQS Tryz.prog 63 [.int, .int, .int, .int, .int, .int, .int] := EQS_mk se63 ecf63 (by decide)
theorem se89 : SE Tryz.prog 89 [(0, 3), (1, 3)] := ⟨_, Tryz.underlying89, by rfl, by kernel_rfl, by kernel_rfl⟩
theorem ecf89 : ECF Tryz.prog 1 0 [(0, 3), (1, 3)] [.int, .int] := ECF_cons (ec3.mono (by decide)) rfl (ECF_cons (ec3.mono (by decide)) rfl (ECF_nil 1 _))
theorem ec89 : EC Tryz.prog 89 2 [.int, .int] := EC_struct se89 ag89 ti89 ecf89 rfl
instance eqs89 : EQS Tryz.prog 89 [.int, .int] := EQS_mk se89 ecf89 (by decide)
theorem se91 : SE Tryz.prog 91 [(0, 89), (2, 3)] := ⟨_, Tryz.underlying91, by rfl, by kernel_rfl, by kernel_rfl⟩
theorem ecf91 : ECF Tryz.prog 2 0 [(0, 89), (2, 3)] [.int, .int, .int] := ECF_cons (ec89.mono (by decide)) rfl (ECF_cons (ec3.mono (by decide)) rfl (ECF_nil 2 _))
theorem ec91 : EC Tryz.prog 91 3 [.int, .int, .int] := EC_struct se91 ag91 ti91 ecf91 rfl
instance eqs91 : EQS Tryz.prog 91 [.int, .int, .int] := EQS_mk se91 ecf91 (by decide)
theorem ec9 : EC Tryz.prog 9 1 [.str] := EC_str sc9 ul9
theorem se124 : SE Tryz.prog 124 [(0, 89), (2, 9)] := ⟨_, Tryz.underlying124, by rfl, by kernel_rfl, by kernel_rfl⟩
theorem ecf124 : ECF Tryz.prog 2 0 [(0, 89), (2, 9)] [.int, .int, .str] := ECF_cons (ec89.mono (by decide)) rfl (ECF_cons (ec9.mono (by decide)) rfl (ECF_nil 2 _))
theorem ec124 : EC Tryz.prog 124 3 [.int, .int, .str] := EC_struct se124 ag124 ti124 ecf124 rfl
instance eqs124 : EQS Tryz.prog 124 [.int, .int, .str] := EQS_mk se124 ecf124 (by decide)
theorem se126 : SE Tryz.prog 126 [(0, 3), (1, 124), (4, 124)] := ⟨_, Tryz.underlying126, by rfl, by kernel_rfl, by kernel_rfl⟩
theorem ecf126 : ECF Tryz.prog 3 0 [(0, 3), (1, 124), (4, 124)] [.int, .int, .int, .str, .int, .int, .str] := ECF_cons (ec3.mono (by decide)) rfl (ECF_cons (ec124.mono (by decide)) rfl (ECF_cons (ec124.mono (by decide)) rfl (ECF_nil 3 _)))
theorem ec126 : EC Tryz.prog 126 4 [.int, .int, .int, .str, .int, .int, .str] := EC_struct se126 ag126 ti126 ecf126 rfl
instance eqs126 : EQS Tryz.prog 126 [.int, .int, .int, .str, .int, .int, .str] := EQS_mk se126 ecf126 (by decide)
theorem se159 : SE Tryz.prog 159 [(0, 3), (1, 3), (2, 3)] := ⟨_, Tryz.underlying159, by rfl, by kernel_rfl, by kernel_rfl⟩
theorem ecf159 : ECF Tryz.prog 1 0 [(0, 3), (1, 3), (2, 3)] [.int, .int, .int] := ECF_cons (ec3.mono (by decide)) rfl (ECF_cons (ec3.mono (by decide)) rfl (ECF_cons (ec3.mono (by decide)) rfl (ECF_nil 1 _)))
theorem ec159 : EC Tryz.prog 159 2 [.int, .int, .int] := EC_struct se159 ag159 ti159 ecf159 rfl
instance eqs159 : EQS Tryz.prog 159 [.int, .int, .int] := EQS_mk se159 ecf159 (by decide)
instance fn3 : IsFn Tryz.prog 3 := ⟨_, Tryz.func3, by kernel_rfl, by kernel_rfl⟩
instance fn4 : IsFn Tryz.prog 4 := ⟨_, Tryz.func4, by kernel_rfl, by kernel_rfl⟩
instance fn5 : IsFn Tryz.prog 5 := ⟨_, Tryz.func5, by kernel_rfl, by kernel_rfl⟩
instance fn6 : IsFn Tryz.prog 6 := ⟨_, Tryz.func6, by kernel_rfl, by kernel_rfl⟩
instance fn7 : IsFn Tryz.prog 7 := ⟨_, Tryz.func7, by kernel_rfl, by kernel_rfl⟩
instance fn8 : IsFn Tryz.prog 8 := ⟨_, Tryz.func8, by kernel_rfl, by kernel_rfl⟩
instance fn9 : IsFn Tryz.prog 9 := ⟨_, Tryz.func9, by kernel_rfl, by kernel_rfl⟩
instance fn10 : IsFn Tryz.prog 10 := ⟨_, Tryz.func10, by kernel_rfl, by kernel_rfl⟩
instance fn11 : IsFn Tryz.prog 11 := ⟨_, Tryz.func11, by kernel_rfl, by kernel_rfl⟩
instance fn12 : IsFn Tryz.prog 12 := ⟨_, Tryz.func12, by kernel_rfl, by kernel_rfl⟩
instance fn13 : IsFn Tryz.prog 13 := ⟨_, Tryz.func13, by kernel_rfl, by kernel_rfl⟩
instance fn14 : IsFn Tryz.prog 14 := ⟨_, Tryz.func14, by kernel_rfl, by kernel_rfl⟩
instance fn15 : IsFn Tryz.prog 15 := ⟨_, Tryz.func15, by kernel_rfl, by kernel_rfl⟩
instance fn16 : IsFn Tryz.prog 16 := ⟨_, Tryz.func16, by kernel_rfl, by kernel_rfl⟩
instance fn17 : IsFn Tryz.prog 17 := ⟨_, Tryz.func17, by kernel_rfl, by kernel_rfl⟩
instance fn18 : IsFn Tryz.prog 18 := ⟨_, Tryz.func18, by kernel_rfl, by kernel_rfl⟩
instance fn19 : IsFn Tryz.prog 19 := ⟨_, Tryz.func19, by kernel_rfl, by kernel_rfl⟩
instance fn20 : IsFn Tryz.prog 20 := ⟨_, Tryz.func20, by kernel_rfl, by kernel_rfl⟩
instance fn21 : IsFn Tryz.prog 21 := ⟨_, Tryz.func21, by kernel_rfl, by kernel_rfl⟩
instance fn22 : IsFn Tryz.prog 22 := ⟨_, Tryz.func22, by kernel_rfl, by kernel_rfl⟩
instance fn23 : IsFn Tryz.prog 23 := ⟨_, Tryz.func23, by kernel_rfl, by kernel_rfl⟩
instance fn24 : IsFn Tryz.prog 24 := ⟨_, Tryz.func24, by kernel_rfl, by kernel_rfl⟩
instance fn25 : IsFn Tryz.prog 25 := ⟨_, Tryz.func25, by kernel_rfl, by kernel_rfl⟩
instance fn26 : IsFn Tryz.prog 26 := ⟨_, Tryz.func26, by kernel_rfl, by kernel_rfl⟩
instance fn27 : IsFn Tryz.prog 27 := ⟨_, Tryz.func27, by kernel_rfl, by kernel_rfl⟩
instance fn28 : IsFn Tryz.prog 28 := ⟨_, Tryz.func28, by kernel_rfl, by kernel_rfl⟩
instance fn29 : IsFn Tryz.prog 29 := ⟨_, Tryz.func29, by kernel_rfl, by kernel_rfl⟩
instance fn30 : IsFn Tryz.prog 30 := ⟨_, Tryz.func30, by kernel_rfl, by kernel_rfl⟩
instance fn31 : IsFn Tryz.prog 31 := ⟨_, Tryz.func31, by kernel_rfl, by kernel_rfl⟩
instance fn32 : IsFn Tryz.prog 32 := ⟨_, Tryz.func32, by kernel_rfl, by kernel_rfl⟩
instance fn33 : IsFn Tryz.prog 33 := ⟨_, Tryz.func33, by kernel_rfl, by kernel_rfl⟩
instance fn34 : IsFn Tryz.prog 34 := ⟨_, Tryz.func34, by kernel_rfl, by kernel_rfl⟩
instance fn35 : IsFn Tryz.prog 35 := ⟨_, Tryz.func35, by kernel_rfl, by kernel_rfl⟩
instance fn36 : IsFn Tryz.prog 36 := ⟨_, Tryz.func36, by kernel_rfl, by kernel_rfl⟩
instance fn37 : IsFn Tryz.prog 37 := ⟨_, Tryz.func37, by kernel_rfl, by kernel_rfl⟩
instance fn38 : IsFn Tryz.prog 38 := ⟨_, Tryz.func38, by kernel_rfl, by kernel_rfl⟩
instance fn39 : IsFn Tryz.prog 39 := ⟨_, Tryz.func39, by kernel_rfl, by kernel_rfl⟩
instance fn40 : IsFn Tryz.prog 40 := ⟨_, Tryz.func40, by kernel_rfl, by kernel_rfl⟩
instance fn41 : IsFn Tryz.prog 41 := ⟨_, Tryz.func41, by kernel_rfl, by kernel_rfl⟩
instance fn42 : IsFn Tryz.prog 42 := ⟨_, Tryz.func42, by kernel_rfl, by kernel_rfl⟩
instance fn43 : IsFn Tryz.prog 43 := ⟨_, Tryz.func43, by kernel_rfl, by kernel_rfl⟩
instance fn44 : IsFn Tryz.prog 44 := ⟨_, Tryz.func44, by kernel_rfl, by kernel_rfl⟩
instance fn45 : IsFn Tryz.prog 45 := ⟨_, Tryz.func45, by kernel_rfl, by kernel_rfl⟩
instance fn46 : IsFn Tryz.prog 46 := ⟨_, Tryz.func46, by kernel_rfl, by kernel_rfl⟩
instance fn47 : IsFn Tryz.prog 47 := ⟨_, Tryz.func47, by kernel_rfl, by kernel_rfl⟩
instance fn48 : IsFn Tryz.prog 48 := ⟨_, Tryz.func48, by kernel_rfl, by kernel_rfl⟩
instance fn49 : IsFn Tryz.prog 49 := ⟨_, Tryz.func49, by kernel_rfl, by kernel_rfl⟩
instance fn50 : IsFn Tryz.prog 50 := ⟨_, Tryz.func50, by kernel_rfl, by kernel_rfl⟩
instance fn51 : IsFn Tryz.prog 51 := ⟨_, Tryz.func51, by kernel_rfl, by kernel_rfl⟩
instance fn52 : IsFn Tryz.prog 52 := ⟨_, Tryz.func52, by kernel_rfl, by kernel_rfl⟩
instance fn53 : IsFn Tryz.prog 53 := ⟨_, Tryz.func53, by kernel_rfl, by kernel_rfl⟩
instance fn54 : IsFn Tryz.prog 54 := ⟨_, Tryz.func54, by kernel_rfl, by kernel_rfl⟩
instance fn55 : IsFn Tryz.prog 55 := ⟨_, Tryz.func55, by kernel_rfl, by kernel_rfl⟩
instance fn56 : IsFn Tryz.prog 56 := ⟨_, Tryz.func56, by kernel_rfl, by kernel_rfl⟩
instance fn57 : IsFn Tryz.prog 57 := ⟨_, Tryz.func57, by kernel_rfl, by kernel_rfl⟩
instance fn58 : IsFn Tryz.prog 58 := ⟨_, Tryz.func58, by kernel_rfl, by kernel_rfl⟩
instance fn59 : IsFn Tryz.prog 59 := ⟨_, Tryz.func59, by kernel_rfl, by kernel_rfl⟩
instance fn60 : IsFn Tryz.prog 60 := ⟨_, Tryz.func60, by kernel_rfl, by kernel_rfl⟩
instance fn61 : IsFn Tryz.prog 61 := ⟨_, Tryz.func61, by kernel_rfl, by kernel_rfl⟩
instance fn62 : IsFn Tryz.prog 62 := ⟨_, Tryz.func62, by kernel_rfl, by kernel_rfl⟩
instance fn63 : IsFn Tryz.prog 63 := ⟨_, Tryz.func63, by kernel_rfl, by kernel_rfl⟩
instance fn64 : IsFn Tryz.prog 64 := ⟨_, Tryz.func64, by kernel_rfl, by kernel_rfl⟩
instance fn65 : IsFn Tryz.prog 65 := ⟨_, Tryz.func65, by kernel_rfl, by kernel_rfl⟩
instance fn66 : IsFn Tryz.prog 66 := ⟨_, Tryz.func66, by kernel_rfl, by kernel_rfl⟩
instance fn67 : IsFn Tryz.prog 67 := ⟨_, Tryz.func67, by kernel_rfl, by kernel_rfl⟩
instance fn68 : IsFn Tryz.prog 68 := ⟨_, Tryz.func68, by kernel_rfl, by kernel_rfl⟩
instance fn69 : IsFn Tryz.prog 69 := ⟨_, Tryz.func69, by kernel_rfl, by kernel_rfl⟩
instance fn70 : IsFn Tryz.prog 70 := ⟨_, Tryz.func70, by kernel_rfl, by kernel_rfl⟩
instance fn71 : IsFn Tryz.prog 71 := ⟨_, Tryz.func71, by kernel_rfl, by kernel_rfl⟩
instance fn72 : IsFn Tryz.prog 72 := ⟨_, Tryz.func72, by kernel_rfl, by kernel_rfl⟩
instance fn73 : IsFn Tryz.prog 73 := ⟨_, Tryz.func73, by kernel_rfl, by kernel_rfl⟩
instance fn74 : IsFn Tryz.prog 74 := ⟨_, Tryz.func74, by kernel_rfl, by kernel_rfl⟩
instance fn75 : IsFn Tryz.prog 75 := ⟨_, Tryz.func75, by kernel_rfl, by kernel_rfl⟩
instance fn76 : IsFn Tryz.prog 76 := ⟨_, Tryz.func76, by kernel_rfl, by kernel_rfl⟩
instance fn77 : IsFn Tryz.prog 77 := ⟨_, Tryz.func77, by kernel_rfl, by kernel_rfl⟩
instance fn78 : IsFn Tryz.prog 78 := ⟨_, Tryz.func78, by kernel_rfl, by kernel_rfl⟩
instance fn79 : IsFn Tryz.prog 79 := ⟨_, Tryz.func79, by kernel_rfl, by kernel_rfl⟩
instance fn80 : IsFn Tryz.prog 80 := ⟨_, Tryz.func80, by kernel_rfl, by kernel_rfl⟩
instance fn81 : IsFn Tryz.prog 81 := ⟨_, Tryz.func81, by kernel_rfl, by kernel_rfl⟩
instance fn82 : IsFn Tryz.prog 82 := ⟨_, Tryz.func82, by kernel_rfl, by kernel_rfl⟩
instance fn83 : IsFn Tryz.prog 83 := ⟨_, Tryz.func83, by kernel_rfl, by kernel_rfl⟩
instance fn84 : IsFn Tryz.prog 84 := ⟨_, Tryz.func84, by kernel_rfl, by kernel_rfl⟩
instance fn85 : IsFn Tryz.prog 85 := ⟨_, Tryz.func85, by kernel_rfl, by kernel_rfl⟩
instance fn86 : IsFn Tryz.prog 86 := ⟨_, Tryz.func86, by kernel_rfl, by kernel_rfl⟩
instance fn87 : IsFn Tryz.prog 87 := ⟨_, Tryz.func87, by kernel_rfl, by kernel_rfl⟩
instance fn88 : IsFn Tryz.prog 88 := ⟨_, Tryz.func88, by kernel_rfl, by kernel_rfl⟩
instance fn89 : IsFn Tryz.prog 89 := ⟨_, Tryz.func89, by kernel_rfl, by kernel_rfl⟩
instance fn90 : IsFn Tryz.prog 90 := ⟨_, Tryz.func90, by kernel_rfl, by kernel_rfl⟩
instance fn91 : IsFn Tryz.prog 91 := ⟨_, Tryz.func91, by kernel_rfl, by kernel_rfl⟩
instance fn92 : IsFn Tryz.prog 92 := ⟨_, Tryz.func92, by kernel_rfl, by kernel_rfl⟩
instance fn93 : IsFn Tryz.prog 93 := ⟨_, Tryz.func93, by kernel_rfl, by kernel_rfl⟩
instance fn94 : IsFn Tryz.prog 94 := ⟨_, Tryz.func94, by kernel_rfl, by kernel_rfl⟩
instance fn95 : IsFn Tryz.prog 95 := ⟨_, Tryz.func95, by kernel_rfl, by kernel_rfl⟩
instance fn96 : IsFn Tryz.prog 96 := ⟨_, Tryz.func96, by kernel_rfl, by kernel_rfl⟩
instance fn97 : IsFn Tryz.prog 97 := ⟨_, Tryz.func97, by kernel_rfl, by kernel_rfl⟩
instance fn98 : IsFn Tryz.prog 98 := ⟨_, Tryz.func98, by kernel_rfl, by kernel_rfl⟩
instance fn99 : IsFn Tryz.prog 99 := ⟨_, Tryz.func99, by kernel_rfl, by kernel_rfl⟩
instance fn100 : IsFn Tryz.prog 100 := ⟨_, Tryz.func100, by kernel_rfl, by kernel_rfl⟩
instance fn101 : IsFn Tryz.prog 101 := ⟨_, Tryz.func101, by kernel_rfl, by kernel_rfl⟩
instance fn102 : IsFn Tryz.prog 102 := ⟨_, Tryz.func102, by kernel_rfl, by kernel_rfl⟩
instance fn103 : IsFn Tryz.prog 103 := ⟨_, Tryz.func103, by kernel_rfl, by kernel_rfl⟩
instance fn104 : IsFn Tryz.prog 104 := ⟨_, Tryz.func104, by kernel_rfl, by kernel_rfl⟩
instance fn105 : IsFn Tryz.prog 105 := ⟨_, Tryz.func105, by kernel_rfl, by kernel_rfl⟩
instance fn106 : IsFn Tryz.prog 106 := ⟨_, Tryz.func106, by kernel_rfl, by kernel_rfl⟩
instance fn107 : IsFn Tryz.prog 107 := ⟨_, Tryz.func107, by kernel_rfl, by kernel_rfl⟩
instance fn108 : IsFn Tryz.prog 108 := ⟨_, Tryz.func108, by kernel_rfl, by kernel_rfl⟩
instance fn109 : IsFn Tryz.prog 109 := ⟨_, Tryz.func109, by kernel_rfl, by kernel_rfl⟩
instance fn110 : IsFn Tryz.prog 110 := ⟨_, Tryz.func110, by kernel_rfl, by kernel_rfl⟩
instance fn111 : IsFn Tryz.prog 111 := ⟨_, Tryz.func111, by kernel_rfl, by kernel_rfl⟩
instance fn112 : IsFn Tryz.prog 112 := ⟨_, Tryz.func112, by kernel_rfl, by kernel_rfl⟩
instance fn113 : IsFn Tryz.prog 113 := ⟨_, Tryz.func113, by kernel_rfl, by kernel_rfl⟩
instance fn114 : IsFn Tryz.prog 114 := ⟨_, Tryz.func114, by kernel_rfl, by kernel_rfl⟩
instance fn115 : IsFn Tryz.prog 115 := ⟨_, Tryz.func115, by kernel_rfl, by kernel_rfl⟩
instance fn116 : IsFn Tryz.prog 116 := ⟨_, Tryz.func116, by kernel_rfl, by kernel_rfl⟩
instance fn117 : IsFn Tryz.prog 117 := ⟨_, Tryz.func117, by kernel_rfl, by kernel_rfl⟩
instance fn118 : IsFn Tryz.prog 118 := ⟨_, Tryz.func118, by kernel_rfl, by kernel_rfl⟩
instance fn119 : IsFn Tryz.prog 119 := ⟨_, Tryz.func119, by kernel_rfl, by kernel_rfl⟩
instance fn120 : IsFn Tryz.prog 120 := ⟨_, Tryz.func120, by kernel_rfl, by kernel_rfl⟩
instance fn121 : IsFn Tryz.prog 121 := ⟨_, Tryz.func121, by kernel_rfl, by kernel_rfl⟩
instance fn122 : IsFn Tryz.prog 122 := ⟨_, Tryz.func122, by kernel_rfl, by kernel_rfl⟩
instance fn123 : IsFn Tryz.prog 123 := ⟨_, Tryz.func123, by kernel_rfl, by kernel_rfl⟩
instance fn124 : IsFn Tryz.prog 124 := ⟨_, Tryz.func124, by kernel_rfl, by kernel_rfl⟩
instance fn125 : IsFn Tryz.prog 125 := ⟨_, Tryz.func125, by kernel_rfl, by kernel_rfl⟩
instance fn126 : IsFn Tryz.prog 126 := ⟨_, Tryz.func126, by kernel_rfl, by kernel_rfl⟩
instance fn127 : IsFn Tryz.prog 127 := ⟨_, Tryz.func127, by kernel_rfl, by kernel_rfl⟩
instance fn128 : IsFn Tryz.prog 128 := ⟨_, Tryz.func128, by kernel_rfl, by kernel_rfl⟩
instance fn129 : IsFn Tryz.prog 129 := ⟨_, Tryz.func129, by kernel_rfl, by kernel_rfl⟩
instance fn130 : IsFn Tryz.prog 130 := ⟨_, Tryz.func130, by kernel_rfl, by kernel_rfl⟩
instance fn131 : IsFn Tryz.prog 131 := ⟨_, Tryz.func131, by kernel_rfl, by kernel_rfl⟩
instance fn132 : IsFn Tryz.prog 132 := ⟨_, Tryz.func132, by kernel_rfl, by kernel_rfl⟩
instance fn133 : IsFn Tryz.prog 133 := ⟨_, Tryz.func133, by kernel_rfl, by kernel_rfl⟩
instance fn134 : IsFn Tryz.prog 134 := ⟨_, Tryz.func134, by kernel_rfl, by kernel_rfl⟩
instance fn135 : IsFn Tryz.prog 135 := ⟨_, Tryz.func135, by kernel_rfl, by kernel_rfl⟩
instance fn136 : IsFn Tryz.prog 136 := ⟨_, Tryz.func136, by kernel_rfl, by kernel_rfl⟩
instance fn137 : IsFn Tryz.prog 137 := ⟨_, Tryz.func137, by kernel_rfl, by kernel_rfl⟩
instance fn138 : IsFn Tryz.prog 138 := ⟨_, Tryz.func138, by kernel_rfl, by kernel_rfl⟩
instance fn139 : IsFn Tryz.prog 139 := ⟨_, Tryz.func139, by kernel_rfl, by kernel_rfl⟩
instance fn140 : IsFn Tryz.prog 140 := ⟨_, Tryz.func140, by kernel_rfl, by kernel_rfl⟩
instance fn141 : IsFn Tryz.prog 141 := ⟨_, Tryz.func141, by kernel_rfl, by kernel_rfl⟩
instance fn142 : IsFn Tryz.prog 142 := ⟨_, Tryz.func142, by kernel_rfl, by kernel_rfl⟩
instance fn143 : IsFn Tryz.prog 143 := ⟨_, Tryz.func143, by kernel_rfl, by kernel_rfl⟩
instance fn144 : IsFn Tryz.prog 144 := ⟨_, Tryz.func144, by kernel_rfl, by kernel_rfl⟩
instance fn145 : IsFn Tryz.prog 145 := ⟨_, Tryz.func145, by kernel_rfl, by kernel_rfl⟩
instance fn146 : IsFn Tryz.prog 146 := ⟨_, Tryz.func146, by kernel_rfl, by kernel_rfl⟩
instance fn147 : IsFn Tryz.prog 147 := ⟨_, Tryz.func147, by kernel_rfl, by kernel_rfl⟩
instance fn148 : IsFn Tryz.prog 148 := ⟨_, Tryz.func148, by kernel_rfl, by kernel_rfl⟩
instance fn149 : IsFn Tryz.prog 149 := ⟨_, Tryz.func149, by kernel_rfl, by kernel_rfl⟩
instance fn150 : IsFn Tryz.prog 150 := ⟨_, Tryz.func150, by kernel_rfl, by kernel_rfl⟩
instance fn151 : IsFn Tryz.prog 151 := ⟨_, Tryz.func151, by kernel_rfl, by kernel_rfl⟩
instance fn152 : IsFn Tryz.prog 152 := ⟨_, Tryz.func152, by kernel_rfl, by kernel_rfl⟩
instance fn153 : IsFn Tryz.prog 153 := ⟨_, Tryz.func153, by kernel_rfl, by kernel_rfl⟩
instance fn154 : IsFn Tryz.prog 154 := ⟨_, Tryz.func154, by kernel_rfl, by kernel_rfl⟩
instance fn155 : IsFn Tryz.prog 155 := ⟨_, Tryz.func155, by kernel_rfl, by kernel_rfl⟩
instance fn156 : IsFn Tryz.prog 156 := ⟨_, Tryz.func156, by kernel_rfl, by kernel_rfl⟩
instance fn157 : IsFn Tryz.prog 157 := ⟨_, Tryz.func157, by kernel_rfl, by kernel_rfl⟩
instance fn158 : IsFn Tryz.prog 158 := ⟨_, Tryz.func158, by kernel_rfl, by kernel_rfl⟩
instance fn159 : IsFn Tryz.prog 159 := ⟨_, Tryz.func159, by kernel_rfl, by kernel_rfl⟩
instance fn160 : IsFn Tryz.prog 160 := ⟨_, Tryz.func160, by kernel_rfl, by kernel_rfl⟩
instance fn161 : IsFn Tryz.prog 161 := ⟨_, Tryz.func161, by kernel_rfl, by kernel_rfl⟩
instance fn162 : IsFn Tryz.prog 162 := ⟨_, Tryz.func162, by kernel_rfl, by kernel_rfl⟩
instance fn163 : IsFn Tryz.prog 163 := ⟨_, Tryz.func163, by kernel_rfl, by kernel_rfl⟩
instance fn164 : IsFn Tryz.prog 164 := ⟨_, Tryz.func164, by kernel_rfl, by kernel_rfl⟩
instance fn165 : IsFn Tryz.prog 165 := ⟨_, Tryz.func165, by kernel_rfl, by kernel_rfl⟩
instance fn166 : IsFn Tryz.prog 166 := ⟨_, Tryz.func166, by kernel_rfl, by kernel_rfl⟩
instance fn167 : IsFn Tryz.prog 167 := ⟨_, Tryz.func167, by kernel_rfl, by kernel_rfl⟩
instance fn168 : IsFn Tryz.prog 168 := ⟨_, Tryz.func168, by kernel_rfl, by kernel_rfl⟩
instance fn169 : IsFn Tryz.prog 169 := ⟨_, Tryz.func169, by kernel_rfl, by kernel_rfl⟩
instance fn170 : IsFn Tryz.prog 170 := ⟨_, Tryz.func170, by kernel_rfl, by kernel_rfl⟩
instance fn171 : IsFn Tryz.prog 171 := ⟨_, Tryz.func171, by kernel_rfl, by kernel_rfl⟩
instance fn172 : IsFn Tryz.prog 172 := ⟨_, Tryz.func172, by kernel_rfl, by kernel_rfl⟩
instance fn173 : IsFn Tryz.prog 173 := ⟨_, Tryz.func173, by kernel_rfl, by kernel_rfl⟩
instance fn174 : IsFn Tryz.prog 174 := ⟨_, Tryz.func174, by kernel_rfl, by kernel_rfl⟩
instance fn175 : IsFn Tryz.prog 175 := ⟨_, Tryz.func175, by kernel_rfl, by kernel_rfl⟩
instance fn176 : IsFn Tryz.prog 176 := ⟨_, Tryz.func176, by kernel_rfl, by kernel_rfl⟩
instance fn177 : IsFn Tryz.prog 177 := ⟨_, Tryz.func177, by kernel_rfl, by kernel_rfl⟩
instance fn178 : IsFn Tryz.prog 178 := ⟨_, Tryz.func178, by kernel_rfl, by kernel_rfl⟩
instance fn179 : IsFn Tryz.prog 179 := ⟨_, Tryz.func179, by kernel_rfl, by kernel_rfl⟩
instance fn180 : IsFn Tryz.prog 180 := ⟨_, Tryz.func180, by kernel_rfl, by kernel_rfl⟩
instance fn181 : IsFn Tryz.prog 181 := ⟨_, Tryz.func181, by kernel_rfl, by kernel_rfl⟩
instance fn182 : IsFn Tryz.prog 182 := ⟨_, Tryz.func182, by kernel_rfl, by kernel_rfl⟩
instance fn183 : IsFn Tryz.prog 183 := ⟨_, Tryz.func183, by kernel_rfl, by kernel_rfl⟩
instance fn184 : IsFn Tryz.prog 184 := ⟨_, Tryz.func184, by kernel_rfl, by kernel_rfl⟩
instance fn185 : IsFn Tryz.prog 185 := ⟨_, Tryz.func185, by kernel_rfl, by kernel_rfl⟩
instance fn186 : IsFn Tryz.prog 186 := ⟨_, Tryz.func186, by kernel_rfl, by kernel_rfl⟩
instance fn187 : IsFn Tryz.prog 187 := ⟨_, Tryz.func187, by kernel_rfl, by kernel_rfl⟩
instance fn188 : IsFn Tryz.prog 188 := ⟨_, Tryz.func188, by kernel_rfl, by kernel_rfl⟩
instance fn189 : IsFn Tryz.prog 189 := ⟨_, Tryz.func189, by kernel_rfl, by kernel_rfl⟩
instance fn190 : IsFn Tryz.prog 190 := ⟨_, Tryz.func190, by kernel_rfl, by kernel_rfl⟩
instance fn191 : IsFn Tryz.prog 191 := ⟨_, Tryz.func191, by kernel_rfl, by kernel_rfl⟩
instance fn192 : IsFn Tryz.prog 192 := ⟨_, Tryz.func192, by kernel_rfl, by kernel_rfl⟩
instance fn193 : IsFn Tryz.prog 193 := ⟨_, Tryz.func193, by kernel_rfl, by kernel_rfl⟩
instance fn194 : IsFn Tryz.prog 194 := ⟨_, Tryz.func194, by kernel_rfl, by kernel_rfl⟩
instance fn195 : IsFn Tryz.prog 195 := ⟨_, Tryz.func195, by kernel_rfl, by kernel_rfl⟩
instance fn196 : IsFn Tryz.prog 196 := ⟨_, Tryz.func196, by kernel_rfl, by kernel_rfl⟩
instance fn197 : IsFn Tryz.prog 197 := ⟨_, Tryz.func197, by kernel_rfl, by kernel_rfl⟩
instance fn198 : IsFn Tryz.prog 198 := ⟨_, Tryz.func198, by kernel_rfl, by kernel_rfl⟩
instance fn199 : IsFn Tryz.prog 199 := ⟨_, Tryz.func199, by kernel_rfl, by kernel_rfl⟩
instance fn200 : IsFn Tryz.prog 200 := ⟨_, Tryz.func200, by kernel_rfl, by kernel_rfl⟩
instance fn201 : IsFn Tryz.prog 201 := ⟨_, Tryz.func201, by kernel_rfl, by kernel_rfl⟩
instance fn202 : IsFn Tryz.prog 202 := ⟨_, Tryz.func202, by kernel_rfl, by kernel_rfl⟩
instance fn203 : IsFn Tryz.prog 203 := ⟨_, Tryz.func203, by kernel_rfl, by kernel_rfl⟩
instance fn207 : IsFn Tryz.prog 207 := ⟨_, Tryz.func207, by kernel_rfl, by kernel_rfl⟩
instance fn208 : IsFn Tryz.prog 208 := ⟨_, Tryz.func208, by kernel_rfl, by kernel_rfl⟩
instance fn209 : IsFn Tryz.prog 209 := ⟨_, Tryz.func209, by kernel_rfl, by kernel_rfl⟩
instance fn210 : IsFn Tryz.prog 210 := ⟨_, Tryz.func210, by kernel_rfl, by kernel_rfl⟩
instance fn211 : IsFn Tryz.prog 211 := ⟨_, Tryz.func211, by kernel_rfl, by kernel_rfl⟩
instance fn212 : IsFn Tryz.prog 212 := ⟨_, Tryz.func212, by kernel_rfl, by kernel_rfl⟩
instance fn213 : IsFn Tryz.prog 213 := ⟨_, Tryz.func213, by kernel_rfl, by kernel_rfl⟩
instance fn214 : IsFn Tryz.prog 214 := ⟨_, Tryz.func214, by kernel_rfl, by kernel_rfl⟩
instance fn215 : IsFn Tryz.prog 215 := ⟨_, Tryz.func215, by kernel_rfl, by kernel_rfl⟩
instance fn216 : IsFn Tryz.prog 216 := ⟨_, Tryz.func216, by kernel_rfl, by kernel_rfl⟩
instance fn217 : IsFn Tryz.prog 217 := ⟨_, Tryz.func217, by kernel_rfl, by kernel_rfl⟩
instance fn218 : IsFn Tryz.prog 218 := ⟨_, Tryz.func218, by kernel_rfl, by kernel_rfl⟩
instance fn219 : IsFn Tryz.prog 219 := ⟨_, Tryz.func219, by kernel_rfl, by kernel_rfl⟩
instance fn220 : IsFn Tryz.prog 220 := ⟨_, Tryz.func220, by kernel_rfl, by kernel_rfl⟩
instance fn221 : IsFn Tryz.prog 221 := ⟨_, Tryz.func221, by kernel_rfl, by kernel_rfl⟩
instance fn222 : IsFn Tryz.prog 222 := ⟨_, Tryz.func222, by kernel_rfl, by kernel_rfl⟩
instance fn224 : IsFn Tryz.prog 224 := ⟨_, Tryz.func224, by kernel_rfl, by kernel_rfl⟩
instance fn225 : IsFn Tryz.prog 225 := ⟨_, Tryz.func225, by kernel_rfl, by kernel_rfl⟩
instance fn226 : IsFn Tryz.prog 226 := ⟨_, Tryz.func226, by kernel_rfl, by kernel_rfl⟩
instance fn227 : IsFn Tryz.prog 227 := ⟨_, Tryz.func227, by kernel_rfl, by kernel_rfl⟩
instance fn228 : IsFn Tryz.prog 228 := ⟨_, Tryz.func228, by kernel_rfl, by kernel_rfl⟩
instance fn229 : IsFn Tryz.prog 229 := ⟨_, Tryz.func229, by kernel_rfl, by kernel_rfl⟩
instance fn230 : IsFn Tryz.prog 230 := ⟨_, Tryz.func230, by kernel_rfl, by kernel_rfl⟩
instance fn231 : IsFn Tryz.prog 231 := ⟨_, Tryz.func231, by kernel_rfl, by kernel_rfl⟩
instance fn232 : IsFn Tryz.prog 232 := ⟨_, Tryz.func232, by kernel_rfl, by kernel_rfl⟩
instance fn233 : IsFn Tryz.prog 233 := ⟨_, Tryz.func233, by kernel_rfl, by kernel_rfl⟩
instance fn234 : IsFn Tryz.prog 234 := ⟨_, Tryz.func234, by kernel_rfl, by kernel_rfl⟩
instance fn235 : IsFn Tryz.prog 235 := ⟨_, Tryz.func235, by kernel_rfl, by kernel_rfl⟩
instance fn239 : IsFn Tryz.prog 239 := ⟨_, Tryz.func239, by kernel_rfl, by kernel_rfl⟩
instance fn240 : IsFn Tryz.prog 240 := ⟨_, Tryz.func240, by kernel_rfl, by kernel_rfl⟩
instance fn241 : IsFn Tryz.prog 241 := ⟨_, Tryz.func241, by kernel_rfl, by kernel_rfl⟩
instance fn242 : IsFn Tryz.prog 242 := ⟨_, Tryz.func242, by kernel_rfl, by kernel_rfl⟩
instance fn244 : IsFn Tryz.prog 244 := ⟨_, Tryz.func244, by kernel_rfl, by kernel_rfl⟩
instance fn245 : IsFn Tryz.prog 245 := ⟨_, Tryz.func245, by kernel_rfl, by kernel_rfl⟩
instance fn246 : IsFn Tryz.prog 246 := ⟨_, Tryz.func246, by kernel_rfl, by kernel_rfl⟩
instance fn247 : IsFn Tryz.prog 247 := ⟨_, Tryz.func247, by kernel_rfl, by kernel_rfl⟩
instance fn248 : IsFn Tryz.prog 248 := ⟨_, Tryz.func248, by kernel_rfl, by kernel_rfl⟩
instance fn249 : IsFn Tryz.prog 249 := ⟨_, Tryz.func249, by kernel_rfl, by kernel_rfl⟩
instance fn250 : IsFn Tryz.prog 250 := ⟨_, Tryz.func250, by kernel_rfl, by kernel_rfl⟩
instance fn251 : IsFn Tryz.prog 251 := ⟨_, Tryz.func251, by kernel_rfl, by kernel_rfl⟩
instance fn252 : IsFn Tryz.prog 252 := ⟨_, Tryz.func252, by kernel_rfl, by kernel_rfl⟩
instance fn253 : IsFn Tryz.prog 253 := ⟨_, Tryz.func253, by kernel_rfl, by kernel_rfl⟩
instance fn254 : IsFn Tryz.prog 254 := ⟨_, Tryz.func254, by kernel_rfl, by kernel_rfl⟩
instance fn255 : IsFn Tryz.prog 255 := ⟨_, Tryz.func255, by kernel_rfl, by kernel_rfl⟩
instance fn256 : IsFn Tryz.prog 256 := ⟨_, Tryz.func256, by kernel_rfl, by kernel_rfl⟩
instance fn257 : IsFn Tryz.prog 257 := ⟨_, Tryz.func257, by kernel_rfl, by kernel_rfl⟩
instance fn258 : IsFn Tryz.prog 258 := ⟨_, Tryz.func258, by kernel_rfl, by kernel_rfl⟩
instance fn259 : IsFn Tryz.prog 259 := ⟨_, Tryz.func259, by kernel_rfl, by kernel_rfl⟩
instance fn260 : IsFn Tryz.prog 260 := ⟨_, Tryz.func260, by kernel_rfl, by kernel_rfl⟩
instance fn261 : IsFn Tryz.prog 261 := ⟨_, Tryz.func261, by kernel_rfl, by kernel_rfl⟩
instance fn262 : IsFn Tryz.prog 262 := ⟨_, Tryz.func262, by kernel_rfl, by kernel_rfl⟩
instance fn263 : IsFn Tryz.prog 263 := ⟨_, Tryz.func263, by kernel_rfl, by kernel_rfl⟩
instance fn264 : IsFn Tryz.prog 264 := ⟨_, Tryz.func264, by kernel_rfl, by kernel_rfl⟩
instance fn265 : IsFn Tryz.prog 265 := ⟨_, Tryz.func265, by kernel_rfl, by kernel_rfl⟩
instance fn266 : IsFn Tryz.prog 266 := ⟨_, Tryz.func266, by kernel_rfl, by kernel_rfl⟩
instance fn267 : IsFn Tryz.prog 267 := ⟨_, Tryz.func267, by kernel_rfl, by kernel_rfl⟩
instance fn268 : IsFn Tryz.prog 268 := ⟨_, Tryz.func268, by kernel_rfl, by kernel_rfl⟩
instance fn269 : IsFn Tryz.prog 269 := ⟨_, Tryz.func269, by kernel_rfl, by kernel_rfl⟩
instance fn270 : IsFn Tryz.prog 270 := ⟨_, Tryz.func270, by kernel_rfl, by kernel_rfl⟩
instance fn271 : IsFn Tryz.prog 271 := ⟨_, Tryz.func271, by kernel_rfl, by kernel_rfl⟩
instance fn272 : IsFn Tryz.prog 272 := ⟨_, Tryz.func272, by kernel_rfl, by kernel_rfl⟩
instance fn273 : IsFn Tryz.prog 273 := ⟨_, Tryz.func273, by kernel_rfl, by kernel_rfl⟩
instance fn274 : IsFn Tryz.prog 274 := ⟨_, Tryz.func274, by kernel_rfl, by kernel_rfl⟩
instance fn275 : IsFn Tryz.prog 275 := ⟨_, Tryz.func275, by kernel_rfl, by kernel_rfl⟩
instance fn276 : IsFn Tryz.prog 276 := ⟨_, Tryz.func276, by kernel_rfl, by kernel_rfl⟩
instance fn277 : IsFn Tryz.prog 277 := ⟨_, Tryz.func277, by kernel_rfl, by kernel_rfl⟩
instance fn279 : IsFn Tryz.prog 279 := ⟨_, Tryz.func279, by kernel_rfl, by kernel_rfl⟩
instance fn280 : IsFn Tryz.prog 280 := ⟨_, Tryz.func280, by kernel_rfl, by kernel_rfl⟩
end Go.Proofs.Sol

/-
  DERIVED: THE SHELF's CONTRACTS AT THIS DUMP, IN PLAIN WORDS (tools/lay-plain.mjs out of 'TryzShelf.lean', which tools/lay-shelf.mjs wrote): THE SAME DECLARATIONS UNDER THE SAME NAMES: 'import', 'namespace', 'open', 'def', 'theorem' AND NOTHING ELSE: no command of the shelf's: FOR A HAND-IN. Each laying: the table of numbers ('.._ren') and one theorem, a field a fact of the dump's own or the kernel's comparison; each contract: ONE APPLICATION.
-/
namespace Go.Proofs
open Go.Shelf
def Tryz.lays170_ren : Go.Shelf.Ren := ⟨fun | 170 => 179 | n => n, fun | 70 => 179 | 3 => 3 | 0 => 0 | 72 => 181 | 37 => 41 | 5 => 5 | n => n, fun | n => n⟩
theorem Tryz.lays170 : Go.Proofs.Lays.n170 Tryz.prog Tryz.lays170_ren := {
  mixed := by kernel_rfl
  f170 := Tryz.func179.trans (congrArg some (by kernel_rfl))
  t0 := Tryz.underlying0
  a0 := Tryz.isAgg0
  z0 := Tryz.sizeOf0
  v0 := Tryz.zeroValue0
  t3 := Tryz.underlying3
  a3 := Tryz.isAgg3
  z3 := Tryz.sizeOf3
  v3 := Tryz.zeroValue3
  t37 := Tryz.underlying41
  a37 := Tryz.isAgg41
  z37 := Tryz.sizeOf41
  v37 := Tryz.zeroValue41
  t70 := Tryz.underlying179
  a70 := Tryz.isAgg179
  z70 := Tryz.sizeOf179
  v70 := Tryz.zeroValue179
  t72 := Tryz.underlying181
  a72 := Tryz.isAgg181
  z72 := Tryz.sizeOf181
  v72 := Tryz.zeroValue181 }
open Go.RowKit in
/-- (*strings.Builder).Len: "Len returns the number of accumulated bytes; b.Len() == len(b.String()).": the world is as it was. (LAID: no walk: one application.) -/
theorem Tryz.Builder_Len (B b : Nat) (bs : List Value) (w : World) (h : Lib.IsBuilder 181 5 B b bs w) :
    Calls Tryz.prog 179 #[.pointer (some ⟨b, 0, none⟩)] w fun e w' => e = .returned (.int .i64 bs.length) ∧ w' = w := Any.Builder_Len Tryz.lays170 B b bs w h
def Tryz.lays169_ren : Go.Shelf.Ren := ⟨fun | 169 => 119 | n => n, fun | 70 => 179 | 9 => 9 | 0 => 0 | 72 => 181 | 37 => 41 | 127 => 250 | 3 => 3 | 5 => 5 | n => n, fun | n => n⟩
theorem Tryz.lays169 : Go.Proofs.Lays.n169 Tryz.prog Tryz.lays169_ren := {
  mixed := by kernel_rfl
  f169 := Tryz.func119.trans (congrArg some (by kernel_rfl))
  t0 := Tryz.underlying0
  a0 := Tryz.isAgg0
  z0 := Tryz.sizeOf0
  v0 := Tryz.zeroValue0
  t3 := Tryz.underlying3
  a3 := Tryz.isAgg3
  z3 := Tryz.sizeOf3
  v3 := Tryz.zeroValue3
  t9 := Tryz.underlying9
  a9 := Tryz.isAgg9
  z9 := Tryz.sizeOf9
  v9 := Tryz.zeroValue9
  t37 := Tryz.underlying41
  a37 := Tryz.isAgg41
  z37 := Tryz.sizeOf41
  v37 := Tryz.zeroValue41
  t70 := Tryz.underlying179
  a70 := Tryz.isAgg179
  z70 := Tryz.sizeOf179
  v70 := Tryz.zeroValue179
  t72 := Tryz.underlying181
  a72 := Tryz.isAgg181
  z72 := Tryz.sizeOf181
  v72 := Tryz.zeroValue181
  t127 := Tryz.underlying250
  a127 := Tryz.isAgg250
  z127 := Tryz.sizeOf250
  v127 := Tryz.zeroValue250 }
theorem Tryz.Builder_Extra_169 : Builder.Extra Tryz.prog Tryz.lays169_ren := {
  sizeBuilder := by kernel_rfl
  liesBuilder := by kernel_rfl
  t5 := Tryz.underlying5
  a5 := Tryz.isAgg5
  z5 := Tryz.sizeOf5
  v5 := Tryz.zeroValue5
  infoByte := by kernel_rfl
  cellsByte := by kernel_rfl
  sizeByte := by kernel_rfl
  neB5 := by decide }
open Go.RowKit in
/-- (*strings.Builder).String: "String returns the accumulated string.": OF A BUILDER THAT HOLDS AT LEAST ONE BYTE. ✋ THE MODEL FREEZES THOSE BYTES IN THE BUFFER (unsafe.String): a later write INTO them ends the model's run without an answer; a later append BEHIND them goes on. The statement's order of evaluation is drawn: one draw. (LAID: no walk: one application.) -/
theorem Tryz.Builder_String (B b : Nat) (l : List UInt8) (w : World) (h : Lib.IsBuilder 181 5 B b (Lib.byteCells l) w) (h0 : l ≠ []) :
    Calls Tryz.prog 119 #[.pointer (some ⟨b, 0, none⟩)] w fun e w' => e = .returned (.string ⟨l.toArray⟩) ∧ Below B w w' := Any.Builder_String Tryz.lays169 Tryz.Builder_Extra_169 B b l w h h0
open Go.RowKit in
/-- (*strings.Builder).String OF A BUILDER THAT HOLDS NO BYTE: the empty string. (Its buffer is nil, or a row of which it has taken nothing yet; where that row has NO capacity the model lays one new block for unsafe.SliceData's 'some address'.) One draw. (LAID: no walk: one application.) -/
theorem Tryz.Builder_String_empty (B b : Nat) (w : World) (h : Lib.IsBuilder 181 5 B b [] w) (hBw : B ≤ w.heap.size) :
    Calls Tryz.prog 119 #[.pointer (some ⟨b, 0, none⟩)] w fun e w' => e = .returned (.string ⟨#[]⟩) ∧ Below B w w' := Any.Builder_String_empty Tryz.lays169 Tryz.Builder_Extra_169 B b w h hBw
open Go.RowKit in
/-- (*strings.Builder).String: "String returns the accumulated string.": WHATEVER THE BUILDER HOLDS. (LAID: no walk: one application.) -/
theorem Tryz.Builder_String_any (B b : Nat) (l : List UInt8) (w : World) (h : Lib.IsBuilder 181 5 B b (Lib.byteCells l) w) (hBw : B ≤ w.heap.size) :
    Calls Tryz.prog 119 #[.pointer (some ⟨b, 0, none⟩)] w fun e w' => e = .returned (.string ⟨l.toArray⟩) ∧ Below B w w' := Any.Builder_String_any Tryz.lays169 Tryz.Builder_Extra_169 B b l w h hBw
def Tryz.lays241_ren : Go.Shelf.Ren := ⟨fun | 241 => 219 | 277 => 243 | n => n, fun | 70 => 179 | 3 => 3 | 0 => 0 | 72 => 181 | 37 => 41 | 5 => 5 | n => n, fun | n => n⟩
theorem Tryz.lays241 : Go.Proofs.Lays.n241 Tryz.prog Tryz.lays241_ren := {
  mixed := by kernel_rfl
  f241 := Tryz.func219.trans (congrArg some (by kernel_rfl))
  f277 := Tryz.func243.trans (congrArg some (by kernel_rfl))
  t0 := Tryz.underlying0
  a0 := Tryz.isAgg0
  z0 := Tryz.sizeOf0
  v0 := Tryz.zeroValue0
  t3 := Tryz.underlying3
  a3 := Tryz.isAgg3
  z3 := Tryz.sizeOf3
  v3 := Tryz.zeroValue3
  t37 := Tryz.underlying41
  a37 := Tryz.isAgg41
  z37 := Tryz.sizeOf41
  v37 := Tryz.zeroValue41
  t70 := Tryz.underlying179
  a70 := Tryz.isAgg179
  z70 := Tryz.sizeOf179
  v70 := Tryz.zeroValue179
  t72 := Tryz.underlying181
  a72 := Tryz.isAgg181
  z72 := Tryz.sizeOf181
  v72 := Tryz.zeroValue181 }
theorem Tryz.Builder_Extra_241 : Builder.Extra Tryz.prog Tryz.lays241_ren := {
  sizeBuilder := by kernel_rfl
  liesBuilder := by kernel_rfl
  t5 := Tryz.underlying5
  a5 := Tryz.isAgg5
  z5 := Tryz.sizeOf5
  v5 := Tryz.zeroValue5
  infoByte := by kernel_rfl
  cellsByte := by kernel_rfl
  sizeByte := by kernel_rfl
  neB5 := by decide }
open Go.RowKit in
/-- (*strings.Builder).grow (no doc but "grow copies the buffer to a new, larger buffer so that there are at least n bytes of capacity beyond len(b.buf)."): AT A BUILDER WITHOUT A BUFFER: a new row of whatever bytes for its buffer, none of them its own yet. Three draws. (LAID: no walk: one application.) -/
theorem Tryz.Builder_grow_fresh (B b n : Nat) (w : World) (hB : B ≤ b) (hbk : w.heap[b]? = some (.cells #[.pointer (some ⟨b, 0, none⟩), .slice none 0 0] 181 (0, 0))) (hBw : B ≤ w.heap.size) (hn : n ≤ 281474976710656) :
    Calls Tryz.prog 219 #[.pointer (some ⟨b, 0, none⟩), .int .i64 n] w fun e w' => e = .returned (.tuple #[]) ∧ (Lib.BuilderAt 181 5 B b (.pointer (some ⟨b, 0, none⟩)) [] w' ∧ Below B w w') := Any.Builder_grow_fresh Tryz.lays241 Tryz.Builder_Extra_241 B b n w hB hbk hBw hn
def Tryz.lays165_ren : Go.Shelf.Ren := ⟨fun | 165 => 178 | 240 => 186 | 241 => 219 | 276 => 223 | 277 => 243 | n => n, fun | 70 => 179 | 3 => 3 | 0 => 0 | 4 => 4 | 9 => 9 | 20 => 20 | 72 => 181 | 37 => 41 | 164 => 264 | 5 => 5 | n => n, fun | n => n⟩
theorem Tryz.lays165 : Go.Proofs.Lays.n165 Tryz.prog Tryz.lays165_ren := {
  mixed := by kernel_rfl
  f165 := Tryz.func178.trans (congrArg some (by kernel_rfl))
  f240 := Tryz.func186.trans (congrArg some (by kernel_rfl))
  f241 := Tryz.func219.trans (congrArg some (by kernel_rfl))
  f276 := Tryz.func223.trans (congrArg some (by kernel_rfl))
  f277 := Tryz.func243.trans (congrArg some (by kernel_rfl))
  t0 := Tryz.underlying0
  a0 := Tryz.isAgg0
  z0 := Tryz.sizeOf0
  v0 := Tryz.zeroValue0
  t3 := Tryz.underlying3
  a3 := Tryz.isAgg3
  z3 := Tryz.sizeOf3
  v3 := Tryz.zeroValue3
  t4 := Tryz.underlying4
  a4 := Tryz.isAgg4
  z4 := Tryz.sizeOf4
  v4 := Tryz.zeroValue4
  t9 := Tryz.underlying9
  a9 := Tryz.isAgg9
  z9 := Tryz.sizeOf9
  v9 := Tryz.zeroValue9
  t20 := Tryz.underlying20
  a20 := Tryz.isAgg20
  z20 := Tryz.sizeOf20
  v20 := Tryz.zeroValue20
  t37 := Tryz.underlying41
  a37 := Tryz.isAgg41
  z37 := Tryz.sizeOf41
  v37 := Tryz.zeroValue41
  t70 := Tryz.underlying179
  a70 := Tryz.isAgg179
  z70 := Tryz.sizeOf179
  v70 := Tryz.zeroValue179
  t72 := Tryz.underlying181
  a72 := Tryz.isAgg181
  z72 := Tryz.sizeOf181
  v72 := Tryz.zeroValue181
  t164 := Tryz.underlying264
  a164 := Tryz.isAgg264
  z164 := Tryz.sizeOf264
  v164 := Tryz.zeroValue264 }
theorem Tryz.Builder_Extra_165 : Builder.Extra Tryz.prog Tryz.lays165_ren := {
  sizeBuilder := by kernel_rfl
  liesBuilder := by kernel_rfl
  t5 := Tryz.underlying5
  a5 := Tryz.isAgg5
  z5 := Tryz.sizeOf5
  v5 := Tryz.zeroValue5
  infoByte := by kernel_rfl
  cellsByte := by kernel_rfl
  sizeByte := by kernel_rfl
  neB5 := by decide }
open Go.RowKit in
/-- (*strings.Builder).Grow AT A BUILDER THAT HAS NOT BEEN WRITTEN ('var b strings.Builder; b.Grow(n)'): "Grow grows b's capacity, if necessary, to guarantee space for another n bytes.": it holds no byte behind it as before it. (LAID: no walk: one application.) -/
theorem Tryz.Builder_Grow_fresh (B b n : Nat) (w : World) (hB : B ≤ b) (hbk : w.heap[b]? = some (.cells #[.pointer none, .slice none 0 0] 181 (0, 0))) (hBw : B ≤ w.heap.size) (hn : n ≤ 281474976710656) :
    Calls Tryz.prog 178 #[.pointer (some ⟨b, 0, none⟩), .int .i64 n] w fun e w' => e = .returned (.tuple #[]) ∧ (Lib.BuilderAt 181 5 B b (.pointer (some ⟨b, 0, none⟩)) [] w' ∧ Below B w w') := Any.Builder_Grow_fresh Tryz.lays165 Tryz.Builder_Extra_165 B b n w hB hbk hBw hn
def Tryz.lays119_ren : Go.Shelf.Ren := ⟨fun | 119 => 276 | n => n, fun | 21 => 21 | 4 => 4 | n => n, fun | n => n⟩
theorem Tryz.lays119 : Go.Proofs.Lays.n119 Tryz.prog Tryz.lays119_ren := {
  mixed := by kernel_rfl
  f119 := Tryz.func276.trans (congrArg some (by kernel_rfl))
  t4 := Tryz.underlying4
  a4 := Tryz.isAgg4
  z4 := Tryz.sizeOf4
  v4 := Tryz.zeroValue4
  t21 := Tryz.underlying21
  a21 := Tryz.isAgg21
  z21 := Tryz.sizeOf21
  v21 := Tryz.zeroValue21 }
/-- utf8.ValidRune: "ValidRune reports whether r can be legally encoded as UTF-8. Code points that are out of range or a surrogate half are illegal.": IT RETURNS 'Lib.validRune r'; the world is as it was. (LAID: no walk: one application.) -/
theorem Tryz.utf8_ValidRune (r : Int) (w : World) :
    Calls Tryz.prog 276 #[.int .i32 r] w fun e w' => e = .returned (.bool (Lib.validRune r)) ∧ w' = w := Any.utf8_ValidRune Tryz.lays119 r w
def Tryz.lays120_ren : Go.Shelf.Ren := ⟨fun | 120 => 268 | n => n, fun | 5 => 5 | 4 => 4 | n => n, fun | n => n⟩
theorem Tryz.lays120 : Go.Proofs.Lays.n120 Tryz.prog Tryz.lays120_ren := {
  mixed := by kernel_rfl
  f120 := Tryz.func268.trans (congrArg some (by kernel_rfl))
  t4 := Tryz.underlying4
  a4 := Tryz.isAgg4
  z4 := Tryz.sizeOf4
  v4 := Tryz.zeroValue4
  t5 := Tryz.underlying5
  a5 := Tryz.isAgg5
  z5 := Tryz.sizeOf5
  v5 := Tryz.zeroValue5 }
/-- utf8.RuneStart: "RuneStart reports whether the byte could be the first byte of an encoded, possibly invalid rune. Second and subsequent bytes always have the top two bits set to 10.": IT RETURNS 'Lib.runeStart b'; the world is as it was. ('h0', 'h1': b is a byte: a caller has it of every byte that it was handed.) (LAID: no walk: one application.) -/
theorem Tryz.utf8_RuneStart (b : Int) (w : World) (h0 : 0 ≤ b) (h1 : b < 256) :
    Calls Tryz.prog 268 #[.int .u8 b] w fun e w' => e = .returned (.bool (Lib.runeStart b)) ∧ w' = w := Any.utf8_RuneStart Tryz.lays120 b w h0 h1
def Tryz.lays137_ren : Go.Shelf.Ren := ⟨fun | 137 => 275 | 217 => 280 | 266 => 281 | n => n, fun | 9 => 9 | 5 => 5 | 3 => 3 | n => n, fun | n => n⟩
theorem Tryz.lays137 : Go.Proofs.Lays.n137 Tryz.prog Tryz.lays137_ren := {
  mixed := by kernel_rfl
  f137 := Tryz.func275.trans (congrArg some (by kernel_rfl))
  f217 := Tryz.func280.trans (congrArg some (by kernel_rfl))
  f266 := Tryz.func281.trans (congrArg some (by kernel_rfl))
  t3 := Tryz.underlying3
  a3 := Tryz.isAgg3
  z3 := Tryz.sizeOf3
  v3 := Tryz.zeroValue3
  t5 := Tryz.underlying5
  a5 := Tryz.isAgg5
  z5 := Tryz.sizeOf5
  v5 := Tryz.zeroValue5
  t9 := Tryz.underlying9
  a9 := Tryz.isAgg9
  z9 := Tryz.sizeOf9
  v9 := Tryz.zeroValue9 }
open Go.RowKit in
/-- strings.IndexByte: "IndexByte returns the index of the first instance of c in s, or -1 if c is not present in s.": IT RETURNS 'Lib.indexByte s c'; the world is as it was. (LAID: no walk: one application.) -/
theorem Tryz.strings_IndexByte (s : ByteArray) (c : Int) (w : World) :
    Calls Tryz.prog 275 #[.string s, .int .u8 c] w fun e w' => e = .returned (.int .i64 (Lib.indexByte s.data.toList c.toNat.toUInt8)) ∧ w' = w := Any.strings_IndexByte Tryz.lays137 s c w
open Go.RowKit in
/-- (*strings.Builder).Len: "Len returns the number of accumulated bytes; b.Len() == len(b.String()).": the world is as it was. (THE FORM '_f': 'Lib.IsBuilderF'.) (LAID: no walk: one application.) -/
theorem Tryz.Builder_Len_f (B b : Nat) (bs : List Value) (w : World) (h : Lib.IsBuilderF 181 5 B b bs w) :
    Calls Tryz.prog 179 #[.pointer (some ⟨b, 0, none⟩)] w fun e w' => e = .returned (.int .i64 bs.length) ∧ w' = w := Any.Builder_Len_f Tryz.lays170 B b bs w h
open Go.RowKit in
/-- (*strings.Builder).String: "String returns the accumulated string.": OF A BUILDER THAT HOLDS AT LEAST ONE BYTE. ✋ THE MODEL FREEZES THOSE BYTES IN THE BUFFER (unsafe.String): a later write INTO them ends the model's run without an answer; a later append BEHIND them goes on. The statement's order of evaluation is drawn: one draw. THE FORM '_f': IT SAYS BESIDES THAT THE BUILDER IS A BUILDER STILL ('Lib.IsBuilderF', the same bytes): SO IT CAN BE WRITTEN ON: 'b.WriteString(b.String()[:k])'. (LAID: no walk: one application.) -/
theorem Tryz.Builder_String_f (B b : Nat) (l : List UInt8) (w : World) (h : Lib.IsBuilderF 181 5 B b (Lib.byteCells l) w) (h0 : l ≠ []) :
    Calls Tryz.prog 119 #[.pointer (some ⟨b, 0, none⟩)] w fun e w' => e = .returned (.string ⟨l.toArray⟩) ∧ (Lib.IsBuilderF 181 5 B b (Lib.byteCells l) w' ∧ Below B w w') := Any.Builder_String_f Tryz.lays169 Tryz.Builder_Extra_169 B b l w h h0
open Go.RowKit in
/-- (*strings.Builder).String OF A BUILDER THAT HOLDS NO BYTE: the empty string; THE FORM '_f': a builder still. (LAID: no walk: one application.) -/
theorem Tryz.Builder_String_empty_f (B b : Nat) (w : World) (h : Lib.IsBuilderF 181 5 B b [] w) (hBw : B ≤ w.heap.size) :
    Calls Tryz.prog 119 #[.pointer (some ⟨b, 0, none⟩)] w fun e w' => e = .returned (.string ⟨#[]⟩) ∧ (Lib.IsBuilderF 181 5 B b [] w' ∧ Below B w w') := Any.Builder_String_empty_f Tryz.lays169 Tryz.Builder_Extra_169 B b w h hBw
open Go.RowKit in
/-- (*strings.Builder).String: "String returns the accumulated string.": WHATEVER THE BUILDER HOLDS; THE FORM '_f': OF A BUILDER THAT MAY HAVE BEEN READ BEFORE; AND IT IS A BUILDER STILL, holding the same bytes: it can be written on. (LAID: no walk: one application.) -/
theorem Tryz.Builder_String_any_f (B b : Nat) (l : List UInt8) (w : World) (h : Lib.IsBuilderF 181 5 B b (Lib.byteCells l) w) (hBw : B ≤ w.heap.size) :
    Calls Tryz.prog 119 #[.pointer (some ⟨b, 0, none⟩)] w fun e w' => e = .returned (.string ⟨l.toArray⟩) ∧ (Lib.IsBuilderF 181 5 B b (Lib.byteCells l) w' ∧ Below B w w') := Any.Builder_String_any_f Tryz.lays169 Tryz.Builder_Extra_169 B b l w h hBw
def Tryz.lays217_ren : Go.Shelf.Ren := ⟨fun | 217 => 280 | 266 => 281 | n => n, fun | 9 => 9 | 5 => 5 | 3 => 3 | n => n, fun | n => n⟩
theorem Tryz.lays217 : Go.Proofs.Lays.n217 Tryz.prog Tryz.lays217_ren := {
  mixed := by kernel_rfl
  f217 := Tryz.func280.trans (congrArg some (by kernel_rfl))
  f266 := Tryz.func281.trans (congrArg some (by kernel_rfl))
  t3 := Tryz.underlying3
  a3 := Tryz.isAgg3
  z3 := Tryz.sizeOf3
  v3 := Tryz.zeroValue3
  t5 := Tryz.underlying5
  a5 := Tryz.isAgg5
  z5 := Tryz.sizeOf5
  v5 := Tryz.zeroValue5
  t9 := Tryz.underlying9
  a9 := Tryz.isAgg9
  z9 := Tryz.sizeOf9
  v9 := Tryz.zeroValue9 }
open Go.RowKit Go.Lib in
/-- internal/stringslite.IndexByte (what strings.IndexByte calls): IT RETURNS 'Lib.indexByte s c'; the world is as it was. (LAID: no walk: one application.) -/
theorem Tryz.stringslite_IndexByte (s : ByteArray) (c : Int) (w : World) :
    Calls Tryz.prog 280 #[.string s, .int .u8 c] w fun e w' => e = .returned (.int .i64 (Lib.indexByte s.data.toList c.toNat.toUInt8)) ∧ w' = w := Any.stringslite_IndexByte Tryz.lays217 s c w
def Tryz.lays224_ren : Go.Shelf.Ren := ⟨fun | 224 => 277 | n => n, fun | 3 => 3 | n => n, fun | n => n⟩
theorem Tryz.lays224 : Go.Proofs.Lays.n224 Tryz.prog Tryz.lays224_ren := {
  mixed := by kernel_rfl
  f224 := Tryz.func277.trans (congrArg some (by kernel_rfl))
  t3 := Tryz.underlying3
  a3 := Tryz.isAgg3
  z3 := Tryz.sizeOf3
  v3 := Tryz.zeroValue3 }
open Go.RowKit Go.Lib in
/-- internal/bytealg.Cutover: "Cutover reports the number of failures of IndexByte we should tolerate before switching over to Index. n is the number of bytes processed so far.": on amd64: (n + 16) / 8. (LAID: no walk: one application.) -/
theorem Tryz.bytealg_Cutover (n : Int) (h0 : 0 ≤ n) (h1 : n < 4611686018427387904) (w : World) :
    Calls Tryz.prog 277 #[.int .i64 n] w fun e w' => e = .returned (.int .i64 ((n + 16) / 8)) ∧ w' = w := Any.bytealg_Cutover Tryz.lays224 n h0 h1 w
def Tryz.lays189_ren : Go.Shelf.Ren := ⟨fun | 189 => 209 | 125 => 240 | 257 => 239 | 128 => 261 | 129 => 262 | 294 => 252 | 295 => 253 | 296 => 254 | 297 => 255 | 298 => 256 | 299 => 257 | 216 => 258 | 300 => 259 | 301 => 260 | 328 => 269 | 329 => 270 | 330 => 271 | 331 => 272 | 332 => 273 | 215 => 274 | 343 => 279 | n => n, fun | 28 => 70 | 3 => 3 | 46 => 235 | 0 => 0 | 51 => 282 | 53 => 38 | 4 => 4 | 183 => 332 | 182 => 331 | 131 => 336 | 5 => 5 | 9 => 9 | 218 => 344 | 222 => 348 | 228 => 357 | 229 => 358 | n => n, fun | n => n⟩
theorem Tryz.lays189 : Go.Proofs.Lays.n189 Tryz.prog Tryz.lays189_ren := {
  mixed := by kernel_rfl
  f125 := Tryz.func240.trans (congrArg some (by kernel_rfl))
  f128 := Tryz.func261.trans (congrArg some (by kernel_rfl))
  f129 := Tryz.func262.trans (congrArg some (by kernel_rfl))
  f189 := Tryz.func209.trans (congrArg some (by kernel_rfl))
  f215 := Tryz.func274.trans (congrArg some (by kernel_rfl))
  f216 := Tryz.func258.trans (congrArg some (by kernel_rfl))
  f257 := Tryz.func239.trans (congrArg some (by kernel_rfl))
  f294 := Tryz.func252.trans (congrArg some (by kernel_rfl))
  f295 := Tryz.func253.trans (congrArg some (by kernel_rfl))
  f296 := Tryz.func254.trans (congrArg some (by kernel_rfl))
  f297 := Tryz.func255.trans (congrArg some (by kernel_rfl))
  f298 := Tryz.func256.trans (congrArg some (by kernel_rfl))
  f299 := Tryz.func257.trans (congrArg some (by kernel_rfl))
  f300 := Tryz.func259.trans (congrArg some (by kernel_rfl))
  f301 := Tryz.func260.trans (congrArg some (by kernel_rfl))
  f328 := Tryz.func269.trans (congrArg some (by kernel_rfl))
  f329 := Tryz.func270.trans (congrArg some (by kernel_rfl))
  f330 := Tryz.func271.trans (congrArg some (by kernel_rfl))
  f331 := Tryz.func272.trans (congrArg some (by kernel_rfl))
  f332 := Tryz.func273.trans (congrArg some (by kernel_rfl))
  f343 := Tryz.func279.trans (congrArg some (by kernel_rfl))
  t0 := Tryz.underlying0
  a0 := Tryz.isAgg0
  z0 := Tryz.sizeOf0
  v0 := Tryz.zeroValue0
  t3 := Tryz.underlying3
  a3 := Tryz.isAgg3
  z3 := Tryz.sizeOf3
  v3 := Tryz.zeroValue3
  t4 := Tryz.underlying4
  a4 := Tryz.isAgg4
  z4 := Tryz.sizeOf4
  v4 := Tryz.zeroValue4
  t5 := Tryz.underlying5
  a5 := Tryz.isAgg5
  z5 := Tryz.sizeOf5
  v5 := Tryz.zeroValue5
  t9 := Tryz.underlying9
  a9 := Tryz.isAgg9
  z9 := Tryz.sizeOf9
  v9 := Tryz.zeroValue9
  t28 := Tryz.underlying70
  a28 := Tryz.isAgg70
  z28 := Tryz.sizeOf70
  v28 := Tryz.zeroValue70
  t46 := Tryz.underlying235
  a46 := Tryz.isAgg235
  z46 := Tryz.sizeOf235
  v46 := Tryz.zeroValue235
  t51 := Tryz.underlying282
  a51 := Tryz.isAgg282
  z51 := Tryz.sizeOf282
  v51 := Tryz.zeroValue282
  t53 := Tryz.underlying38
  a53 := Tryz.isAgg38
  z53 := Tryz.sizeOf38
  v53 := Tryz.zeroValue38
  t131 := Tryz.underlying336
  a131 := Tryz.isAgg336
  z131 := Tryz.sizeOf336
  v131 := Tryz.zeroValue336
  t182 := Tryz.underlying331
  a182 := Tryz.isAgg331
  z182 := Tryz.sizeOf331
  v182 := Tryz.zeroValue331
  t183 := Tryz.underlying332
  a183 := Tryz.isAgg332
  z183 := Tryz.sizeOf332
  v183 := Tryz.zeroValue332
  t218 := Tryz.underlying344
  a218 := Tryz.isAgg344
  z218 := Tryz.sizeOf344
  v218 := Tryz.zeroValue344
  t222 := Tryz.underlying348
  a222 := Tryz.isAgg348
  z222 := Tryz.sizeOf348
  v222 := Tryz.zeroValue348
  t228 := Tryz.underlying357
  a228 := Tryz.isAgg357
  z228 := Tryz.sizeOf357
  v228 := Tryz.zeroValue357
  t229 := Tryz.underlying358
  a229 := Tryz.isAgg358
  z229 := Tryz.sizeOf358
  v229 := Tryz.zeroValue358 }
open Go.Sort Go.RowKit in
theorem Tryz.slices_Sort_int (blk off cap : Nat) (zs : List Int) (w : World) (hH : Holds (Value.int .i64) w blk off zs.toArray) (hblk : blk < w.heap.size) (hsz : zs.length < 4611686018427387904) :
    Calls Tryz.prog 209 #[.slice (some ⟨blk, off, none⟩) zs.length cap] w fun e w' =>
      e = .returned (.tuple #[]) ∧ ∃ n os, w' = grow (putRow (Value.int .i64) (Sort.ahead w n) blk off (zs.mergeSort fun x y => decide (x ≤ y)).toArray) os := Any.slices_Sort_int Tryz.lays189 blk off cap zs w hH hblk hsz
def Tryz.lays206_ren : Go.Shelf.Ren := ⟨fun | 206 => 218 | n => n, fun | 9 => 9 | 4 => 4 | 3 => 3 | n => n, fun | n => n⟩
theorem Tryz.lays206 : Go.Proofs.Lays.n206 Tryz.prog Tryz.lays206_ren := {
  mixed := by kernel_rfl
  f206 := Tryz.func218.trans (congrArg some (by kernel_rfl))
  t3 := Tryz.underlying3
  a3 := Tryz.isAgg3
  z3 := Tryz.sizeOf3
  v3 := Tryz.zeroValue3
  t4 := Tryz.underlying4
  a4 := Tryz.isAgg4
  z4 := Tryz.sizeOf4
  v4 := Tryz.zeroValue4
  t9 := Tryz.underlying9
  a9 := Tryz.isAgg9
  z9 := Tryz.sizeOf9
  v9 := Tryz.zeroValue9 }
open Go.RowKit Go.Lib in
/-- internal/stringslite.HasPrefix (what strings.HasPrefix calls). (LAID: no walk: one application.) -/
theorem Tryz.stringslite_HasPrefix (s p : ByteArray) (w : World) :
    Calls Tryz.prog 218 #[.string s, .string p] w fun e w' => e = .returned (.bool (Lib.hasPrefix s.data.toList p.data.toList)) ∧ w' = w := Any.stringslite_HasPrefix Tryz.lays206 s p w
def Tryz.lays99_ren : Go.Shelf.Ren := ⟨fun | 99 => 177 | 206 => 218 | n => n, fun | 9 => 9 | 4 => 4 | 3 => 3 | n => n, fun | n => n⟩
theorem Tryz.lays99 : Go.Proofs.Lays.n99 Tryz.prog Tryz.lays99_ren := {
  mixed := by kernel_rfl
  f99 := Tryz.func177.trans (congrArg some (by kernel_rfl))
  f206 := Tryz.func218.trans (congrArg some (by kernel_rfl))
  t3 := Tryz.underlying3
  a3 := Tryz.isAgg3
  z3 := Tryz.sizeOf3
  v3 := Tryz.zeroValue3
  t4 := Tryz.underlying4
  a4 := Tryz.isAgg4
  z4 := Tryz.sizeOf4
  v4 := Tryz.zeroValue4
  t9 := Tryz.underlying9
  a9 := Tryz.isAgg9
  z9 := Tryz.sizeOf9
  v9 := Tryz.zeroValue9 }
open Go.RowKit Go.Lib in
/-- strings.HasPrefix: "HasPrefix reports whether the string s begins with prefix.": IT RETURNS 'Lib.hasPrefix s prefix'; the world is as it was. (LAID: no walk: one application.) -/
theorem Tryz.strings_HasPrefix (s p : ByteArray) (w : World) :
    Calls Tryz.prog 177 #[.string s, .string p] w fun e w' => e = .returned (.bool (Lib.hasPrefix s.data.toList p.data.toList)) ∧ w' = w := Any.strings_HasPrefix Tryz.lays99 s p w
def Tryz.lays152_ren : Go.Shelf.Ren := ⟨fun | 152 => 267 | 137 => 275 | 119 => 276 | 224 => 277 | 225 => 278 | 217 => 280 | 266 => 281 | n => n, fun | 9 => 9 | 21 => 21 | 3 => 3 | 4 => 4 | 5 => 5 | 0 => 0 | 46 => 235 | n => n, fun | n => n⟩
theorem Tryz.lays152 : Go.Proofs.Lays.n152 Tryz.prog Tryz.lays152_ren := {
  mixed := by kernel_rfl
  f119 := Tryz.func276.trans (congrArg some (by kernel_rfl))
  f137 := Tryz.func275.trans (congrArg some (by kernel_rfl))
  f152 := Tryz.func267.trans (congrArg some (by kernel_rfl))
  f217 := Tryz.func280.trans (congrArg some (by kernel_rfl))
  f224 := Tryz.func277.trans (congrArg some (by kernel_rfl))
  f225 := Tryz.func278.trans (congrArg some (by kernel_rfl))
  f266 := Tryz.func281.trans (congrArg some (by kernel_rfl))
  t0 := Tryz.underlying0
  a0 := Tryz.isAgg0
  z0 := Tryz.sizeOf0
  v0 := Tryz.zeroValue0
  t3 := Tryz.underlying3
  a3 := Tryz.isAgg3
  z3 := Tryz.sizeOf3
  v3 := Tryz.zeroValue3
  t4 := Tryz.underlying4
  a4 := Tryz.isAgg4
  z4 := Tryz.sizeOf4
  v4 := Tryz.zeroValue4
  t5 := Tryz.underlying5
  a5 := Tryz.isAgg5
  z5 := Tryz.sizeOf5
  v5 := Tryz.zeroValue5
  t9 := Tryz.underlying9
  a9 := Tryz.isAgg9
  z9 := Tryz.sizeOf9
  v9 := Tryz.zeroValue9
  t21 := Tryz.underlying21
  a21 := Tryz.isAgg21
  z21 := Tryz.sizeOf21
  v21 := Tryz.zeroValue21
  t46 := Tryz.underlying235
  a46 := Tryz.isAgg235
  z46 := Tryz.sizeOf235
  v46 := Tryz.zeroValue235 }
open Go.RowKit Go.Lib in
theorem Tryz.strings_IndexRune_ascii (s : ByteArray) (r : Int) (w : World) (h0 : 0 ≤ r) (h1 : r < 128) :
    Calls Tryz.prog 267 #[.string s, .int .i32 r] w fun e w' => e = .returned (.int .i64 (Lib.indexByte s.data.toList r.toNat.toUInt8)) ∧ w' = w := Any.strings_IndexRune_ascii Tryz.lays152 s r w h0 h1
def Tryz.lays151_ren : Go.Shelf.Ren := ⟨fun | 151 => 249 | 152 => 267 | 137 => 275 | 119 => 276 | 224 => 277 | 225 => 278 | 217 => 280 | 266 => 281 | n => n, fun | 9 => 9 | 21 => 21 | 4 => 4 | 3 => 3 | 5 => 5 | 0 => 0 | 46 => 235 | n => n, fun | n => n⟩
theorem Tryz.lays151 : Go.Proofs.Lays.n151 Tryz.prog Tryz.lays151_ren := {
  mixed := by kernel_rfl
  f119 := Tryz.func276.trans (congrArg some (by kernel_rfl))
  f137 := Tryz.func275.trans (congrArg some (by kernel_rfl))
  f151 := Tryz.func249.trans (congrArg some (by kernel_rfl))
  f152 := Tryz.func267.trans (congrArg some (by kernel_rfl))
  f217 := Tryz.func280.trans (congrArg some (by kernel_rfl))
  f224 := Tryz.func277.trans (congrArg some (by kernel_rfl))
  f225 := Tryz.func278.trans (congrArg some (by kernel_rfl))
  f266 := Tryz.func281.trans (congrArg some (by kernel_rfl))
  t0 := Tryz.underlying0
  a0 := Tryz.isAgg0
  z0 := Tryz.sizeOf0
  v0 := Tryz.zeroValue0
  t3 := Tryz.underlying3
  a3 := Tryz.isAgg3
  z3 := Tryz.sizeOf3
  v3 := Tryz.zeroValue3
  t4 := Tryz.underlying4
  a4 := Tryz.isAgg4
  z4 := Tryz.sizeOf4
  v4 := Tryz.zeroValue4
  t5 := Tryz.underlying5
  a5 := Tryz.isAgg5
  z5 := Tryz.sizeOf5
  v5 := Tryz.zeroValue5
  t9 := Tryz.underlying9
  a9 := Tryz.isAgg9
  z9 := Tryz.sizeOf9
  v9 := Tryz.zeroValue9
  t21 := Tryz.underlying21
  a21 := Tryz.isAgg21
  z21 := Tryz.sizeOf21
  v21 := Tryz.zeroValue21
  t46 := Tryz.underlying235
  a46 := Tryz.isAgg235
  z46 := Tryz.sizeOf235
  v46 := Tryz.zeroValue235 }
open Go.RowKit Go.Lib in
theorem Tryz.strings_ContainsRune_ascii (s : ByteArray) (r : Int) (w : World) (h0 : 0 ≤ r) (h1 : r < 128) :
    Calls Tryz.prog 249 #[.string s, .int .i32 r] w fun e w' => e = .returned (.bool (decide (0 ≤ Lib.indexByte s.data.toList r.toNat.toUInt8))) ∧ w' = w := Any.strings_ContainsRune_ascii Tryz.lays151 s r w h0 h1
def Tryz.lays227_ren : Go.Shelf.Ren := ⟨fun | 227 => 230 | n => n, fun | 9 => 9 | 116 => 298 | 4 => 4 | 0 => 0 | 3 => 3 | 5 => 5 | n => n, fun | n => n⟩
theorem Tryz.lays227 : Go.Proofs.Lays.n227 Tryz.prog Tryz.lays227_ren := {
  mixed := by kernel_rfl
  f227 := Tryz.func230.trans (congrArg some (by kernel_rfl))
  t0 := Tryz.underlying0
  a0 := Tryz.isAgg0
  z0 := Tryz.sizeOf0
  v0 := Tryz.zeroValue0
  t3 := Tryz.underlying3
  a3 := Tryz.isAgg3
  z3 := Tryz.sizeOf3
  v3 := Tryz.zeroValue3
  t4 := Tryz.underlying4
  a4 := Tryz.isAgg4
  z4 := Tryz.sizeOf4
  v4 := Tryz.zeroValue4
  t5 := Tryz.underlying5
  a5 := Tryz.isAgg5
  z5 := Tryz.sizeOf5
  v5 := Tryz.zeroValue5
  t9 := Tryz.underlying9
  a9 := Tryz.isAgg9
  z9 := Tryz.sizeOf9
  v9 := Tryz.zeroValue9
  t116 := Tryz.underlying298
  a116 := Tryz.isAgg298
  z116 := Tryz.sizeOf298 }
open Go.RowKit Go.Lib in
theorem Tryz.strings_makeASCIISet (hv116 : ∀ w, (zeroValue 298).run Tryz.prog w = .ok (.agg (Array.replicate 256 (.bool false))) w) (chars : ByteArray) (w : World) (hs : chars.size < 4294967281) (hascii : ∀ (j : Nat) b, chars.data.toList[j]? = some b → b.toNat < 128) :
    Calls Tryz.prog 230 #[.string chars] w fun e w' => e = .returned (.tuple #[.agg (Lib.setCells chars.data.toList), .bool true]) ∧ w' = w.alloc (.cells (Lib.setCells chars.data.toList) 298) := Any.strings_makeASCIISet Tryz.lays227 hv116 (by kernel_rfl) chars w hs hascii
def Tryz.lays228_ren : Go.Shelf.Ren := ⟨fun | 228 => 247 | n => n, fun | 124 => 302 | 5 => 5 | 4 => 4 | 0 => 0 | 116 => 298 | n => n, fun | n => n⟩
theorem Tryz.lays228 : Go.Proofs.Lays.n228 Tryz.prog Tryz.lays228_ren := {
  mixed := by kernel_rfl
  f228 := Tryz.func247.trans (congrArg some (by kernel_rfl))
  t0 := Tryz.underlying0
  a0 := Tryz.isAgg0
  z0 := Tryz.sizeOf0
  v0 := Tryz.zeroValue0
  t4 := Tryz.underlying4
  a4 := Tryz.isAgg4
  z4 := Tryz.sizeOf4
  v4 := Tryz.zeroValue4
  t5 := Tryz.underlying5
  a5 := Tryz.isAgg5
  z5 := Tryz.sizeOf5
  v5 := Tryz.zeroValue5
  t116 := Tryz.underlying298
  a116 := Tryz.isAgg298
  z116 := Tryz.sizeOf298
  t124 := Tryz.underlying302
  a124 := Tryz.isAgg302
  z124 := Tryz.sizeOf302
  v124 := Tryz.zeroValue302 }
open Go.RowKit Go.Lib in
/-- '(as *asciiSet) contains(c)': 'as[c]': the set lies at block b, whole. (LAID: no walk: one application.) -/
theorem Tryz.asciiSet_contains (b : Nat) (x : UInt8) (v : Bool) (w : World) (hc : w.cell? ⟨b, x.toNat, none⟩ = some (.bool v)) :
    Calls Tryz.prog 247 #[.pointer (some ⟨b, 0, none⟩), .int .u8 x.toNat] w fun e w' => e = .returned (.bool v) ∧ w' = w := Any.asciiSet_contains Tryz.lays228 b x v w hc
def Tryz.lays264_ren : Go.Shelf.Ren := ⟨fun | 264 => 217 | n => n, fun | 53 => 38 | 46 => 235 | n => n, fun | n => n⟩
theorem Tryz.lays264 : Go.Proofs.Lays.n264 Tryz.prog Tryz.lays264_ren := {
  mixed := by kernel_rfl
  f264 := Tryz.func217.trans (congrArg some (by kernel_rfl))
  t46 := Tryz.underlying235
  a46 := Tryz.isAgg235
  z46 := Tryz.sizeOf235
  v46 := Tryz.zeroValue235
  t53 := Tryz.underlying38
  a53 := Tryz.isAgg38
  z53 := Tryz.sizeOf38
  v53 := Tryz.zeroValue38 }
open Go.RowKit Go.Lib in
theorem Tryz.bits_Mul64 (x y : Nat) (hx : x < 18446744073709551616) (hy : y < 18446744073709551616) (w : World) :
    Calls Tryz.prog 217 #[.int .u64 x, .int .u64 y] w fun e w' => e = .returned (.tuple #[.int .u64 ((x * y / 18446744073709551616 : Nat) : Int), .int .u64 ((x * y % 18446744073709551616 : Nat) : Int)]) ∧ w' = w := Any.bits_Mul64 Tryz.lays264 x y hx hy w
def Tryz.lays212_ren : Go.Shelf.Ren := ⟨fun | 212 => 176 | 263 => 216 | 264 => 217 | n => n, fun | 46 => 235 | 51 => 282 | 146 => 283 | 53 => 38 | 148 => 285 | n => n, fun | n => n⟩
theorem Tryz.lays212 : Go.Proofs.Lays.n212 Tryz.prog Tryz.lays212_ren := {
  mixed := by kernel_rfl
  f212 := Tryz.func176.trans (congrArg some (by kernel_rfl))
  f263 := Tryz.func216.trans (congrArg some (by kernel_rfl))
  f264 := Tryz.func217.trans (congrArg some (by kernel_rfl))
  t46 := Tryz.underlying235
  a46 := Tryz.isAgg235
  z46 := Tryz.sizeOf235
  v46 := Tryz.zeroValue235
  t51 := Tryz.underlying282
  a51 := Tryz.isAgg282
  z51 := Tryz.sizeOf282
  v51 := Tryz.zeroValue282
  t53 := Tryz.underlying38
  a53 := Tryz.isAgg38
  z53 := Tryz.sizeOf38
  v53 := Tryz.zeroValue38
  t146 := Tryz.underlying283
  a146 := Tryz.isAgg283
  z146 := Tryz.sizeOf283
  v146 := Tryz.zeroValue283
  t148 := Tryz.underlying285
  a148 := Tryz.isAgg285
  z148 := Tryz.sizeOf285
  v148 := Tryz.zeroValue285 }
open Go.RowKit Go.Lib in
/-- math/bits.Mul: "Mul returns the full-width product of x and y": on a machine of 64 bits: Mul64's. (LAID: no walk: one application.) -/
theorem Tryz.bits_Mul (x y : Nat) (hx : x < 18446744073709551616) (hy : y < 18446744073709551616) (w : World) :
    Calls Tryz.prog 176 #[.int .u64 x, .int .u64 y] w fun e w' => e = .returned (.tuple #[.int .u64 ((x * y / 18446744073709551616 : Nat) : Int), .int .u64 ((x * y % 18446744073709551616 : Nat) : Int)]) ∧ w' = w := Any.bits_Mul Tryz.lays212 x y hx hy w
def Tryz.lays105_ren : Go.Shelf.Ren := ⟨fun | 105 => 109 | 212 => 176 | 99 => 177 | 165 => 178 | 166 => 118 | 170 => 179 | 169 => 119 | 263 => 216 | 264 => 217 | 206 => 218 | 240 => 186 | 241 => 219 | 276 => 223 | 277 => 243 | n => n, fun | 9 => 9 | 3 => 3 | 4 => 4 | 20 => 20 | 0 => 0 | 46 => 235 | 109 => 236 | 5 => 5 | 72 => 181 | 76 => 182 | 51 => 282 | 146 => 283 | 53 => 38 | 148 => 285 | 70 => 179 | 37 => 41 | 75 => 156 | 127 => 250 | 164 => 264 | 80 => 86 | n => n, fun | n => n⟩
theorem Tryz.lays105 : Go.Proofs.Lays.n105 Tryz.prog Tryz.lays105_ren := {
  mixed := by kernel_rfl
  f99 := Tryz.func177.trans (congrArg some (by kernel_rfl))
  f105 := Tryz.func109.trans (congrArg some (by kernel_rfl))
  f165 := Tryz.func178.trans (congrArg some (by kernel_rfl))
  f166 := Tryz.func118.trans (congrArg some (by kernel_rfl))
  f169 := Tryz.func119.trans (congrArg some (by kernel_rfl))
  f170 := Tryz.func179.trans (congrArg some (by kernel_rfl))
  f206 := Tryz.func218.trans (congrArg some (by kernel_rfl))
  f212 := Tryz.func176.trans (congrArg some (by kernel_rfl))
  f240 := Tryz.func186.trans (congrArg some (by kernel_rfl))
  f241 := Tryz.func219.trans (congrArg some (by kernel_rfl))
  f263 := Tryz.func216.trans (congrArg some (by kernel_rfl))
  f264 := Tryz.func217.trans (congrArg some (by kernel_rfl))
  f276 := Tryz.func223.trans (congrArg some (by kernel_rfl))
  f277 := Tryz.func243.trans (congrArg some (by kernel_rfl))
  t0 := Tryz.underlying0
  a0 := Tryz.isAgg0
  z0 := Tryz.sizeOf0
  v0 := Tryz.zeroValue0
  t3 := Tryz.underlying3
  a3 := Tryz.isAgg3
  z3 := Tryz.sizeOf3
  v3 := Tryz.zeroValue3
  t4 := Tryz.underlying4
  a4 := Tryz.isAgg4
  z4 := Tryz.sizeOf4
  v4 := Tryz.zeroValue4
  t5 := Tryz.underlying5
  a5 := Tryz.isAgg5
  z5 := Tryz.sizeOf5
  v5 := Tryz.zeroValue5
  t9 := Tryz.underlying9
  a9 := Tryz.isAgg9
  z9 := Tryz.sizeOf9
  v9 := Tryz.zeroValue9
  t20 := Tryz.underlying20
  a20 := Tryz.isAgg20
  z20 := Tryz.sizeOf20
  v20 := Tryz.zeroValue20
  t37 := Tryz.underlying41
  a37 := Tryz.isAgg41
  z37 := Tryz.sizeOf41
  v37 := Tryz.zeroValue41
  t46 := Tryz.underlying235
  a46 := Tryz.isAgg235
  z46 := Tryz.sizeOf235
  v46 := Tryz.zeroValue235
  t51 := Tryz.underlying282
  a51 := Tryz.isAgg282
  z51 := Tryz.sizeOf282
  v51 := Tryz.zeroValue282
  t53 := Tryz.underlying38
  a53 := Tryz.isAgg38
  z53 := Tryz.sizeOf38
  v53 := Tryz.zeroValue38
  t70 := Tryz.underlying179
  a70 := Tryz.isAgg179
  z70 := Tryz.sizeOf179
  v70 := Tryz.zeroValue179
  t72 := Tryz.underlying181
  a72 := Tryz.isAgg181
  z72 := Tryz.sizeOf181
  v72 := Tryz.zeroValue181
  t75 := Tryz.underlying156
  a75 := Tryz.isAgg156
  z75 := Tryz.sizeOf156
  v75 := Tryz.zeroValue156
  t76 := Tryz.underlying182
  a76 := Tryz.isAgg182
  z76 := Tryz.sizeOf182
  v76 := Tryz.zeroValue182
  t109 := Tryz.underlying236
  a109 := Tryz.isAgg236
  z109 := Tryz.sizeOf236
  v109 := Tryz.zeroValue236
  t127 := Tryz.underlying250
  a127 := Tryz.isAgg250
  z127 := Tryz.sizeOf250
  v127 := Tryz.zeroValue250
  t146 := Tryz.underlying283
  a146 := Tryz.isAgg283
  z146 := Tryz.sizeOf283
  v146 := Tryz.zeroValue283
  t148 := Tryz.underlying285
  a148 := Tryz.isAgg285
  z148 := Tryz.sizeOf285
  v148 := Tryz.zeroValue285
  t164 := Tryz.underlying264
  a164 := Tryz.isAgg264
  z164 := Tryz.sizeOf264
  v164 := Tryz.zeroValue264 }
theorem Tryz.Builder_Extra_105 : Builder.Extra Tryz.prog Tryz.lays105_ren := {
  sizeBuilder := by kernel_rfl
  liesBuilder := by kernel_rfl
  t5 := Tryz.underlying5
  a5 := Tryz.isAgg5
  z5 := Tryz.sizeOf5
  v5 := Tryz.zeroValue5
  infoByte := by kernel_rfl
  cellsByte := by kernel_rfl
  sizeByte := by kernel_rfl
  neB5 := by decide }
open Go.RowKit Go.Lib in
/-- THE MAIN CASE: at least two copies of a string that is not empty. (LAID: no walk: one application.) -/
theorem Tryz.strings_Repeat_main (s : ByteArray) (c : Nat) (w : World) (hc2 : 2 ≤ c) (hc : c ≤ 9223372036854775807) (hlen : s.size * c ≤ 140737488355328) (h0 : 0 < s.size) :
    Calls Tryz.prog 109 #[.string s, .int .i64 c] w fun e w' => e = .returned (.string ⟨(Lib.repeatL s.data.toList c).toArray⟩) ∧ Below w.heap.size w w' := Any.strings_Repeat_main Tryz.lays105 Tryz.Builder_Extra_105 s c w hc2 hc hlen h0
open Go.RowKit Go.Lib in
theorem Tryz.strings_Repeat_zero (s : ByteArray) (w : World) :
    Calls Tryz.prog 109 #[.string s, .int .i64 0] w fun e w' => e = .returned (.string ⟨#[]⟩) ∧ w' = w := Any.strings_Repeat_zero Tryz.lays105 s w
open Go.RowKit Go.Lib in
theorem Tryz.strings_Repeat_one (s : ByteArray) (w : World) :
    Calls Tryz.prog 109 #[.string s, .int .i64 1] w fun e w' => e = .returned (.string s) ∧ w' = w := Any.strings_Repeat_one Tryz.lays105 s w
open Go.RowKit Go.Lib in
/-- Copies of the empty string. (LAID: no walk: one application.) -/
theorem Tryz.strings_Repeat_empty (s : ByteArray) (c : Nat) (w : World) (hc2 : 2 ≤ c) (hc : c ≤ 9223372036854775807) (h0 : s.size = 0) :
    Calls Tryz.prog 109 #[.string s, .int .i64 c] w fun e w' => e = .returned (.string ⟨#[]⟩) ∧ w' = w := Any.strings_Repeat_empty Tryz.lays105 s c w hc2 hc h0
open Go.RowKit Go.Lib in
/-- count < 0: "It panics if count is negative". (LAID: no walk: one application.) -/
theorem Tryz.strings_Repeat_negative (s : ByteArray) (c : Int) (w : World) (hc : c < 0) :
    Calls Tryz.prog 109 #[.string s, .int .i64 c] w fun e w' => e = .panicked [{ v := repeatPanic Tryz.lays105_ren "strings: negative Repeat count", recovered := false }] ∧ w' = w := Any.strings_Repeat_negative Tryz.lays105 s c w hc
open Go.RowKit Go.Lib in
/-- len(s) * count is no int: ".. or if the result of (len(s) * count) overflows". (LAID: no walk: one application.) -/
theorem Tryz.strings_Repeat_overflow (s : ByteArray) (c : Nat) (w : World) (hc : c ≤ 9223372036854775807) (hs : s.size ≤ 9223372036854775807) (hbig : 9223372036854775807 < s.size * c) :
    Calls Tryz.prog 109 #[.string s, .int .i64 c] w fun e w' => e = .panicked [{ v := repeatPanic Tryz.lays105_ren "strings: Repeat output length overflow", recovered := false }] ∧ w' = w := Any.strings_Repeat_overflow Tryz.lays105 s c w hc hs hbig
open Go.RowKit Go.Lib in
/-- **strings.Repeat: count ≥ 0, the result within one allocation: count copies of s.** (LAID: no walk: one application.) -/
theorem Tryz.strings_Repeat (s : ByteArray) (c : Nat) (w : World) (hc : c ≤ 9223372036854775807) (hlen : s.size * c ≤ 140737488355328) :
    Calls Tryz.prog 109 #[.string s, .int .i64 c] w fun e w' => e = .returned (.string ⟨(Lib.repeatL s.data.toList c).toArray⟩) ∧ Below w.heap.size w w' := Any.strings_Repeat Tryz.lays105 Tryz.Builder_Extra_105 s c w hc hlen
def Tryz.lays260_ren : Go.Shelf.Ren := ⟨fun | 260 => 266 | n => n, fun | 9 => 9 | 21 => 21 | 3 => 3 | 4 => 4 | 5 => 5 | 119 => 350 | 0 => 0 | 46 => 235 | 139 => 353 | 138 => 352 | n => n, fun | 3 => 2 | 4 => 3 | n => n⟩
theorem Tryz.lays260 : Go.Proofs.Lays.n260 Tryz.prog Tryz.lays260_ren := {
  mixed := by kernel_rfl
  f260 := Tryz.func266.trans (congrArg some (by kernel_rfl))
  t0 := Tryz.underlying0
  a0 := Tryz.isAgg0
  z0 := Tryz.sizeOf0
  v0 := Tryz.zeroValue0
  t3 := Tryz.underlying3
  a3 := Tryz.isAgg3
  z3 := Tryz.sizeOf3
  v3 := Tryz.zeroValue3
  t4 := Tryz.underlying4
  a4 := Tryz.isAgg4
  z4 := Tryz.sizeOf4
  v4 := Tryz.zeroValue4
  t5 := Tryz.underlying5
  a5 := Tryz.isAgg5
  z5 := Tryz.sizeOf5
  v5 := Tryz.zeroValue5
  t9 := Tryz.underlying9
  a9 := Tryz.isAgg9
  z9 := Tryz.sizeOf9
  v9 := Tryz.zeroValue9
  t21 := Tryz.underlying21
  a21 := Tryz.isAgg21
  z21 := Tryz.sizeOf21
  v21 := Tryz.zeroValue21
  t46 := Tryz.underlying235
  a46 := Tryz.isAgg235
  z46 := Tryz.sizeOf235
  v46 := Tryz.zeroValue235
  t119 := Tryz.underlying350
  a119 := Tryz.isAgg350
  z119 := Tryz.sizeOf350
  t138 := Tryz.underlying352
  a138 := Tryz.isAgg352
  z138 := Tryz.sizeOf352
  v138 := Tryz.zeroValue352
  t139 := Tryz.underlying353
  a139 := Tryz.isAgg353
  z139 := Tryz.sizeOf353
  v139 := Tryz.zeroValue353
  g3 := by kernel_rfl
  g4 := by kernel_rfl }
open Go.RowKit Go.Lib in
theorem Tryz.utf8_decodeRuneInStringSlow (s : ByteArray) (w : World) (hT : Lib.Utf8Tabs 2 3 w) :
    Calls Tryz.prog 266 #[.string s] w fun e w' => e = .returned (.tuple #[.int .i32 (Lib.decodeGo s).1, .int .i64 (Lib.decodeGo s).2]) ∧ Below w.heap.size w w' := Any.utf8_decodeRuneInStringSlow Tryz.lays260 s w hT
def Tryz.lays108_ren : Go.Shelf.Ren := ⟨fun | 108 => 245 | n => n, fun | 28 => 70 | 3 => 3 | 0 => 0 | 4 => 4 | n => n, fun | n => n⟩
theorem Tryz.lays108 : Go.Proofs.Lays.n108 Tryz.prog Tryz.lays108_ren := {
  mixed := by kernel_rfl
  f108 := Tryz.func245.trans (congrArg some (by kernel_rfl))
  t0 := Tryz.underlying0
  a0 := Tryz.isAgg0
  z0 := Tryz.sizeOf0
  v0 := Tryz.zeroValue0
  t3 := Tryz.underlying3
  a3 := Tryz.isAgg3
  z3 := Tryz.sizeOf3
  v3 := Tryz.zeroValue3
  t4 := Tryz.underlying4
  a4 := Tryz.isAgg4
  z4 := Tryz.sizeOf4
  v4 := Tryz.zeroValue4
  t28 := Tryz.underlying70
  a28 := Tryz.isAgg70
  z28 := Tryz.sizeOf70
  v28 := Tryz.zeroValue70 }
open Go.Lib in
/-- slices.Index at []int: "Index returns the index of the first occurrence of v in s, or -1 if not present.": IT RETURNS 'Lib.idxOf (the elements) v'; the world is as it was. 'zs': what the cells behind the slice's address hold (its spare capacity too, if you have it); 'zs.take n': its elements. (LAID: no walk: one application.) -/
theorem Tryz.slices_Index_int (b off n c : Nat) (zs : List Int) (x : Int) (w : World) (hz : n ≤ zs.length) (hbig : n ≤ 9223372036854775807) (hc : ∀ j, j < zs.length → w.cell? ⟨b, off + j, none⟩ = some (.int .i64 (zs.getD j 0))) :
    Calls Tryz.prog 245 #[.slice (some ⟨b, off, none⟩) n c, .int .i64 x] w fun e w' => e = .returned (.int .i64 (Lib.idxOf (zs.take n) x)) ∧ w' = w := Any.slices_Index_int Tryz.lays108 b off n c zs x w hz hbig hc
open Go.Lib in
/-- The same at a slice of length 0, a nil one too: no cell is known, none is asked for. (LAID: no walk: one application.) -/
theorem Tryz.slices_Index_int_empty (a : Option Addr) (c : Nat) (x : Int) (w : World) :
    Calls Tryz.prog 245 #[.slice a 0 c, .int .i64 x] w fun e w' => e = .returned (.int .i64 (Lib.idxOf [] x)) ∧ w' = w := Any.slices_Index_int_empty Tryz.lays108 a c x w
def Tryz.lays107_ren : Go.Shelf.Ren := ⟨fun | 107 => 222 | 108 => 245 | n => n, fun | 28 => 70 | 3 => 3 | 4 => 4 | 0 => 0 | n => n, fun | n => n⟩
theorem Tryz.lays107 : Go.Proofs.Lays.n107 Tryz.prog Tryz.lays107_ren := {
  mixed := by kernel_rfl
  f107 := Tryz.func222.trans (congrArg some (by kernel_rfl))
  f108 := Tryz.func245.trans (congrArg some (by kernel_rfl))
  t0 := Tryz.underlying0
  a0 := Tryz.isAgg0
  z0 := Tryz.sizeOf0
  v0 := Tryz.zeroValue0
  t3 := Tryz.underlying3
  a3 := Tryz.isAgg3
  z3 := Tryz.sizeOf3
  v3 := Tryz.zeroValue3
  t4 := Tryz.underlying4
  a4 := Tryz.isAgg4
  z4 := Tryz.sizeOf4
  v4 := Tryz.zeroValue4
  t28 := Tryz.underlying70
  a28 := Tryz.isAgg70
  z28 := Tryz.sizeOf70
  v28 := Tryz.zeroValue70 }
open Go.Lib in
/-- slices.Contains at []int: "Contains reports whether v is present in s.": IT RETURNS 'elements.contains v'; the world is as it was. ITS CALLEE slices.Index IS MET BY ITS OWN CONTRACT OFF THE SHELF (lay that first): no loop is walked here. (LAID: no walk: one application.) -/
theorem Tryz.slices_Contains_int (b off n c : Nat) (zs : List Int) (x : Int) (w : World) (hz : n ≤ zs.length) (hbig : n ≤ 9223372036854775807) (hc : ∀ j, j < zs.length → w.cell? ⟨b, off + j, none⟩ = some (.int .i64 (zs.getD j 0))) :
    Calls Tryz.prog 222 #[.slice (some ⟨b, off, none⟩) n c, .int .i64 x] w fun e w' => e = .returned (.bool ((zs.take n).contains x)) ∧ w' = w := Any.slices_Contains_int Tryz.lays107 b off n c zs x w hz hbig hc
open Go.Lib in
/-- The same at a slice of length 0, a nil one too. (LAID: no walk: one application.) -/
theorem Tryz.slices_Contains_int_empty (a : Option Addr) (c : Nat) (x : Int) (w : World) :
    Calls Tryz.prog 222 #[.slice a 0 c, .int .i64 x] w fun e w' => e = .returned (.bool false) ∧ w' = w := Any.slices_Contains_int_empty Tryz.lays107 a c x w
open Go.RowKit Go.Sort in
/-- .. and plain. (LAID: no walk: one application.) -/
theorem Tryz.slices_Sort_int_none (p : Option Addr) (cap : Nat) (w : World) :
    Calls Tryz.prog 209 #[.slice p 0 cap] w fun e w' => e = .returned (.tuple #[]) ∧ w' = w := Any.slices_Sort_int_none Tryz.lays189 p cap w
end Go.Proofs

/- Contracts of the kit's shelf, as contracts of this walk. -/
namespace Go.Proofs.Sol
open Go Go.Proofs Go.RowKit Go.Sort
set_option maxRecDepth 100000
set_option linter.unusedVariables false
set_option linter.unusedSimpArgs false
theorem hp_below {w w' : World} (h : Below w.heap.size w w') : ∀ b o, hp w b = some o → hp w' b = some o := by
  intro b o e
  cases b with
  | zero =>
    simp only [hp] at e ⊢
    rw [h.tape, h.os, h.output]; exact e
  | succ b =>
    simp only [hp] at e ⊢
    have hlt : b < w.heap.size := by
      rcases Nat.lt_or_ge b w.heap.size with h' | h'
      · exact h'
      · simp [h'] at e
    rw [h.block b hlt]; exact e
theorem Sat.below {w w' : World} {L : List HP} (s : Sat w L) (h : Below w.heap.size w w') : Sat w' L := stars_up (hp_below h) s
theorem Fn_below {P : Program} {f : FuncId} {args : List Value} {r : Value} {L : List HP} (h : ∀ w, Calls P f args.toArray w fun e w' => e = .returned r ∧ Below w.heap.size w w') : Fn P f args L (Pst r L) :=
  fun w s => (h w).mono fun _ _ ⟨he, hb⟩ => ⟨r, he, rfl, s.below hb⟩
theorem Fn_same {P : Program} {f : FuncId} {args : List Value} {r : Value} {L : List HP} (h : ∀ w, Calls P f args.toArray w fun e w' => e = .returned r ∧ w' = w) : Fn P f args L (Pst r L) :=
  fun w s => (h w).mono fun _ _ ⟨he, hb⟩ => ⟨r, he, rfl, hb ▸ s⟩
theorem Fn_drew {P : Program} {f : FuncId} {args : List Value} {r : Value} {L : List HP} (h : ∀ w, Calls P f args.toArray w fun e w' => e = .returned r ∧ (w' = w ∨ w' = w.drew)) : Fn P f args L (Pst r L) :=
  fun w s => (h w).mono fun _ _ ⟨he, hb⟩ => ⟨r, he, rfl, by
    rcases hb with rfl | rfl
    · exact s
    · exact s.of_heap rfl⟩
theorem repeatL_eq (l : List UInt8) (c : Nat) : Lib.repeatL l c = (List.replicate c l).flatten := by
  induction c with
  | zero => rfl
  | succ c ih => simp [Lib.repeatL, ih, List.replicate_succ]
theorem strings_Repeat (c : UInt8) (k : Nat) (hk : k < 1000000) (F : List HP) : Fn Tryz.prog 109 [.string (S [c]), .int .i64 (k : Int)] F (Pst (.string (S (List.replicate k c))) F) := by
  refine Fn_below fun w => ?_
  have h := Tryz.strings_Repeat (S [c]) k w (by omega) (by
    have : (S [c]).size = 1 := rfl
    rw [this]; omega)
  have e : (⟨(Lib.repeatL (S [c]).data.toList k).toArray⟩ : ByteArray) = S (List.replicate k c) := by
    show (⟨⟨_⟩⟩ : ByteArray) = _
    rw [repeatL_eq]
    have : (List.replicate k [c]).flatten = List.replicate k c := by
      induction k with
      | zero => rfl
      | succ k ih => rw [List.replicate_succ, List.flatten_cons, ih (by omega) (Tryz.strings_Repeat (S [c]) k w (by omega) (by
          have : (S [c]).size = 1 := rfl
          rw [this]; omega)), List.replicate_succ]; rfl
    exact congrArg S this
  rw [e] at h
  exact h
theorem slices_Contains_nil (c : Nat) (x : Int) (F : List HP) : Fn Tryz.prog 222 [.slice none 0 c, .int .i64 x] F (Pst (.bool false) F) :=
  Fn_same fun w => Tryz.slices_Contains_int_empty none c x w
theorem slices_Sort_nil (c : Nat) (F : List HP) : Fn Tryz.prog 209 [.slice none 0 c] F (Pst (.tuple #[]) F) :=
  Fn_same fun w => Tryz.slices_Sort_int_none none c w
/-- A list of numbers, sorted. -/
def srt (zs : List Int) : List Int := zs.mergeSort fun x y => decide (x ≤ y)
def i64s (zs : List Int) : List Value := zs.map (Value.int .i64)
theorem slices_Sort (v : Value) (zs : List Int) (hz : zs.length < 1000000000) (F : List HP) : Fn Tryz.prog 209 [v] (own v 3 1 (i64s zs) :: F) (Pst (.tuple #[]) (own v 3 1 (i64s (srt zs)) :: F)) := by
  refine Fn_at fun w s => ?_
  rcases s.own with ⟨rfl, h0⟩ | ⟨b, len, cap, sp, rfl, h2, h3, s'⟩
  · have h0' : zs = [] := by simpa [i64s] using h0
    subst h0'
    have hs : srt [] = [] := by simp [srt]
    refine ⟨F, s.drop, (slices_Sort_nil 0 F).mono Gives.refl ?_⟩
    rintro _ w' ⟨h1, h2⟩
    refine ⟨h1, ?_⟩
    rw [hs]
    exact Sat.own_nil h2
  · refine ⟨cl b 3 (i64s zs ++ sp) :: F, s', ?_⟩
    clear s s' w
    intro w s
    have hb := s.cell
    have hlt : b < w.heap.size := by
      rcases Nat.lt_or_ge b w.heap.size with h | h
      · exact h
      · simp [h] at hb
    have hlen : len = zs.length := by simpa [i64s] using h2.symm
    subst hlen
    refine (Tryz.slices_Sort_int b 0 cap zs w ?_ hlt (by omega)).mono ?_
    · intro j hj
      have hj' : j < zs.length := by simpa using hj
      constructor
      · simp only [World.cell?, hb, Nat.zero_add, Option.isSome_none, Bool.false_eq_true, if_false, List.getElem?_toArray]
        rw [List.getElem?_append_left (by simpa [i64s] using hj')]
        simp [i64s, hj']
      · simp [World.frozen?, hb]
    · rintro e w' ⟨rfl, m, os, rfl⟩
      refine ⟨_, rfl, rfl, ?_⟩
      have hl : (srt zs).length = zs.length := List.length_mergeSort _
      have s2 : Sat (Sort.ahead w m) (cl b 3 (i64s zs ++ sp) :: F) := s.of_heap rfl
      have key : Sat (putRow (Value.int .i64) (Sort.ahead w m) b 0 (srt zs).toArray) (cl b 3 (i64s (srt zs) ++ sp) :: F) := by
        refine s2.set (.cells (i64s (srt zs) ++ sp).toArray 3 (0, 0)) ?_
        unfold putRow mapBlock
        congr 1
        refine setIf (vs := i64s zs ++ sp) _ s2.cell ?_
        show Obj.cells _ _ _ = _
        congr 1
        apply Array.ext'
        apply List.ext_getElem?
        intro i
        simp only [putCells, Array.toList_mapIdx, List.getElem?_mapIdx, List.size_toArray, Nat.zero_le, true_and, Nat.zero_add, Nat.sub_zero, hl]
        by_cases hi : i < zs.length
        · rw [List.getElem?_append_left (by simpa [i64s] using hi), List.getElem?_append_left (by simpa [i64s, hl] using hi)]
          simp [i64s, hi, hl]
        · rw [List.getElem?_append_right (by simpa [i64s] using Nat.le_of_not_lt hi), List.getElem?_append_right (by simpa [i64s, hl] using Nat.le_of_not_lt hi)]
          simp [i64s, hi, hl]
      have up : Sat (grow (putRow (Value.int .i64) (Sort.ahead w m) b 0 (srt zs).toArray) os) (cl b 3 (i64s (srt zs) ++ sp) :: F) := by
        refine stars_up (fun k o h => ?_) key
        cases k with
        | zero => exact h
        | succ k =>
          simp only [hp, grow] at h ⊢
          have hlt : k < (putRow (Value.int .i64) (Sort.ahead w m) b 0 (srt zs).toArray).heap.size := by
            rcases Nat.lt_or_ge k (putRow (Value.int .i64) (Sort.ahead w m) b 0 (srt zs).toArray).heap.size with h' | h'
            · exact h'
            · rw [Array.getElem?_eq_none h'] at h; cases h
          rw [Array.getElem?_append_left hlt]; exact h
      exact up.own_mk (by simp [i64s, hl]) (by simpa [i64s, hl] using h3)
end Go.Proofs.Sol

/- From contracts to rows. -/
namespace Go.Proofs.Sol
open Go Go.Proofs Go.RowKit
/-- All that is there. -/
def snap (w : World) : HP := fun h => ∀ b o, hp w b = some o → h b = some o
instance (w : World) : Up (snap w) := ⟨fun _ _ f e b o hb => f b o (e b o hb)⟩
theorem sat_snap (w : World) : Sat w [snap w] := ⟨hp w, fun _ => none, (Split.empty (hp w)).comm, fun _ _ h => h, trivial⟩
theorem Fn.below {P : Program} {f : FuncId} {args : List Value} {r : Value} (h : ∀ F, Fn P f args F (Pst r F)) (w : World) : Calls P f args.toArray w fun e w' => e = .returned r ∧ Below w.heap.size w w' := by
  refine (h [snap w] w (sat_snap w)).mono ?_
  rintro e w' ⟨v, rfl, rfl, s⟩
  refine ⟨rfl, ?_⟩
  have hs : snap w (hp w') := s.hd
  have h0 := hs 0 _ rfl
  simp only [hp, Option.some.injEq, Slot.con.injEq] at h0
  have hb : ∀ k, k < w.heap.size → w'.heap[k]? = w.heap[k]? := by
    intro k hk
    have h1 := hs (k + 1) (.obj w.heap[k]) (by simp [hp, hk])
    simp only [hp, Option.map_eq_some_iff] at h1
    obtain ⟨o, h2, h3⟩ := h1
    injection h3 with h3
    rw [h2, h3, Array.getElem?_eq_getElem hk]
  refine ⟨h0.2.1, h0.1, h0.2.2, ?_, hb⟩
  refine Nat.le_of_not_lt fun hlt => ?_
  have h1 := hb w'.heap.size hlt
  rw [Array.getElem?_eq_none (Nat.le_refl _), Array.getElem?_eq_getElem hlt] at h1
  cases h1
end Go.Proofs.Sol

/- Rows: a law whose parameters are only read. -/
namespace Go.Proofs.YtpemgmbfkobmeaaGreatDoor
open Go Go.Proofs Go.ChangeShapes Go.WideShapes Go.ChangeAt Go.RowKit Go.Joins Go.Deep
open Go.ChangeMaps (open_string shut_string)
set_option maxRecDepth 100000
set_option linter.unusedVariables false
theorem laidOut : laidOutB Tryz.prog = true := by kernel_rfl
theorem trodAll_stays {H : Type} {enc : TypeId × Value → H} {W W' : World} (hb : Below W.heap.size W W') : ∀ {ts : List TypeId} {vs : List Value} {ds : List (DataW H)} {p : List MemPlace},
    (∀ t ∈ ts, Tryz.prog.readableRec t = true ∧ t < Tryz.prog.types.size) → DataW.TrodAll enc Tryz.prog W 0 (fun _ => true) true ts vs ds p → (∀ x ∈ p, x.block < W.heap.size) → DataW.TrodAll enc Tryz.prog W' 0 (fun b => decide (b < W.heap.size)) true ts vs ds p
  | [], vs, ds, p, _, h, _ => by
    obtain ⟨rfl, rfl, rfl⟩ := trodAll_nil h
    exact trodAll_mk0
  | t :: ts, vs, ds, p, hr, h, hp => by
    obtain ⟨v, vs', d, ds', p1, q, rfl, rfl, rfl, h1, h2⟩ := trodAll_cons h
    have ht := hr t List.mem_cons_self
    exact trodAll_cons_mk (Below.trod laidOut ht.1 ht.2 h1 hb fun x hx => hp x (List.mem_append_left _ hx)) (trodAll_stays hb (fun t' ht' => hr t' (List.mem_cons_of_mem _ ht')) h2 fun x hx => hp x (List.mem_append_right _ hx))
theorem row_lifted {f : FuncId} {fn : Func} {s : ChangeSpec} {laid : List (String × DataW Unit)} (os : Os) (started : os.Started) (H : Type) (enc : TypeId × Value → H)
    (hv : s.vars = []) (noInit : Tryz.prog.inits.idxOf? f = none) (hfn : Tryz.prog.funcs[f]? = some fn) (hlen : ∀ ds : List (DataW H), ds.length = fn.params.size → s.fn H ds = ⟨[.lit (.bool true)], ds, []⟩)
    (hres : fn.resultTypes = #[4]) (hread : ∀ t ∈ fn.params.toList, Tryz.prog.readableRec t = true ∧ t < Tryz.prog.types.size)
    (witness : ∃ (w : World) (tape : Tape) (i : Input), w.os = os ∧ (w.forCall tape i).Shaped Tryz.checked.prog ∧ i.vars = [] ∧ Input.okWide Tryz.checked.prog (w.forCall tape i) .any w.heap.size f i ∧
      ((s.pre enc Tryz.checked.prog fn [] false (w.forCall tape i).memory i.args ∧ laidMetH Tryz.prog laid (w.forCall tape i).memory) ∧ sizedMet enc Tryz.checked.prog fn (OpenSpec.ofChange s) false (w.forCall tape i).memory i.args) ∧ ({} : Assume).holds Tryz.checked.prog (lone (Frame.enter Tryz.checked.prog f i.args .normal) [] (w.forCall tape i)))
    (walk : ∀ (W : World) (base : Nat) (args : Array Value) (ds : List (DataW H)) (p : List MemPlace), (∀ (j : Nat) t v, fn.params[j]? = some t → args[j]? = some v → Value.okWide Tryz.prog W .any base t v) →
      DataW.TrodAll enc Tryz.prog W 0 (fun _ => true) true fn.params.toList args.toList ds p → laidMetH Tryz.prog laid W → Calls Tryz.prog f args W fun e W' => e = .returned (.bool true) ∧ Below W.heap.size W W') :
    ReturnsInHanded {} Tryz.checked os f .any (fun w args => (s.pre enc Tryz.prog fn [] false w args ∧ laidMetH Tryz.prog laid w) ∧ sizedMet enc Tryz.prog fn (OpenSpec.ofChange s) false w args) (s.post enc Tryz.prog fn false true false false) := by
  refine returnsInHanded_of_change_and (C := Tryz.checked) (X := fun w _ => laidMetH Tryz.prog laid w) (fun _ _ _ hh h => h.of_heap hh) rowOwn started noInit hfn witness ?_
  intro W base args ds gs before hval hW hcnd hsz hL _
  have hW' := hW
  obtain ⟨p, q, hA0, hV, rfl, hfz, hnd⟩ := hW
  have hA : DataW.TrodAll enc Tryz.prog W 0 (fun _ => true) true fn.params.toList args.toList ds p := hA0
  rw [hv] at hV
  obtain ⟨rfl, rfl⟩ := trodVars_none hV
  have hdl : ds.length = fn.params.size := by
    have key : ∀ {ts : List TypeId} {vs : List Value} {ds : List (DataW H)} {p : List MemPlace}, DataW.TrodAll enc Tryz.prog W 0 (fun _ => true) true ts vs ds p → ds.length = ts.length := by
      intro ts
      induction ts with
      | nil => intro vs ds p h; obtain ⟨rfl, rfl, rfl⟩ := trodAll_nil h; rfl
      | cons t ts ih => intro vs ds p h; obtain ⟨v, vs', d, ds', p1, q, rfl, rfl, rfl, h1, h2⟩ := trodAll_cons h; simp [ih h2]
    have := key hA
    simpa using this
  refine (walk W base args ds p hval hA hL).mono fun e W' ⟨he, bel⟩ => ?_
  subst he
  have hlt : ∀ x ∈ p, x.block < W.heap.size := fun x hx => by
    have := hW'.lt x (by simpa using hx)
    simpa using this
  refine ⟨_, rfl, ds, [], _, [], p, [], hW', ?_, ?_, ?_, bel.frame _, fun h => by cases h⟩
  · rw [hres, List.append_nil, hlen ds hdl]
    exact trodAll_mk1 (shut_bool Tryz.underlying4 _)
  · rw [List.append_nil, hlen ds hdl]
    exact trodAll_stays bel hread hA hlt
  · rw [hv, List.append_nil, hlen ds hdl]
    exact rfl
theorem param_mem {fn : Func} {ps : Array TypeId} {l : List TypeId} (hp : fn.params = ps) (hl : ps.toList = l) {j : Nat} {t : TypeId} (ht : fn.params[j]? = some t) : t ∈ l := by
  rw [hp] at ht
  rw [← hl, Array.mem_toList_iff]
  exact Array.mem_of_getElem? ht
end Go.Proofs.YtpemgmbfkobmeaaGreatDoor

/- Rows: what a value of a flat type is: whole numbers, texts, truths, side by side. -/
namespace Go.Proofs.Sol
open Go Go.Proofs Go.ChangeShapes Go.WideShapes Go.ChangeAt Go.RowKit Go.Joins Go.Deep
def fit1 : CK → Value → Prop
  | .int, v => ∃ n : Int, v = .int .i64 n ∧ -9223372036854775808 ≤ n ∧ n < 9223372036854775808
  | .str, v => ∃ s : List UInt8, v = .string (S s)
  | .bool, v => ∃ b, v = .bool b
def fits : List CK → List Value → Prop
  | [], [] => True
  | k :: ks, v :: vs => fit1 k v ∧ fits ks vs
  | _, _ => False
theorem fits_cons {k : CK} {ks : List CK} {vs : List Value} (h : fits (k :: ks) vs) : ∃ v vs', vs = v :: vs' ∧ fit1 k v ∧ fits ks vs' := by
  cases vs with
  | nil => exact h.elim
  | cons v vs => exact ⟨v, vs, rfl, h.1, h.2⟩
theorem fits_nil {vs : List Value} (h : fits [] vs) : vs = [] := by
  cases vs with
  | nil => rfl
  | cons v vs => exact h.elim
theorem fits_length : ∀ {ks : List CK} {vs : List Value}, fits ks vs → vs.length = ks.length
  | [], _, h => by rw [fits_nil h]; rfl
  | k :: ks, vs, h => by
    obtain ⟨v, vs', rfl, _, h2⟩ := fits_cons h
    simp [fits_length h2]
theorem fits_append : ∀ {ks ks' : List CK} {vs vs' : List Value}, fits ks vs → fits ks' vs' → fits (ks ++ ks') (vs ++ vs')
  | [], ks', vs, vs', h, h' => by rw [fits_nil h]; exact h'
  | k :: ks, ks', vs, vs', h, h' => by
    obtain ⟨v, vs1, rfl, h1, h2⟩ := fits_cons h
    exact ⟨h1, fits_append h2 h'⟩
/-- A type whose values are such cells. -/
structure RD (P : Program) (t : TypeId) (ks : List CK) : Prop where
  out : ∀ {H : Type} {enc : TypeId × Value → H} {w : World} {base : Nat} {spare : Nat → Bool} {held : Bool} {fuel : Nat} {cs : List Value} {x : DataW H × List MemPlace}, DataW.trod enc P w base spare held fuel t cs = some x → fits ks cs
section
variable {P : Program}
theorem RD_int {t : TypeId} (u : P.underlying t = some (.int .i64)) : RD P t [.int] := ⟨fun h => by
  obtain ⟨n, rfl, rfl, hw⟩ := DataW.trod_int u h
  have := bounds_i64 hw
  exact ⟨⟨n, rfl, this.1, by omega⟩, trivial⟩⟩
theorem RD_str {t : TypeId} (u : P.underlying t = some .string) : RD P t [.str] := ⟨fun h => by
  obtain ⟨s, rfl, rfl, hw⟩ := DataW.trod_string u h
  exact ⟨⟨s.data.toList, rfl⟩, trivial⟩⟩
theorem RD_bool {t : TypeId} (u : P.underlying t = some .bool) : RD P t [.bool] := ⟨fun h => by
  obtain ⟨s, rfl, rfl⟩ := DataW.trod_bool u h
  exact ⟨⟨s, rfl⟩, trivial⟩⟩
/-- A struct's fields, from a place on. -/
inductive RDF (P : Program) : List Field → Nat → List CK → Prop
  | nil {o : Nat} : RDF P [] o []
  | cons {f : Field} {fs : List Field} {o : Nat} {k1 k2 : List CK} (ho : f.offset = o) (h : RD P f.type k1) (hc : P.cellsOf f.type = k1.length) (r : RDF P fs (o + k1.length) k2) : RDF P (f :: fs) o (k1 ++ k2)
theorem RDF.fits {H : Type} {enc : TypeId × Value → H} {w : World} {base : Nat} {spare : Nat → Bool} {held : Bool} {n : Nat} {cs : List Value} : ∀ {fs : List Field} {o : Nat} {ks : List CK}, RDF P fs o ks →
    (∀ f ∈ fs, ∃ x, DataW.trod enc P w base spare held n f.type ((cs.drop f.offset).take (P.cellsOf f.type)) = some x) → cs.length = o + ks.length → Sol.fits ks (cs.drop o)
  | _, o, _, .nil, _, hl => by
    have : cs.drop o = [] := List.drop_of_length_le (by simpa using Nat.le_of_eq hl)
    rw [this]; exact trivial
  | _, o, _, .cons (f := f) (fs := fs) (k1 := k1) (k2 := k2) ho h hc r, hf, hl => by
    obtain ⟨x, hx⟩ := hf f List.mem_cons_self
    rw [ho, hc] at hx
    have h1 := h.out hx
    have h2 := RDF.fits r (fun g hg => hf g (List.mem_cons_of_mem _ hg)) (by rw [hl, List.length_append]; omega)
    have e : cs.drop o = (cs.drop o).take k1.length ++ cs.drop (o + k1.length) := by rw [← List.drop_drop, List.take_append_drop]
    rw [e]
    exact fits_append h1 h2
theorem RD_struct {t : TypeId} {fs : Array Field} {ks : List CK} (u : P.underlying t = some (.struct fs)) (hc : P.cellsOf t = ks.length) (hf : RDF P fs.toList 0 ks) : RD P t ks := ⟨fun h => by
  obtain ⟨xs, n, _, _, hl, hxl, hx⟩ := DataW.trod_struct u h
  have := hf.fits (cs := _) (fun f hm => by
    obtain ⟨i, hi, he⟩ := List.getElem_of_mem hm
    have hi' : i < fs.size := by simpa using hi
    have hfi : fs[i]? = some f := by rw [← Array.getElem?_toList, List.getElem?_eq_getElem hi, he]
    have h1 := hx i f hfi
    rw [List.getElem?_eq_getElem (by omega)] at h1
    exact ⟨_, h1⟩) (by rw [hl, hc]; omega)
  simpa using this⟩
/-- A parameter that is a struct of such cells. -/
theorem open_flat {H : Type} {enc : TypeId × Value → H} {w : World} {base : Nat} {spare : Nat → Bool} {held : Bool} {t : TypeId} {fs : Array Field} {ks : List CK} {v : Value} {d : DataW H} {p : List MemPlace} {r : Reach} {b0 : Nat} (u : P.underlying t = some (.struct fs)) (rd : RD P t ks)
    (hv : Value.okWide P w r b0 t v) (h : DataW.Trod enc P w base spare held t v d p) : ∃ vs : List Value, v = .agg vs.toArray ∧ fits ks vs := by
  obtain ⟨cs, rfl, hsz⟩ := okWide_struct u hv
  obtain ⟨fuel, hf⟩ := h
  exact ⟨cs.toList, by simp, rd.out (by simpa [Value.cells] using hf)⟩
end
end Go.Proofs.Sol

/- Layout: where the parts of a volume are. -/
namespace Go.Proofs.Sol
open Go Go.Proofs
set_option maxRecDepth 100000
set_option maxHeartbeats 4000000
set_option linter.unusedVariables false
set_option linter.unusedSimpArgs false
attribute [local irreducible] R J JW E D Fn Y clf mpI own Sat Exit.then Exit.inBlock bodyPost bodyPostM Code.wpIn wpL

structure Cfg where
  E : Int
  S : Int
  L : Int
abbrev cfgL (c : Cfg) : List Value := [.int .i64 c.E, .int .i64 c.S, .int .i64 c.L]
abbrev cfgV (c : Cfg) : Value := .agg (cfgL c).toArray
theorem layout_within (x lo hi : Int) (F : List HP) : Fn Tryz.prog 140 [.int .i64 x, .int .i64 lo, .int .i64 hi] F (Pst (.bool (decide (lo ≤ x) && decide (x ≤ hi))) F) := by
  refine Fn_enter Tryz.func140 rfl Tryz.ntmps140 rfl ?_
  refine R_seq ?_
  refine R_region ?_
  refine J_assign rfl rfl rfl ?_
  refine J_nil ?_
  refine E_then ?_
  refine R_seq ?_
  refine R_region ?_
  refine J_move rfl rfl rfl ?_
  refine J_move rfl rfl rfl ?_
  refine J_cmp rfl rfl rfl rfl rfl ?_
  refine J_move rfl rfl rfl ?_
  refine J_guard_split rfl rfl (fun hh => ?_) (fun hh => ?_)
  simp only [decide_eq_true_eq, decide_eq_false_iff_not, Bool.and_eq_true, Bool.or_eq_true, Bool.not_eq_true', Bool.not_eq_false', beq_iff_eq, bne_iff_ne, beq_eq_false_iff_ne, bne_eq_false_iff_eq, ne_eq, ge_iff_le, gt_iff_lt, Int.not_le, Int.not_lt, Bool.and_eq_false_iff, Bool.or_eq_false_iff, Decidable.not_not] at hh
  refine J_guard rfl rfl rfl ?_
  refine J_move rfl rfl rfl ?_
  refine J_guard rfl rfl rfl ?_
  refine J_move rfl rfl rfl ?_
  refine J_guard rfl rfl rfl ?_
  refine J_cmp rfl rfl rfl rfl rfl ?_
  refine J_pick_true rfl rfl rfl rfl ?_
  refine J_assign rfl rfl rfl ?_
  refine J_nil3 ?_
  refine E_then ?_
  refine R_ret ?_
  rotate_left
  simp only [decide_eq_true_eq, decide_eq_false_iff_not, Bool.and_eq_true, Bool.or_eq_true, Bool.not_eq_true', Bool.not_eq_false', beq_iff_eq, bne_iff_ne, beq_eq_false_iff_ne, bne_eq_false_iff_eq, ne_eq, ge_iff_le, gt_iff_lt, Int.not_le, Int.not_lt, Bool.and_eq_false_iff, Bool.or_eq_false_iff, Decidable.not_not] at hh
  refine J_guard_not rfl rfl rfl rfl rfl rfl ?_
  refine J_guard_not rfl rfl rfl rfl rfl rfl ?_
  refine J_guard_not rfl rfl rfl rfl rfl rfl ?_
  refine J_pick_false rfl rfl rfl rfl ?_
  refine J_assign rfl rfl rfl ?_
  refine J_nil3 ?_
  refine E_then ?_
  refine R_ret ?_
  rotate_left
  all_goals
    apply E_retP Tryz.results140
    · exact Res.tmp rfl (Res.nil)
    · (repeat (with_reducible exact Gives.refl))
    (first | (simp_all [one]; done) | (simp_all [one]; omega))
def cfgOk (c : Cfg) : Bool := (decide (1 ≤ c.E) && decide (c.E ≤ 24)) && (decide (1 ≤ c.S) && decide (c.S ≤ 8)) && (decide (24 ≤ c.L) && decide (c.L ≤ 200))
def cfgE (c : Cfg) : Int := if cfgOk c then 0 else 3
theorem layout_Check (c : Cfg) (F : List HP) : Fn Tryz.prog 68 [cfgV c] F (Pst (.int .i64 (cfgE c)) F) := by
  refine Fn_enter Tryz.func68 rfl Tryz.ntmps68 rfl ?_
  refine R_seq ?_
  refine R_region ?_
  refine J_boxA rfl rfl rfl ?_; intro
  refine J_assign rfl rfl rfl ?_
  refine J_nil ?_
  refine E_then ?_
  refine R_seq ?_
  refine R_seq ?_
  refine R_region ?_
  refine J_fieldAddr0 rfl rfl rfl ?_
  refine J_load rfl rfl rfl rfl ?_
  refine J_callr rfl (layout_within _ _ _ _) (by exact Gives.refl) rfl rfl ?_
  refine J_un_not rfl rfl rfl ?_
  refine J_move rfl rfl rfl ?_
  refine J_guard_split rfl rfl (fun hh => ?_) (fun hh => ?_)
  simp only [decide_eq_true_eq, decide_eq_false_iff_not, Bool.and_eq_true, Bool.or_eq_true, Bool.not_eq_true', Bool.not_eq_false', beq_iff_eq, bne_iff_ne, beq_eq_false_iff_ne, bne_eq_false_iff_eq, ne_eq, ge_iff_le, gt_iff_lt, Int.not_le, Int.not_lt, Bool.and_eq_false_iff, Bool.or_eq_false_iff, Decidable.not_not] at hh
  refine J_guard_not rfl rfl rfl rfl rfl rfl ?_
  refine J_guard_not rfl rfl rfl rfl rfl rfl ?_
  refine J_guard_not rfl rfl rfl rfl rfl rfl ?_
  refine J_guard_not rfl rfl rfl rfl rfl rfl ?_
  refine J_pick_true rfl rfl rfl rfl ?_
  refine J_move rfl rfl rfl ?_
  refine J_guard_not rfl rfl rfl rfl rfl rfl ?_
  refine J_guard_not rfl rfl rfl rfl rfl rfl ?_
  refine J_guard_not rfl rfl rfl rfl rfl rfl ?_
  refine J_guard_not rfl rfl rfl rfl rfl rfl ?_
  refine J_pick_true rfl rfl rfl rfl ?_
  refine J_nil3 ?_
  refine E_then ?_
  refine R_cond_true rfl ?_
  refine R_seq ?_
  refine R_region ?_
  refine J_assign rfl rfl rfl ?_
  refine J_nil ?_
  refine E_then ?_
  refine R_ret ?_
  refine E_then_ret ?_
  rotate_left
  simp only [decide_eq_true_eq, decide_eq_false_iff_not, Bool.and_eq_true, Bool.or_eq_true, Bool.not_eq_true', Bool.not_eq_false', beq_iff_eq, bne_iff_ne, beq_eq_false_iff_ne, bne_eq_false_iff_eq, ne_eq, ge_iff_le, gt_iff_lt, Int.not_le, Int.not_lt, Bool.and_eq_false_iff, Bool.or_eq_false_iff, Decidable.not_not] at hh
  refine J_guard rfl rfl rfl ?_
  refine J_fieldAddr0 rfl rfl rfl ?_
  refine J_guard rfl rfl rfl ?_
  refine J_load rfl rfl rfl rfl ?_
  refine J_guard rfl rfl rfl ?_
  rotate_left
  · apply E_retP Tryz.results68
    · exact Res.tmp rfl (Res.nil)
    · exact Gives.drop Gives.refl
    (first | (simp_all [one, cfgE, cfgOk]; done) | (simp_all [one, cfgE, cfgOk]; omega))
  refine J_callr rfl (layout_within _ _ _ _) (by exact Gives.refl) rfl rfl ?_
  refine J_guard rfl rfl rfl ?_
  refine J_un_not rfl rfl rfl ?_
  refine J_pick_false rfl rfl rfl rfl ?_
  refine J_move rfl rfl rfl ?_
  refine J_guard_split rfl rfl (fun hh => ?_) (fun hh => ?_)
  simp only [decide_eq_true_eq, decide_eq_false_iff_not, Bool.and_eq_true, Bool.or_eq_true, Bool.not_eq_true', Bool.not_eq_false', beq_iff_eq, bne_iff_ne, beq_eq_false_iff_ne, bne_eq_false_iff_eq, ne_eq, ge_iff_le, gt_iff_lt, Int.not_le, Int.not_lt, Bool.and_eq_false_iff, Bool.or_eq_false_iff, Decidable.not_not] at hh
  refine J_guard_not rfl rfl rfl rfl rfl rfl ?_
  refine J_guard_not rfl rfl rfl rfl rfl rfl ?_
  refine J_guard_not rfl rfl rfl rfl rfl rfl ?_
  refine J_guard_not rfl rfl rfl rfl rfl rfl ?_
  refine J_pick_true rfl rfl rfl rfl ?_
  refine J_nil3 ?_
  refine E_then ?_
  refine R_cond_true rfl ?_
  refine R_seq ?_
  refine R_region ?_
  refine J_assign rfl rfl rfl ?_
  refine J_nil ?_
  refine E_then ?_
  refine R_ret ?_
  refine E_then_ret ?_
  rotate_left
  simp only [decide_eq_true_eq, decide_eq_false_iff_not, Bool.and_eq_true, Bool.or_eq_true, Bool.not_eq_true', Bool.not_eq_false', beq_iff_eq, bne_iff_ne, beq_eq_false_iff_ne, bne_eq_false_iff_eq, ne_eq, ge_iff_le, gt_iff_lt, Int.not_le, Int.not_lt, Bool.and_eq_false_iff, Bool.or_eq_false_iff, Decidable.not_not] at hh
  refine J_guard rfl rfl rfl ?_
  refine J_fieldAddr0 rfl rfl rfl ?_
  refine J_guard rfl rfl rfl ?_
  refine J_load rfl rfl rfl rfl ?_
  refine J_guard rfl rfl rfl ?_
  rotate_left
  · apply E_retP Tryz.results68
    · exact Res.tmp rfl (Res.nil)
    · exact Gives.drop Gives.refl
    (first | (simp_all [one, cfgE, cfgOk]; done) | (simp_all [one, cfgE, cfgOk]; omega))
  refine J_callr rfl (layout_within _ _ _ _) (by exact Gives.refl) rfl rfl ?_
  refine J_guard rfl rfl rfl ?_
  refine J_un_not rfl rfl rfl ?_
  refine J_pick_false rfl rfl rfl rfl ?_
  refine J_nil3 ?_
  refine E_then ?_
  refine R_cond rfl (fun hh => ?_) (fun hh => ?_)
  simp only [decide_eq_true_eq, decide_eq_false_iff_not, Bool.and_eq_true, Bool.or_eq_true, Bool.not_eq_true', Bool.not_eq_false', beq_iff_eq, bne_iff_ne, beq_eq_false_iff_ne, bne_eq_false_iff_eq, ne_eq, ge_iff_le, gt_iff_lt, Int.not_le, Int.not_lt, Bool.and_eq_false_iff, Bool.or_eq_false_iff, Decidable.not_not] at hh
  refine R_seq ?_
  refine R_region ?_
  refine J_assign rfl rfl rfl ?_
  refine J_nil ?_
  refine E_then ?_
  refine R_ret ?_
  refine E_then_ret ?_
  rotate_left
  simp only [decide_eq_true_eq, decide_eq_false_iff_not, Bool.and_eq_true, Bool.or_eq_true, Bool.not_eq_true', Bool.not_eq_false', beq_iff_eq, bne_iff_ne, beq_eq_false_iff_ne, bne_eq_false_iff_eq, ne_eq, ge_iff_le, gt_iff_lt, Int.not_le, Int.not_lt, Bool.and_eq_false_iff, Bool.or_eq_false_iff, Decidable.not_not] at hh
  refine R_skip ?_
  refine E_then ?_
  refine R_seq ?_
  refine R_region ?_
  refine J_assign rfl rfl rfl ?_
  refine J_nil ?_
  refine E_then ?_
  refine R_ret ?_
  rotate_left
  all_goals
    apply E_retP Tryz.results68
    · exact Res.tmp rfl (Res.nil)
    · (repeat (first | ((fail_if_success (apply Gives.cons)); refine Gives.drop ?_) | with_reducible exact Gives.refl))
    (first | (simp_all [one, cfgE, cfgOk]; done) | (simp_all [one, cfgE, cfgOk]; omega))
/-- Where the parts begin. -/
def pTab : Int := 2
def pExt (c : Cfg) : Int := 2 + (c.E + 1) / 2
def pSlot (c : Cfg) : Int := pExt c + c.E * 2
def pLog (c : Cfg) : Int := pSlot c + c.S * 5
def pEnd (c : Cfg) : Int := pLog c + c.L
def partsL (c : Cfg) : List Value := if cfgOk c then [.int .i64 0, .int .i64 1, .int .i64 2, .int .i64 (pExt c), .int .i64 (pSlot c), .int .i64 (pLog c), .int .i64 (pEnd c)] else [.int .i64 0, .int .i64 0, .int .i64 0, .int .i64 0, .int .i64 0, .int .i64 0, .int .i64 0]
theorem cfgOk_spec {c : Cfg} (h : cfgOk c = true) : 1 ≤ c.E ∧ c.E ≤ 24 ∧ 1 ≤ c.S ∧ c.S ≤ 8 ∧ 24 ≤ c.L ∧ c.L ≤ 200 := by
  simp [cfgOk] at h; omega
theorem layout_of (c : Cfg) (F : List HP) : Fn Tryz.prog 117 [cfgV c] F (Pst (.agg (partsL c).toArray) F) := by
  refine Fn_enter Tryz.func117 rfl Tryz.ntmps117 rfl ?_
  by_cases hc : cfgOk c = true
  · have h := cfgOk_spec hc
    have e : cfgE c = 0 := by simp [cfgE, hc]
    refine R_seq ?_
    refine R_region ?_
    refine J_boxA rfl rfl rfl ?_; intro
    refine J_alloc rfl rfl ?_; intro
    refine J_nil ?_
    refine E_then ?_
    refine R_seq ?_
    refine R_region ?_
    refine J_alloc rfl rfl ?_; intro
    refine J_nil ?_
    refine E_then ?_
    refine R_seq ?_
    refine R_seq ?_
    refine R_region ?_
    refine J_loadA rfl rfl rfl rfl ?_
    refine J_callr rfl (e ▸ layout_Check _ _) (by exact Gives.refl) rfl rfl ?_
    refine J_cmp rfl rfl rfl rfl rfl ?_
    refine J_nil3 ?_
    refine E_then ?_
    refine R_cond_false rfl ?_
    refine R_skip ?_
    refine E_then ?_
    refine R_seq ?_
    refine R_region ?_
    refine J_fieldAddr0 rfl rfl rfl ?_
    refine J_load rfl rfl rfl rfl ?_
    refine J_ari64 rfl rfl rfl (by omega) rfl rfl ?_
    refine J_fieldAddr0 rfl rfl rfl ?_
    refine J_store rfl rfl rfl rfl ?_
    refine J_nil3 ?_
    refine E_then ?_
    refine R_seq ?_
    refine R_region ?_
    refine J_fieldAddr0 rfl rfl rfl ?_
    refine J_load rfl rfl rfl rfl ?_
    refine J_ari64 rfl rfl rfl (by omega) rfl rfl ?_
    refine J_fieldAddr0 rfl rfl rfl ?_
    refine J_store rfl rfl rfl rfl ?_
    refine J_nil3 ?_
    refine E_then ?_
    refine R_seq ?_
    refine R_region ?_
    refine J_fieldAddr0 rfl rfl rfl ?_
    refine J_load rfl rfl rfl rfl ?_
    refine J_fieldAddr0 rfl rfl rfl ?_
    refine J_load rfl rfl rfl rfl ?_
    refine J_ari64 rfl rfl rfl (by omega) rfl rfl ?_
    refine J_ari64 rfl rfl rfl (by omega) rfl rfl ?_
    refine J_quo rfl rfl (by omega) (by omega) rfl rfl ?_
    refine J_ari64 rfl rfl rfl (by omega) rfl rfl ?_
    refine J_fieldAddr0 rfl rfl rfl ?_
    refine J_store rfl rfl rfl rfl ?_
    refine J_nil3 ?_
    refine E_then ?_
    refine R_seq ?_
    refine R_region ?_
    refine J_fieldAddr0 rfl rfl rfl ?_
    refine J_load rfl rfl rfl rfl ?_
    refine J_fieldAddr0 rfl rfl rfl ?_
    refine J_load rfl rfl rfl rfl ?_
    refine J_ari64 rfl rfl rfl (by omega) rfl rfl ?_
    refine J_ari64 rfl rfl rfl (by omega) rfl rfl ?_
    refine J_fieldAddr0 rfl rfl rfl ?_
    refine J_store rfl rfl rfl rfl ?_
    refine J_nil3 ?_
    refine E_then ?_
    refine R_seq ?_
    refine R_region ?_
    refine J_fieldAddr0 rfl rfl rfl ?_
    refine J_load rfl rfl rfl rfl ?_
    refine J_fieldAddr0 rfl rfl rfl ?_
    refine J_load rfl rfl rfl rfl ?_
    refine J_ari64 rfl rfl rfl (by omega) rfl rfl ?_
    refine J_ari64 rfl rfl rfl (by omega) rfl rfl ?_
    refine J_fieldAddr0 rfl rfl rfl ?_
    refine J_store rfl rfl rfl rfl ?_
    refine J_nil3 ?_
    refine E_then ?_
    refine R_seq ?_
    refine R_region ?_
    refine J_fieldAddr0 rfl rfl rfl ?_
    refine J_load rfl rfl rfl rfl ?_
    refine J_fieldAddr0 rfl rfl rfl ?_
    refine J_load rfl rfl rfl rfl ?_
    refine J_ari64 rfl rfl rfl (by omega) rfl rfl ?_
    refine J_fieldAddr0 rfl rfl rfl ?_
    refine J_store rfl rfl rfl rfl ?_
    refine J_nil3 ?_
    refine E_then ?_
    refine R_seq ?_
    refine R_region ?_
    refine J_loadA rfl rfl rfl rfl ?_
    refine J_storeA rfl rfl rfl rfl rfl rfl ?_
    refine J_nil1 ?_
    refine E_then ?_
    refine R_ret ?_
    apply E_retP Tryz.results117
    · exact Res_cellA rfl rfl (Res.nil)
    · exact Gives.drop (Gives.drop (Gives.drop Gives.refl))
    simp [one, partsL, hc, pExt, pSlot, pLog, pEnd]
    omega
  · have e : cfgE c = 3 := by simp [cfgE, hc]
    refine R_seq ?_
    refine R_region ?_
    refine J_boxA rfl rfl rfl ?_; intro
    refine J_alloc rfl rfl ?_; intro
    refine J_nil ?_
    refine E_then ?_
    refine R_seq ?_
    refine R_region ?_
    refine J_alloc rfl rfl ?_; intro
    refine J_nil ?_
    refine E_then ?_
    refine R_seq ?_
    refine R_seq ?_
    refine R_region ?_
    refine J_loadA rfl rfl rfl rfl ?_
    refine J_callr rfl (e ▸ layout_Check _ _) (by exact Gives.refl) rfl rfl ?_
    refine J_cmp rfl rfl rfl rfl rfl ?_
    refine J_nil3 ?_
    refine E_then ?_
    refine R_cond_true rfl ?_
    refine R_seq ?_
    refine R_region ?_
    refine J_loadA rfl rfl rfl rfl ?_
    refine J_storeA rfl rfl rfl rfl rfl rfl ?_
    refine J_nil1 ?_
    refine E_then ?_
    refine R_ret ?_
    refine E_then_ret ?_
    apply E_retP Tryz.results117
    · exact Res_cellA rfl rfl (Res.nil)
    · exact Gives.drop (Gives.drop (Gives.drop Gives.refl))
    simp [one, partsL, hc]
def pz (c : Cfg) (x : Int) : Int := if cfgOk c then x else 0
theorem layout_Sectors (c : Cfg) (F : List HP) : Fn Tryz.prog 116 [cfgV c] F (Pst (.int .i64 (pz c (pEnd c))) F) := by
  refine Fn_enter Tryz.func116 rfl Tryz.ntmps116 rfl ?_
  by_cases hc : cfgOk c = true
  all_goals
    repeat' (first | refine R_seq ?_ | refine R_region ?_ | (refine J_boxA rfl rfl rfl ?_; intro) | refine J_assign rfl rfl rfl ?_ | refine J_nil ?_ | refine E_then ?_ | refine J_loadA rfl rfl rfl rfl ?_)
    refine J_callr rfl (layout_of _ _) (by (repeat (with_reducible exact Gives.refl))) rfl rfl ?_
    simp only [partsL, hc, if_true, if_false, Bool.false_eq_true]
    repeat' (first | refine J_field rfl rfl rfl rfl ?_ | refine J_assign rfl rfl rfl ?_ | refine J_nil3 ?_ | refine E_then ?_ | refine R_ret ?_)
    apply E_retP Tryz.results116
    · exact Res.tmp rfl (Res.nil)
    · (repeat (first | ((fail_if_success (apply Gives.cons)); refine Gives.drop ?_) | with_reducible exact Gives.refl))
    simp [one, pz, hc]
theorem layout_Log (c : Cfg) (F : List HP) : Fn Tryz.prog 37 [cfgV c] F (Pst (.int .i64 (pz c (pLog c))) F) := by
  refine Fn_enter Tryz.func37 rfl Tryz.ntmps37 rfl ?_
  by_cases hc : cfgOk c = true
  all_goals
    repeat' (first | refine R_seq ?_ | refine R_region ?_ | (refine J_boxA rfl rfl rfl ?_; intro) | refine J_assign rfl rfl rfl ?_ | refine J_nil ?_ | refine E_then ?_ | refine J_loadA rfl rfl rfl rfl ?_)
    refine J_callr rfl (layout_of _ _) (by (repeat (with_reducible exact Gives.refl))) rfl rfl ?_
    simp only [partsL, hc, if_true, if_false, Bool.false_eq_true]
    repeat' (first | refine J_field rfl rfl rfl rfl ?_ | refine J_assign rfl rfl rfl ?_ | refine J_nil3 ?_ | refine E_then ?_ | refine R_ret ?_)
    apply E_retP Tryz.results37
    · exact Res.tmp rfl (Res.nil)
    · (repeat (first | ((fail_if_success (apply Gives.cons)); refine Gives.drop ?_) | with_reducible exact Gives.refl))
    simp [one, pz, hc]
theorem layout_Journal (c : Cfg) (F : List HP) : Fn Tryz.prog 142 [cfgV c] F (Pst (.int .i64 (pz c 1)) F) := by
  refine Fn_enter Tryz.func142 rfl Tryz.ntmps142 rfl ?_
  by_cases hc : cfgOk c = true
  all_goals
    repeat' (first | refine R_seq ?_ | refine R_region ?_ | (refine J_boxA rfl rfl rfl ?_; intro) | refine J_assign rfl rfl rfl ?_ | refine J_nil ?_ | refine E_then ?_ | refine J_loadA rfl rfl rfl rfl ?_)
    refine J_callr rfl (layout_of _ _) (by (repeat (with_reducible exact Gives.refl))) rfl rfl ?_
    simp only [partsL, hc, if_true, if_false, Bool.false_eq_true]
    repeat' (first | refine J_field rfl rfl rfl rfl ?_ | refine J_assign rfl rfl rfl ?_ | refine J_nil3 ?_ | refine E_then ?_ | refine R_ret ?_)
    apply E_retP Tryz.results142
    · exact Res.tmp rfl (Res.nil)
    · (repeat (first | ((fail_if_success (apply Gives.cons)); refine Gives.drop ?_) | with_reducible exact Gives.refl))
    simp [one, pz, hc]
/-- Is there a thing of so many? -/
def chk (c : Cfg) (n many : Int) : Int := if cfgOk c then (if 0 ≤ n ∧ n < many then 0 else 3) else 3
theorem layout_checked (c : Cfg) (n many : Int) (hm : cfgOk c = true → -1000000 ≤ many ∧ many ≤ 1000000) (F : List HP) : Fn Tryz.prog 120 [cfgV c, .int .i64 n, .int .i64 many] F (Pst (.int .i64 (chk c n many)) F) := by
  refine Fn_enter Tryz.func120 rfl Tryz.ntmps120 rfl ?_
  by_cases hc : cfgOk c = true
  · have e : cfgE c = 0 := by simp [cfgE, hc]
    have hm := hm hc
    refine R_seq ?_
    refine R_region ?_
    refine J_boxA rfl rfl rfl ?_; intro
    refine J_assign rfl rfl rfl ?_
    refine J_nil ?_
    refine E_then ?_
    refine R_seq ?_
    refine R_seq ?_
    refine R_region ?_
    refine J_loadA rfl rfl rfl rfl ?_
    refine J_callr rfl (e ▸ layout_Check _ _) (by exact Gives.refl) rfl rfl ?_
    refine J_assign rfl rfl rfl ?_
    refine J_nil2 ?_
    refine E_then ?_
    refine R_seq ?_
    refine R_region ?_
    refine J_move rfl rfl rfl ?_
    refine J_cmp rfl rfl rfl rfl rfl ?_
    refine J_nil2 ?_
    refine E_then ?_
    refine R_cond_false rfl ?_
    refine R_skip ?_
    refine E_then ?_
    refine R_seq ?_
    refine R_seq ?_
    refine R_region ?_
    refine J_move rfl rfl rfl ?_
    refine J_move rfl rfl rfl ?_
    refine J_ari64 rfl rfl rfl (by omega) rfl rfl ?_
    refine J_callr rfl (layout_within _ _ _ _) (by exact Gives.refl) rfl rfl ?_
    refine J_un_not rfl rfl rfl ?_
    refine J_nil3 ?_
    refine E_then ?_
    refine R_cond rfl (fun hh => ?_) (fun hh => ?_)
    simp only [decide_eq_true_eq, decide_eq_false_iff_not, Bool.and_eq_true, Bool.or_eq_true, Bool.not_eq_true', Bool.not_eq_false', beq_iff_eq, bne_iff_ne, beq_eq_false_iff_ne, bne_eq_false_iff_eq, ne_eq, ge_iff_le, gt_iff_lt, Int.not_le, Int.not_lt, Bool.and_eq_false_iff, Bool.or_eq_false_iff, Decidable.not_not] at hh
    refine R_seq ?_
    refine R_region ?_
    refine J_assign rfl rfl rfl ?_
    refine J_nil ?_
    refine E_then ?_
    refine R_ret ?_
    refine E_then_ret ?_
    rotate_left
    simp only [decide_eq_true_eq, decide_eq_false_iff_not, Bool.and_eq_true, Bool.or_eq_true, Bool.not_eq_true', Bool.not_eq_false', beq_iff_eq, bne_iff_ne, beq_eq_false_iff_ne, bne_eq_false_iff_eq, ne_eq, ge_iff_le, gt_iff_lt, Int.not_le, Int.not_lt, Bool.and_eq_false_iff, Bool.or_eq_false_iff, Decidable.not_not] at hh
    refine R_skip ?_
    refine E_then ?_
    refine R_seq ?_
    refine R_region ?_
    refine J_assign rfl rfl rfl ?_
    refine J_nil ?_
    refine E_then ?_
    refine R_ret ?_
    rotate_left
    all_goals
      apply E_retP Tryz.results120
      · exact Res.tmp rfl (Res.nil)
      · (repeat (first | ((fail_if_success (apply Gives.cons)); refine Gives.drop ?_) | with_reducible exact Gives.refl))
      (first | (simp_all [one, chk]; done) | (simp_all [one, chk]; omega))
  · have e : cfgE c = 3 := by simp [cfgE, hc]
    refine R_seq ?_
    refine R_region ?_
    refine J_boxA rfl rfl rfl ?_; intro
    refine J_assign rfl rfl rfl ?_
    refine J_nil ?_
    refine E_then ?_
    refine R_seq ?_
    refine R_seq ?_
    refine R_region ?_
    refine J_loadA rfl rfl rfl rfl ?_
    refine J_callr rfl (e ▸ layout_Check _ _) (by exact Gives.refl) rfl rfl ?_
    refine J_assign rfl rfl rfl ?_
    refine J_nil2 ?_
    refine E_then ?_
    refine R_seq ?_
    refine R_region ?_
    refine J_move rfl rfl rfl ?_
    refine J_cmp rfl rfl rfl rfl rfl ?_
    refine J_nil2 ?_
    refine E_then ?_
    refine R_cond_true rfl ?_
    refine R_seq ?_
    refine R_region ?_
    refine J_move rfl rfl rfl ?_
    refine J_assign rfl rfl rfl ?_
    refine J_nil1 ?_
    refine E_then ?_
    refine R_ret ?_
    refine E_then_ret ?_
    apply E_retP Tryz.results120
    · exact Res.tmp rfl (Res.nil)
    · exact Gives.drop Gives.refl
    (first | (simp_all [one, chk]; done) | (simp_all [one, chk]; omega))
theorem chk_ok {c : Cfg} {n many : Int} (h : chk c n many = 0) : cfgOk c = true ∧ 0 ≤ n ∧ n < many := by
  unfold chk at h
  split at h
  · rename_i hc
    split at h
    · exact ⟨hc, by omega, by omega⟩
    · omega
  · omega
theorem chk_no {c : Cfg} {n many : Int} (h : ¬ chk c n many = 0) : chk c n many = 3 := by
  unfold chk at h ⊢
  split
  · split
    · rename_i h1 h2; simp [h1, h2] at h
    · rfl
  · rfl
theorem layout_Extent (c : Cfg) (n : Int) (F : List HP) : Fn Tryz.prog 40 [cfgV c, .int .i64 n] F (Pst (.tuple #[.int .i64 (if chk c n c.E = 0 then pExt c + n * 2 else 0), .int .i64 (chk c n c.E)]) F) := by
  refine Fn_enter Tryz.func40 rfl Tryz.ntmps40 rfl ?_
  refine R_seq ?_
  refine R_region ?_
  refine J_boxA rfl rfl rfl ?_; intro
  refine J_assign rfl rfl rfl ?_
  refine J_assign rfl rfl rfl ?_
  refine J_nil ?_
  refine E_then ?_
  refine R_seq ?_
  refine R_seq ?_
  refine R_region ?_
  refine J_loadA rfl rfl rfl rfl ?_
  refine J_move rfl rfl rfl ?_
  refine J_fieldAddr0 rfl rfl rfl ?_
  refine J_load rfl rfl rfl rfl ?_
  refine J_callr rfl (layout_checked _ _ _ (fun hc => by have := cfgOk_spec hc; omega) _) (by exact Gives.refl) rfl rfl ?_
  by_cases h : chk c n c.E = 0
  · obtain ⟨hc, h1, h2⟩ := chk_ok h
    have h3 := cfgOk_spec hc
    simp only [h, if_true]
    refine J_assign rfl rfl rfl ?_
    refine J_nil3 ?_
    refine E_then ?_
    refine R_seq ?_
    refine R_region ?_
    refine J_move rfl rfl rfl ?_
    refine J_cmp rfl rfl rfl rfl rfl ?_
    refine J_nil2 ?_
    refine E_then ?_
    refine R_cond_false rfl ?_
    refine R_skip ?_
    refine E_then ?_
    refine R_seq ?_
    refine R_region ?_
    refine J_loadA rfl rfl rfl rfl ?_
    refine J_callr rfl (layout_of _ _) (by exact Gives.refl) rfl rfl ?_
    simp only [partsL, hc, if_true]
    have e : pExt c = 2 + (c.E + 1) / 2 := rfl
    refine J_field rfl rfl rfl rfl ?_
    refine J_move rfl rfl rfl ?_
    refine J_ari64 rfl rfl rfl (by omega) rfl rfl ?_
    refine J_ari64 rfl rfl rfl (by omega) rfl rfl ?_
    refine J_assign rfl rfl rfl ?_
    refine J_assign rfl rfl rfl ?_
    refine J_nil3 ?_
    refine E_then ?_
    refine R_ret ?_
    apply E_retP Tryz.results40
    · exact Res.tmp rfl (Res.tmp rfl (Res.nil))
    · exact Gives.drop Gives.refl
    rfl
  · have h' := chk_no h
    simp only [h', if_false]
    refine J_assign rfl rfl rfl ?_
    refine J_nil3 ?_
    refine E_then ?_
    refine R_seq ?_
    refine R_region ?_
    refine J_move rfl rfl rfl ?_
    refine J_cmp rfl rfl rfl rfl rfl ?_
    refine J_nil2 ?_
    refine E_then ?_
    refine R_cond_true rfl ?_
    refine R_seq ?_
    refine R_region ?_
    refine J_move rfl rfl rfl ?_
    refine J_assign rfl rfl rfl ?_
    refine J_assign rfl rfl rfl ?_
    refine J_nil1 ?_
    refine E_then ?_
    refine R_ret ?_
    refine E_then_ret ?_
    apply E_retP Tryz.results40
    · exact Res.tmp rfl (Res.tmp rfl (Res.nil))
    · exact Gives.drop Gives.refl
    rfl
theorem layout_Slot (c : Cfg) (n : Int) (F : List HP) : Fn Tryz.prog 146 [cfgV c, .int .i64 n] F (Pst (.tuple #[.int .i64 (if chk c n c.S = 0 then pSlot c + n * 5 else 0), .int .i64 (chk c n c.S)]) F) := by
  refine Fn_enter Tryz.func146 rfl Tryz.ntmps146 rfl ?_
  refine R_seq ?_
  refine R_region ?_
  refine J_boxA rfl rfl rfl ?_; intro
  refine J_assign rfl rfl rfl ?_
  refine J_assign rfl rfl rfl ?_
  refine J_nil ?_
  refine E_then ?_
  refine R_seq ?_
  refine R_seq ?_
  refine R_region ?_
  refine J_loadA rfl rfl rfl rfl ?_
  refine J_move rfl rfl rfl ?_
  refine J_fieldAddr0 rfl rfl rfl ?_
  refine J_load rfl rfl rfl rfl ?_
  refine J_callr rfl (layout_checked _ _ _ (fun hc => by have := cfgOk_spec hc; omega) _) (by exact Gives.refl) rfl rfl ?_
  by_cases h : chk c n c.S = 0
  · obtain ⟨hc, h1, h2⟩ := chk_ok h
    have h3 := cfgOk_spec hc
    simp only [h, if_true]
    refine J_assign rfl rfl rfl ?_
    refine J_nil3 ?_
    refine E_then ?_
    refine R_seq ?_
    refine R_region ?_
    refine J_move rfl rfl rfl ?_
    refine J_cmp rfl rfl rfl rfl rfl ?_
    refine J_nil2 ?_
    refine E_then ?_
    refine R_cond_false rfl ?_
    refine R_skip ?_
    refine E_then ?_
    refine R_seq ?_
    refine R_region ?_
    refine J_loadA rfl rfl rfl rfl ?_
    refine J_callr rfl (layout_of _ _) (by exact Gives.refl) rfl rfl ?_
    simp only [partsL, hc, if_true]
    have e : pSlot c = 2 + (c.E + 1) / 2 + c.E * 2 := rfl
    refine J_field rfl rfl rfl rfl ?_
    refine J_move rfl rfl rfl ?_
    refine J_ari64 rfl rfl rfl (by omega) rfl rfl ?_
    refine J_ari64 rfl rfl rfl (by omega) rfl rfl ?_
    refine J_assign rfl rfl rfl ?_
    refine J_assign rfl rfl rfl ?_
    refine J_nil3 ?_
    refine E_then ?_
    refine R_ret ?_
    apply E_retP Tryz.results146
    · exact Res.tmp rfl (Res.tmp rfl (Res.nil))
    · exact Gives.drop Gives.refl
    rfl
  · have h' := chk_no h
    simp only [h', if_false]
    refine J_assign rfl rfl rfl ?_
    refine J_nil3 ?_
    refine E_then ?_
    refine R_seq ?_
    refine R_region ?_
    refine J_move rfl rfl rfl ?_
    refine J_cmp rfl rfl rfl rfl rfl ?_
    refine J_nil2 ?_
    refine E_then ?_
    refine R_cond_true rfl ?_
    refine R_seq ?_
    refine R_region ?_
    refine J_move rfl rfl rfl ?_
    refine J_assign rfl rfl rfl ?_
    refine J_assign rfl rfl rfl ?_
    refine J_nil1 ?_
    refine E_then ?_
    refine R_ret ?_
    refine E_then_ret ?_
    apply E_retP Tryz.results146
    · exact Res.tmp rfl (Res.tmp rfl (Res.nil))
    · exact Gives.drop Gives.refl
    rfl
theorem layout_Table (c : Cfg) (n : Int) (F : List HP) : Fn Tryz.prog 65 [cfgV c, .int .i64 n] F
    (Pst (.tuple #[.int .i64 (if chk c n c.E = 0 then 2 + n / 2 else 0), .int .i64 (if chk c n c.E = 0 then n % 2 else 0), .int .i64 (chk c n c.E)]) F) := by
  refine Fn_enter Tryz.func65 rfl Tryz.ntmps65 rfl ?_
  refine R_seq ?_
  refine R_region ?_
  refine J_boxA rfl rfl rfl ?_; intro
  refine J_assign rfl rfl rfl ?_
  refine J_assign rfl rfl rfl ?_
  refine J_assign rfl rfl rfl ?_
  refine J_nil ?_
  refine E_then ?_
  refine R_seq ?_
  refine R_seq ?_
  refine R_region ?_
  refine J_loadA rfl rfl rfl rfl ?_
  refine J_move rfl rfl rfl ?_
  refine J_fieldAddr0 rfl rfl rfl ?_
  refine J_load rfl rfl rfl rfl ?_
  refine J_callr rfl (layout_checked _ _ _ (fun hc => by have := cfgOk_spec hc; omega) _) (by exact Gives.refl) rfl rfl ?_
  by_cases h : chk c n c.E = 0
  · obtain ⟨hc, h1, h2⟩ := chk_ok h
    have h3 := cfgOk_spec hc
    simp only [h, if_true]
    refine J_assign rfl rfl rfl ?_
    refine J_nil3 ?_
    refine E_then ?_
    refine R_seq ?_
    refine R_region ?_
    refine J_move rfl rfl rfl ?_
    refine J_cmp rfl rfl rfl rfl rfl ?_
    refine J_nil2 ?_
    refine E_then ?_
    refine R_cond_false rfl ?_
    refine R_skip ?_
    refine E_then ?_
    refine R_seq ?_
    refine R_region ?_
    refine J_loadA rfl rfl rfl rfl ?_
    refine J_callr rfl (layout_of _ _) (by exact Gives.refl) rfl rfl ?_
    simp only [partsL, hc, if_true]
    refine J_field rfl rfl rfl rfl ?_
    refine J_move rfl rfl rfl ?_
    refine J_quo rfl rfl (by omega) (by omega) rfl rfl ?_
    refine J_ari64 rfl rfl rfl (by omega) rfl rfl ?_
    refine J_move rfl rfl rfl ?_
    refine J_rem rfl rfl (by omega) (by omega) rfl rfl ?_
    refine J_assign rfl rfl rfl ?_
    refine J_assign rfl rfl rfl ?_
    refine J_assign rfl rfl rfl ?_
    refine J_nil3 ?_
    refine E_then ?_
    refine R_ret ?_
    apply E_retP Tryz.results65
    · exact Res.tmp rfl (Res.tmp rfl (Res.tmp rfl (Res.nil)))
    · exact Gives.drop Gives.refl
    rfl
  · have h' := chk_no h
    simp only [h', if_false]
    refine J_assign rfl rfl rfl ?_
    refine J_nil3 ?_
    refine E_then ?_
    refine R_seq ?_
    refine R_region ?_
    refine J_move rfl rfl rfl ?_
    refine J_cmp rfl rfl rfl rfl rfl ?_
    refine J_nil2 ?_
    refine E_then ?_
    refine R_cond_true rfl ?_
    refine R_seq ?_
    refine R_region ?_
    refine J_move rfl rfl rfl ?_
    refine J_assign rfl rfl rfl ?_
    refine J_assign rfl rfl rfl ?_
    refine J_assign rfl rfl rfl ?_
    refine J_nil1 ?_
    refine E_then ?_
    refine R_ret ?_
    refine E_then_ret ?_
    apply E_retP Tryz.results65
    · exact Res.tmp rfl (Res.tmp rfl (Res.tmp rfl (Res.nil)))
    · exact Gives.drop Gives.refl
    rfl
end Go.Proofs.Sol

/- Plain mathematics: numbers as bytes. -/
namespace Go.Proofs.Sol
open Go
/-- A number's bytes, the greatest first. -/
def be (n : Nat) : Nat → List UInt8
  | 0 => []
  | k + 1 => UInt8.ofNat (n / 256 ^ k) :: be n k
theorem be_length (n k : Nat) : (be n k).length = k := by
  induction k with
  | zero => rfl
  | succ k ih => simp [be, ih]
theorem be_get (n : Nat) : ∀ (k i : Nat), i < k → (be n k)[i]? = some (UInt8.ofNat (n / 256 ^ (k - 1 - i)))
  | 0, i, h => by omega
  | k + 1, 0, _ => by simp [be]
  | k + 1, i + 1, h => by
    have := be_get n k i (by omega)
    simp only [be, List.getElem?_cons_succ, this]
    have e : k - 1 - i = k + 1 - 1 - (i + 1) := by omega
    rw [e]
/-- Bytes as a number. -/
def num (l : List UInt8) : Nat := l.foldl (fun n c => n * 256 + c.toNat) 0
theorem num_snoc (l : List UInt8) (c : UInt8) : num (l ++ [c]) = num l * 256 + c.toNat := by simp [num]
theorem foldl_num_lt (l : List UInt8) : ∀ a : Nat, l.foldl (fun n c => n * 256 + c.toNat) a < (a + 1) * 256 ^ l.length := by
  induction l with
  | nil => intro a; simp
  | cons c l ih =>
    intro a
    have h1 := ih (a * 256 + c.toNat)
    have h2 := c.toNat_lt
    simp only [List.foldl_cons, List.length_cons]
    refine Nat.lt_of_lt_of_le h1 ?_
    rw [Nat.pow_succ, Nat.mul_comm (256 ^ l.length) 256, ← Nat.mul_assoc]
    exact Nat.mul_le_mul_right _ (by omega)
theorem num_lt (l : List UInt8) : num l < 256 ^ l.length := by
  have := foldl_num_lt l 0; simpa [num] using this
/-- May a number have so many bytes? -/
def fitsB (n size : Int) : Bool := decide (1 ≤ size) && decide (size ≤ 7) && decide (0 ≤ n) && decide (n < 256 ^ size.toNat)
def putF (s : List UInt8) (n size : Int) : List UInt8 := if fitsB n size then s ++ be n.toNat size.toNat else s
theorem putF_length (s : List UInt8) (n size : Int) : (putF s n size).length ≤ s.length + 7 := by
  unfold putF; split
  · rename_i h; simp only [fitsB, Bool.and_eq_true, decide_eq_true_eq] at h; simp [be_length]; omega
  · omega
theorem shr_pow (n : Int) (h : 0 ≤ n) (k : Nat) : n.fdiv (2 ^ (8 * k)) = ((n.toNat / 256 ^ k : Nat) : Int) := by
  have e : (2 : Int) ^ (8 * k) = ((256 ^ k : Nat) : Int) := by
    rw [Int.pow_mul]; simp
  rw [e, Int.fdiv_eq_ediv_of_nonneg _ (Int.natCast_nonneg _)]
  rw [Int.natCast_ediv]; congr 1; omega
theorem shr_zero {x size : Int} (h0 : 0 ≤ x) (h1 : 1 ≤ size) (h2 : size ≤ 7) : (x.fdiv (2 ^ (min (8 * size).toNat 64)) == 0) = decide (x < 256 ^ size.toNat) := by
  have e : min (8 * size).toNat 64 = 8 * size.toNat := by omega
  rw [e, shr_pow x h0, Bool.eq_iff_iff]
  simp only [beq_iff_eq, decide_eq_true_eq]
  have hp : (0 : Nat) < 256 ^ size.toNat := Nat.pow_pos (by omega)
  have e2 : ((256 : Int) ^ size.toNat) = ((256 ^ size.toNat : Nat) : Int) := by simp
  rw [e2]
  constructor
  · intro h
    have h3 : x.toNat / 256 ^ size.toNat = 0 := by omega
    rw [Nat.div_eq_zero_iff] at h3
    omega
  · intro h
    have : x.toNat < 256 ^ size.toNat := by omega
    rw [Nat.div_eq_of_lt this]; rfl
theorem pow_le7 {size : Int} (h2 : size ≤ 7) : (256 : Int) ^ size.toNat ≤ 72057594037927936 := by
  have h : (256 : Nat) ^ size.toNat ≤ 256 ^ 7 := Nat.pow_le_pow_right (by omega) (by omega)
  have e2 : ((256 : Int) ^ size.toNat) = ((256 ^ size.toNat : Nat) : Int) := by simp
  rw [e2]; omega
theorem fitsB_spec {n size : Int} (h : fitsB n size = true) : 1 ≤ size ∧ size ≤ 7 ∧ 0 ≤ n ∧ n < 256 ^ size.toNat ∧ n < 72057594037927936 := by
  simp only [fitsB, Bool.and_eq_true, decide_eq_true_eq] at h
  have := pow_le7 h.1.1.2
  exact ⟨h.1.1.1, h.1.1.2, h.1.2, h.2, by omega⟩
theorem set_next {α : Type} (l : List α) (z : α) (m k : Nat) (hm : l.length = m) (h : k < m) (v : α) (hv : l[k]? = some v) :
    (l.take k ++ List.replicate (m - k) z).set k v = l.take (k + 1) ++ List.replicate (m - (k + 1)) z := by
  have h1 : (l.take k).length = k := by rw [List.length_take]; omega
  rw [List.set_append_right _ _ (by omega), h1, Nat.sub_self]
  have h2 : m - k = (m - (k + 1)) + 1 := by omega
  rw [h2, List.replicate_succ, List.set_cons_zero]
  have h3 : k < l.length := by omega
  rw [List.take_succ_eq_append_getElem h3]
  have h4 : l[k] = v := by rw [List.getElem?_eq_getElem h3] at hv; injection hv
  rw [h4, List.append_assoc]; rfl
end Go.Proofs.Sol
