import Derived.Test.YtdgemaoboepgaaaD
import Derived.Test.YtdgemaoboepgaaaProg
set_option linter.all false
namespace Go.Proofs.Ytdgemaoboepgaaa
open Go Go.Am
theorem mixed : Try.prog.follows .mixedOrders = true := by kernel_rfl
@[go_sem] theorem ag0 : tyAgg Try.prog 0 = some false := by kernel_rfl
@[go_sem] theorem sz0 : tySize Try.prog 0 = some 1 := by kernel_rfl
@[go_sem] theorem zo0 : zeroOf Try.prog 0 = some (.tuple []) := by kernel_rfl
attribute [go_sem] Try.underlying0
@[go_sem] theorem ag1 : tyAgg Try.prog 1 = some false := by kernel_rfl
@[go_sem] theorem sz1 : tySize Try.prog 1 = some 1 := by kernel_rfl
@[go_sem] theorem zo1 : zeroOf Try.prog 1 = some (.nilFunc) := by kernel_rfl
attribute [go_sem] Try.underlying1
@[go_sem] theorem ag2 : tyAgg Try.prog 2 = some false := by kernel_rfl
@[go_sem] theorem sz2 : tySize Try.prog 2 = some 1 := by kernel_rfl
@[go_sem] theorem zo2 : zeroOf Try.prog 2 = some (.int .i64 0) := by kernel_rfl
attribute [go_sem] Try.underlying2
@[go_sem] theorem ag3 : tyAgg Try.prog 3 = some false := by kernel_rfl
@[go_sem] theorem sz3 : tySize Try.prog 3 = some 1 := by kernel_rfl
@[go_sem] theorem zo3 : zeroOf Try.prog 3 = some (.int .i64 0) := by kernel_rfl
attribute [go_sem] Try.underlying3
@[go_sem] theorem ag4 : tyAgg Try.prog 4 = some false := by kernel_rfl
@[go_sem] theorem sz4 : tySize Try.prog 4 = some 1 := by kernel_rfl
@[go_sem] theorem zo4 : zeroOf Try.prog 4 = some (.bool false) := by kernel_rfl
attribute [go_sem] Try.underlying4
@[go_sem] theorem ag5 : tyAgg Try.prog 5 = some false := by kernel_rfl
@[go_sem] theorem sz5 : tySize Try.prog 5 = some 1 := by kernel_rfl
@[go_sem] theorem zo5 : zeroOf Try.prog 5 = some (.int .u8 0) := by kernel_rfl
attribute [go_sem] Try.underlying5
@[go_sem] theorem ag6 : tyAgg Try.prog 6 = some false := by kernel_rfl
@[go_sem] theorem sz6 : tySize Try.prog 6 = some 1 := by kernel_rfl
@[go_sem] theorem zo6 : zeroOf Try.prog 6 = some (.int .u8 0) := by kernel_rfl
attribute [go_sem] Try.underlying6
@[go_sem] theorem ag7 : tyAgg Try.prog 7 = some true := by kernel_rfl
@[go_sem] theorem sz7 : tySize Try.prog 7 = some 4 := by kernel_rfl
@[go_sem] theorem zo7 : zeroOf Try.prog 7 = some (.agg [.int .i64 0, .int .i64 0, .bool false, .int .u8 0]) := by kernel_rfl
attribute [go_sem] Try.underlying7
@[go_sem] theorem ag8 : tyAgg Try.prog 8 = some true := by kernel_rfl
@[go_sem] theorem sz8 : tySize Try.prog 8 = some 4 := by kernel_rfl
@[go_sem] theorem zo8 : zeroOf Try.prog 8 = some (.agg [.int .i64 0, .int .i64 0, .bool false, .int .u8 0]) := by kernel_rfl
attribute [go_sem] Try.underlying8
@[go_sem] theorem ag9 : tyAgg Try.prog 9 = some false := by kernel_rfl
@[go_sem] theorem sz9 : tySize Try.prog 9 = some 1 := by kernel_rfl
@[go_sem] theorem zo9 : zeroOf Try.prog 9 = some (.str []) := by kernel_rfl
attribute [go_sem] Try.underlying9
@[go_sem] theorem ag10 : tyAgg Try.prog 10 = some false := by kernel_rfl
@[go_sem] theorem sz10 : tySize Try.prog 10 = some 1 := by kernel_rfl
@[go_sem] theorem zo10 : zeroOf Try.prog 10 = some (.str []) := by kernel_rfl
attribute [go_sem] Try.underlying10
@[go_sem] theorem ag11 : tyAgg Try.prog 11 = some false := by kernel_rfl
@[go_sem] theorem sz11 : tySize Try.prog 11 = some 1 := by kernel_rfl
@[go_sem] theorem zo11 : zeroOf Try.prog 11 = some (.str []) := by kernel_rfl
attribute [go_sem] Try.underlying11
@[go_sem] theorem ag12 : tyAgg Try.prog 12 = some false := by kernel_rfl
@[go_sem] theorem sz12 : tySize Try.prog 12 = some 1 := by kernel_rfl
@[go_sem] theorem zo12 : zeroOf Try.prog 12 = some (.int .u64 0) := by kernel_rfl
attribute [go_sem] Try.underlying12
@[go_sem] theorem ag13 : tyAgg Try.prog 13 = some true := by kernel_rfl
@[go_sem] theorem sz13 : tySize Try.prog 13 = some 2 := by kernel_rfl
@[go_sem] theorem zo13 : zeroOf Try.prog 13 = some (.agg [.str [], .int .u64 0]) := by kernel_rfl
attribute [go_sem] Try.underlying13
@[go_sem] theorem ag14 : tyAgg Try.prog 14 = some true := by kernel_rfl
@[go_sem] theorem sz14 : tySize Try.prog 14 = some 2 := by kernel_rfl
@[go_sem] theorem zo14 : zeroOf Try.prog 14 = some (.agg [.str [], .int .u64 0]) := by kernel_rfl
attribute [go_sem] Try.underlying14
@[go_sem] theorem ag15 : tyAgg Try.prog 15 = some false := by kernel_rfl
@[go_sem] theorem sz15 : tySize Try.prog 15 = some 1 := by kernel_rfl
@[go_sem] theorem zo15 : zeroOf Try.prog 15 = some (.nilptr) := by kernel_rfl
attribute [go_sem] Try.underlying15
@[go_sem] theorem ag16 : tyAgg Try.prog 16 = some false := by kernel_rfl
@[go_sem] theorem sz16 : tySize Try.prog 16 = some 1 := by kernel_rfl
@[go_sem] theorem zo16 : zeroOf Try.prog 16 = some (.nilptr) := by kernel_rfl
attribute [go_sem] Try.underlying16
@[go_sem] theorem ag17 : tyAgg Try.prog 17 = some false := by kernel_rfl
@[go_sem] theorem sz17 : tySize Try.prog 17 = some 1 := by kernel_rfl
@[go_sem] theorem zo17 : zeroOf Try.prog 17 = some (.nilptr) := by kernel_rfl
attribute [go_sem] Try.underlying17
@[go_sem] theorem ag18 : tyAgg Try.prog 18 = some true := by kernel_rfl
@[go_sem] theorem sz18 : tySize Try.prog 18 = some 1 := by kernel_rfl
@[go_sem] theorem zo18 : zeroOf Try.prog 18 = some (.agg [.nilptr]) := by kernel_rfl
attribute [go_sem] Try.underlying18
@[go_sem] theorem ag19 : tyAgg Try.prog 19 = some true := by kernel_rfl
@[go_sem] theorem sz19 : tySize Try.prog 19 = some 1 := by kernel_rfl
@[go_sem] theorem zo19 : zeroOf Try.prog 19 = some (.agg [.nilptr]) := by kernel_rfl
attribute [go_sem] Try.underlying19
@[go_sem] theorem ag20 : tyAgg Try.prog 20 = some false := by kernel_rfl
@[go_sem] theorem sz20 : tySize Try.prog 20 = some 1 := by kernel_rfl
@[go_sem] theorem zo20 : zeroOf Try.prog 20 = some (.nilIface) := by kernel_rfl
attribute [go_sem] Try.underlying20
@[go_sem] theorem ag21 : tyAgg Try.prog 21 = some false := by kernel_rfl
@[go_sem] theorem sz21 : tySize Try.prog 21 = some 1 := by kernel_rfl
@[go_sem] theorem zo21 : zeroOf Try.prog 21 = some (.int .i32 0) := by kernel_rfl
attribute [go_sem] Try.underlying21
@[go_sem] theorem ag22 : tyAgg Try.prog 22 = some true := by kernel_rfl
@[go_sem] theorem sz22 : tySize Try.prog 22 = some 2 := by kernel_rfl
@[go_sem] theorem zo22 : zeroOf Try.prog 22 = some (.agg [.str [], .str []]) := by kernel_rfl
attribute [go_sem] Try.underlying22
@[go_sem] theorem ag23 : tyAgg Try.prog 23 = some true := by kernel_rfl
@[go_sem] theorem sz23 : tySize Try.prog 23 = some 2 := by kernel_rfl
@[go_sem] theorem zo23 : zeroOf Try.prog 23 = some (.agg [.str [], .str []]) := by kernel_rfl
attribute [go_sem] Try.underlying23
@[go_sem] theorem ag24 : tyAgg Try.prog 24 = some false := by kernel_rfl
@[go_sem] theorem sz24 : tySize Try.prog 24 = some 1 := by kernel_rfl
@[go_sem] theorem zo24 : zeroOf Try.prog 24 = some (.tuple [.agg [.str [], .str []], .int .i64 0, .bool false]) := by kernel_rfl
attribute [go_sem] Try.underlying24
@[go_sem] theorem ag25 : tyAgg Try.prog 25 = some false := by kernel_rfl
@[go_sem] theorem sz25 : tySize Try.prog 25 = some 1 := by kernel_rfl
@[go_sem] theorem zo25 : zeroOf Try.prog 25 = some (.nilFunc) := by kernel_rfl
attribute [go_sem] Try.underlying25
@[go_sem] theorem ag26 : tyAgg Try.prog 26 = some false := by kernel_rfl
@[go_sem] theorem sz26 : tySize Try.prog 26 = some 1 := by kernel_rfl
@[go_sem] theorem zo26 : zeroOf Try.prog 26 = some (.tuple [.str [], .str [], .int .i64 0, .bool false]) := by kernel_rfl
attribute [go_sem] Try.underlying26
@[go_sem] theorem ag27 : tyAgg Try.prog 27 = some false := by kernel_rfl
@[go_sem] theorem sz27 : tySize Try.prog 27 = some 1 := by kernel_rfl
@[go_sem] theorem zo27 : zeroOf Try.prog 27 = some (.nilFunc) := by kernel_rfl
attribute [go_sem] Try.underlying27
@[go_sem] theorem ag28 : tyAgg Try.prog 28 = some false := by kernel_rfl
@[go_sem] theorem sz28 : tySize Try.prog 28 = some 1 := by kernel_rfl
@[go_sem] theorem zo28 : zeroOf Try.prog 28 = some (.nilFunc) := by kernel_rfl
attribute [go_sem] Try.underlying28
@[go_sem] theorem ag29 : tyAgg Try.prog 29 = some false := by kernel_rfl
@[go_sem] theorem sz29 : tySize Try.prog 29 = some 1 := by kernel_rfl
@[go_sem] theorem zo29 : zeroOf Try.prog 29 = some (.nilptr) := by kernel_rfl
attribute [go_sem] Try.underlying29
@[go_sem] theorem ag30 : tyAgg Try.prog 30 = some true := by kernel_rfl
@[go_sem] theorem sz30 : tySize Try.prog 30 = some 2 := by kernel_rfl
@[go_sem] theorem zo30 : zeroOf Try.prog 30 = some (.agg [.str [], .int .i64 0]) := by kernel_rfl
attribute [go_sem] Try.underlying30
@[go_sem] theorem ag31 : tyAgg Try.prog 31 = some true := by kernel_rfl
@[go_sem] theorem sz31 : tySize Try.prog 31 = some 2 := by kernel_rfl
@[go_sem] theorem zo31 : zeroOf Try.prog 31 = some (.agg [.str [], .int .i64 0]) := by kernel_rfl
attribute [go_sem] Try.underlying31
@[go_sem] theorem ag32 : tyAgg Try.prog 32 = some false := by kernel_rfl
@[go_sem] theorem sz32 : tySize Try.prog 32 = some 1 := by kernel_rfl
@[go_sem] theorem zo32 : zeroOf Try.prog 32 = some (.nilFunc) := by kernel_rfl
attribute [go_sem] Try.underlying32
@[go_sem] theorem ag33 : tyAgg Try.prog 33 = some false := by kernel_rfl
@[go_sem] theorem sz33 : tySize Try.prog 33 = some 1 := by kernel_rfl
@[go_sem] theorem zo33 : zeroOf Try.prog 33 = some (.nilFunc) := by kernel_rfl
attribute [go_sem] Try.underlying33
@[go_sem] theorem ag34 : tyAgg Try.prog 34 = some false := by kernel_rfl
@[go_sem] theorem sz34 : tySize Try.prog 34 = some 1 := by kernel_rfl
@[go_sem] theorem zo34 : zeroOf Try.prog 34 = some (.tuple [.str [], .bool false]) := by kernel_rfl
attribute [go_sem] Try.underlying34
@[go_sem] theorem ag35 : tyAgg Try.prog 35 = some false := by kernel_rfl
@[go_sem] theorem sz35 : tySize Try.prog 35 = some 1 := by kernel_rfl
@[go_sem] theorem zo35 : zeroOf Try.prog 35 = some (.nilFunc) := by kernel_rfl
attribute [go_sem] Try.underlying35
@[go_sem] theorem ag36 : tyAgg Try.prog 36 = some false := by kernel_rfl
@[go_sem] theorem sz36 : tySize Try.prog 36 = some 1 := by kernel_rfl
@[go_sem] theorem zo36 : zeroOf Try.prog 36 = some (.nilFunc) := by kernel_rfl
attribute [go_sem] Try.underlying36
@[go_sem] theorem ag37 : tyAgg Try.prog 37 = some false := by kernel_rfl
@[go_sem] theorem sz37 : tySize Try.prog 37 = some 1 := by kernel_rfl
@[go_sem] theorem zo37 : zeroOf Try.prog 37 = some (.nilFunc) := by kernel_rfl
attribute [go_sem] Try.underlying37
@[go_sem] theorem ag38 : tyAgg Try.prog 38 = some false := by kernel_rfl
@[go_sem] theorem sz38 : tySize Try.prog 38 = some 1 := by kernel_rfl
@[go_sem] theorem zo38 : zeroOf Try.prog 38 = some (.nilFunc) := by kernel_rfl
attribute [go_sem] Try.underlying38
@[go_sem] theorem ag39 : tyAgg Try.prog 39 = some false := by kernel_rfl
@[go_sem] theorem sz39 : tySize Try.prog 39 = some 1 := by kernel_rfl
@[go_sem] theorem zo39 : zeroOf Try.prog 39 = some (.nilFunc) := by kernel_rfl
attribute [go_sem] Try.underlying39
@[go_sem] theorem ag40 : tyAgg Try.prog 40 = some false := by kernel_rfl
@[go_sem] theorem sz40 : tySize Try.prog 40 = some 1 := by kernel_rfl
@[go_sem] theorem zo40 : zeroOf Try.prog 40 = some (.nilslice) := by kernel_rfl
attribute [go_sem] Try.underlying40
@[go_sem] theorem ag41 : tyAgg Try.prog 41 = some false := by kernel_rfl
@[go_sem] theorem sz41 : tySize Try.prog 41 = some 1 := by kernel_rfl
@[go_sem] theorem zo41 : zeroOf Try.prog 41 = some (.nilFunc) := by kernel_rfl
attribute [go_sem] Try.underlying41
@[go_sem] theorem ag42 : tyAgg Try.prog 42 = some false := by kernel_rfl
@[go_sem] theorem sz42 : tySize Try.prog 42 = some 1 := by kernel_rfl
@[go_sem] theorem zo42 : zeroOf Try.prog 42 = some (.nilFunc) := by kernel_rfl
attribute [go_sem] Try.underlying42
@[go_sem] theorem ag43 : tyAgg Try.prog 43 = some true := by kernel_rfl
@[go_sem] theorem sz43 : tySize Try.prog 43 = some 4 := by kernel_rfl
@[go_sem] theorem zo43 : zeroOf Try.prog 43 = some (.agg [.nilptr, .nilptr, .nilptr, .str []]) := by kernel_rfl
attribute [go_sem] Try.underlying43
@[go_sem] theorem ag44 : tyAgg Try.prog 44 = some true := by kernel_rfl
@[go_sem] theorem sz44 : tySize Try.prog 44 = some 4 := by kernel_rfl
@[go_sem] theorem zo44 : zeroOf Try.prog 44 = some (.agg [.nilptr, .nilptr, .nilptr, .str []]) := by kernel_rfl
attribute [go_sem] Try.underlying44
@[go_sem] theorem ag45 : tyAgg Try.prog 45 = some true := by kernel_rfl
@[go_sem] theorem sz45 : tySize Try.prog 45 = some 0 := by kernel_rfl
@[go_sem] theorem zo45 : zeroOf Try.prog 45 = some (.agg []) := by kernel_rfl
attribute [go_sem] Try.underlying45
@[go_sem] theorem ag46 : tyAgg Try.prog 46 = some true := by kernel_rfl
@[go_sem] theorem sz46 : tySize Try.prog 46 = some 0 := by kernel_rfl
@[go_sem] theorem zo46 : zeroOf Try.prog 46 = some (.agg []) := by kernel_rfl
attribute [go_sem] Try.underlying46
@[go_sem] theorem ag47 : tyAgg Try.prog 47 = some true := by kernel_rfl
@[go_sem] theorem sz47 : tySize Try.prog 47 = some 0 := by kernel_rfl
@[go_sem] theorem zo47 : zeroOf Try.prog 47 = some (.agg []) := by kernel_rfl
attribute [go_sem] Try.underlying47
@[go_sem] theorem ag48 : tyAgg Try.prog 48 = some false := by kernel_rfl
@[go_sem] theorem sz48 : tySize Try.prog 48 = some 1 := by kernel_rfl
@[go_sem] theorem zo48 : zeroOf Try.prog 48 = some (.nilFunc) := by kernel_rfl
attribute [go_sem] Try.underlying48
@[go_sem] theorem ag49 : tyAgg Try.prog 49 = some false := by kernel_rfl
@[go_sem] theorem sz49 : tySize Try.prog 49 = some 1 := by kernel_rfl
@[go_sem] theorem zo49 : zeroOf Try.prog 49 = some (.int .u32 0) := by kernel_rfl
attribute [go_sem] Try.underlying49
@[go_sem] theorem ag50 : tyAgg Try.prog 50 = some false := by kernel_rfl
@[go_sem] theorem sz50 : tySize Try.prog 50 = some 1 := by kernel_rfl
@[go_sem] theorem zo50 : zeroOf Try.prog 50 = some (.int .u8 0) := by kernel_rfl
attribute [go_sem] Try.underlying50
@[go_sem] theorem ag51 : tyAgg Try.prog 51 = some false := by kernel_rfl
@[go_sem] theorem sz51 : tySize Try.prog 51 = some 1 := by kernel_rfl
@[go_sem] theorem zo51 : zeroOf Try.prog 51 = some (.int .u8 0) := by kernel_rfl
attribute [go_sem] Try.underlying51
@[go_sem] theorem ag52 : tyAgg Try.prog 52 = some false := by kernel_rfl
@[go_sem] theorem sz52 : tySize Try.prog 52 = some 1 := by kernel_rfl
@[go_sem] theorem zo52 : zeroOf Try.prog 52 = some (.nilFunc) := by kernel_rfl
attribute [go_sem] Try.underlying52
@[go_sem] theorem ag53 : tyAgg Try.prog 53 = some false := by kernel_rfl
@[go_sem] theorem sz53 : tySize Try.prog 53 = some 1 := by kernel_rfl
@[go_sem] theorem zo53 : zeroOf Try.prog 53 = some (.nilptr) := by kernel_rfl
attribute [go_sem] Try.underlying53
@[go_sem] theorem ag54 : tyAgg Try.prog 54 = some false := by kernel_rfl
@[go_sem] theorem sz54 : tySize Try.prog 54 = some 1 := by kernel_rfl
@[go_sem] theorem zo54 : zeroOf Try.prog 54 = some (.int .i32 0) := by kernel_rfl
attribute [go_sem] Try.underlying54
@[go_sem] theorem ag55 : tyAgg Try.prog 55 = some false := by kernel_rfl
@[go_sem] theorem sz55 : tySize Try.prog 55 = some 1 := by kernel_rfl
@[go_sem] theorem zo55 : zeroOf Try.prog 55 = some (.int .i32 0) := by kernel_rfl
attribute [go_sem] Try.underlying55
@[go_sem] theorem ag56 : tyAgg Try.prog 56 = some true := by kernel_rfl
@[go_sem] theorem sz56 : tySize Try.prog 56 = some 11 := by kernel_rfl
@[go_sem] theorem zo56 : zeroOf Try.prog 56 = some (.agg [.int .u64 0, .int .u64 0, .int .u32 0, .int .u8 0, .int .u8 0, .int .u8 0, .int .u8 0, .nilFunc, .nilptr, .int .i32 0, .int .i32 0]) := by kernel_rfl
attribute [go_sem] Try.underlying56
@[go_sem] theorem ag57 : tyAgg Try.prog 57 = some true := by kernel_rfl
@[go_sem] theorem sz57 : tySize Try.prog 57 = some 11 := by kernel_rfl
@[go_sem] theorem zo57 : zeroOf Try.prog 57 = some (.agg [.int .u64 0, .int .u64 0, .int .u32 0, .int .u8 0, .int .u8 0, .int .u8 0, .int .u8 0, .nilFunc, .nilptr, .int .i32 0, .int .i32 0]) := by kernel_rfl
attribute [go_sem] Try.underlying57
@[go_sem] theorem ag58 : tyAgg Try.prog 58 = some false := by kernel_rfl
@[go_sem] theorem sz58 : tySize Try.prog 58 = some 1 := by kernel_rfl
@[go_sem] theorem zo58 : zeroOf Try.prog 58 = some (.nilptr) := by kernel_rfl
attribute [go_sem] Try.underlying58
end Go.Proofs.Ytdgemaoboepgaaa
