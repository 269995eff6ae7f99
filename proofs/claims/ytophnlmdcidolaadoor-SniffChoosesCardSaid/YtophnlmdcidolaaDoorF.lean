import Derived.Test.YtophnlmdcidolaaDoorD
import Derived.Test.YtophnlmdcidolaaDoorProg
set_option linter.all false
namespace Go.Proofs.YtophnlmdcidolaaDoor
open Go Go.Am
theorem mixed : Tryd.prog.follows .mixedOrders = true := by kernel_rfl
@[go_sem] theorem ag0 : tyAgg Tryd.prog 0 = some false := by kernel_rfl
@[go_sem] theorem sz0 : tySize Tryd.prog 0 = some 1 := by kernel_rfl
@[go_sem] theorem zo0 : zeroOf Tryd.prog 0 = some (.tuple []) := by kernel_rfl
attribute [go_sem] Tryd.underlying0
@[go_sem] theorem ag1 : tyAgg Tryd.prog 1 = some false := by kernel_rfl
@[go_sem] theorem sz1 : tySize Tryd.prog 1 = some 1 := by kernel_rfl
@[go_sem] theorem zo1 : zeroOf Tryd.prog 1 = some (.nilFunc) := by kernel_rfl
attribute [go_sem] Tryd.underlying1
@[go_sem] theorem ag2 : tyAgg Tryd.prog 2 = some false := by kernel_rfl
@[go_sem] theorem sz2 : tySize Tryd.prog 2 = some 1 := by kernel_rfl
@[go_sem] theorem zo2 : zeroOf Tryd.prog 2 = some (.int .i64 0) := by kernel_rfl
attribute [go_sem] Tryd.underlying2
@[go_sem] theorem ag3 : tyAgg Tryd.prog 3 = some false := by kernel_rfl
@[go_sem] theorem sz3 : tySize Tryd.prog 3 = some 1 := by kernel_rfl
@[go_sem] theorem zo3 : zeroOf Tryd.prog 3 = some (.int .i64 0) := by kernel_rfl
attribute [go_sem] Tryd.underlying3
@[go_sem] theorem ag4 : tyAgg Tryd.prog 4 = some false := by kernel_rfl
@[go_sem] theorem sz4 : tySize Tryd.prog 4 = some 1 := by kernel_rfl
@[go_sem] theorem zo4 : zeroOf Tryd.prog 4 = some (.bool false) := by kernel_rfl
attribute [go_sem] Tryd.underlying4
@[go_sem] theorem ag5 : tyAgg Tryd.prog 5 = some false := by kernel_rfl
@[go_sem] theorem sz5 : tySize Tryd.prog 5 = some 1 := by kernel_rfl
@[go_sem] theorem zo5 : zeroOf Tryd.prog 5 = some (.int .u8 0) := by kernel_rfl
attribute [go_sem] Tryd.underlying5
@[go_sem] theorem ag6 : tyAgg Tryd.prog 6 = some false := by kernel_rfl
@[go_sem] theorem sz6 : tySize Tryd.prog 6 = some 1 := by kernel_rfl
@[go_sem] theorem zo6 : zeroOf Tryd.prog 6 = some (.int .u8 0) := by kernel_rfl
attribute [go_sem] Tryd.underlying6
@[go_sem] theorem ag7 : tyAgg Tryd.prog 7 = some true := by kernel_rfl
@[go_sem] theorem sz7 : tySize Tryd.prog 7 = some 4 := by kernel_rfl
@[go_sem] theorem zo7 : zeroOf Tryd.prog 7 = some (.agg [.int .i64 0, .int .i64 0, .bool false, .int .u8 0]) := by kernel_rfl
attribute [go_sem] Tryd.underlying7
@[go_sem] theorem ag8 : tyAgg Tryd.prog 8 = some true := by kernel_rfl
@[go_sem] theorem sz8 : tySize Tryd.prog 8 = some 4 := by kernel_rfl
@[go_sem] theorem zo8 : zeroOf Tryd.prog 8 = some (.agg [.int .i64 0, .int .i64 0, .bool false, .int .u8 0]) := by kernel_rfl
attribute [go_sem] Tryd.underlying8
@[go_sem] theorem ag9 : tyAgg Tryd.prog 9 = some false := by kernel_rfl
@[go_sem] theorem sz9 : tySize Tryd.prog 9 = some 1 := by kernel_rfl
@[go_sem] theorem zo9 : zeroOf Tryd.prog 9 = some (.str []) := by kernel_rfl
attribute [go_sem] Tryd.underlying9
@[go_sem] theorem ag10 : tyAgg Tryd.prog 10 = some false := by kernel_rfl
@[go_sem] theorem sz10 : tySize Tryd.prog 10 = some 1 := by kernel_rfl
@[go_sem] theorem zo10 : zeroOf Tryd.prog 10 = some (.str []) := by kernel_rfl
attribute [go_sem] Tryd.underlying10
@[go_sem] theorem ag11 : tyAgg Tryd.prog 11 = some false := by kernel_rfl
@[go_sem] theorem sz11 : tySize Tryd.prog 11 = some 1 := by kernel_rfl
@[go_sem] theorem zo11 : zeroOf Tryd.prog 11 = some (.str []) := by kernel_rfl
attribute [go_sem] Tryd.underlying11
@[go_sem] theorem ag12 : tyAgg Tryd.prog 12 = some false := by kernel_rfl
@[go_sem] theorem sz12 : tySize Tryd.prog 12 = some 1 := by kernel_rfl
@[go_sem] theorem zo12 : zeroOf Tryd.prog 12 = some (.int .u64 0) := by kernel_rfl
attribute [go_sem] Tryd.underlying12
@[go_sem] theorem ag13 : tyAgg Tryd.prog 13 = some true := by kernel_rfl
@[go_sem] theorem sz13 : tySize Tryd.prog 13 = some 2 := by kernel_rfl
@[go_sem] theorem zo13 : zeroOf Tryd.prog 13 = some (.agg [.str [], .int .u64 0]) := by kernel_rfl
attribute [go_sem] Tryd.underlying13
@[go_sem] theorem ag14 : tyAgg Tryd.prog 14 = some true := by kernel_rfl
@[go_sem] theorem sz14 : tySize Tryd.prog 14 = some 2 := by kernel_rfl
@[go_sem] theorem zo14 : zeroOf Tryd.prog 14 = some (.agg [.str [], .int .u64 0]) := by kernel_rfl
attribute [go_sem] Tryd.underlying14
@[go_sem] theorem ag15 : tyAgg Tryd.prog 15 = some false := by kernel_rfl
@[go_sem] theorem sz15 : tySize Tryd.prog 15 = some 1 := by kernel_rfl
@[go_sem] theorem zo15 : zeroOf Tryd.prog 15 = some (.nilptr) := by kernel_rfl
attribute [go_sem] Tryd.underlying15
@[go_sem] theorem ag16 : tyAgg Tryd.prog 16 = some false := by kernel_rfl
@[go_sem] theorem sz16 : tySize Tryd.prog 16 = some 1 := by kernel_rfl
@[go_sem] theorem zo16 : zeroOf Tryd.prog 16 = some (.nilptr) := by kernel_rfl
attribute [go_sem] Tryd.underlying16
@[go_sem] theorem ag17 : tyAgg Tryd.prog 17 = some false := by kernel_rfl
@[go_sem] theorem sz17 : tySize Tryd.prog 17 = some 1 := by kernel_rfl
@[go_sem] theorem zo17 : zeroOf Tryd.prog 17 = some (.nilptr) := by kernel_rfl
attribute [go_sem] Tryd.underlying17
@[go_sem] theorem ag18 : tyAgg Tryd.prog 18 = some true := by kernel_rfl
@[go_sem] theorem sz18 : tySize Tryd.prog 18 = some 1 := by kernel_rfl
@[go_sem] theorem zo18 : zeroOf Tryd.prog 18 = some (.agg [.nilptr]) := by kernel_rfl
attribute [go_sem] Tryd.underlying18
@[go_sem] theorem ag19 : tyAgg Tryd.prog 19 = some true := by kernel_rfl
@[go_sem] theorem sz19 : tySize Tryd.prog 19 = some 1 := by kernel_rfl
@[go_sem] theorem zo19 : zeroOf Tryd.prog 19 = some (.agg [.nilptr]) := by kernel_rfl
attribute [go_sem] Tryd.underlying19
@[go_sem] theorem ag20 : tyAgg Tryd.prog 20 = some false := by kernel_rfl
@[go_sem] theorem sz20 : tySize Tryd.prog 20 = some 1 := by kernel_rfl
@[go_sem] theorem zo20 : zeroOf Tryd.prog 20 = some (.nilIface) := by kernel_rfl
attribute [go_sem] Tryd.underlying20
@[go_sem] theorem ag21 : tyAgg Tryd.prog 21 = some false := by kernel_rfl
@[go_sem] theorem sz21 : tySize Tryd.prog 21 = some 1 := by kernel_rfl
@[go_sem] theorem zo21 : zeroOf Tryd.prog 21 = some (.int .i32 0) := by kernel_rfl
attribute [go_sem] Tryd.underlying21
@[go_sem] theorem ag22 : tyAgg Tryd.prog 22 = some false := by kernel_rfl
@[go_sem] theorem sz22 : tySize Tryd.prog 22 = some 1 := by kernel_rfl
@[go_sem] theorem zo22 : zeroOf Tryd.prog 22 = some (.nilFunc) := by kernel_rfl
attribute [go_sem] Tryd.underlying22
@[go_sem] theorem ag23 : tyAgg Tryd.prog 23 = some false := by kernel_rfl
@[go_sem] theorem sz23 : tySize Tryd.prog 23 = some 1 := by kernel_rfl
@[go_sem] theorem zo23 : zeroOf Tryd.prog 23 = some (.tuple [.int .i64 0, .int .i64 0, .bool false]) := by kernel_rfl
attribute [go_sem] Tryd.underlying23
@[go_sem] theorem ag24 : tyAgg Tryd.prog 24 = some false := by kernel_rfl
@[go_sem] theorem sz24 : tySize Tryd.prog 24 = some 1 := by kernel_rfl
@[go_sem] theorem zo24 : zeroOf Tryd.prog 24 = some (.nilFunc) := by kernel_rfl
attribute [go_sem] Tryd.underlying24
@[go_sem] theorem ag25 : tyAgg Tryd.prog 25 = some false := by kernel_rfl
@[go_sem] theorem sz25 : tySize Tryd.prog 25 = some 1 := by kernel_rfl
@[go_sem] theorem zo25 : zeroOf Tryd.prog 25 = some (.tuple [.str [], .bool false]) := by kernel_rfl
attribute [go_sem] Tryd.underlying25
@[go_sem] theorem ag26 : tyAgg Tryd.prog 26 = some false := by kernel_rfl
@[go_sem] theorem sz26 : tySize Tryd.prog 26 = some 1 := by kernel_rfl
@[go_sem] theorem zo26 : zeroOf Tryd.prog 26 = some (.nilFunc) := by kernel_rfl
attribute [go_sem] Tryd.underlying26
@[go_sem] theorem ag27 : tyAgg Tryd.prog 27 = some false := by kernel_rfl
@[go_sem] theorem sz27 : tySize Tryd.prog 27 = some 1 := by kernel_rfl
@[go_sem] theorem zo27 : zeroOf Tryd.prog 27 = some (.nilFunc) := by kernel_rfl
attribute [go_sem] Tryd.underlying27
@[go_sem] theorem ag28 : tyAgg Tryd.prog 28 = some false := by kernel_rfl
@[go_sem] theorem sz28 : tySize Tryd.prog 28 = some 1 := by kernel_rfl
@[go_sem] theorem zo28 : zeroOf Tryd.prog 28 = some (.nilFunc) := by kernel_rfl
attribute [go_sem] Tryd.underlying28
@[go_sem] theorem ag29 : tyAgg Tryd.prog 29 = some false := by kernel_rfl
@[go_sem] theorem sz29 : tySize Tryd.prog 29 = some 1 := by kernel_rfl
@[go_sem] theorem zo29 : zeroOf Tryd.prog 29 = some (.nilslice) := by kernel_rfl
attribute [go_sem] Tryd.underlying29
@[go_sem] theorem ag30 : tyAgg Tryd.prog 30 = some false := by kernel_rfl
@[go_sem] theorem sz30 : tySize Tryd.prog 30 = some 1 := by kernel_rfl
@[go_sem] theorem zo30 : zeroOf Tryd.prog 30 = some (.tuple [.nilslice, .int .i64 0]) := by kernel_rfl
attribute [go_sem] Tryd.underlying30
@[go_sem] theorem ag31 : tyAgg Tryd.prog 31 = some false := by kernel_rfl
@[go_sem] theorem sz31 : tySize Tryd.prog 31 = some 1 := by kernel_rfl
@[go_sem] theorem zo31 : zeroOf Tryd.prog 31 = some (.nilFunc) := by kernel_rfl
attribute [go_sem] Tryd.underlying31
@[go_sem] theorem ag32 : tyAgg Tryd.prog 32 = some true := by kernel_rfl
@[go_sem] theorem sz32 : tySize Tryd.prog 32 = some 2 := by kernel_rfl
@[go_sem] theorem zo32 : zeroOf Tryd.prog 32 = some (.agg [.int .i64 0, .int .i64 0]) := by kernel_rfl
attribute [go_sem] Tryd.underlying32
@[go_sem] theorem ag33 : tyAgg Tryd.prog 33 = some true := by kernel_rfl
@[go_sem] theorem sz33 : tySize Tryd.prog 33 = some 2 := by kernel_rfl
@[go_sem] theorem zo33 : zeroOf Tryd.prog 33 = some (.agg [.int .i64 0, .int .i64 0]) := by kernel_rfl
attribute [go_sem] Tryd.underlying33
@[go_sem] theorem ag34 : tyAgg Tryd.prog 34 = some false := by kernel_rfl
@[go_sem] theorem sz34 : tySize Tryd.prog 34 = some 1 := by kernel_rfl
@[go_sem] theorem zo34 : zeroOf Tryd.prog 34 = some (.nilFunc) := by kernel_rfl
attribute [go_sem] Tryd.underlying34
@[go_sem] theorem ag35 : tyAgg Tryd.prog 35 = some false := by kernel_rfl
@[go_sem] theorem sz35 : tySize Tryd.prog 35 = some 1 := by kernel_rfl
@[go_sem] theorem zo35 : zeroOf Tryd.prog 35 = some (.nilptr) := by kernel_rfl
attribute [go_sem] Tryd.underlying35
@[go_sem] theorem ag36 : tyAgg Tryd.prog 36 = some false := by kernel_rfl
@[go_sem] theorem sz36 : tySize Tryd.prog 36 = some 1 := by kernel_rfl
@[go_sem] theorem zo36 : zeroOf Tryd.prog 36 = some (.nilFunc) := by kernel_rfl
attribute [go_sem] Tryd.underlying36
@[go_sem] theorem ag37 : tyAgg Tryd.prog 37 = some false := by kernel_rfl
@[go_sem] theorem sz37 : tySize Tryd.prog 37 = some 1 := by kernel_rfl
@[go_sem] theorem zo37 : zeroOf Tryd.prog 37 = some (.tuple [.int .i64 0, .int .i64 0]) := by kernel_rfl
attribute [go_sem] Tryd.underlying37
@[go_sem] theorem ag38 : tyAgg Tryd.prog 38 = some false := by kernel_rfl
@[go_sem] theorem sz38 : tySize Tryd.prog 38 = some 1 := by kernel_rfl
@[go_sem] theorem zo38 : zeroOf Tryd.prog 38 = some (.nilFunc) := by kernel_rfl
attribute [go_sem] Tryd.underlying38
@[go_sem] theorem ag39 : tyAgg Tryd.prog 39 = some false := by kernel_rfl
@[go_sem] theorem sz39 : tySize Tryd.prog 39 = some 1 := by kernel_rfl
@[go_sem] theorem zo39 : zeroOf Tryd.prog 39 = some (.nilFunc) := by kernel_rfl
attribute [go_sem] Tryd.underlying39
@[go_sem] theorem ag40 : tyAgg Tryd.prog 40 = some false := by kernel_rfl
@[go_sem] theorem sz40 : tySize Tryd.prog 40 = some 1 := by kernel_rfl
@[go_sem] theorem zo40 : zeroOf Tryd.prog 40 = some (.tuple [.int .i64 0, .bool false]) := by kernel_rfl
attribute [go_sem] Tryd.underlying40
@[go_sem] theorem ag41 : tyAgg Tryd.prog 41 = some false := by kernel_rfl
@[go_sem] theorem sz41 : tySize Tryd.prog 41 = some 1 := by kernel_rfl
@[go_sem] theorem zo41 : zeroOf Tryd.prog 41 = some (.nilFunc) := by kernel_rfl
attribute [go_sem] Tryd.underlying41
@[go_sem] theorem ag42 : tyAgg Tryd.prog 42 = some false := by kernel_rfl
@[go_sem] theorem sz42 : tySize Tryd.prog 42 = some 1 := by kernel_rfl
@[go_sem] theorem zo42 : zeroOf Tryd.prog 42 = some (.nilFunc) := by kernel_rfl
attribute [go_sem] Tryd.underlying42
@[go_sem] theorem ag43 : tyAgg Tryd.prog 43 = some false := by kernel_rfl
@[go_sem] theorem sz43 : tySize Tryd.prog 43 = some 1 := by kernel_rfl
@[go_sem] theorem zo43 : zeroOf Tryd.prog 43 = some (.nilFunc) := by kernel_rfl
attribute [go_sem] Tryd.underlying43
@[go_sem] theorem ag44 : tyAgg Tryd.prog 44 = some false := by kernel_rfl
@[go_sem] theorem sz44 : tySize Tryd.prog 44 = some 1 := by kernel_rfl
@[go_sem] theorem zo44 : zeroOf Tryd.prog 44 = some (.tuple [.str [], .int .i64 0]) := by kernel_rfl
attribute [go_sem] Tryd.underlying44
@[go_sem] theorem ag45 : tyAgg Tryd.prog 45 = some false := by kernel_rfl
@[go_sem] theorem sz45 : tySize Tryd.prog 45 = some 1 := by kernel_rfl
@[go_sem] theorem zo45 : zeroOf Tryd.prog 45 = some (.nilFunc) := by kernel_rfl
attribute [go_sem] Tryd.underlying45
@[go_sem] theorem ag46 : tyAgg Tryd.prog 46 = some false := by kernel_rfl
@[go_sem] theorem sz46 : tySize Tryd.prog 46 = some 1 := by kernel_rfl
@[go_sem] theorem zo46 : zeroOf Tryd.prog 46 = some (.tuple [.str [], .str [], .int .i64 0, .bool false]) := by kernel_rfl
attribute [go_sem] Tryd.underlying46
@[go_sem] theorem ag47 : tyAgg Tryd.prog 47 = some false := by kernel_rfl
@[go_sem] theorem sz47 : tySize Tryd.prog 47 = some 1 := by kernel_rfl
@[go_sem] theorem zo47 : zeroOf Tryd.prog 47 = some (.nilFunc) := by kernel_rfl
attribute [go_sem] Tryd.underlying47
@[go_sem] theorem ag48 : tyAgg Tryd.prog 48 = some false := by kernel_rfl
@[go_sem] theorem sz48 : tySize Tryd.prog 48 = some 1 := by kernel_rfl
@[go_sem] theorem zo48 : zeroOf Tryd.prog 48 = some (.nilFunc) := by kernel_rfl
attribute [go_sem] Tryd.underlying48
@[go_sem] theorem ag49 : tyAgg Tryd.prog 49 = some false := by kernel_rfl
@[go_sem] theorem sz49 : tySize Tryd.prog 49 = some 1 := by kernel_rfl
@[go_sem] theorem zo49 : zeroOf Tryd.prog 49 = some (.nilslice) := by kernel_rfl
attribute [go_sem] Tryd.underlying49
@[go_sem] theorem ag50 : tyAgg Tryd.prog 50 = some false := by kernel_rfl
@[go_sem] theorem sz50 : tySize Tryd.prog 50 = some 1 := by kernel_rfl
@[go_sem] theorem zo50 : zeroOf Tryd.prog 50 = some (.nilptr) := by kernel_rfl
attribute [go_sem] Tryd.underlying50
@[go_sem] theorem ag51 : tyAgg Tryd.prog 51 = some false := by kernel_rfl
@[go_sem] theorem sz51 : tySize Tryd.prog 51 = some 1 := by kernel_rfl
@[go_sem] theorem zo51 : zeroOf Tryd.prog 51 = some (.nilFunc) := by kernel_rfl
attribute [go_sem] Tryd.underlying51
@[go_sem] theorem ag52 : tyAgg Tryd.prog 52 = some false := by kernel_rfl
@[go_sem] theorem sz52 : tySize Tryd.prog 52 = some 1 := by kernel_rfl
@[go_sem] theorem zo52 : zeroOf Tryd.prog 52 = some (.nilslice) := by kernel_rfl
attribute [go_sem] Tryd.underlying52
@[go_sem] theorem ag53 : tyAgg Tryd.prog 53 = some false := by kernel_rfl
@[go_sem] theorem sz53 : tySize Tryd.prog 53 = some 1 := by kernel_rfl
@[go_sem] theorem zo53 : zeroOf Tryd.prog 53 = some (.tuple [.nilslice, .nilslice]) := by kernel_rfl
attribute [go_sem] Tryd.underlying53
@[go_sem] theorem ag54 : tyAgg Tryd.prog 54 = some false := by kernel_rfl
@[go_sem] theorem sz54 : tySize Tryd.prog 54 = some 1 := by kernel_rfl
@[go_sem] theorem zo54 : zeroOf Tryd.prog 54 = some (.nilFunc) := by kernel_rfl
attribute [go_sem] Tryd.underlying54
@[go_sem] theorem ag55 : tyAgg Tryd.prog 55 = some false := by kernel_rfl
@[go_sem] theorem sz55 : tySize Tryd.prog 55 = some 1 := by kernel_rfl
@[go_sem] theorem zo55 : zeroOf Tryd.prog 55 = some (.nilFunc) := by kernel_rfl
attribute [go_sem] Tryd.underlying55
@[go_sem] theorem ag56 : tyAgg Tryd.prog 56 = some true := by kernel_rfl
@[go_sem] theorem sz56 : tySize Tryd.prog 56 = some 1 := by kernel_rfl
@[go_sem] theorem zo56 : zeroOf Tryd.prog 56 = some (.agg [.bool false]) := by kernel_rfl
attribute [go_sem] Tryd.underlying56
@[go_sem] theorem ag57 : tyAgg Tryd.prog 57 = some true := by kernel_rfl
@[go_sem] theorem sz57 : tySize Tryd.prog 57 = some 1 := by kernel_rfl
@[go_sem] theorem zo57 : zeroOf Tryd.prog 57 = some (.agg [.bool false]) := by kernel_rfl
attribute [go_sem] Tryd.underlying57
@[go_sem] theorem ag58 : tyAgg Tryd.prog 58 = some false := by kernel_rfl
@[go_sem] theorem sz58 : tySize Tryd.prog 58 = some 1 := by kernel_rfl
@[go_sem] theorem zo58 : zeroOf Tryd.prog 58 = some (.nilFunc) := by kernel_rfl
attribute [go_sem] Tryd.underlying58
@[go_sem] theorem ag59 : tyAgg Tryd.prog 59 = some false := by kernel_rfl
@[go_sem] theorem sz59 : tySize Tryd.prog 59 = some 1 := by kernel_rfl
@[go_sem] theorem zo59 : zeroOf Tryd.prog 59 = some (.nilslice) := by kernel_rfl
attribute [go_sem] Tryd.underlying59
@[go_sem] theorem ag60 : tyAgg Tryd.prog 60 = some false := by kernel_rfl
@[go_sem] theorem sz60 : tySize Tryd.prog 60 = some 1 := by kernel_rfl
@[go_sem] theorem zo60 : zeroOf Tryd.prog 60 = some (.tuple [.str [], .nilslice]) := by kernel_rfl
attribute [go_sem] Tryd.underlying60
@[go_sem] theorem ag61 : tyAgg Tryd.prog 61 = some false := by kernel_rfl
@[go_sem] theorem sz61 : tySize Tryd.prog 61 = some 1 := by kernel_rfl
@[go_sem] theorem zo61 : zeroOf Tryd.prog 61 = some (.nilFunc) := by kernel_rfl
attribute [go_sem] Tryd.underlying61
@[go_sem] theorem ag62 : tyAgg Tryd.prog 62 = some true := by kernel_rfl
@[go_sem] theorem sz62 : tySize Tryd.prog 62 = some 2 := by kernel_rfl
@[go_sem] theorem zo62 : zeroOf Tryd.prog 62 = some (.agg [.nilslice, .nilslice]) := by kernel_rfl
attribute [go_sem] Tryd.underlying62
@[go_sem] theorem ag63 : tyAgg Tryd.prog 63 = some true := by kernel_rfl
@[go_sem] theorem sz63 : tySize Tryd.prog 63 = some 2 := by kernel_rfl
@[go_sem] theorem zo63 : zeroOf Tryd.prog 63 = some (.agg [.nilslice, .nilslice]) := by kernel_rfl
attribute [go_sem] Tryd.underlying63
@[go_sem] theorem ag64 : tyAgg Tryd.prog 64 = some false := by kernel_rfl
@[go_sem] theorem sz64 : tySize Tryd.prog 64 = some 1 := by kernel_rfl
@[go_sem] theorem zo64 : zeroOf Tryd.prog 64 = some (.nilFunc) := by kernel_rfl
attribute [go_sem] Tryd.underlying64
@[go_sem] theorem ag65 : tyAgg Tryd.prog 65 = some false := by kernel_rfl
@[go_sem] theorem sz65 : tySize Tryd.prog 65 = some 1 := by kernel_rfl
@[go_sem] theorem zo65 : zeroOf Tryd.prog 65 = some (.nilFunc) := by kernel_rfl
attribute [go_sem] Tryd.underlying65
@[go_sem] theorem ag66 : tyAgg Tryd.prog 66 = some false := by kernel_rfl
@[go_sem] theorem sz66 : tySize Tryd.prog 66 = some 1 := by kernel_rfl
@[go_sem] theorem zo66 : zeroOf Tryd.prog 66 = some (.nilFunc) := by kernel_rfl
attribute [go_sem] Tryd.underlying66
@[go_sem] theorem ag67 : tyAgg Tryd.prog 67 = some false := by kernel_rfl
@[go_sem] theorem sz67 : tySize Tryd.prog 67 = some 1 := by kernel_rfl
@[go_sem] theorem zo67 : zeroOf Tryd.prog 67 = some (.nilslice) := by kernel_rfl
attribute [go_sem] Tryd.underlying67
@[go_sem] theorem ag68 : tyAgg Tryd.prog 68 = some true := by kernel_rfl
@[go_sem] theorem sz68 : tySize Tryd.prog 68 = some 9 := by kernel_rfl
@[go_sem] theorem zo68 : zeroOf Tryd.prog 68 = some (.agg [.bool false, .int .i64 0, .int .i64 0, .int .i64 0, .int .i64 0, .int .u8 0, .int .u8 0, .nilslice, .nilslice]) := by kernel_rfl
attribute [go_sem] Tryd.underlying68
@[go_sem] theorem ag69 : tyAgg Tryd.prog 69 = some true := by kernel_rfl
@[go_sem] theorem sz69 : tySize Tryd.prog 69 = some 9 := by kernel_rfl
@[go_sem] theorem zo69 : zeroOf Tryd.prog 69 = some (.agg [.bool false, .int .i64 0, .int .i64 0, .int .i64 0, .int .i64 0, .int .u8 0, .int .u8 0, .nilslice, .nilslice]) := by kernel_rfl
attribute [go_sem] Tryd.underlying69
@[go_sem] theorem ag70 : tyAgg Tryd.prog 70 = some true := by kernel_rfl
@[go_sem] theorem sz70 : tySize Tryd.prog 70 = some 32 := by kernel_rfl
theorem zo70 : zeroOf Tryd.prog 70 = some (.agg (List.replicate 32 (.int .i64 0))) := by kernel_rfl
attribute [go_sem] Tryd.underlying70
@[go_sem] theorem ag71 : tyAgg Tryd.prog 71 = some false := by kernel_rfl
@[go_sem] theorem sz71 : tySize Tryd.prog 71 = some 1 := by kernel_rfl
@[go_sem] theorem zo71 : zeroOf Tryd.prog 71 = some (.nilFunc) := by kernel_rfl
attribute [go_sem] Tryd.underlying71
@[go_sem] theorem ag72 : tyAgg Tryd.prog 72 = some false := by kernel_rfl
@[go_sem] theorem sz72 : tySize Tryd.prog 72 = some 1 := by kernel_rfl
@[go_sem] theorem zo72 : zeroOf Tryd.prog 72 = some (.nilFunc) := by kernel_rfl
attribute [go_sem] Tryd.underlying72
@[go_sem] theorem ag73 : tyAgg Tryd.prog 73 = some false := by kernel_rfl
@[go_sem] theorem sz73 : tySize Tryd.prog 73 = some 1 := by kernel_rfl
@[go_sem] theorem zo73 : zeroOf Tryd.prog 73 = some (.nilFunc) := by kernel_rfl
attribute [go_sem] Tryd.underlying73
@[go_sem] theorem ag74 : tyAgg Tryd.prog 74 = some false := by kernel_rfl
@[go_sem] theorem sz74 : tySize Tryd.prog 74 = some 1 := by kernel_rfl
@[go_sem] theorem zo74 : zeroOf Tryd.prog 74 = some (.nilptr) := by kernel_rfl
attribute [go_sem] Tryd.underlying74
@[go_sem] theorem ag75 : tyAgg Tryd.prog 75 = some false := by kernel_rfl
@[go_sem] theorem sz75 : tySize Tryd.prog 75 = some 1 := by kernel_rfl
@[go_sem] theorem zo75 : zeroOf Tryd.prog 75 = some (.nilslice) := by kernel_rfl
attribute [go_sem] Tryd.underlying75
@[go_sem] theorem ag76 : tyAgg Tryd.prog 76 = some false := by kernel_rfl
@[go_sem] theorem sz76 : tySize Tryd.prog 76 = some 1 := by kernel_rfl
@[go_sem] theorem zo76 : zeroOf Tryd.prog 76 = some (.nilFunc) := by kernel_rfl
attribute [go_sem] Tryd.underlying76
@[go_sem] theorem ag77 : tyAgg Tryd.prog 77 = some true := by kernel_rfl
@[go_sem] theorem sz77 : tySize Tryd.prog 77 = some 2 := by kernel_rfl
@[go_sem] theorem zo77 : zeroOf Tryd.prog 77 = some (.agg [.str [], .nilslice]) := by kernel_rfl
attribute [go_sem] Tryd.underlying77
@[go_sem] theorem ag78 : tyAgg Tryd.prog 78 = some true := by kernel_rfl
@[go_sem] theorem sz78 : tySize Tryd.prog 78 = some 2 := by kernel_rfl
@[go_sem] theorem zo78 : zeroOf Tryd.prog 78 = some (.agg [.str [], .nilslice]) := by kernel_rfl
attribute [go_sem] Tryd.underlying78
@[go_sem] theorem ag79 : tyAgg Tryd.prog 79 = some false := by kernel_rfl
@[go_sem] theorem sz79 : tySize Tryd.prog 79 = some 1 := by kernel_rfl
@[go_sem] theorem zo79 : zeroOf Tryd.prog 79 = some (.nilFunc) := by kernel_rfl
attribute [go_sem] Tryd.underlying79
@[go_sem] theorem ag80 : tyAgg Tryd.prog 80 = some false := by kernel_rfl
@[go_sem] theorem sz80 : tySize Tryd.prog 80 = some 1 := by kernel_rfl
@[go_sem] theorem zo80 : zeroOf Tryd.prog 80 = some (.nilFunc) := by kernel_rfl
attribute [go_sem] Tryd.underlying80
@[go_sem] theorem ag81 : tyAgg Tryd.prog 81 = some false := by kernel_rfl
@[go_sem] theorem sz81 : tySize Tryd.prog 81 = some 1 := by kernel_rfl
@[go_sem] theorem zo81 : zeroOf Tryd.prog 81 = some (.nilFunc) := by kernel_rfl
attribute [go_sem] Tryd.underlying81
@[go_sem] theorem ag82 : tyAgg Tryd.prog 82 = some false := by kernel_rfl
@[go_sem] theorem sz82 : tySize Tryd.prog 82 = some 1 := by kernel_rfl
@[go_sem] theorem zo82 : zeroOf Tryd.prog 82 = some (.nilFunc) := by kernel_rfl
attribute [go_sem] Tryd.underlying82
@[go_sem] theorem ag83 : tyAgg Tryd.prog 83 = some true := by kernel_rfl
@[go_sem] theorem sz83 : tySize Tryd.prog 83 = some 2 := by kernel_rfl
@[go_sem] theorem zo83 : zeroOf Tryd.prog 83 = some (.agg [.str [], .str []]) := by kernel_rfl
attribute [go_sem] Tryd.underlying83
@[go_sem] theorem ag84 : tyAgg Tryd.prog 84 = some true := by kernel_rfl
@[go_sem] theorem sz84 : tySize Tryd.prog 84 = some 2 := by kernel_rfl
@[go_sem] theorem zo84 : zeroOf Tryd.prog 84 = some (.agg [.str [], .str []]) := by kernel_rfl
attribute [go_sem] Tryd.underlying84
@[go_sem] theorem ag85 : tyAgg Tryd.prog 85 = some false := by kernel_rfl
@[go_sem] theorem sz85 : tySize Tryd.prog 85 = some 1 := by kernel_rfl
@[go_sem] theorem zo85 : zeroOf Tryd.prog 85 = some (.tuple [.agg [.str [], .str []], .int .i64 0, .bool false]) := by kernel_rfl
attribute [go_sem] Tryd.underlying85
@[go_sem] theorem ag86 : tyAgg Tryd.prog 86 = some false := by kernel_rfl
@[go_sem] theorem sz86 : tySize Tryd.prog 86 = some 1 := by kernel_rfl
@[go_sem] theorem zo86 : zeroOf Tryd.prog 86 = some (.nilFunc) := by kernel_rfl
attribute [go_sem] Tryd.underlying86
@[go_sem] theorem ag87 : tyAgg Tryd.prog 87 = some false := by kernel_rfl
@[go_sem] theorem sz87 : tySize Tryd.prog 87 = some 1 := by kernel_rfl
@[go_sem] theorem zo87 : zeroOf Tryd.prog 87 = some (.nilFunc) := by kernel_rfl
attribute [go_sem] Tryd.underlying87
@[go_sem] theorem ag88 : tyAgg Tryd.prog 88 = some false := by kernel_rfl
@[go_sem] theorem sz88 : tySize Tryd.prog 88 = some 1 := by kernel_rfl
@[go_sem] theorem zo88 : zeroOf Tryd.prog 88 = some (.nilptr) := by kernel_rfl
attribute [go_sem] Tryd.underlying88
@[go_sem] theorem ag89 : tyAgg Tryd.prog 89 = some true := by kernel_rfl
@[go_sem] theorem sz89 : tySize Tryd.prog 89 = some 2 := by kernel_rfl
@[go_sem] theorem zo89 : zeroOf Tryd.prog 89 = some (.agg [.str [], .int .i64 0]) := by kernel_rfl
attribute [go_sem] Tryd.underlying89
@[go_sem] theorem ag90 : tyAgg Tryd.prog 90 = some true := by kernel_rfl
@[go_sem] theorem sz90 : tySize Tryd.prog 90 = some 2 := by kernel_rfl
@[go_sem] theorem zo90 : zeroOf Tryd.prog 90 = some (.agg [.str [], .int .i64 0]) := by kernel_rfl
attribute [go_sem] Tryd.underlying90
@[go_sem] theorem ag91 : tyAgg Tryd.prog 91 = some false := by kernel_rfl
@[go_sem] theorem sz91 : tySize Tryd.prog 91 = some 1 := by kernel_rfl
@[go_sem] theorem zo91 : zeroOf Tryd.prog 91 = some (.nilFunc) := by kernel_rfl
attribute [go_sem] Tryd.underlying91
@[go_sem] theorem ag92 : tyAgg Tryd.prog 92 = some true := by kernel_rfl
@[go_sem] theorem sz92 : tySize Tryd.prog 92 = some 256 := by kernel_rfl
theorem zo92 : zeroOf Tryd.prog 92 = some (.agg (List.replicate 256 (.bool false))) := by kernel_rfl
attribute [go_sem] Tryd.underlying92
@[go_sem] theorem ag93 : tyAgg Tryd.prog 93 = some true := by kernel_rfl
@[go_sem] theorem sz93 : tySize Tryd.prog 93 = some 256 := by kernel_rfl
theorem zo93 : zeroOf Tryd.prog 93 = some (.agg (List.replicate 256 (.bool false))) := by kernel_rfl
attribute [go_sem] Tryd.underlying93
@[go_sem] theorem ag94 : tyAgg Tryd.prog 94 = some false := by kernel_rfl
@[go_sem] theorem sz94 : tySize Tryd.prog 94 = some 1 := by kernel_rfl
attribute [go_sem] Tryd.underlying94
@[go_sem] theorem ag95 : tyAgg Tryd.prog 95 = some false := by kernel_rfl
@[go_sem] theorem sz95 : tySize Tryd.prog 95 = some 1 := by kernel_rfl
@[go_sem] theorem zo95 : zeroOf Tryd.prog 95 = some (.nilFunc) := by kernel_rfl
attribute [go_sem] Tryd.underlying95
@[go_sem] theorem ag96 : tyAgg Tryd.prog 96 = some false := by kernel_rfl
@[go_sem] theorem sz96 : tySize Tryd.prog 96 = some 1 := by kernel_rfl
@[go_sem] theorem zo96 : zeroOf Tryd.prog 96 = some (.nilFunc) := by kernel_rfl
attribute [go_sem] Tryd.underlying96
@[go_sem] theorem ag97 : tyAgg Tryd.prog 97 = some false := by kernel_rfl
@[go_sem] theorem sz97 : tySize Tryd.prog 97 = some 1 := by kernel_rfl
@[go_sem] theorem zo97 : zeroOf Tryd.prog 97 = some (.nilptr) := by kernel_rfl
attribute [go_sem] Tryd.underlying97
@[go_sem] theorem ag98 : tyAgg Tryd.prog 98 = some false := by kernel_rfl
@[go_sem] theorem sz98 : tySize Tryd.prog 98 = some 1 := by kernel_rfl
@[go_sem] theorem zo98 : zeroOf Tryd.prog 98 = some (.int .u64 0) := by kernel_rfl
attribute [go_sem] Tryd.underlying98
@[go_sem] theorem ag99 : tyAgg Tryd.prog 99 = some false := by kernel_rfl
@[go_sem] theorem sz99 : tySize Tryd.prog 99 = some 1 := by kernel_rfl
@[go_sem] theorem zo99 : zeroOf Tryd.prog 99 = some (.int .i64 0) := by kernel_rfl
attribute [go_sem] Tryd.underlying99
@[go_sem] theorem ag100 : tyAgg Tryd.prog 100 = some true := by kernel_rfl
@[go_sem] theorem sz100 : tySize Tryd.prog 100 = some 3 := by kernel_rfl
@[go_sem] theorem zo100 : zeroOf Tryd.prog 100 = some (.agg [.int .i64 0, .int .i64 0, .str []]) := by kernel_rfl
attribute [go_sem] Tryd.underlying100
@[go_sem] theorem ag101 : tyAgg Tryd.prog 101 = some true := by kernel_rfl
@[go_sem] theorem sz101 : tySize Tryd.prog 101 = some 3 := by kernel_rfl
@[go_sem] theorem zo101 : zeroOf Tryd.prog 101 = some (.agg [.int .i64 0, .int .i64 0, .str []]) := by kernel_rfl
attribute [go_sem] Tryd.underlying101
@[go_sem] theorem ag102 : tyAgg Tryd.prog 102 = some false := by kernel_rfl
@[go_sem] theorem sz102 : tySize Tryd.prog 102 = some 1 := by kernel_rfl
@[go_sem] theorem zo102 : zeroOf Tryd.prog 102 = some (.nilFunc) := by kernel_rfl
attribute [go_sem] Tryd.underlying102
@[go_sem] theorem ag103 : tyAgg Tryd.prog 103 = some false := by kernel_rfl
@[go_sem] theorem sz103 : tySize Tryd.prog 103 = some 1 := by kernel_rfl
@[go_sem] theorem zo103 : zeroOf Tryd.prog 103 = some (.nilFunc) := by kernel_rfl
attribute [go_sem] Tryd.underlying103
@[go_sem] theorem ag104 : tyAgg Tryd.prog 104 = some false := by kernel_rfl
@[go_sem] theorem sz104 : tySize Tryd.prog 104 = some 1 := by kernel_rfl
@[go_sem] theorem zo104 : zeroOf Tryd.prog 104 = some (.nilFunc) := by kernel_rfl
attribute [go_sem] Tryd.underlying104
@[go_sem] theorem ag105 : tyAgg Tryd.prog 105 = some false := by kernel_rfl
@[go_sem] theorem sz105 : tySize Tryd.prog 105 = some 1 := by kernel_rfl
@[go_sem] theorem zo105 : zeroOf Tryd.prog 105 = some (.nilFunc) := by kernel_rfl
attribute [go_sem] Tryd.underlying105
@[go_sem] theorem ag106 : tyAgg Tryd.prog 106 = some false := by kernel_rfl
@[go_sem] theorem sz106 : tySize Tryd.prog 106 = some 1 := by kernel_rfl
@[go_sem] theorem zo106 : zeroOf Tryd.prog 106 = some (.nilFunc) := by kernel_rfl
attribute [go_sem] Tryd.underlying106
@[go_sem] theorem ag107 : tyAgg Tryd.prog 107 = some false := by kernel_rfl
@[go_sem] theorem sz107 : tySize Tryd.prog 107 = some 1 := by kernel_rfl
@[go_sem] theorem zo107 : zeroOf Tryd.prog 107 = some (.tuple [.str [], .str [], .bool false]) := by kernel_rfl
attribute [go_sem] Tryd.underlying107
@[go_sem] theorem ag108 : tyAgg Tryd.prog 108 = some false := by kernel_rfl
@[go_sem] theorem sz108 : tySize Tryd.prog 108 = some 1 := by kernel_rfl
@[go_sem] theorem zo108 : zeroOf Tryd.prog 108 = some (.nilFunc) := by kernel_rfl
attribute [go_sem] Tryd.underlying108
@[go_sem] theorem ag109 : tyAgg Tryd.prog 109 = some false := by kernel_rfl
@[go_sem] theorem sz109 : tySize Tryd.prog 109 = some 1 := by kernel_rfl
@[go_sem] theorem zo109 : zeroOf Tryd.prog 109 = some (.tuple [.int .i32 0, .int .i64 0]) := by kernel_rfl
attribute [go_sem] Tryd.underlying109
@[go_sem] theorem ag110 : tyAgg Tryd.prog 110 = some false := by kernel_rfl
@[go_sem] theorem sz110 : tySize Tryd.prog 110 = some 1 := by kernel_rfl
@[go_sem] theorem zo110 : zeroOf Tryd.prog 110 = some (.nilFunc) := by kernel_rfl
attribute [go_sem] Tryd.underlying110
@[go_sem] theorem ag111 : tyAgg Tryd.prog 111 = some false := by kernel_rfl
@[go_sem] theorem sz111 : tySize Tryd.prog 111 = some 1 := by kernel_rfl
@[go_sem] theorem zo111 : zeroOf Tryd.prog 111 = some (.nilFunc) := by kernel_rfl
attribute [go_sem] Tryd.underlying111
@[go_sem] theorem ag112 : tyAgg Tryd.prog 112 = some false := by kernel_rfl
@[go_sem] theorem sz112 : tySize Tryd.prog 112 = some 1 := by kernel_rfl
@[go_sem] theorem zo112 : zeroOf Tryd.prog 112 = some (.nilFunc) := by kernel_rfl
attribute [go_sem] Tryd.underlying112
@[go_sem] theorem ag113 : tyAgg Tryd.prog 113 = some false := by kernel_rfl
@[go_sem] theorem sz113 : tySize Tryd.prog 113 = some 1 := by kernel_rfl
@[go_sem] theorem zo113 : zeroOf Tryd.prog 113 = some (.nilFunc) := by kernel_rfl
attribute [go_sem] Tryd.underlying113
@[go_sem] theorem ag114 : tyAgg Tryd.prog 114 = some false := by kernel_rfl
@[go_sem] theorem sz114 : tySize Tryd.prog 114 = some 1 := by kernel_rfl
@[go_sem] theorem zo114 : zeroOf Tryd.prog 114 = some (.nilFunc) := by kernel_rfl
attribute [go_sem] Tryd.underlying114
@[go_sem] theorem ag115 : tyAgg Tryd.prog 115 = some false := by kernel_rfl
@[go_sem] theorem sz115 : tySize Tryd.prog 115 = some 1 := by kernel_rfl
@[go_sem] theorem zo115 : zeroOf Tryd.prog 115 = some (.int .u32 0) := by kernel_rfl
attribute [go_sem] Tryd.underlying115
@[go_sem] theorem ag116 : tyAgg Tryd.prog 116 = some false := by kernel_rfl
@[go_sem] theorem sz116 : tySize Tryd.prog 116 = some 1 := by kernel_rfl
@[go_sem] theorem zo116 : zeroOf Tryd.prog 116 = some (.tuple [.int .u32 0, .int .u32 0]) := by kernel_rfl
attribute [go_sem] Tryd.underlying116
@[go_sem] theorem ag117 : tyAgg Tryd.prog 117 = some false := by kernel_rfl
@[go_sem] theorem sz117 : tySize Tryd.prog 117 = some 1 := by kernel_rfl
@[go_sem] theorem zo117 : zeroOf Tryd.prog 117 = some (.nilFunc) := by kernel_rfl
attribute [go_sem] Tryd.underlying117
@[go_sem] theorem ag118 : tyAgg Tryd.prog 118 = some true := by kernel_rfl
@[go_sem] theorem sz118 : tySize Tryd.prog 118 = some 256 := by kernel_rfl
theorem zo118 : zeroOf Tryd.prog 118 = some (.agg (List.replicate 256 (.int .u8 0))) := by kernel_rfl
attribute [go_sem] Tryd.underlying118
@[go_sem] theorem ag119 : tyAgg Tryd.prog 119 = some true := by kernel_rfl
@[go_sem] theorem sz119 : tySize Tryd.prog 119 = some 2 := by kernel_rfl
@[go_sem] theorem zo119 : zeroOf Tryd.prog 119 = some (.agg [.int .u8 0, .int .u8 0]) := by kernel_rfl
attribute [go_sem] Tryd.underlying119
@[go_sem] theorem ag120 : tyAgg Tryd.prog 120 = some true := by kernel_rfl
@[go_sem] theorem sz120 : tySize Tryd.prog 120 = some 2 := by kernel_rfl
@[go_sem] theorem zo120 : zeroOf Tryd.prog 120 = some (.agg [.int .u8 0, .int .u8 0]) := by kernel_rfl
attribute [go_sem] Tryd.underlying120
@[go_sem] theorem ag121 : tyAgg Tryd.prog 121 = some true := by kernel_rfl
@[go_sem] theorem sz121 : tySize Tryd.prog 121 = some 32 := by kernel_rfl
theorem zo121 : zeroOf Tryd.prog 121 = some (.agg (List.replicate 32 (.int .u8 0))) := by kernel_rfl
attribute [go_sem] Tryd.underlying121
@[go_sem] theorem ag122 : tyAgg Tryd.prog 122 = some false := by kernel_rfl
@[go_sem] theorem sz122 : tySize Tryd.prog 122 = some 1 := by kernel_rfl
@[go_sem] theorem zo122 : zeroOf Tryd.prog 122 = some (.nilFunc) := by kernel_rfl
attribute [go_sem] Tryd.underlying122
@[go_sem] theorem ag123 : tyAgg Tryd.prog 123 = some true := by kernel_rfl
@[go_sem] theorem sz123 : tySize Tryd.prog 123 = some 4 := by kernel_rfl
@[go_sem] theorem zo123 : zeroOf Tryd.prog 123 = some (.agg [.nilptr, .nilptr, .nilptr, .str []]) := by kernel_rfl
attribute [go_sem] Tryd.underlying123
@[go_sem] theorem ag124 : tyAgg Tryd.prog 124 = some true := by kernel_rfl
@[go_sem] theorem sz124 : tySize Tryd.prog 124 = some 4 := by kernel_rfl
@[go_sem] theorem zo124 : zeroOf Tryd.prog 124 = some (.agg [.nilptr, .nilptr, .nilptr, .str []]) := by kernel_rfl
attribute [go_sem] Tryd.underlying124
@[go_sem] theorem ag125 : tyAgg Tryd.prog 125 = some true := by kernel_rfl
@[go_sem] theorem sz125 : tySize Tryd.prog 125 = some 0 := by kernel_rfl
@[go_sem] theorem zo125 : zeroOf Tryd.prog 125 = some (.agg []) := by kernel_rfl
attribute [go_sem] Tryd.underlying125
@[go_sem] theorem ag126 : tyAgg Tryd.prog 126 = some true := by kernel_rfl
@[go_sem] theorem sz126 : tySize Tryd.prog 126 = some 0 := by kernel_rfl
@[go_sem] theorem zo126 : zeroOf Tryd.prog 126 = some (.agg []) := by kernel_rfl
attribute [go_sem] Tryd.underlying126
@[go_sem] theorem ag127 : tyAgg Tryd.prog 127 = some true := by kernel_rfl
@[go_sem] theorem sz127 : tySize Tryd.prog 127 = some 0 := by kernel_rfl
@[go_sem] theorem zo127 : zeroOf Tryd.prog 127 = some (.agg []) := by kernel_rfl
attribute [go_sem] Tryd.underlying127
@[go_sem] theorem ag128 : tyAgg Tryd.prog 128 = some false := by kernel_rfl
@[go_sem] theorem sz128 : tySize Tryd.prog 128 = some 1 := by kernel_rfl
@[go_sem] theorem zo128 : zeroOf Tryd.prog 128 = some (.nilFunc) := by kernel_rfl
attribute [go_sem] Tryd.underlying128
@[go_sem] theorem ag129 : tyAgg Tryd.prog 129 = some false := by kernel_rfl
@[go_sem] theorem sz129 : tySize Tryd.prog 129 = some 1 := by kernel_rfl
@[go_sem] theorem zo129 : zeroOf Tryd.prog 129 = some (.int .u8 0) := by kernel_rfl
attribute [go_sem] Tryd.underlying129
@[go_sem] theorem ag130 : tyAgg Tryd.prog 130 = some false := by kernel_rfl
@[go_sem] theorem sz130 : tySize Tryd.prog 130 = some 1 := by kernel_rfl
@[go_sem] theorem zo130 : zeroOf Tryd.prog 130 = some (.int .u8 0) := by kernel_rfl
attribute [go_sem] Tryd.underlying130
@[go_sem] theorem ag131 : tyAgg Tryd.prog 131 = some false := by kernel_rfl
@[go_sem] theorem sz131 : tySize Tryd.prog 131 = some 1 := by kernel_rfl
@[go_sem] theorem zo131 : zeroOf Tryd.prog 131 = some (.nilFunc) := by kernel_rfl
attribute [go_sem] Tryd.underlying131
@[go_sem] theorem ag132 : tyAgg Tryd.prog 132 = some false := by kernel_rfl
@[go_sem] theorem sz132 : tySize Tryd.prog 132 = some 1 := by kernel_rfl
@[go_sem] theorem zo132 : zeroOf Tryd.prog 132 = some (.nilptr) := by kernel_rfl
attribute [go_sem] Tryd.underlying132
@[go_sem] theorem ag133 : tyAgg Tryd.prog 133 = some false := by kernel_rfl
@[go_sem] theorem sz133 : tySize Tryd.prog 133 = some 1 := by kernel_rfl
@[go_sem] theorem zo133 : zeroOf Tryd.prog 133 = some (.int .i32 0) := by kernel_rfl
attribute [go_sem] Tryd.underlying133
@[go_sem] theorem ag134 : tyAgg Tryd.prog 134 = some false := by kernel_rfl
@[go_sem] theorem sz134 : tySize Tryd.prog 134 = some 1 := by kernel_rfl
@[go_sem] theorem zo134 : zeroOf Tryd.prog 134 = some (.int .i32 0) := by kernel_rfl
attribute [go_sem] Tryd.underlying134
@[go_sem] theorem ag135 : tyAgg Tryd.prog 135 = some true := by kernel_rfl
@[go_sem] theorem sz135 : tySize Tryd.prog 135 = some 11 := by kernel_rfl
@[go_sem] theorem zo135 : zeroOf Tryd.prog 135 = some (.agg [.int .u64 0, .int .u64 0, .int .u32 0, .int .u8 0, .int .u8 0, .int .u8 0, .int .u8 0, .nilFunc, .nilptr, .int .i32 0, .int .i32 0]) := by kernel_rfl
attribute [go_sem] Tryd.underlying135
@[go_sem] theorem ag136 : tyAgg Tryd.prog 136 = some true := by kernel_rfl
@[go_sem] theorem sz136 : tySize Tryd.prog 136 = some 11 := by kernel_rfl
@[go_sem] theorem zo136 : zeroOf Tryd.prog 136 = some (.agg [.int .u64 0, .int .u64 0, .int .u32 0, .int .u8 0, .int .u8 0, .int .u8 0, .int .u8 0, .nilFunc, .nilptr, .int .i32 0, .int .i32 0]) := by kernel_rfl
attribute [go_sem] Tryd.underlying136
@[go_sem] theorem ag137 : tyAgg Tryd.prog 137 = some false := by kernel_rfl
@[go_sem] theorem sz137 : tySize Tryd.prog 137 = some 1 := by kernel_rfl
@[go_sem] theorem zo137 : zeroOf Tryd.prog 137 = some (.nilptr) := by kernel_rfl
attribute [go_sem] Tryd.underlying137
end Go.Proofs.YtophnlmdcidolaaDoor
