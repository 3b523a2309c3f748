import Derived.Test.YtbaeajgfnoplaaaGreatDoorB12
section
namespace Mn
open Go TL
set_option maxRecDepth 100000
theorem v7:isSt2 s6 0 (txt 27 [.one (.dat (.st 2))] [.dat .str,.dat (.int .i64)] (y1,()))=true:=by kernel_rfl
end Mn
end
