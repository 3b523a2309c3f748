import Derived.Test.YtbaeajgfnoplaaaGreatDoorB7
section
namespace Mn
open Go TL
set_option maxRecDepth 100000
theorem v2:isSt2 s1 0 (txt 22 [.one (.dat (.st 1))] [.dat .str,.dat (.int .i64)] (t1,()))=true:=by kernel_rfl
end Mn
end
