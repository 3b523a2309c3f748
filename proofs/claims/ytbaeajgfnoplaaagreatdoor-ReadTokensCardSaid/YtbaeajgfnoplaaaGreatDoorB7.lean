import Derived.Test.YtbaeajgfnoplaaaGreatDoorB6
section
namespace Mn
open Go TL
set_option maxRecDepth 100000
theorem v1:isTm t1 0 (txt 24 [.one (.dat .str)] [.dat (.st 1),.dat (.int .i64)] (s1,()))=true:=by kernel_rfl
end Mn
end
