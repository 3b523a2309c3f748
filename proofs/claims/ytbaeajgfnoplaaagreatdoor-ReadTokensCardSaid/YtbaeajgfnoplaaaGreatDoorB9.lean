import Derived.Test.YtbaeajgfnoplaaaGreatDoorB8
section
namespace Mn
open Go TL
set_option maxRecDepth 100000
theorem v3:isTm t0 4 (txt 24 [.one (.dat .str)] [.dat (.st 1),.dat (.int .i64)] (s2,()))=true:=by kernel_rfl
end Mn
end
