import Derived.Test.YtbaeajgfnoplaaaGreatDoorB10
section
namespace Mn
open Go TL
set_option maxRecDepth 100000
theorem v5:isI2 15 0 (txt 31 [.one (.dat .str)] [.dat (.int .i64),.dat (.int .i64)] (s4,()))=true:=by kernel_rfl
end Mn
end
