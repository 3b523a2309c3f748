import Derived.Test.YtbaeajgfnoplaaaGreatDoorB11
section
namespace Mn
open Go TL
set_option maxRecDepth 100000
theorem v6:isTy y1 0 (txt 29 [.one (.dat .str)] [.dat (.st 2),.dat (.int .i64)] (s5,()))=true:=by kernel_rfl
end Mn
end
