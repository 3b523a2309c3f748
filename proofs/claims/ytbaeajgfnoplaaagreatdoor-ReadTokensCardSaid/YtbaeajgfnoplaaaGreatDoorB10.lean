import Derived.Test.YtbaeajgfnoplaaaGreatDoorB9
section
namespace Mn
open Go TL
set_option maxRecDepth 100000
theorem v4:isI3 2 4 0 (txt 18 [.one (.dat .str)] [.dat (.int .i64),.dat (.int .i64),.dat (.int .i64)] (s3,()))=true:=by kernel_rfl
end Mn
end
