import Derived.Test.YtenbhdilndfaeaaGreatM00
set_option maxRecDepth 100000
set_option maxHeartbeats 0
set_option linter.all false
namespace Go.Proofs.YtenbhdilndfaeaaGreat
open Go.RowKit Go.Proofs.Tryz
abbrev tG:Array Value:=#[i_ 0,i_ 0,.bool false,i_ 0,.bool false,i_ 0,.bool false,i_ 0,.bool false,i_ 0,.bool false,i_ 0,.bool false,i_ 0,.bool false,i_ 0,.bool false,i_ 0,.bool false,i_ 0,.bool false,i_ 0,.bool false,i_ 0,.bool false,i_ 0,.bool false,i_ 0,.bool false,i_ 0,.bool false,i_ 0,.bool false,i_ 0,n_,n_,n_,n_,n_,i_ 0,.bool false,.bool false,i_ 0]
abbrev lv:Array Value:=#[i_ 0,i_ 0,.bool false,i_ 0,.bool false,i_ 0,.bool false,i_ 0,.bool false,i_ 0,.bool false,i_ 0,.bool false,i_ 0,.bool false,i_ 0,.bool false,i_ 0,.bool false,i_ 0,.bool false,i_ 0,.bool false,i_ 0,.bool false,i_ 0,.bool false,i_ 0,.bool false,i_ 0,.bool false,i_ 0,.bool false,i_ 0,.bool false,i_ 0,n_,n_,n_,n_,n_,n_,i_ 0,i_ 0,.bool false,.bool false,i_ 0,i_ 0]
end Go.Proofs.YtenbhdilndfaeaaGreat
