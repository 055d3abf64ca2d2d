import Derived.Test.YtenbhdilndfaeaaGreatR00
set_option maxRecDepth 100000
set_option maxHeartbeats 0
set_option linter.all false
namespace Go.Proofs.YtenbhdilndfaeaaGreat
open Go.RowKit Go.Proofs.Tryz
abbrev un:Array Value:=#[Y 0,Y 0,.bool false,Y 0,.bool false,Y 0,.bool false,Y 0,.bool false,Y 0,.bool false,Y 0,.bool false,Y 0,.bool false,Y 0,.bool false,Y 0,.bool false,Y 0,.bool false,Y 0,.bool false,Y 0,.bool false,Y 0,.bool false,Y 0,.bool false,Y 0,.bool false,Y 0,.bool false,Y 0,n_,n_,n_,n_,n_,Y 0,.bool false,.bool false,Y 0]
abbrev lK:Array Value:=#[Y 0,Y 0,.bool false,Y 0,.bool false,Y 0,.bool false,Y 0,.bool false,Y 0,.bool false,Y 0,.bool false,Y 0,.bool false,Y 0,.bool false,Y 0,.bool false,Y 0,.bool false,Y 0,.bool false,Y 0,.bool false,Y 0,.bool false,Y 0,.bool false,Y 0,.bool false,Y 0,.bool false,Y 0,.bool false,Y 0,n_,n_,n_,n_,n_,n_,Y 0,Y 0,.bool false,.bool false,Y 0,Y 0]
