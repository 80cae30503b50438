/- Short names. -/
import Derived.Test.YtmnfjbmhlabdaaaDoorDPrx0
import Derived.WalkKit
namespace Go.Proofs.YtmnfjbmhlabdaaaDoor.Pr
open Go.RowKit Go.Proofs.YtmnfjbmhlabdaaaDoorW.PrintWords Go.Proofs.YtmnfjbmhlabdaaaDoorW.PrintLast Go.Proofs.YtmnfjbmhlabdaaaDoorW.PrintMore
theorem za : type_of% @blk_frozen := @blk_frozen
theorem zb : type_of% @pw_below_drewN := @pw_below_drewN
theorem zc : type_of% @below_drew1 := @below_drew1
theorem zd : type_of% @below_alloc := @below_alloc
theorem ze : type_of% @blk_cell := @blk_cell
theorem zf : type_of% @below_set := @below_set
theorem zg : type_of% @blk_drewN := @blk_drewN
theorem zh : type_of% @blk_alloc := @blk_alloc
theorem zi : type_of% @blk_drew := @blk_drew
theorem zj : type_of% @of_decide_eq_true := @of_decide_eq_true
theorem zk : type_of% @decide_eq_true := @decide_eq_true
theorem zl : type_of% @decide_eq_false := @decide_eq_false
theorem zm : type_of% @KeepBut.set_ := @KeepBut.set_
theorem zu : type_of% @Option.bind_eq_some_iff := @Option.bind_eq_some_iff
theorem zv : type_of% @below_step := @below_step
theorem zw : type_of% @blk_below := @blk_below
theorem zx : type_of% @blk_far := @blk_far
theorem zy : type_of% @blk_put := @blk_put
theorem zz : type_of% @below_size := @below_size
theorem zA : type_of% @blk_lt := @blk_lt
theorem zB : type_of% @Kd.R_drewN := @Kd.R_drewN
theorem zC : type_of% @Kd.R_alloc := @Kd.R_alloc
theorem zD : type_of% @Kd.R_drew := @Kd.R_drew
theorem zE : type_of% @Kd.C_drewN := @Kd.C_drewN
theorem zF : type_of% @Kd.C_alloc := @Kd.C_alloc
theorem zG : type_of% @Kd.C_drew := @Kd.C_drew
end Go.Proofs.YtmnfjbmhlabdaaaDoor.Pr
