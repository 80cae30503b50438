/- Short names. -/
import Derived.Test.YtmnfjbmhlabdaaaDoorDPrx0
import Derived.WalkKit
namespace Go.Proofs.YtmnfjbmhlabdaaaDoor.Pr
open Go.RowKit Go.Proofs.YtmnfjbmhlabdaaaDoorW.PrintWords Go.Proofs.YtmnfjbmhlabdaaaDoorW.PrintLast Go.Proofs.YtmnfjbmhlabdaaaDoorW.PrintMore
theorem za : type_of% @blk_frozen := @blk_frozen
theorem zb : type_of% @pw_below_drewN := @pw_below_drewN
theorem zc : type_of% @below_drew1 := @below_drew1
theorem zd : type_of% @below_alloc := @below_alloc
theorem ze : type_of% @blk_cell := @blk_cell
theorem zf : type_of% @below_set := @below_set
theorem zg : type_of% @blk_drewN := @blk_drewN
theorem zh : type_of% @blk_alloc := @blk_alloc
theorem zi : type_of% @blk_drew := @blk_drew
theorem zj : type_of% @of_decide_eq_true := @of_decide_eq_true
theorem zk : type_of% @decide_eq_true := @decide_eq_true
theorem zl : type_of% @decide_eq_false := @decide_eq_false
theorem zm : type_of% @KeepBut.set_ := @KeepBut.set_
theorem zu : type_of% @Option.bind_eq_some_iff := @Option.bind_eq_some_iff
theorem zv : type_of% @below_step := @below_step
theorem zw : type_of% @blk_below := @blk_below
theorem zx : type_of% @blk_far := @blk_far
theorem zy : type_of% @blk_put := @blk_put
theorem zz : type_of% @below_size := @below_size
theorem zA : type_of% @blk_lt := @blk_lt
theorem zB : type_of% @Kd.R_drewN := @Kd.R_drewN
theorem zC : type_of% @Kd.R_alloc := @Kd.R_alloc
theorem zD : type_of% @Kd.R_drew := @Kd.R_drew
theorem zE : type_of% @Kd.C_drewN := @Kd.C_drewN
theorem zF : type_of% @Kd.C_alloc := @Kd.C_alloc
theorem zG : type_of% @Kd.C_drew := @Kd.C_drew
theorem zH : type_of% @Option.some.injEq := @Option.some.injEq
theorem zI : type_of% @Prod.mk.injEq := @Prod.mk.injEq
theorem zJ : type_of% @List.setIfInBounds_toArray := @List.setIfInBounds_toArray
theorem zK : type_of% @List.set_cons_zero := @List.set_cons_zero
theorem zL : type_of% @List.set_cons_succ := @List.set_cons_succ
theorem zM : type_of% @World.drewN_drewN := @World.drewN_drewN
theorem zN : type_of% @Drawn0.refl := @Drawn0.refl
theorem zO : type_of% @Drawn0.step := @Drawn0.step
theorem zP : type_of% @List.map_toArray := @List.map_toArray
theorem zQ : type_of% @List.map_cons := @List.map_cons
theorem zR : type_of% @List.map_nil := @List.map_nil
theorem zS : type_of% @List.length_drop := @List.length_drop
theorem zT : type_of% @List.length_take := @List.length_take
theorem zU : type_of% @keep_drewN := @keep_drewN
theorem zV : type_of% @keep_drew := @keep_drew
theorem zW : type_of% @keep_alloc := @keep_alloc
theorem zX : type_of% @Kd.R_lower := @Kd.R_lower
theorem zY : type_of% @LeO.bind := @LeO.bind
theorem zZ : type_of% @LeO.ite := @LeO.ite
theorem ya : type_of% @LeO.refl := @LeO.refl
theorem yb : type_of% @LeO.none := @LeO.none
theorem yc : type_of% @beq_iff_eq := @beq_iff_eq
theorem yd : type_of% @bne_iff_ne := @bne_iff_ne
theorem ye : type_of% @beq_eq_false_iff_ne := @beq_eq_false_iff_ne
theorem yf : type_of% @bne_eq_false_iff_eq := @bne_eq_false_iff_eq
theorem yg : type_of% @Option.some.inj := @Option.some.inj
theorem yh : type_of% @Nat.add_assoc := @Nat.add_assoc
theorem yi : type_of% @Kd.R_slice := @Kd.R_slice
theorem yj : type_of% @Kd.R_below := @Kd.R_below
theorem yk : type_of% @blk_grown := @blk_grown
theorem yl : type_of% @errW_none := @errW_none
theorem ym : type_of% @errW_some := @errW_some
end Go.Proofs.YtmnfjbmhlabdaaaDoor.Pr
