/- Short names. -/
import Derived.Test.YtmnfjbmhlabdaaaDoorDPrx4
namespace Go.Proofs.YtmnfjbmhlabdaaaDoor.Pr
open Go.RowKit Go.Proofs.YtmnfjbmhlabdaaaDoorW.PrintWords Go.Proofs.YtmnfjbmhlabdaaaDoorW.PrintLast Go.Proofs.YtmnfjbmhlabdaaaDoorW.PrintMore
theorem zn : type_of% @IsS69.alloc := @IsS69.alloc
theorem zo : type_of% @IsS69.drewN := @IsS69.drewN
theorem zp : type_of% @IsS69.drew := @IsS69.drew
theorem zq : type_of% @IsS69.set_0 := @IsS69.set_0
theorem zr : type_of% @IsS69.set_1 := @IsS69.set_1
theorem zt : type_of% @IsS69.set_2 := @IsS69.set_2
end Go.Proofs.YtmnfjbmhlabdaaaDoor.Pr
