/- purl.Kinds answers the five kinds in a list of its own. Conditions: none. -/
import Derived.Test.YtmnfjbmhlabdaaaDoorDPrx0
import Derived.Test.YtmnfjbmhlabdaaaDoorDEa
namespace Go.Proofs.YtmnfjbmhlabdaaaDoor.Pr
open Go.RowKit Go.Proofs.YtmnfjbmhlabdaaaDoorW.PrintWords Go.Proofs.YtmnfjbmhlabdaaaDoorW.PrintLast Go.Proofs.YtmnfjbmhlabdaaaDoorW.PrintMore
def kindsB : List ByteArray := [(⟨#[100, 111, 116, 116, 101, 100]⟩ : ByteArray), (⟨#[114, 101, 118, 105, 115, 101, 100]⟩ : ByteArray), (⟨#[115, 116, 97, 103, 101, 100]⟩ : ByteArray), (⟨#[113, 117, 97, 108, 105, 102, 105, 101, 100]⟩ : ByteArray), (⟨#[112, 108, 97, 105, 110]⟩ : ByteArray)]
end Go.Proofs.YtmnfjbmhlabdaaaDoor.Pr
