import Derived.Test.YtaejmgdpnnhpmaaQFlexx10
import Derived.Test.YtaejmgdpnnhpmaaFlexSpreadPure
namespace Go.Proofs.Ytaejmgdpnnhpmaa.Pure
open Go.RowKit Go.Proofs.Ytaejmgdpnnhpmaa.QFlex Go.Proofs.YtaejmgdpnnhpmaaW.PrintWords Go.Proofs.YtaejmgdpnnhpmaaW.PrintLast

theorem FlexSpread : clerestorylaw3_FlexSpread.Pure := fun a0 a1 a2 _ _ _ => flexSpread_pure a0 a1 a2

end Go.Proofs.Ytaejmgdpnnhpmaa.Pure
