/- The cells of values. Printed by a program. -/
import Derived.Test.YtpeeeanmfmhlgaaYsm
import Derived.Test.YtpeeeanmfmhlgaaTy
import Derived.Test.YtpeeeanmfmhlgaaShelf
import Derived.Test.YtpeeeanmfmhlgaaLibK
import Derived.Test.YtpeeeanmfmhlgaaRng
import Derived.Shelf.Abstract
namespace Go.Proofs.Ytpeeeanmfmhlgaa
open Go.RowKit
set_option linter.unusedVariables false
set_option maxRecDepth 20000
abbrev C_int (x : Int) : List V := [vint x]
abbrev C_gatemake_Stream (x : S_gatemake_Stream) : List V := [vlst (List.map C_int x.L), vint x.at_]
abbrev C_api_Signer (x : S_api_Signer) : List V := [vstr x.Id, vstr x.Secret, vint x.From, vint x.To, vint x.Until]
abbrev C_string (x : Bs) : List V := [vstr x]
abbrev C_api_Window (x : S_api_Window) : List V := [vint x.From, vint x.To]
abbrev C_api_Errno (x : Int) : List V := [vint x]
abbrev C_uint8 (x : Int) : List V := [vval (.int .u8 x)]
end Go.Proofs.Ytpeeeanmfmhlgaa
