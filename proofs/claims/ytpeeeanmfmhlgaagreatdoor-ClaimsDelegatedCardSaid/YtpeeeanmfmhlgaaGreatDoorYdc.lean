/- The cells of values. Printed by a program. -/
import Derived.Test.YtpeeeanmfmhlgaaGreatDoorYdm
import Derived.Test.YtpeeeanmfmhlgaaGreatDoorTy
import Derived.Test.YtpeeeanmfmhlgaaGreatDoorShelf
import Derived.Test.YtpeeeanmfmhlgaaGreatDoorLibK
import Derived.Test.YtpeeeanmfmhlgaaGreatDoorArr
namespace Go.Proofs.YtpeeeanmfmhlgaaGreatDoor
open Go.RowKit
set_option linter.unusedVariables false
set_option maxRecDepth 20000
abbrev C_int (x : Int) : List V := [vint x]
abbrev C_gatemake_Stream (x : S_gatemake_Stream) : List V := [vlst (List.map C_int x.L), vint x.at_]
abbrev C_string (x : Bs) : List V := [vstr x]
abbrev C_api_Claims (x : S_api_Claims) : List V := [vstr x.Id, vstr x.Subject, vstr x.Issuer, vstr x.Parent, vlst (List.map C_string x.Audience), vlst (List.map C_string x.Scopes), vint x.From, vint x.To]
abbrev C_L_string (x : (List Bs)) : List V := [vlst (List.map C_string x)]
abbrev C_api_Window (x : S_api_Window) : List V := [vint x.From, vint x.To]
abbrev C_api_Errno (x : Int) : List V := [vint x]
abbrev C_uint8 (x : Int) : List V := [vval (.int .u8 x)]
end Go.Proofs.YtpeeeanmfmhlgaaGreatDoor
