/- Models of the library's functions that have contracts of the kit's shelf. No program. -/
import Derived.Test.YtmcegaabopcmfaaMod
import Derived.Test.YtmcegaabopcmfaaOrd
import Derived.Lib.IndexAny
import Derived.Test.YtmcegaabopcmfaaAbsK
namespace Go.Proofs.Ytmcegaabopcmfaa
def m_strings_Compare (a b : Bs) : Option Int := some (Lib.compareBytes a b)
def m_strings_IndexByte (l : Bs) (c : Int) : Option Int := some (Lib.indexByte l c.toNat.toUInt8)
abbrev and_ (k : IntKind) (m n : Int) : Int := k.wrap (BitVec.ofInt k.bits m &&& BitVec.ofInt k.bits n).toNat
abbrev or_ (k : IntKind) (m n : Int) : Int := k.wrap (BitVec.ofInt k.bits m ||| BitVec.ofInt k.bits n).toNat
abbrev xor_ (k : IntKind) (m n : Int) : Int := k.wrap (BitVec.ofInt k.bits m ^^^ BitVec.ofInt k.bits n).toNat
abbrev shl_ (k : IntKind) (m n : Int) : Int := k.wrap (m * 2 ^ (min n.toNat k.bits))
abbrev shr_ (k : IntKind) (m n : Int) : Int := m.fdiv (2 ^ (min n.toNat k.bits))
end Go.Proofs.Ytmcegaabopcmfaa
