import Derived.Test.YtenekpkjlgddnaaRows
import Derived.Test.YtenekpkjlgddnaaR22
import Derived.Test.YtenekpkjlgddnaaR33
set_option linter.unusedVariables false
set_option linter.unusedSimpArgs false
namespace Go.Proofs.Ytenekpkjlgddnaa
open Go.Sx Go.RowKit

/- loop.example/g00973/laws.szRecordS -/

/- loop.example/g00973/laws.szIntS -/

/- loop.example/g00973/laws.szNode -/

/- loop.example/g00973/laws.szNodeS -/

/- loop.example/g00973/laws.szGraph -/

end Go.Proofs.Ytenekpkjlgddnaa

namespace Go.Proofs.Ytenekpkjlgddnaa
open Go.Sx Go.RowKit

/- loop.example/g00973/laws.toStamp -/

/- loop.example/g00973/laws.toRecord -/

/- loop.example/g00973/laws.toRecordS -/

/- loop.example/g00973/laws.toIntS -/

/- loop.example/g00973/laws.toNode -/

/- loop.example/g00973/laws.toNodeS -/

/- loop.example/g00973/laws.toGraph -/

end Go.Proofs.Ytenekpkjlgddnaa
