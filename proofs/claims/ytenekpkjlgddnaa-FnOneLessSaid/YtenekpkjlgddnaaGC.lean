import Derived.Test.YtenekpkjlgddnaaRows
import Derived.Test.YtenekpkjlgddnaaR22
import Derived.Test.YtenekpkjlgddnaaR33
set_option linter.unusedVariables false
set_option linter.unusedSimpArgs false
namespace Go.Proofs.Ytenekpkjlgddnaa
open Go.Sx Go.RowKit

/- loop.example/g00973/laws.eqStamp -/

/- loop.example/g00973/laws.eqRecord -/

/- loop.example/g00973/laws.eqRecordS -/

/- loop.example/g00973/laws.eqIntS -/

/- loop.example/g00973/laws.eqNode -/

/- loop.example/g00973/laws.eqNodeS -/

/- loop.example/g00973/laws.eqGraph -/

end Go.Proofs.Ytenekpkjlgddnaa
