import Derived.Test.YtenekpkjlgddnaaDoorRows
import Derived.Test.YtenekpkjlgddnaaDoorR22
import Derived.Test.YtenekpkjlgddnaaDoorR33
set_option linter.unusedVariables false
set_option linter.unusedSimpArgs false
namespace Go.Proofs.YtenekpkjlgddnaaDoor
open Go.Sx Go.RowKit

/- loop.example/g00973/laws.szRecordS -/

/- loop.example/g00973/laws.szCellS -/

/- loop.example/g00973/laws.szIntS -/

/- loop.example/g00973/laws.szBoolS -/

/- loop.example/g00973/laws.szDoneS -/

/- loop.example/g00973/laws.szWorker -/

end Go.Proofs.YtenekpkjlgddnaaDoor

namespace Go.Proofs.YtenekpkjlgddnaaDoor
open Go.Sx Go.RowKit

/- loop.example/g00973/laws.toStamp -/

/- loop.example/g00973/laws.toRecord -/

/- loop.example/g00973/laws.toRecordS -/

/- loop.example/g00973/laws.toCell -/

/- loop.example/g00973/laws.toCellS -/

/- loop.example/g00973/laws.toIntS -/

/- loop.example/g00973/laws.toBoolS -/

/- loop.example/g00973/laws.toDone -/

/- loop.example/g00973/laws.toDoneS -/

/- loop.example/g00973/laws.toWorker -/

/- loop.example/g00973/laws.toPick -/

theorem laws_toPick_p0 (n0 : Int) (n1 : Int) (n2 : Int)
    (h : Obs []) :
    Ret Tryd.prog 6 [AD.agg [I n0, I n1, I n2]] [AD.agg [I n0, I n1, I n2]] :=
  .of [] _ Tryd.func6 rfl (by kernel_rfl) h

end Go.Proofs.YtenekpkjlgddnaaDoor

namespace Go.Proofs.YtenekpkjlgddnaaDoor
open Go.Sx Go.RowKit

/- loop.example/g00973/laws.eqStamp -/

/- loop.example/g00973/laws.eqRecord -/

/- loop.example/g00973/laws.eqRecordS -/

/- loop.example/g00973/laws.eqCell -/

/- loop.example/g00973/laws.eqCellS -/

/- loop.example/g00973/laws.eqIntS -/

/- loop.example/g00973/laws.eqBoolS -/

/- loop.example/g00973/laws.eqDone -/

/- loop.example/g00973/laws.eqDoneS -/

/- loop.example/g00973/laws.eqWorker -/

end Go.Proofs.YtenekpkjlgddnaaDoor
