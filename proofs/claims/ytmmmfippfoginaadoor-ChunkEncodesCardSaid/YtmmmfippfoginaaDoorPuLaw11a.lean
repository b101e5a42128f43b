/- The statement ChunkDecodes, without the program in sight. -/
import Derived.Test.YtmmmfippfoginaaDoorPuChunk3
import Derived.Test.YtmmmfippfoginaaDoorPR2
import Derived.Test.YtmmmfippfoginaaDoorPR11
import Derived.KernelRfl
namespace Go.Proofs.YtmmmfippfoginaaDoor.Pu
open Go.RowKit Go.Proofs.YtmmmfippfoginaaDoorW.PrintWords Go.Proofs.YtmmmfippfoginaaDoorW.PrintLast Go.Proofs.YtmmmfippfoginaaDoor.PR
set_option linter.unusedVariables false
set_option linter.unusedSimpArgs false

theorem chunks_60 : depotlaw11_chunks.f 60 = some true := by kernel_rfl
theorem chunks_true : Ev (fun k => depotlaw11_chunks.f k) true := Ev.of depotlaw11_chunks.mono chunks_60
theorem chunks_end : Ev (fun k => (depotlaw11_chunks.f k).bind fun t => some t) true := Ev.bind chunks_true (Ev.some' rfl)
theorem decodes_law (s : ByteArray) : ∃ k, depotlaw11_ChunkDecodes.f k s = some true := by
  refine Ev.rounds ?_
  obtain ⟨l, rfl, hl⟩ := ex_bOf s
  unfold depotlaw11_ChunkDecodes.f
  refine Ev.ite (fun _ => chunks_end) (fun h => ?_)
  have hs : l.length ≤ 100000 := by rw [bOf_size] at h; omega
  refine Ev.sbind (prog_Decode l hs) (Ev.bind (ref_Decode l hs) ?_)
  exact Ev.pos rfl (Ev.pos rfl (Ev.pos rfl chunks_end))
end Go.Proofs.YtmmmfippfoginaaDoor.Pu
