import Derived.Test.YtacdaijalkkogaaPlZ2
import Derived.Test.YtacdaijalkkogaaQxSubRat
namespace Go.Proofs.Ytacdaijalkkogaa.Pl
open Go.RowKit Go.Proofs.Ytacdaijalkkogaa.Q Go.Proofs.Ytacdaijalkkogaa.Pn Go.Proofs.YtacdaijalkkogaaW.PrintWords Go.Proofs.YtacdaijalkkogaaW.PrintLast Go.Proofs.YtacdaijalkkogaaW.PrintMore
set_option linter.unusedVariables false
set_option linter.unusedSimpArgs false

theorem implSub_ev (b : Bool) (n d : List Int) (b' : Bool) (n' d' : List Int) : Ev (fun k => impl_SubRat.f k b n d b' n' d') (twoAns (fun r s => addZ r (negZ s)) (b, n, d) (b', n', d')) := by
 have e := ev_two (op := (fun r s => addZ r (negZ s))) (ratsCode2 b n d b' n' d') (g := fun k => impl_Rat_less.f k b n d b' n' d') fun h1 h2 => lessE (ok_sm h1) (ok_sm h2) (by omega)
 exact Ev.bind (f := fun _ t => some (t.1, t.2.1, t.2.2.1, t.2.2.2)) (g := fun k => impl_ofTwo87.f k b n d b' n' d') e (Ev.now _)
theorem specSub_ev (b : Bool) (n d : List Int) (b' : Bool) (n' d' : List Int) (l1 : n.length ≤ 1048576) (l2 : d.length ≤ 1048576) (l3 : n'.length ≤ 1048576) (l4 : d'.length ≤ 1048576) : Ev (fun k => spec_SubRat.f k b n d b' n' d') (twoAns (fun r s => addZ r (negZ s)) (b, n, d) (b', n', d')) :=
 ev_twoR (op := (fun r s => addZ r (negZ s))) (ask_ev b n d b' n' d' l1 l2 l3 l4) (g := fun k => spec_l02Sub.f k b n d b' n' d') fun h1 h2 => subRE (ok_sm h1) (ok_sm h2) (by omega)
end Go.Proofs.Ytacdaijalkkogaa.Pl
