/- A part of the proof that croupierlaw11.ModelKnown returns true (its last text says so). No condition of its own. -/
import Derived.Test.YtgnpoaoekhplhaaGreatDoorFa
import Derived.Test.YtgnpoaoekhplhaaGreatDoorFb
import Derived.Test.YtgnpoaoekhplhaaGreatDoorFc
import Derived.Test.YtgnpoaoekhplhaaGreatDoorFd
set_option linter.unusedVariables false
set_option linter.unusedSimpArgs false
set_option linter.unusedSectionVars false
/- The printed code is the program's. -/
namespace Go.Proofs.YtgnpoaoekhplhaaGreatDoor.AE.Tst
open Go Go.Proofs.YtgnpoaoekhplhaaGreatDoor.AE Go.Proofs
set_option maxRecDepth 1000000
def QQ (f : Nat) (af : AFn) : Prop := fsOf Tryz.prog f = some af
theorem nE {g : Nat → Nat} : AllTr QQ .e g := True.intro
theorem nN {l r : Tr AFn} {g : Nat → Nat} (hl : AllTr QQ l (fun j => g (2 * j + 1))) (hr : AllTr QQ r (fun j => g (2 * j + 2))) : AllTr QQ (.n l none r) g := ⟨fun x e => (by cases e), hl, hr⟩
theorem nS {l r : Tr AFn} {g : Nat → Nat} {y : AFn} (h : fsOf Tryz.prog (g 0) = some y) (hl : AllTr QQ l (fun j => g (2 * j + 1))) (hr : AllTr QQ r (fun j => g (2 * j + 2))) : AllTr QQ (.n l (some y) r) g := ⟨fun x e => (by cases e; exact h), hl, hr⟩
theorem fsok : FsOK Tryz.prog fs11 := fsOK_of (t := fs) (show AllTr QQ fs id from
  (nN (nN (nS c3 (nN (nS c15 (nN (nN (nS c127 nE nE) (nS c191 nE nE)) (nS c95 (nS c159 nE nE) nE)) (nS c47 (nS c79 (nS c143 nE nE) (nS c207 nE nE)) (nN (nS c175 nE nE) nE))) (nS c23 (nS c39 (nS c71 nE nE) (nS c103 (nS c167 nE nE) nE)) (nS c55 nE (nS c119 nE nE)))) (nS c11 (nS c19 (nN (nN nE (nS c195 nE nE)) (nS c99 nE nE)) (nS c51 (nN nE (nS c211 nE nE)) nE)) (nN (nN (nS c75 nE (nS c203 nE nE)) (nS c107 (nS c171 nE nE) nE)) (nN (nS c91 (nS c155 nE nE) nE) (nS c123 (nS c187 nE nE) nE))))) (nN (nS c9 (nS c17 (nN nE (nS c97 (nS c161 nE nE) nE)) (nS c49 (nS c81 (nS c145 nE nE) (nS c209 nE nE)) (nN (nS c177 nE nE) nE))) (nS c25 (nS c41 (nS c73 nE (nS c201 nE nE)) (nS c105 (nS c169 nE nE) nE)) (nS c57 (nS c89 (nS c153 nE nE) nE) (nS c121 (nS c185 nE nE) nE)))) (nS c13 (nS c21 (nN (nN nE (nS c197 nE nE)) (nS c101 (nS c165 nE nE) nE)) (nS c53 (nN (nS c149 nE nE) (nS c213 nE nE)) nE)) (nN (nS c45 (nS c77 nE (nS c205 nE nE)) (nN (nS c173 nE nE) nE)) (nN (nS c93 (nS c157 nE nE) nE) (nS c125 (nS c189 nE nE) nE)))))) (nN (nN (nN (nS c16 (nN (nN (nS c128 nE nE) (nS c192 nE nE)) (nS c96 (nS c160 nE nE) nE)) (nS c48 (nS c80 (nS c144 nE nE) (nS c208 nE nE)) (nN (nS c176 nE nE) nE))) (nS c24 (nN (nS c72 nE nE) (nS c104 (nS c168 nE nE) nE)) (nS c56 (nN (nS c152 nE nE) nE) (nS c120 (nS c184 nE nE) nE)))) (nS c12 (nS c20 (nN (nS c68 (nS c132 nE nE) (nS c196 nE nE)) (nS c100 (nS c164 nE nE) nE)) (nS c52 nE nE)) (nN (nS c44 (nS c76 nE (nS c204 nE nE)) (nN (nS c172 nE nE) nE)) (nN (nS c92 (nS c156 nE nE) nE) (nS c124 (nS c188 nE nE) nE))))) (nN (nS c10 (nS c18 (nN (nN nE (nS c194 nE nE)) (nS c98 (nS c162 nE nE) nE)) (nS c50 (nN (nS c146 nE nE) (nS c210 nE nE)) (nN (nS c178 nE nE) nE))) (nN (nS c42 (nS c74 nE nE) (nS c106 (nS c170 nE nE) nE)) (nS c58 (nS c90 (nS c154 nE nE) nE) (nS c122 (nS c186 nE nE) nE)))) (nS c14 (nS c22 (nN (nS c70 nE (nS c198 nE nE)) (nS c102 (nS c166 nE nE) nE)) (nS c54 nE (nS c118 nE nE))) (nN (nS c46 (nS c78 (nS c142 nE nE) (nS c206 nE nE)) (nN (nS c174 nE nE) nE)) (nN (nS c94 (nS c158 nE nE) nE) (nS c126 (nS c190 nE nE) nE))))))))
end Go.Proofs.YtgnpoaoekhplhaaGreatDoor.AE.Tst
