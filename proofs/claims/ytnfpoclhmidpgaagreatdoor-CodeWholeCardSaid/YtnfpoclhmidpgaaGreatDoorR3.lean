/- Of the proof that this claim's last text ends. -/
import Derived.Test.YtnfpoclhmidpgaaGreatDoorR2
set_option maxRecDepth 100000
set_option maxHeartbeats 8000000
set_option linter.unusedSimpArgs false
set_option linter.unusedVariables false
namespace Go.Sl
open Go Go.RowKit Go.Shelf Go.Proofs
attribute [local irreducible] Calls
section
variable {S : Nat → Prop} {w0 : World} {σ : Type} (cd : Cod S w0 σ) {F : List Ent} {s : σ} {L : List Ent} (hE : cd.env F) (hs : cd.St s L)
include hE hs
theorem itemE_c {A B : List Value} {b mp mq : Nat} {x : EndM} {av wv : Value} {el : TypeId} (hA : ArgsK S w0 F x.args av) (hW : WhensK S w0 F x.ws wv) (hm : cd.Keep ∨ (x.args = [] ∧ x.ws = [])) (hsm : cd.Small) (hl1 : x.args.length ≤ 65535) (hl2 : x.ws.length ≤ 65535) (hop0 : 0 ≤ x.kd) (hop1 : x.kd ≤ 255) (hmp : (⟨mq, true, mapBO pieceTab⟩ : Ent) ∈ F) (hf : codeEnd cd.κ x s ≠ .full) :
 SLF Tryz.prog S w0 F 97 [tabV cd mp mq, .iface 166 (.agg #[pv b A.length])] (L ++ [⟨b, true, .cells (A ++ (endC x av wv ++ B)).toArray el (0, 0)⟩]) (MoO (codeEnd cd.κ x s) fun a v post => v = unitV ∧ ∃ L' X av' wv', cd.St a.2 L' ∧ post = L' ++ (⟨b, true, .cells (A ++ (endC a.1 av' wv' ++ B)).toArray el (0, 0)⟩ :: X) ∧ SlS S w0 intsV X a.1.args x.args av' av ∧ SlS S w0 whensV X a.1.ws x.ws wv' wv) := by
 refine AA fun w hi => ?_
 simp only [List.append_assoc, List.cons_append, List.nil_append] at hi
 have g0 : ((A ++ (endC x av wv ++ B)).toArray)[A.length]? = some (.int .u8 x.kd) := B9 (j := 0) (R := endC x av wv) (show 0 < 9 by decide) rfl
 have st0 : ∀ n, ((A ++ (endC x av wv ++ B)).toArray).setIfInBounds A.length (.int .u8 n) = (A ++ (endC { x with kd := n } av wv ++ B)).toArray := fun n => BB (j := 0) (R := endC x av wv) (show 0 < 9 by decide) _
 have g0n : ∀ n, ((A ++ (endC { x with kd := n } av wv ++ B)).toArray)[A.length + 0]? = some (.int .u8 n) := fun n => B9 (j := 0) (R := endC { x with kd := n } av wv) (show 0 < 9 by decide) rfl
 cases hsm0 : small cd.κ x.kd s with
 | full => exact absurd hsm0 (Out.nf hf)
 | bad =>
   have hr : codeEnd cd.κ x s = .bad := by simp only [codeEnd, hsm0, Out.bind]
   refine Ai Tryz.func97 rfl rfl (hi) ?_
   repeat' (first | (refine Ah rfl ?_) | (refine Al ?_) | (refine Am ?_) | ((refine Ab 0 ?_; try (refine AF rfl rfl rfl rfl (fun bt hbt => ?_); try ((refine Aa N1 ?_))))) | ((refine Bd (id := 1) 4 rfl mixed Y1 ?_; try (refine Ax (Ad Cj rfl) rfl rfl ?_; try ((refine Ax (B1 (cs := #[.iface cd.it cd.iv]) U113 rfl B7 rfl Y0 rfl Y31 (fun j hj => by (obtain rfl : j = 0 := (by (have : j < 1 := hj); omega)); rfl)) rfl rfl ?_) <;> try (refine Ax (Aj rfl) rfl rfl (Ax (ov_kindQ (CallR.inv rfl rfl metE en190) kindE_c) rfl rfl (Bc ?_)); try ((refine CA cd (o := A.length) (gv := fun n => .int .u8 n) Y7 Y6 (CallR.val rfl en90) rfl rfl (small_c cd (by repeat (first | exact hE | apply cd.envC | apply cd.envA)) hs hop0 hop1 g0 (Out.nf hf)) (fun e => AN Tryz.func97 hr Y4) (fun n' s' e1 L' hs' => ?_); rw [hsm0] at e1; cases e1) <;> try ((refine Aa N1 ?_)))))))))
 | ok r =>
 obtain ⟨op', s1⟩ := r
 have g0' := g0n op'
 cases hfo : formE op' with
 | none =>
   have hr : codeEnd cd.κ x s = .bad := by simp only [codeEnd, hsm0, Out.bind, hfo]
   have hlk := piece_findN hfo
   refine Ai Tryz.func97 rfl rfl (hi) ?_
   repeat' (first | (refine Ah rfl ?_) | (refine Ak rfl ?_) | (refine Al ?_) | (refine Am ?_) | (refine A1 rfl ?_) | (refine Az rfl ?_) | (refine A5 ?_) | ((refine Ab 0 ?_; try (refine AF rfl rfl rfl rfl (fun bt hbt => ?_); try ((refine Aa N1 ?_))))) | ((refine Bd (id := 1) 4 rfl mixed Y1 ?_; try (refine Ax (Ad Cj rfl) rfl rfl ?_; try ((refine Ax (B1 (cs := #[.iface cd.it cd.iv]) U113 rfl B7 rfl Y0 rfl Y31 (fun j hj => by (obtain rfl : j = 0 := (by (have : j < 1 := hj); omega)); rfl)) rfl rfl ?_) <;> try (refine Ax (Aj rfl) rfl rfl (Ax (ov_kindQ (CallR.inv rfl rfl metE en190) kindE_c) rfl rfl (Bc ?_)); try ((refine CA cd (o := A.length) (gv := fun n => .int .u8 n) Y7 Y6 (CallR.val rfl en90) rfl rfl (small_c cd (by repeat (first | exact hE | apply cd.envC | apply cd.envA)) hs hop0 hop1 g0 (Out.nf hf)) (fun e => by rw [hsm0] at e; cases e) (fun n' s' e1 L' hs' => ?_); rw [hsm0] at e1; cases e1; rw [st0]) <;> try ((refine Aa N1 ?_)))))))) | ((refine Ab 2 ?_; try (refine Zm rfl (Aa N1 ?_)))) | ((refine Ab 3 ?_; try (refine Zv (ov_assertF U162 rfl inf162 rfl rfl Y22) ?_; try (refine Zv (Af rfl rfl) (Zv (Af rfl rfl) (Aa N1 ?_)))))) | ((refine Ab 13 ?_; try (refine Zv (ov_assertT U166 rfl rfl) (Zv (Af rfl rfl) (Zv (Af rfl rfl) (Aa N1 ?_)))))) | ((refine Ab 14 ?_; try (refine A4 inf166 rfl rfl rfl rfl (fun bi hbi => ?_); try (refine AI rfl rfl rfl sz166 Y3 Y15 rfl rfl ?_; try ((refine Aa N1 ?_)))))) | ((refine Cs (m := 14) 15 rfl mixed rfl ?_; try (refine Zt 0 rfl (fun _ => Ad fo117_2 rfl) (Zt 2 rfl (fun _ => Ad fo166_0 rfl) ?_); try (refine Cb 1 3 11 Y1 ?_ ?_ ?_ <;> (first | (show WI _ _ _ _ _ _ 1 _ _ _ _; try (refine An rfl (Ac U115 rfl rfl Y0 Y5) rfl rfl rfl ?_; try (refine A9 3 11 Y1 ?_ ?_ <;> (first | (show WI _ _ _ _ _ _ 3 _ _ _ _; try (refine An rfl (Ac U164 rfl rfl Y0 Y5) rfl rfl rfl ?_; try (refine A9 4 11 Y1 ?_ ?_ <;> (first | (show WI _ _ _ _ _ _ 4 _ _ _ _; try (refine An rfl (Ag rfl) rfl rfl rfl (Zt 5 rfl (fun _ => Ad BS rfl) ?_); try (refine A9 6 11 Y1 ?_ ?_ <;> (first | (show WI _ _ _ _ _ _ 6 _ _ _ _; try (refine An rfl (Ac U5 rfl rfl Y0 Y5) rfl rfl rfl ?_; try (refine A9 7 11 Y1 ?_ ?_ <;> (first | (show WI _ _ _ _ _ _ 7 _ _ _ _; try (refine An rfl (Bq hlk rfl rfl rfl Y0) rfl rfl rfl ?_; try (refine Zt 8 rfl (fun _ => Aj rfl) (Zt 9 rfl (fun _ => Af rfl rfl) (Zt 10 rfl (fun _ => Af rfl rfl) (Ae 11 Y1 ?_))) <;> try (refine AB rfl AU rfl rfl rfl rfl rfl (fun ba hba => ?_); try (refine Ae 12 Y1 ?_ <;> try (refine Ar rfl rfl rfl rfl B3 Y3 Y15 rfl rfl rfl ?_; try (refine Zt 13 rfl (fun _ => Ao rfl) (Ap N1 Y1 ?_)))))))) | (show WI _ _ _ _ _ _ 11 _ _ _ _; try (refine AB rfl AU rfl rfl rfl rfl rfl (fun ba hba => ?_); try (refine Ae 7 Y1 ?_ <;> try (refine An rfl (Bq hlk rfl rfl rfl Y0) rfl rfl rfl ?_; try (refine Zt 8 rfl (fun _ => Aj rfl) (Zt 9 rfl (fun _ => Af rfl rfl) (Zt 10 rfl (fun _ => Af rfl rfl) (Ae 12 Y1 ?_))) <;> try (refine Ar rfl rfl rfl rfl B3 Y3 Y15 rfl rfl rfl ?_; try (refine Zt 13 rfl (fun _ => Ao rfl) (Ap N1 Y1 ?_)))))))))))) | (show WI _ _ _ _ _ _ 11 _ _ _ _; try (refine AB rfl AU rfl rfl rfl rfl rfl (fun ba hba => ?_); try (refine Ae 6 Y1 ?_ <;> try (refine An rfl (Ac U5 rfl rfl Y0 Y5) rfl rfl rfl ?_; try (refine Ae 7 Y1 ?_ <;> try (refine An rfl (Bq hlk rfl rfl rfl Y0) rfl rfl rfl ?_; try (refine Zt 8 rfl (fun _ => Aj rfl) (Zt 9 rfl (fun _ => Af rfl rfl) (Zt 10 rfl (fun _ => Af rfl rfl) (Ae 12 Y1 ?_))) <;> try (refine Ar rfl rfl rfl rfl B3 Y3 Y15 rfl rfl rfl ?_; try (refine Zt 13 rfl (fun _ => Ao rfl) (Ap N1 Y1 ?_)))))))))))))) | (show WI _ _ _ _ _ _ 11 _ _ _ _; try (refine AB rfl AU rfl rfl rfl rfl rfl (fun ba hba => ?_); try (refine Ae 4 Y1 ?_ <;> try (refine An rfl (Ag rfl) rfl rfl rfl (Zt 5 rfl (fun _ => Ad BS rfl) (Ae 6 Y1 ?_)) <;> try (refine An rfl (Ac U5 rfl rfl Y0 Y5) rfl rfl rfl ?_; try (refine Ae 7 Y1 ?_ <;> try (refine An rfl (Bq hlk rfl rfl rfl Y0) rfl rfl rfl ?_; try (refine Zt 8 rfl (fun _ => Aj rfl) (Zt 9 rfl (fun _ => Af rfl rfl) (Zt 10 rfl (fun _ => Af rfl rfl) (Ae 12 Y1 ?_))) <;> try (refine Ar rfl rfl rfl rfl B3 Y3 Y15 rfl rfl rfl ?_; try (refine Zt 13 rfl (fun _ => Ao rfl) (Ap N1 Y1 ?_))))))))))))))) | (show WI _ _ _ _ _ _ 11 _ _ _ _; try (refine AB rfl AU rfl rfl rfl rfl rfl (fun ba hba => ?_); try (refine Ae 3 Y1 ?_ <;> try (refine An rfl (Ac U164 rfl rfl Y0 Y5) rfl rfl rfl ?_; try (refine Ae 4 Y1 ?_ <;> try (refine An rfl (Ag rfl) rfl rfl rfl (Zt 5 rfl (fun _ => Ad BS rfl) (Ae 6 Y1 ?_)) <;> try (refine An rfl (Ac U5 rfl rfl Y0 Y5) rfl rfl rfl ?_; try (refine Ae 7 Y1 ?_ <;> try (refine An rfl (Bq hlk rfl rfl rfl Y0) rfl rfl rfl ?_; try (refine Zt 8 rfl (fun _ => Aj rfl) (Zt 9 rfl (fun _ => Af rfl rfl) (Zt 10 rfl (fun _ => Af rfl rfl) (Ae 12 Y1 ?_))) <;> try (refine Ar rfl rfl rfl rfl B3 Y3 Y15 rfl rfl rfl ?_; try (refine Zt 13 rfl (fun _ => Ao rfl) (Ap N1 Y1 ?_))))))))))))))))) | (show WI _ _ _ _ _ _ 3 _ _ _ _; try (refine An rfl (Ac U164 rfl rfl Y0 Y5) rfl rfl rfl ?_; try (refine Cb 1 4 11 Y1 ?_ ?_ ?_ <;> (first | (show WI _ _ _ _ _ _ 1 _ _ _ _; try (refine An rfl (Ac U115 rfl rfl Y0 Y5) rfl rfl rfl ?_; try (refine A9 4 11 Y1 ?_ ?_ <;> (first | (show WI _ _ _ _ _ _ 4 _ _ _ _; try (refine An rfl (Ag rfl) rfl rfl rfl (Zt 5 rfl (fun _ => Ad BS rfl) ?_); try (refine A9 6 11 Y1 ?_ ?_ <;> (first | (show WI _ _ _ _ _ _ 6 _ _ _ _; try (refine An rfl (Ac U5 rfl rfl Y0 Y5) rfl rfl rfl ?_; try (refine A9 7 11 Y1 ?_ ?_ <;> (first | (show WI _ _ _ _ _ _ 7 _ _ _ _; try (refine An rfl (Bq hlk rfl rfl rfl Y0) rfl rfl rfl ?_; try (refine Zt 8 rfl (fun _ => Aj rfl) (Zt 9 rfl (fun _ => Af rfl rfl) (Zt 10 rfl (fun _ => Af rfl rfl) (Ae 11 Y1 ?_))) <;> try (refine AB rfl AU rfl rfl rfl rfl rfl (fun ba hba => ?_); try (refine Ae 12 Y1 ?_ <;> try (refine Ar rfl rfl rfl rfl B3 Y3 Y15 rfl rfl rfl ?_; try (refine Zt 13 rfl (fun _ => Ao rfl) (Ap N1 Y1 ?_)))))))) | (show WI _ _ _ _ _ _ 11 _ _ _ _; try (refine AB rfl AU rfl rfl rfl rfl rfl (fun ba hba => ?_); try (refine Ae 7 Y1 ?_ <;> try (refine An rfl (Bq hlk rfl rfl rfl Y0) rfl rfl rfl ?_; try (refine Zt 8 rfl (fun _ => Aj rfl) (Zt 9 rfl (fun _ => Af rfl rfl) (Zt 10 rfl (fun _ => Af rfl rfl) (Ae 12 Y1 ?_))) <;> try (refine Ar rfl rfl rfl rfl B3 Y3 Y15 rfl rfl rfl ?_; try (refine Zt 13 rfl (fun _ => Ao rfl) (Ap N1 Y1 ?_)))))))))))) | (show WI _ _ _ _ _ _ 11 _ _ _ _; try (refine AB rfl AU rfl rfl rfl rfl rfl (fun ba hba => ?_); try (refine Ae 6 Y1 ?_ <;> try (refine An rfl (Ac U5 rfl rfl Y0 Y5) rfl rfl rfl ?_; try (refine Ae 7 Y1 ?_ <;> try (refine An rfl (Bq hlk rfl rfl rfl Y0) rfl rfl rfl ?_; try (refine Zt 8 rfl (fun _ => Aj rfl) (Zt 9 rfl (fun _ => Af rfl rfl) (Zt 10 rfl (fun _ => Af rfl rfl) (Ae 12 Y1 ?_))) <;> try (refine Ar rfl rfl rfl rfl B3 Y3 Y15 rfl rfl rfl ?_; try (refine Zt 13 rfl (fun _ => Ao rfl) (Ap N1 Y1 ?_)))))))))))))) | (show WI _ _ _ _ _ _ 11 _ _ _ _; try (refine AB rfl AU rfl rfl rfl rfl rfl (fun ba hba => ?_); try (refine Ae 4 Y1 ?_ <;> try (refine An rfl (Ag rfl) rfl rfl rfl (Zt 5 rfl (fun _ => Ad BS rfl) (Ae 6 Y1 ?_)) <;> try (refine An rfl (Ac U5 rfl rfl Y0 Y5) rfl rfl rfl ?_; try (refine Ae 7 Y1 ?_ <;> try (refine An rfl (Bq hlk rfl rfl rfl Y0) rfl rfl rfl ?_; try (refine Zt 8 rfl (fun _ => Aj rfl) (Zt 9 rfl (fun _ => Af rfl rfl) (Zt 10 rfl (fun _ => Af rfl rfl) (Ae 12 Y1 ?_))) <;> try (refine Ar rfl rfl rfl rfl B3 Y3 Y15 rfl rfl rfl ?_; try (refine Zt 13 rfl (fun _ => Ao rfl) (Ap N1 Y1 ?_))))))))))))))) | (show WI _ _ _ _ _ _ 4 _ _ _ _; try (refine An rfl (Ag rfl) rfl rfl rfl (Zt 5 rfl (fun _ => Ad BS rfl) ?_); try (refine Cb 1 6 11 Y1 ?_ ?_ ?_ <;> (first | (show WI _ _ _ _ _ _ 1 _ _ _ _; try (refine An rfl (Ac U115 rfl rfl Y0 Y5) rfl rfl rfl ?_; try (refine A9 6 11 Y1 ?_ ?_ <;> (first | (show WI _ _ _ _ _ _ 6 _ _ _ _; try (refine An rfl (Ac U5 rfl rfl Y0 Y5) rfl rfl rfl ?_; try (refine A9 7 11 Y1 ?_ ?_ <;> (first | (show WI _ _ _ _ _ _ 7 _ _ _ _; try (refine An rfl (Bq hlk rfl rfl rfl Y0) rfl rfl rfl ?_; try (refine Zt 8 rfl (fun _ => Aj rfl) (Zt 9 rfl (fun _ => Af rfl rfl) (Zt 10 rfl (fun _ => Af rfl rfl) (Ae 11 Y1 ?_))) <;> try (refine AB rfl AU rfl rfl rfl rfl rfl (fun ba hba => ?_); try (refine Ae 12 Y1 ?_ <;> try (refine Ar rfl rfl rfl rfl B3 Y3 Y15 rfl rfl rfl ?_; try (refine Zt 13 rfl (fun _ => Ao rfl) (Ap N1 Y1 ?_)))))))) | (show WI _ _ _ _ _ _ 11 _ _ _ _; try (refine AB rfl AU rfl rfl rfl rfl rfl (fun ba hba => ?_); try (refine Ae 7 Y1 ?_ <;> try (refine An rfl (Bq hlk rfl rfl rfl Y0) rfl rfl rfl ?_; try (refine Zt 8 rfl (fun _ => Aj rfl) (Zt 9 rfl (fun _ => Af rfl rfl) (Zt 10 rfl (fun _ => Af rfl rfl) (Ae 12 Y1 ?_))) <;> try (refine Ar rfl rfl rfl rfl B3 Y3 Y15 rfl rfl rfl ?_; try (refine Zt 13 rfl (fun _ => Ao rfl) (Ap N1 Y1 ?_)))))))))))) | (show WI _ _ _ _ _ _ 11 _ _ _ _; try (refine AB rfl AU rfl rfl rfl rfl rfl (fun ba hba => ?_); try (refine Ae 6 Y1 ?_ <;> try (refine An rfl (Ac U5 rfl rfl Y0 Y5) rfl rfl rfl ?_; try (refine Ae 7 Y1 ?_ <;> try (refine An rfl (Bq hlk rfl rfl rfl Y0) rfl rfl rfl ?_; try (refine Zt 8 rfl (fun _ => Aj rfl) (Zt 9 rfl (fun _ => Af rfl rfl) (Zt 10 rfl (fun _ => Af rfl rfl) (Ae 12 Y1 ?_))) <;> try (refine Ar rfl rfl rfl rfl B3 Y3 Y15 rfl rfl rfl ?_; try (refine Zt 13 rfl (fun _ => Ao rfl) (Ap N1 Y1 ?_)))))))))))))) | (show WI _ _ _ _ _ _ 6 _ _ _ _; try (refine An rfl (Ac U5 rfl rfl Y0 Y5) rfl rfl rfl ?_; try (refine A9 1 11 Y1 ?_ ?_ <;> (first | (show WI _ _ _ _ _ _ 1 _ _ _ _; try (refine An rfl (Ac U115 rfl rfl Y0 Y5) rfl rfl rfl ?_; try (refine A9 7 11 Y1 ?_ ?_ <;> (first | (show WI _ _ _ _ _ _ 7 _ _ _ _; try (refine An rfl (Bq hlk rfl rfl rfl Y0) rfl rfl rfl ?_; try (refine Zt 8 rfl (fun _ => Aj rfl) (Zt 9 rfl (fun _ => Af rfl rfl) (Zt 10 rfl (fun _ => Af rfl rfl) (Ae 11 Y1 ?_))) <;> try (refine AB rfl AU rfl rfl rfl rfl rfl (fun ba hba => ?_); try (refine Ae 12 Y1 ?_ <;> try (refine Ar rfl rfl rfl rfl B3 Y3 Y15 rfl rfl rfl ?_; try (refine Zt 13 rfl (fun _ => Ao rfl) (Ap N1 Y1 ?_)))))))) | (show WI _ _ _ _ _ _ 11 _ _ _ _; try (refine AB rfl AU rfl rfl rfl rfl rfl (fun ba hba => ?_); try (refine Ae 7 Y1 ?_ <;> try (refine An rfl (Bq hlk rfl rfl rfl Y0) rfl rfl rfl ?_; try (refine Zt 8 rfl (fun _ => Aj rfl) (Zt 9 rfl (fun _ => Af rfl rfl) (Zt 10 rfl (fun _ => Af rfl rfl) (Ae 12 Y1 ?_))) <;> try (refine Ar rfl rfl rfl rfl B3 Y3 Y15 rfl rfl rfl ?_; try (refine Zt 13 rfl (fun _ => Ao rfl) (Ap N1 Y1 ?_)))))))))))) | (show WI _ _ _ _ _ _ 11 _ _ _ _; try (refine AB rfl AU rfl rfl rfl rfl rfl (fun ba hba => ?_); try (refine Ae 1 Y1 ?_ <;> try (refine An rfl (Ac U115 rfl rfl Y0 Y5) rfl rfl rfl ?_; try (refine Ae 7 Y1 ?_ <;> try (refine An rfl (Bq hlk rfl rfl rfl Y0) rfl rfl rfl ?_; try (refine Zt 8 rfl (fun _ => Aj rfl) (Zt 9 rfl (fun _ => Af rfl rfl) (Zt 10 rfl (fun _ => Af rfl rfl) (Ae 12 Y1 ?_))) <;> try (refine Ar rfl rfl rfl rfl B3 Y3 Y15 rfl rfl rfl ?_; try (refine Zt 13 rfl (fun _ => Ao rfl) (Ap N1 Y1 ?_)))))))))))))) | (show WI _ _ _ _ _ _ 11 _ _ _ _; try (refine AB rfl AU rfl rfl rfl rfl rfl (fun ba hba => ?_); try (refine A9 1 6 Y1 ?_ ?_ <;> (first | (show WI _ _ _ _ _ _ 1 _ _ _ _; try (refine An rfl (Ac U115 rfl rfl Y0 Y5) rfl rfl rfl ?_; try (refine Ae 6 Y1 ?_ <;> try (refine An rfl (Ac U5 rfl rfl Y0 Y5) rfl rfl rfl ?_; try (refine Ae 7 Y1 ?_ <;> try (refine An rfl (Bq hlk rfl rfl rfl Y0) rfl rfl rfl ?_; try (refine Zt 8 rfl (fun _ => Aj rfl) (Zt 9 rfl (fun _ => Af rfl rfl) (Zt 10 rfl (fun _ => Af rfl rfl) (Ae 12 Y1 ?_))) <;> try (refine Ar rfl rfl rfl rfl B3 Y3 Y15 rfl rfl rfl ?_; try (refine Zt 13 rfl (fun _ => Ao rfl) (Ap N1 Y1 ?_)))))))))) | (show WI _ _ _ _ _ _ 6 _ _ _ _; try (refine An rfl (Ac U5 rfl rfl Y0 Y5) rfl rfl rfl ?_; try (refine Ae 1 Y1 ?_ <;> try (refine An rfl (Ac U115 rfl rfl Y0 Y5) rfl rfl rfl ?_; try (refine Ae 7 Y1 ?_ <;> try (refine An rfl (Bq hlk rfl rfl rfl Y0) rfl rfl rfl ?_; try (refine Zt 8 rfl (fun _ => Aj rfl) (Zt 9 rfl (fun _ => Af rfl rfl) (Zt 10 rfl (fun _ => Af rfl rfl) (Ae 12 Y1 ?_))) <;> try (refine Ar rfl rfl rfl rfl B3 Y3 Y15 rfl rfl rfl ?_; try (refine Zt 13 rfl (fun _ => Ao rfl) (Ap N1 Y1 ?_)))))))))))))))))) | (show WI _ _ _ _ _ _ 11 _ _ _ _; try (refine AB rfl AU rfl rfl rfl rfl rfl (fun ba hba => ?_); try (refine A9 1 4 Y1 ?_ ?_ <;> (first | (show WI _ _ _ _ _ _ 1 _ _ _ _; try (refine An rfl (Ac U115 rfl rfl Y0 Y5) rfl rfl rfl ?_; try (refine Ae 4 Y1 ?_ <;> try (refine An rfl (Ag rfl) rfl rfl rfl (Zt 5 rfl (fun _ => Ad BS rfl) (Ae 6 Y1 ?_)) <;> try (refine An rfl (Ac U5 rfl rfl Y0 Y5) rfl rfl rfl ?_; try (refine Ae 7 Y1 ?_ <;> try (refine An rfl (Bq hlk rfl rfl rfl Y0) rfl rfl rfl ?_; try (refine Zt 8 rfl (fun _ => Aj rfl) (Zt 9 rfl (fun _ => Af rfl rfl) (Zt 10 rfl (fun _ => Af rfl rfl) (Ae 12 Y1 ?_))) <;> try (refine Ar rfl rfl rfl rfl B3 Y3 Y15 rfl rfl rfl ?_; try (refine Zt 13 rfl (fun _ => Ao rfl) (Ap N1 Y1 ?_))))))))))) | (show WI _ _ _ _ _ _ 4 _ _ _ _; try (refine An rfl (Ag rfl) rfl rfl rfl (Zt 5 rfl (fun _ => Ad BS rfl) ?_); try (refine A9 1 6 Y1 ?_ ?_ <;> (first | (show WI _ _ _ _ _ _ 1 _ _ _ _; try (refine An rfl (Ac U115 rfl rfl Y0 Y5) rfl rfl rfl ?_; try (refine Ae 6 Y1 ?_ <;> try (refine An rfl (Ac U5 rfl rfl Y0 Y5) rfl rfl rfl ?_; try (refine Ae 7 Y1 ?_ <;> try (refine An rfl (Bq hlk rfl rfl rfl Y0) rfl rfl rfl ?_; try (refine Zt 8 rfl (fun _ => Aj rfl) (Zt 9 rfl (fun _ => Af rfl rfl) (Zt 10 rfl (fun _ => Af rfl rfl) (Ae 12 Y1 ?_))) <;> try (refine Ar rfl rfl rfl rfl B3 Y3 Y15 rfl rfl rfl ?_; try (refine Zt 13 rfl (fun _ => Ao rfl) (Ap N1 Y1 ?_)))))))))) | (show WI _ _ _ _ _ _ 6 _ _ _ _; try (refine An rfl (Ac U5 rfl rfl Y0 Y5) rfl rfl rfl ?_; try (refine Ae 1 Y1 ?_ <;> try (refine An rfl (Ac U115 rfl rfl Y0 Y5) rfl rfl rfl ?_; try (refine Ae 7 Y1 ?_ <;> try (refine An rfl (Bq hlk rfl rfl rfl Y0) rfl rfl rfl ?_; try (refine Zt 8 rfl (fun _ => Aj rfl) (Zt 9 rfl (fun _ => Af rfl rfl) (Zt 10 rfl (fun _ => Af rfl rfl) (Ae 12 Y1 ?_))) <;> try (refine Ar rfl rfl rfl rfl B3 Y3 Y15 rfl rfl rfl ?_; try (refine Zt 13 rfl (fun _ => Ao rfl) (Ap N1 Y1 ?_)))))))))))))))))))))) | (show WI _ _ _ _ _ _ 11 _ _ _ _; try (refine AB rfl AU rfl rfl rfl rfl rfl (fun ba hba => ?_); try (refine A9 1 3 Y1 ?_ ?_ <;> (first | (show WI _ _ _ _ _ _ 1 _ _ _ _; try (refine An rfl (Ac U115 rfl rfl Y0 Y5) rfl rfl rfl ?_; try (refine Ae 3 Y1 ?_ <;> try (refine An rfl (Ac U164 rfl rfl Y0 Y5) rfl rfl rfl ?_; try (refine Ae 4 Y1 ?_ <;> try (refine An rfl (Ag rfl) rfl rfl rfl (Zt 5 rfl (fun _ => Ad BS rfl) (Ae 6 Y1 ?_)) <;> try (refine An rfl (Ac U5 rfl rfl Y0 Y5) rfl rfl rfl ?_; try (refine Ae 7 Y1 ?_ <;> try (refine An rfl (Bq hlk rfl rfl rfl Y0) rfl rfl rfl ?_; try (refine Zt 8 rfl (fun _ => Aj rfl) (Zt 9 rfl (fun _ => Af rfl rfl) (Zt 10 rfl (fun _ => Af rfl rfl) (Ae 12 Y1 ?_))) <;> try (refine Ar rfl rfl rfl rfl B3 Y3 Y15 rfl rfl rfl ?_; try (refine Zt 13 rfl (fun _ => Ao rfl) (Ap N1 Y1 ?_))))))))))))) | (show WI _ _ _ _ _ _ 3 _ _ _ _; try (refine An rfl (Ac U164 rfl rfl Y0 Y5) rfl rfl rfl ?_; try (refine A9 1 4 Y1 ?_ ?_ <;> (first | (show WI _ _ _ _ _ _ 1 _ _ _ _; try (refine An rfl (Ac U115 rfl rfl Y0 Y5) rfl rfl rfl ?_; try (refine Ae 4 Y1 ?_ <;> try (refine An rfl (Ag rfl) rfl rfl rfl (Zt 5 rfl (fun _ => Ad BS rfl) (Ae 6 Y1 ?_)) <;> try (refine An rfl (Ac U5 rfl rfl Y0 Y5) rfl rfl rfl ?_; try (refine Ae 7 Y1 ?_ <;> try (refine An rfl (Bq hlk rfl rfl rfl Y0) rfl rfl rfl ?_; try (refine Zt 8 rfl (fun _ => Aj rfl) (Zt 9 rfl (fun _ => Af rfl rfl) (Zt 10 rfl (fun _ => Af rfl rfl) (Ae 12 Y1 ?_))) <;> try (refine Ar rfl rfl rfl rfl B3 Y3 Y15 rfl rfl rfl ?_; try (refine Zt 13 rfl (fun _ => Ao rfl) (Ap N1 Y1 ?_))))))))))) | (show WI _ _ _ _ _ _ 4 _ _ _ _; try (refine An rfl (Ag rfl) rfl rfl rfl (Zt 5 rfl (fun _ => Ad BS rfl) ?_); try (refine A9 1 6 Y1 ?_ ?_ <;> (first | (show WI _ _ _ _ _ _ 1 _ _ _ _; try (refine An rfl (Ac U115 rfl rfl Y0 Y5) rfl rfl rfl ?_; try (refine Ae 6 Y1 ?_ <;> try (refine An rfl (Ac U5 rfl rfl Y0 Y5) rfl rfl rfl ?_; try (refine Ae 7 Y1 ?_ <;> try (refine An rfl (Bq hlk rfl rfl rfl Y0) rfl rfl rfl ?_; try (refine Zt 8 rfl (fun _ => Aj rfl) (Zt 9 rfl (fun _ => Af rfl rfl) (Zt 10 rfl (fun _ => Af rfl rfl) (Ae 12 Y1 ?_))) <;> try (refine Ar rfl rfl rfl rfl B3 Y3 Y15 rfl rfl rfl ?_; try (refine Zt 13 rfl (fun _ => Ao rfl) (Ap N1 Y1 ?_)))))))))) | (show WI _ _ _ _ _ _ 6 _ _ _ _; try (refine An rfl (Ac U5 rfl rfl Y0 Y5) rfl rfl rfl ?_; try (refine Ae 1 Y1 ?_ <;> try (refine An rfl (Ac U115 rfl rfl Y0 Y5) rfl rfl rfl ?_; try (refine Ae 7 Y1 ?_ <;> try (refine An rfl (Bq hlk rfl rfl rfl Y0) rfl rfl rfl ?_; try (refine Zt 8 rfl (fun _ => Aj rfl) (Zt 9 rfl (fun _ => Af rfl rfl) (Zt 10 rfl (fun _ => Af rfl rfl) (Ae 12 Y1 ?_))) <;> try (refine Ar rfl rfl rfl rfl B3 Y3 Y15 rfl rfl rfl ?_; try (refine Zt 13 rfl (fun _ => Ao rfl) (Ap N1 Y1 ?_))))))))))))))))))))))))))) | ((refine Ab 16 ?_; try (refine Zm rfl ?_; try ((refine AS (Take.nil _) (CallR.val rfl en79) rfl rfl (BV false) (fun e => AN Tryz.func97 hr Y4) ?_; rintro u e v post ⟨rfl, rfl⟩; cases e) <;> try ((refine Aa N1 ?_)))))))
 | some ls =>
 obtain ⟨hl, hnd⟩ := formE_ok hfo
 obtain ⟨q0, hlk⟩ := piece_find hfo
 have hr : codeEnd cd.κ x s = runs (ltE cd.κ) ls { x with kd := op' } s1 := by simp only [codeEnd, hsm0, Out.bind, hfo]
 have hrok := row_ok (f := fnE) (ls := ls) (n := 5)
 have hrsz := row_size (f := fnE) hl
 have hrat := fun i (h : i < ls.length) => row_at3 (f := fnE) hl h
 have hrnil := fun i (h : ls.length ≤ i) (hn : i < 5) => row_nil (f := fnE) h hn
 unfold rowOf at hlk
 generalize ((ls.map (fun l => Value.func (.func (fnE l)) #[] #[]) ++ List.replicate (5 - ls.length) Value.nilFunc).toArray) = cs at *
 rw [hr] at hf
 refine Ai Tryz.func97 rfl rfl (hi) ?_
 repeat' (first | (refine Ah rfl ?_) | (refine Ak rfl ?_) | (refine Al ?_) | (refine Am ?_) | (refine A1 rfl ?_) | (refine Az rfl ?_) | (refine A5 ?_) | ((refine Ab 0 ?_; try (refine AF rfl rfl rfl rfl (fun bt hbt => ?_); try ((refine Aa N1 ?_))))) | ((refine Bd (id := 1) 4 rfl mixed Y1 ?_; try (refine Ax (Ad Cj rfl) rfl rfl ?_; try ((refine Ax (B1 (cs := #[.iface cd.it cd.iv]) U113 rfl B7 rfl Y0 rfl Y31 (fun j hj => by (obtain rfl : j = 0 := (by (have : j < 1 := hj); omega)); rfl)) rfl rfl ?_) <;> try (refine Ax (Aj rfl) rfl rfl (Ax (ov_kindQ (CallR.inv rfl rfl metE en190) kindE_c) rfl rfl (Bc ?_)); try ((refine CA cd (o := A.length) (gv := fun n => .int .u8 n) Y7 Y6 (CallR.val rfl en90) rfl rfl (small_c cd (by repeat (first | exact hE | apply cd.envC | apply cd.envA)) hs hop0 hop1 g0 (by rw [hsm0]; simp)) (fun e => by rw [hsm0] at e; cases e) (fun n' s' e1 L' hs' => ?_); rw [hsm0] at e1; cases e1; rw [st0]) <;> try ((refine Aa N1 ?_)))))))) | ((refine Ab 2 ?_; try (refine Zm rfl (Aa N1 ?_)))) | ((refine Ab 3 ?_; try (refine Zv (ov_assertF U162 rfl inf162 rfl rfl Y22) ?_; try (refine Zv (Af rfl rfl) (Zv (Af rfl rfl) (Aa N1 ?_)))))) | ((refine Ab 13 ?_; try (refine Zv (ov_assertT U166 rfl rfl) (Zv (Af rfl rfl) (Zv (Af rfl rfl) (Aa N1 ?_)))))) | ((refine Ab 14 ?_; try (refine A4 inf166 rfl rfl rfl rfl (fun bi hbi => ?_); try (refine AI rfl rfl rfl sz166 Y3 Y15 rfl rfl ?_; try ((refine Aa N1 ?_)))))))
 refine w_cutK (β := Nat) (fun q => [(2, pv bt 0), (9, pv bi 0), (10, pv q 0), (11, .bool true)]) (fun q => ⟨q, true, .cells cs 190 (0, 0)⟩ :: ⟨bi, true, .cells #[pv b A.length] 166 (0, 0)⟩ :: (L' ++ (⟨b, true, .cells (A ++ (endC { x with kd := op' } av wv ++ B)).toArray el (0, 0)⟩ :: ⟨bt, true, .cells (tabV cd mp mq).cells 117 (0, 0)⟩ :: F))) ?_ ?_
 rotate_left
 · intro cut
   repeat' (first | (refine Ah rfl ?_) | (refine Ak rfl ?_) | (refine Al ?_) | ((refine Cs (m := 14) 15 rfl mixed rfl ?_; try (refine Zt 0 rfl (fun _ => Ad fo117_2 rfl) (Zt 2 rfl (fun _ => Ad fo166_0 rfl) ?_); try (refine Cb 1 3 11 Y1 ?_ ?_ ?_ <;> (first | (show WI _ _ _ _ _ _ 1 _ _ _ _; try (refine An rfl (Ac U115 rfl rfl Y0 Y5) rfl rfl rfl ?_; try (refine A9 3 11 Y1 ?_ ?_ <;> (first | (show WI _ _ _ _ _ _ 3 _ _ _ _; try (refine An rfl (Ac U164 rfl rfl Y0 Y5) rfl rfl rfl ?_; try (refine A9 4 11 Y1 ?_ ?_ <;> (first | (show WI _ _ _ _ _ _ 4 _ _ _ _; try (refine An rfl (Ag rfl) rfl rfl rfl (Zt 5 rfl (fun _ => Ad BS rfl) ?_); try (refine A9 6 11 Y1 ?_ ?_ <;> (first | (show WI _ _ _ _ _ _ 6 _ _ _ _; try (refine An rfl (Ac U5 rfl rfl Y0 Y5) rfl rfl rfl ?_; try (refine A9 7 11 Y1 ?_ ?_ <;> (first | (show WI _ _ _ _ _ _ 7 _ _ _ _; try (refine An rfl (AM hlk U115 U5 AU rfl rfl rfl Y0) rfl rfl rfl ?_; try (refine Zt 8 rfl (fun _ => Aj rfl) (Zt 9 rfl (fun _ => Af rfl rfl) (Zt 10 rfl (fun _ => Af rfl rfl) (Ae 11 Y1 ?_))) <;> try (refine AB rfl AU rfl rfl rfl rfl rfl (fun ba hba => ?_); try (refine Ae 12 Y1 ?_ <;> try ((refine Ar rfl rfl rfl hrok (by rw [hrsz]; exact B3) Y3 (by rw [hrsz]; rfl) rfl rfl rfl ?_) <;> try (refine Zt 13 rfl (fun _ => Ao rfl) (Ap N1 Y1 ?_)))))))) | (show WI _ _ _ _ _ _ 11 _ _ _ _; try (refine AB rfl AU rfl rfl rfl rfl rfl (fun ba hba => ?_); try (refine Ae 7 Y1 ?_ <;> try (refine An rfl (AM hlk U115 U5 AU rfl rfl rfl Y0) rfl rfl rfl ?_; try (refine Zt 8 rfl (fun _ => Aj rfl) (Zt 9 rfl (fun _ => Af rfl rfl) (Zt 10 rfl (fun _ => Af rfl rfl) (Ae 12 Y1 ?_))) <;> try ((refine Ar rfl rfl rfl hrok (by rw [hrsz]; exact B3) Y3 (by rw [hrsz]; rfl) rfl rfl rfl ?_) <;> try (refine Zt 13 rfl (fun _ => Ao rfl) (Ap N1 Y1 ?_)))))))))))) | (show WI _ _ _ _ _ _ 11 _ _ _ _; try (refine AB rfl AU rfl rfl rfl rfl rfl (fun ba hba => ?_); try (refine Ae 6 Y1 ?_ <;> try (refine An rfl (Ac U5 rfl rfl Y0 Y5) rfl rfl rfl ?_; try (refine Ae 7 Y1 ?_ <;> try (refine An rfl (AM hlk U115 U5 AU rfl rfl rfl Y0) rfl rfl rfl ?_; try (refine Zt 8 rfl (fun _ => Aj rfl) (Zt 9 rfl (fun _ => Af rfl rfl) (Zt 10 rfl (fun _ => Af rfl rfl) (Ae 12 Y1 ?_))) <;> try ((refine Ar rfl rfl rfl hrok (by rw [hrsz]; exact B3) Y3 (by rw [hrsz]; rfl) rfl rfl rfl ?_) <;> try (refine Zt 13 rfl (fun _ => Ao rfl) (Ap N1 Y1 ?_)))))))))))))) | (show WI _ _ _ _ _ _ 11 _ _ _ _; try (refine AB rfl AU rfl rfl rfl rfl rfl (fun ba hba => ?_); try (refine Ae 4 Y1 ?_ <;> try (refine An rfl (Ag rfl) rfl rfl rfl (Zt 5 rfl (fun _ => Ad BS rfl) (Ae 6 Y1 ?_)) <;> try (refine An rfl (Ac U5 rfl rfl Y0 Y5) rfl rfl rfl ?_; try (refine Ae 7 Y1 ?_ <;> try (refine An rfl (AM hlk U115 U5 AU rfl rfl rfl Y0) rfl rfl rfl ?_; try (refine Zt 8 rfl (fun _ => Aj rfl) (Zt 9 rfl (fun _ => Af rfl rfl) (Zt 10 rfl (fun _ => Af rfl rfl) (Ae 12 Y1 ?_))) <;> try ((refine Ar rfl rfl rfl hrok (by rw [hrsz]; exact B3) Y3 (by rw [hrsz]; rfl) rfl rfl rfl ?_) <;> try (refine Zt 13 rfl (fun _ => Ao rfl) (Ap N1 Y1 ?_))))))))))))))) | (show WI _ _ _ _ _ _ 11 _ _ _ _; try (refine AB rfl AU rfl rfl rfl rfl rfl (fun ba hba => ?_); try (refine Ae 3 Y1 ?_ <;> try (refine An rfl (Ac U164 rfl rfl Y0 Y5) rfl rfl rfl ?_; try (refine Ae 4 Y1 ?_ <;> try (refine An rfl (Ag rfl) rfl rfl rfl (Zt 5 rfl (fun _ => Ad BS rfl) (Ae 6 Y1 ?_)) <;> try (refine An rfl (Ac U5 rfl rfl Y0 Y5) rfl rfl rfl ?_; try (refine Ae 7 Y1 ?_ <;> try (refine An rfl (AM hlk U115 U5 AU rfl rfl rfl Y0) rfl rfl rfl ?_; try (refine Zt 8 rfl (fun _ => Aj rfl) (Zt 9 rfl (fun _ => Af rfl rfl) (Zt 10 rfl (fun _ => Af rfl rfl) (Ae 12 Y1 ?_))) <;> try ((refine Ar rfl rfl rfl hrok (by rw [hrsz]; exact B3) Y3 (by rw [hrsz]; rfl) rfl rfl rfl ?_) <;> try (refine Zt 13 rfl (fun _ => Ao rfl) (Ap N1 Y1 ?_))))))))))))))))) | (show WI _ _ _ _ _ _ 3 _ _ _ _; try (refine An rfl (Ac U164 rfl rfl Y0 Y5) rfl rfl rfl ?_; try (refine Cb 1 4 11 Y1 ?_ ?_ ?_ <;> (first | (show WI _ _ _ _ _ _ 1 _ _ _ _; try (refine An rfl (Ac U115 rfl rfl Y0 Y5) rfl rfl rfl ?_; try (refine A9 4 11 Y1 ?_ ?_ <;> (first | (show WI _ _ _ _ _ _ 4 _ _ _ _; try (refine An rfl (Ag rfl) rfl rfl rfl (Zt 5 rfl (fun _ => Ad BS rfl) ?_); try (refine A9 6 11 Y1 ?_ ?_ <;> (first | (show WI _ _ _ _ _ _ 6 _ _ _ _; try (refine An rfl (Ac U5 rfl rfl Y0 Y5) rfl rfl rfl ?_; try (refine A9 7 11 Y1 ?_ ?_ <;> (first | (show WI _ _ _ _ _ _ 7 _ _ _ _; try (refine An rfl (AM hlk U115 U5 AU rfl rfl rfl Y0) rfl rfl rfl ?_; try (refine Zt 8 rfl (fun _ => Aj rfl) (Zt 9 rfl (fun _ => Af rfl rfl) (Zt 10 rfl (fun _ => Af rfl rfl) (Ae 11 Y1 ?_))) <;> try (refine AB rfl AU rfl rfl rfl rfl rfl (fun ba hba => ?_); try (refine Ae 12 Y1 ?_ <;> try ((refine Ar rfl rfl rfl hrok (by rw [hrsz]; exact B3) Y3 (by rw [hrsz]; rfl) rfl rfl rfl ?_) <;> try (refine Zt 13 rfl (fun _ => Ao rfl) (Ap N1 Y1 ?_)))))))) | (show WI _ _ _ _ _ _ 11 _ _ _ _; try (refine AB rfl AU rfl rfl rfl rfl rfl (fun ba hba => ?_); try (refine Ae 7 Y1 ?_ <;> try (refine An rfl (AM hlk U115 U5 AU rfl rfl rfl Y0) rfl rfl rfl ?_; try (refine Zt 8 rfl (fun _ => Aj rfl) (Zt 9 rfl (fun _ => Af rfl rfl) (Zt 10 rfl (fun _ => Af rfl rfl) (Ae 12 Y1 ?_))) <;> try ((refine Ar rfl rfl rfl hrok (by rw [hrsz]; exact B3) Y3 (by rw [hrsz]; rfl) rfl rfl rfl ?_) <;> try (refine Zt 13 rfl (fun _ => Ao rfl) (Ap N1 Y1 ?_)))))))))))) | (show WI _ _ _ _ _ _ 11 _ _ _ _; try (refine AB rfl AU rfl rfl rfl rfl rfl (fun ba hba => ?_); try (refine Ae 6 Y1 ?_ <;> try (refine An rfl (Ac U5 rfl rfl Y0 Y5) rfl rfl rfl ?_; try (refine Ae 7 Y1 ?_ <;> try (refine An rfl (AM hlk U115 U5 AU rfl rfl rfl Y0) rfl rfl rfl ?_; try (refine Zt 8 rfl (fun _ => Aj rfl) (Zt 9 rfl (fun _ => Af rfl rfl) (Zt 10 rfl (fun _ => Af rfl rfl) (Ae 12 Y1 ?_))) <;> try ((refine Ar rfl rfl rfl hrok (by rw [hrsz]; exact B3) Y3 (by rw [hrsz]; rfl) rfl rfl rfl ?_) <;> try (refine Zt 13 rfl (fun _ => Ao rfl) (Ap N1 Y1 ?_)))))))))))))) | (show WI _ _ _ _ _ _ 11 _ _ _ _; try (refine AB rfl AU rfl rfl rfl rfl rfl (fun ba hba => ?_); try (refine Ae 4 Y1 ?_ <;> try (refine An rfl (Ag rfl) rfl rfl rfl (Zt 5 rfl (fun _ => Ad BS rfl) (Ae 6 Y1 ?_)) <;> try (refine An rfl (Ac U5 rfl rfl Y0 Y5) rfl rfl rfl ?_; try (refine Ae 7 Y1 ?_ <;> try (refine An rfl (AM hlk U115 U5 AU rfl rfl rfl Y0) rfl rfl rfl ?_; try (refine Zt 8 rfl (fun _ => Aj rfl) (Zt 9 rfl (fun _ => Af rfl rfl) (Zt 10 rfl (fun _ => Af rfl rfl) (Ae 12 Y1 ?_))) <;> try ((refine Ar rfl rfl rfl hrok (by rw [hrsz]; exact B3) Y3 (by rw [hrsz]; rfl) rfl rfl rfl ?_) <;> try (refine Zt 13 rfl (fun _ => Ao rfl) (Ap N1 Y1 ?_))))))))))))))) | (show WI _ _ _ _ _ _ 4 _ _ _ _; try (refine An rfl (Ag rfl) rfl rfl rfl (Zt 5 rfl (fun _ => Ad BS rfl) ?_); try (refine Cb 1 6 11 Y1 ?_ ?_ ?_ <;> (first | (show WI _ _ _ _ _ _ 1 _ _ _ _; try (refine An rfl (Ac U115 rfl rfl Y0 Y5) rfl rfl rfl ?_; try (refine A9 6 11 Y1 ?_ ?_ <;> (first | (show WI _ _ _ _ _ _ 6 _ _ _ _; try (refine An rfl (Ac U5 rfl rfl Y0 Y5) rfl rfl rfl ?_; try (refine A9 7 11 Y1 ?_ ?_ <;> (first | (show WI _ _ _ _ _ _ 7 _ _ _ _; try (refine An rfl (AM hlk U115 U5 AU rfl rfl rfl Y0) rfl rfl rfl ?_; try (refine Zt 8 rfl (fun _ => Aj rfl) (Zt 9 rfl (fun _ => Af rfl rfl) (Zt 10 rfl (fun _ => Af rfl rfl) (Ae 11 Y1 ?_))) <;> try (refine AB rfl AU rfl rfl rfl rfl rfl (fun ba hba => ?_); try (refine Ae 12 Y1 ?_ <;> try ((refine Ar rfl rfl rfl hrok (by rw [hrsz]; exact B3) Y3 (by rw [hrsz]; rfl) rfl rfl rfl ?_) <;> try (refine Zt 13 rfl (fun _ => Ao rfl) (Ap N1 Y1 ?_)))))))) | (show WI _ _ _ _ _ _ 11 _ _ _ _; try (refine AB rfl AU rfl rfl rfl rfl rfl (fun ba hba => ?_); try (refine Ae 7 Y1 ?_ <;> try (refine An rfl (AM hlk U115 U5 AU rfl rfl rfl Y0) rfl rfl rfl ?_; try (refine Zt 8 rfl (fun _ => Aj rfl) (Zt 9 rfl (fun _ => Af rfl rfl) (Zt 10 rfl (fun _ => Af rfl rfl) (Ae 12 Y1 ?_))) <;> try ((refine Ar rfl rfl rfl hrok (by rw [hrsz]; exact B3) Y3 (by rw [hrsz]; rfl) rfl rfl rfl ?_) <;> try (refine Zt 13 rfl (fun _ => Ao rfl) (Ap N1 Y1 ?_)))))))))))) | (show WI _ _ _ _ _ _ 11 _ _ _ _; try (refine AB rfl AU rfl rfl rfl rfl rfl (fun ba hba => ?_); try (refine Ae 6 Y1 ?_ <;> try (refine An rfl (Ac U5 rfl rfl Y0 Y5) rfl rfl rfl ?_; try (refine Ae 7 Y1 ?_ <;> try (refine An rfl (AM hlk U115 U5 AU rfl rfl rfl Y0) rfl rfl rfl ?_; try (refine Zt 8 rfl (fun _ => Aj rfl) (Zt 9 rfl (fun _ => Af rfl rfl) (Zt 10 rfl (fun _ => Af rfl rfl) (Ae 12 Y1 ?_))) <;> try ((refine Ar rfl rfl rfl hrok (by rw [hrsz]; exact B3) Y3 (by rw [hrsz]; rfl) rfl rfl rfl ?_) <;> try (refine Zt 13 rfl (fun _ => Ao rfl) (Ap N1 Y1 ?_)))))))))))))) | (show WI _ _ _ _ _ _ 6 _ _ _ _; try (refine An rfl (Ac U5 rfl rfl Y0 Y5) rfl rfl rfl ?_; try (refine A9 1 11 Y1 ?_ ?_ <;> (first | (show WI _ _ _ _ _ _ 1 _ _ _ _; try (refine An rfl (Ac U115 rfl rfl Y0 Y5) rfl rfl rfl ?_; try (refine A9 7 11 Y1 ?_ ?_ <;> (first | (show WI _ _ _ _ _ _ 7 _ _ _ _; try (refine An rfl (AM hlk U115 U5 AU rfl rfl rfl Y0) rfl rfl rfl ?_; try (refine Zt 8 rfl (fun _ => Aj rfl) (Zt 9 rfl (fun _ => Af rfl rfl) (Zt 10 rfl (fun _ => Af rfl rfl) (Ae 11 Y1 ?_))) <;> try (refine AB rfl AU rfl rfl rfl rfl rfl (fun ba hba => ?_); try (refine Ae 12 Y1 ?_ <;> try ((refine Ar rfl rfl rfl hrok (by rw [hrsz]; exact B3) Y3 (by rw [hrsz]; rfl) rfl rfl rfl ?_) <;> try (refine Zt 13 rfl (fun _ => Ao rfl) (Ap N1 Y1 ?_)))))))) | (show WI _ _ _ _ _ _ 11 _ _ _ _; try (refine AB rfl AU rfl rfl rfl rfl rfl (fun ba hba => ?_); try (refine Ae 7 Y1 ?_ <;> try (refine An rfl (AM hlk U115 U5 AU rfl rfl rfl Y0) rfl rfl rfl ?_; try (refine Zt 8 rfl (fun _ => Aj rfl) (Zt 9 rfl (fun _ => Af rfl rfl) (Zt 10 rfl (fun _ => Af rfl rfl) (Ae 12 Y1 ?_))) <;> try ((refine Ar rfl rfl rfl hrok (by rw [hrsz]; exact B3) Y3 (by rw [hrsz]; rfl) rfl rfl rfl ?_) <;> try (refine Zt 13 rfl (fun _ => Ao rfl) (Ap N1 Y1 ?_)))))))))))) | (show WI _ _ _ _ _ _ 11 _ _ _ _; try (refine AB rfl AU rfl rfl rfl rfl rfl (fun ba hba => ?_); try (refine Ae 1 Y1 ?_ <;> try (refine An rfl (Ac U115 rfl rfl Y0 Y5) rfl rfl rfl ?_; try (refine Ae 7 Y1 ?_ <;> try (refine An rfl (AM hlk U115 U5 AU rfl rfl rfl Y0) rfl rfl rfl ?_; try (refine Zt 8 rfl (fun _ => Aj rfl) (Zt 9 rfl (fun _ => Af rfl rfl) (Zt 10 rfl (fun _ => Af rfl rfl) (Ae 12 Y1 ?_))) <;> try ((refine Ar rfl rfl rfl hrok (by rw [hrsz]; exact B3) Y3 (by rw [hrsz]; rfl) rfl rfl rfl ?_) <;> try (refine Zt 13 rfl (fun _ => Ao rfl) (Ap N1 Y1 ?_)))))))))))))) | (show WI _ _ _ _ _ _ 11 _ _ _ _; try (refine AB rfl AU rfl rfl rfl rfl rfl (fun ba hba => ?_); try (refine A9 1 6 Y1 ?_ ?_ <;> (first | (show WI _ _ _ _ _ _ 1 _ _ _ _; try (refine An rfl (Ac U115 rfl rfl Y0 Y5) rfl rfl rfl ?_; try (refine Ae 6 Y1 ?_ <;> try (refine An rfl (Ac U5 rfl rfl Y0 Y5) rfl rfl rfl ?_; try (refine Ae 7 Y1 ?_ <;> try (refine An rfl (AM hlk U115 U5 AU rfl rfl rfl Y0) rfl rfl rfl ?_; try (refine Zt 8 rfl (fun _ => Aj rfl) (Zt 9 rfl (fun _ => Af rfl rfl) (Zt 10 rfl (fun _ => Af rfl rfl) (Ae 12 Y1 ?_))) <;> try ((refine Ar rfl rfl rfl hrok (by rw [hrsz]; exact B3) Y3 (by rw [hrsz]; rfl) rfl rfl rfl ?_) <;> try (refine Zt 13 rfl (fun _ => Ao rfl) (Ap N1 Y1 ?_)))))))))) | (show WI _ _ _ _ _ _ 6 _ _ _ _; try (refine An rfl (Ac U5 rfl rfl Y0 Y5) rfl rfl rfl ?_; try (refine Ae 1 Y1 ?_ <;> try (refine An rfl (Ac U115 rfl rfl Y0 Y5) rfl rfl rfl ?_; try (refine Ae 7 Y1 ?_ <;> try (refine An rfl (AM hlk U115 U5 AU rfl rfl rfl Y0) rfl rfl rfl ?_; try (refine Zt 8 rfl (fun _ => Aj rfl) (Zt 9 rfl (fun _ => Af rfl rfl) (Zt 10 rfl (fun _ => Af rfl rfl) (Ae 12 Y1 ?_))) <;> try ((refine Ar rfl rfl rfl hrok (by rw [hrsz]; exact B3) Y3 (by rw [hrsz]; rfl) rfl rfl rfl ?_) <;> try (refine Zt 13 rfl (fun _ => Ao rfl) (Ap N1 Y1 ?_)))))))))))))))))) | (show WI _ _ _ _ _ _ 11 _ _ _ _; try (refine AB rfl AU rfl rfl rfl rfl rfl (fun ba hba => ?_); try (refine A9 1 4 Y1 ?_ ?_ <;> (first | (show WI _ _ _ _ _ _ 1 _ _ _ _; try (refine An rfl (Ac U115 rfl rfl Y0 Y5) rfl rfl rfl ?_; try (refine Ae 4 Y1 ?_ <;> try (refine An rfl (Ag rfl) rfl rfl rfl (Zt 5 rfl (fun _ => Ad BS rfl) (Ae 6 Y1 ?_)) <;> try (refine An rfl (Ac U5 rfl rfl Y0 Y5) rfl rfl rfl ?_; try (refine Ae 7 Y1 ?_ <;> try (refine An rfl (AM hlk U115 U5 AU rfl rfl rfl Y0) rfl rfl rfl ?_; try (refine Zt 8 rfl (fun _ => Aj rfl) (Zt 9 rfl (fun _ => Af rfl rfl) (Zt 10 rfl (fun _ => Af rfl rfl) (Ae 12 Y1 ?_))) <;> try ((refine Ar rfl rfl rfl hrok (by rw [hrsz]; exact B3) Y3 (by rw [hrsz]; rfl) rfl rfl rfl ?_) <;> try (refine Zt 13 rfl (fun _ => Ao rfl) (Ap N1 Y1 ?_))))))))))) | (show WI _ _ _ _ _ _ 4 _ _ _ _; try (refine An rfl (Ag rfl) rfl rfl rfl (Zt 5 rfl (fun _ => Ad BS rfl) ?_); try (refine A9 1 6 Y1 ?_ ?_ <;> (first | (show WI _ _ _ _ _ _ 1 _ _ _ _; try (refine An rfl (Ac U115 rfl rfl Y0 Y5) rfl rfl rfl ?_; try (refine Ae 6 Y1 ?_ <;> try (refine An rfl (Ac U5 rfl rfl Y0 Y5) rfl rfl rfl ?_; try (refine Ae 7 Y1 ?_ <;> try (refine An rfl (AM hlk U115 U5 AU rfl rfl rfl Y0) rfl rfl rfl ?_; try (refine Zt 8 rfl (fun _ => Aj rfl) (Zt 9 rfl (fun _ => Af rfl rfl) (Zt 10 rfl (fun _ => Af rfl rfl) (Ae 12 Y1 ?_))) <;> try ((refine Ar rfl rfl rfl hrok (by rw [hrsz]; exact B3) Y3 (by rw [hrsz]; rfl) rfl rfl rfl ?_) <;> try (refine Zt 13 rfl (fun _ => Ao rfl) (Ap N1 Y1 ?_)))))))))) | (show WI _ _ _ _ _ _ 6 _ _ _ _; try (refine An rfl (Ac U5 rfl rfl Y0 Y5) rfl rfl rfl ?_; try (refine Ae 1 Y1 ?_ <;> try (refine An rfl (Ac U115 rfl rfl Y0 Y5) rfl rfl rfl ?_; try (refine Ae 7 Y1 ?_ <;> try (refine An rfl (AM hlk U115 U5 AU rfl rfl rfl Y0) rfl rfl rfl ?_; try (refine Zt 8 rfl (fun _ => Aj rfl) (Zt 9 rfl (fun _ => Af rfl rfl) (Zt 10 rfl (fun _ => Af rfl rfl) (Ae 12 Y1 ?_))) <;> try ((refine Ar rfl rfl rfl hrok (by rw [hrsz]; exact B3) Y3 (by rw [hrsz]; rfl) rfl rfl rfl ?_) <;> try (refine Zt 13 rfl (fun _ => Ao rfl) (Ap N1 Y1 ?_)))))))))))))))))))))) | (show WI _ _ _ _ _ _ 11 _ _ _ _; try (refine AB rfl AU rfl rfl rfl rfl rfl (fun ba hba => ?_); try (refine A9 1 3 Y1 ?_ ?_ <;> (first | (show WI _ _ _ _ _ _ 1 _ _ _ _; try (refine An rfl (Ac U115 rfl rfl Y0 Y5) rfl rfl rfl ?_; try (refine Ae 3 Y1 ?_ <;> try (refine An rfl (Ac U164 rfl rfl Y0 Y5) rfl rfl rfl ?_; try (refine Ae 4 Y1 ?_ <;> try (refine An rfl (Ag rfl) rfl rfl rfl (Zt 5 rfl (fun _ => Ad BS rfl) (Ae 6 Y1 ?_)) <;> try (refine An rfl (Ac U5 rfl rfl Y0 Y5) rfl rfl rfl ?_; try (refine Ae 7 Y1 ?_ <;> try (refine An rfl (AM hlk U115 U5 AU rfl rfl rfl Y0) rfl rfl rfl ?_; try (refine Zt 8 rfl (fun _ => Aj rfl) (Zt 9 rfl (fun _ => Af rfl rfl) (Zt 10 rfl (fun _ => Af rfl rfl) (Ae 12 Y1 ?_))) <;> try ((refine Ar rfl rfl rfl hrok (by rw [hrsz]; exact B3) Y3 (by rw [hrsz]; rfl) rfl rfl rfl ?_) <;> try (refine Zt 13 rfl (fun _ => Ao rfl) (Ap N1 Y1 ?_))))))))))))) | (show WI _ _ _ _ _ _ 3 _ _ _ _; try (refine An rfl (Ac U164 rfl rfl Y0 Y5) rfl rfl rfl ?_; try (refine A9 1 4 Y1 ?_ ?_ <;> (first | (show WI _ _ _ _ _ _ 1 _ _ _ _; try (refine An rfl (Ac U115 rfl rfl Y0 Y5) rfl rfl rfl ?_; try (refine Ae 4 Y1 ?_ <;> try (refine An rfl (Ag rfl) rfl rfl rfl (Zt 5 rfl (fun _ => Ad BS rfl) (Ae 6 Y1 ?_)) <;> try (refine An rfl (Ac U5 rfl rfl Y0 Y5) rfl rfl rfl ?_; try (refine Ae 7 Y1 ?_ <;> try (refine An rfl (AM hlk U115 U5 AU rfl rfl rfl Y0) rfl rfl rfl ?_; try (refine Zt 8 rfl (fun _ => Aj rfl) (Zt 9 rfl (fun _ => Af rfl rfl) (Zt 10 rfl (fun _ => Af rfl rfl) (Ae 12 Y1 ?_))) <;> try ((refine Ar rfl rfl rfl hrok (by rw [hrsz]; exact B3) Y3 (by rw [hrsz]; rfl) rfl rfl rfl ?_) <;> try (refine Zt 13 rfl (fun _ => Ao rfl) (Ap N1 Y1 ?_))))))))))) | (show WI _ _ _ _ _ _ 4 _ _ _ _; try (refine An rfl (Ag rfl) rfl rfl rfl (Zt 5 rfl (fun _ => Ad BS rfl) ?_); try (refine A9 1 6 Y1 ?_ ?_ <;> (first | (show WI _ _ _ _ _ _ 1 _ _ _ _; try (refine An rfl (Ac U115 rfl rfl Y0 Y5) rfl rfl rfl ?_; try (refine Ae 6 Y1 ?_ <;> try (refine An rfl (Ac U5 rfl rfl Y0 Y5) rfl rfl rfl ?_; try (refine Ae 7 Y1 ?_ <;> try (refine An rfl (AM hlk U115 U5 AU rfl rfl rfl Y0) rfl rfl rfl ?_; try (refine Zt 8 rfl (fun _ => Aj rfl) (Zt 9 rfl (fun _ => Af rfl rfl) (Zt 10 rfl (fun _ => Af rfl rfl) (Ae 12 Y1 ?_))) <;> try ((refine Ar rfl rfl rfl hrok (by rw [hrsz]; exact B3) Y3 (by rw [hrsz]; rfl) rfl rfl rfl ?_) <;> try (refine Zt 13 rfl (fun _ => Ao rfl) (Ap N1 Y1 ?_)))))))))) | (show WI _ _ _ _ _ _ 6 _ _ _ _; try (refine An rfl (Ac U5 rfl rfl Y0 Y5) rfl rfl rfl ?_; try (refine Ae 1 Y1 ?_ <;> try (refine An rfl (Ac U115 rfl rfl Y0 Y5) rfl rfl rfl ?_; try (refine Ae 7 Y1 ?_ <;> try (refine An rfl (AM hlk U115 U5 AU rfl rfl rfl Y0) rfl rfl rfl ?_; try (refine Zt 8 rfl (fun _ => Aj rfl) (Zt 9 rfl (fun _ => Af rfl rfl) (Zt 10 rfl (fun _ => Af rfl rfl) (Ae 12 Y1 ?_))) <;> try ((refine Ar rfl rfl rfl hrok (by rw [hrsz]; exact B3) Y3 (by rw [hrsz]; rfl) rfl rfl rfl ?_) <;> try (refine Zt 13 rfl (fun _ => Ao rfl) (Ap N1 Y1 ?_))))))))))))))))))))))))))))
   all_goals exact A0 Y10 (cut _)
 intro ba
 repeat' (first | (refine Ah rfl ?_) | (refine Ak rfl ?_) | (refine Al ?_) | (refine Am ?_) | (refine A5 ?_) | ((refine Ab 16 ?_; try (refine Zm rfl ?_; try ((refine AS (Take.nil _) (CallR.val rfl en79) rfl rfl (BV true) (fun e => by cases e) ?_; rintro u e v post ⟨rfl, rfl⟩) <;> try ((refine Aa N1 ?_)))))) | ((refine Ab 17 ?_; try ((refine Zv (AV U190 rfl AU rfl Y0 (by rw [hrsz]; rfl)) ?_) <;> try (refine Zm rfl (Aa N1 ?_))))))
 try simp only [List.append_assoc, List.cons_append, List.nil_append]
 refine w_pick (ps := L' ++ ([⟨b, true, .cells (A ++ (endC { x with kd := op' } av wv ++ B)).toArray el (0, 0)⟩, ⟨bi, true, .cells #[pv b A.length] 166 (0, 0)⟩, ⟨bt, true, .cells (tabV cd mp mq).cells 117 (0, 0)⟩] : List Ent)) (F := F) (Take.join Y7 Y6) Y4 ?_
 simp only [List.append_assoc, List.cons_append, List.nil_append]
 refine A0 (E' := (fun q : Nat × List _ × EndM × σ × List Ent × List Ent × (Value × Value) => [(2, pv bt 0), (9, pv bi 0), (65, .agg cs), (66, .int .i64 (q.1 : Int))]) (0, ls, { x with kd := op' }, s1, L', [], (av, wv))) Y14 ?_
 refine Bf (fun q : Nat × List _ × EndM × σ × List Ent × List Ent × (Value × Value) => q.1 ≤ 5 ∧ q.2.1 = ls.drop q.1 ∧ runs (ltE cd.κ) ls { x with kd := op' } s1 = runs (ltE cd.κ) q.2.1 q.2.2.1 q.2.2.2.1 ∧ cd.St q.2.2.2.1 q.2.2.2.2.1 ∧ SlS S w0 intsV q.2.2.2.2.2.1 q.2.2.1.args x.args q.2.2.2.2.2.2.1 av ∧ SlS S w0 whensV q.2.2.2.2.2.1 q.2.2.1.ws x.ws q.2.2.2.2.2.2.2 wv ∧ (cd.Keep ∨ ((LJ.given ∈ q.2.1 → q.2.2.1.args = []) ∧ (LJ.handlers ∈ q.2.1 → q.2.2.1.ws = []))) ∧ q.2.2.1.args.length ≤ 65535 ∧ q.2.2.1.ws.length ≤ 65535) (fun q => 5 - q.1) (fun q : Nat × List _ × EndM × σ × List Ent × List Ent × (Value × Value) => [(2, pv bt 0), (9, pv bi 0), (65, .agg cs), (66, .int .i64 (q.1 : Int))]) (fun q => q.2.2.2.2.1 ++ (⟨b, true, .cells (A ++ (endC q.2.2.1 q.2.2.2.2.2.2.1 q.2.2.2.2.2.2.2 ++ B)).toArray el (0, 0)⟩ :: (q.2.2.2.2.2.1 ++ (⟨bi, true, .cells #[pv b A.length] 166 (0, 0)⟩ :: ⟨bt, true, .cells (tabV cd mp mq).cells 117 (0, 0)⟩ :: F)))) ?_ (0, ls, { x with kd := op' }, s1, L', [], (av, wv)) ⟨Nat.zero_le _, rfl, rfl, hs', .same, .same, hm.imp id (fun h => ⟨fun _ => h.1, fun _ => h.2⟩), hl1, hl2⟩
 rintro ⟨i, rs, xi, si, Li, Xi, avi, wvi⟩ ⟨h1, h2, h3, h4, h5, h6, h7, h8, h9⟩ ih
 dsimp only at h1 h2 h3 h4 h5 h7 ih ⊢
 by_cases hi3 : i < 5
 · by_cases hil : i < ls.length
   · have hdr : ls.drop i = ls[i] :: ls.drop (i + 1) := List.drop_eq_getElem_cons hil
     have hndr : (ls.drop i).Nodup := (List.drop_sublist i ls).nodup hnd
     rw [hdr] at h2
     have hcell : cs[(i : Int).toNat * 1]? = some (.func (.func (fnE ls[i])) #[] #[]) := by rw [show (i : Int).toNat * 1 = i by omega]; exact hrat i hil
     obtain ⟨l, hl⟩ : ∃ l, ls[i] = l := ⟨_, rfl⟩
     rw [hl] at h2 hcell hdr
     subst h2
     have hnf : ltE cd.κ l xi si ≠ .full := by rw [h3] at hf; exact Out.nf (g := fun q => runs (ltE cd.κ) (ls.drop (i + 1)) q.1 q.2) hf
     repeat' (first | (refine Ah rfl ?_) | (refine Ak rfl ?_) | (refine Al ?_) | (refine Am ?_) | (refine A1 rfl ?_) | (refine A5 ?_) | (refine AH ?_) | (refine AE ?_) | ((refine Ab 18 ?_; try (refine Zv (A8 rfl rfl Y2) ?_; try ((refine Aa N1 ?_))))) | ((refine Ab 19 ?_; try (refine Zv (ov_indexV U190 sz189 U189 rfl rfl rfl Y9 Y9 hcell) ?_; try (refine Za rfl (Aa N1 ?_))))) | ((refine Ab 20 ?_; try (refine Zm rfl (Zv (ov_neqFn U189 rfl rfl) (Aa N1 ?_))))) | ((refine Ab 21 ?_; try (refine Zm rfl (Zf Cj rfl ?_); try ((refine Zv (B1 (cs := #[.iface cd.it cd.iv]) U113 rfl B7 rfl Y0 rfl Y31 (fun j hj => by (obtain rfl : j = 0 := (by (have : j < 1 := hj); omega)); rfl)) ?_) <;> try (refine Zf fo166_0 rfl (Zv (Ac U164 rfl rfl Y0 Y5) ?_); try ((refine wo_dynP Y7 Y6 (CallR.fv rfl rfl (.fn _ _ _ _ _ rfl) (enE l)) rfl rfl (lte_c cd (by repeat (first | exact hE | apply cd.envC | apply cd.envA)) h4 l (h5.kn hA.cons.cons) (h6.kn hW.cons.cons) (h7.imp id (fun h => ⟨fun e => h.1 (by rw [e]; exact .head _), fun e => h.2 (by rw [e]; exact .head _)⟩)) hsm h8 h9 hnf) (fun e => AN Tryz.func97 (by rw [hr, h3]; simp only [runs, e, Out.bind]) Y4) ?_; rintro ⟨x', s'⟩ e3 v post ⟨rfl, L', X', av', wv', k1, rfl, k2, k3⟩) <;> try ((refine Aa N1 ?_)))))))) | ((refine Ab 22 ?_; try (refine Zv (AG rfl rfl Y9 Y9) ?_; try (refine Zm rfl (Aa N1 ?_))))))
     simp only [List.append_assoc, List.cons_append, List.nil_append] at ih ⊢
     have hm2 : cd.Keep ∨ ((LJ.given ∈ ls.drop (i + 1) → x'.args = []) ∧ (LJ.handlers ∈ ls.drop (i + 1) → x'.ws = [])) := by
      refine h7.imp id (fun h => ⟨fun hmem => ?_, fun hmem => ?_⟩)
      · have hne : l ≠ LJ.given := by rintro rfl; exact absurd hmem (by rw [hdr] at hndr; exact (List.nodup_cons.1 hndr).1)
        rw [lt_keepA cd.κ hne e3]
        exact h.1 (.tail _ hmem)
      · have hne : l ≠ LJ.handlers := by rintro rfl; exact absurd hmem (by rw [hdr] at hndr; exact (List.nodup_cons.1 hndr).1)
        rw [lt_keepW cd.κ hne e3]
        exact h.2 (.tail _ hmem)
     have h3' : runs (ltE cd.κ) ls { x with kd := op' } s1 = runs (ltE cd.κ) (ls.drop (i + 1)) x' s' := by rw [h3]; simp only [runs, e3, Out.bind]
     have := ih (i + 1, ls.drop (i + 1), x', s', L', X' ++ Xi, av', wv') ⟨by simp only; omega, rfl, h3', k1, k2.trans h5, k3.trans h6, hm2, lt_lenA cd hsm h8 e3, lt_lenW cd hsm h9 e3⟩ (by simp only; omega)
     simp only [List.append_assoc] at this
     refine A0 Y10 this
   · have hcell : cs[(i : Int).toNat * 1]? = some .nilFunc := by rw [show (i : Int).toNat * 1 = i by omega]; exact hrnil i Y9 hi3
     have hd0 : ls.drop i = [] := List.drop_eq_nil_of_le Y9
     have hd1 : ls.drop (i + 1) = [] := List.drop_eq_nil_of_le Y9
     repeat' (first | (refine Ah rfl ?_) | (refine Ak rfl ?_) | (refine Al ?_) | (refine Am ?_) | (refine A1 rfl ?_) | (refine Az rfl ?_) | (refine A5 ?_) | (refine AH ?_) | (refine AE ?_) | ((refine Ab 18 ?_; try (refine Zv (A8 rfl rfl Y2) ?_; try ((refine Aa N1 ?_))))) | ((refine Ab 19 ?_; try (refine Zv (ov_indexV U190 sz189 U189 rfl rfl rfl Y9 Y9 hcell) ?_; try (refine Za rfl (Aa N1 ?_))))) | ((refine Ab 20 ?_; try (refine Zm rfl (Zv (ov_neqFnN U189 rfl rfl) (Aa N1 ?_))))) | ((refine Ab 22 ?_; try (refine Zv (AG rfl rfl Y9 Y9) ?_; try (refine Zm rfl (Aa N1 ?_))))))
     refine A0 Y10 (ih (i + 1, rs, xi, si, Li, Xi, avi, wvi) ⟨by simp only; omega, by simp only; rw [h2, hd0, hd1], h3, h4, h5, h6, h7, h8, h9⟩ (by simp only; omega))
 · have hd0 : ls.drop i = [] := List.drop_eq_nil_of_le Y9
   rw [h2, hd0] at h3
   repeat' (first | (refine Ah rfl ?_) | (refine Al ?_) | (refine Am ?_) | (refine Az rfl ?_) | (refine AH ?_) | (refine Bp rfl ?_) | (refine Bl Tryz.func97 rfl (fun w_ hi_ => ?_)) | ((refine Ab 18 ?_; try (refine Zv (A8 rfl rfl Y2) ?_; try ((refine Aa N1 ?_))))))
   refine ⟨_, Bi (by rw [hr, h3]; rfl) ⟨rfl, Li, Xi ++ [⟨bi, true, .cells #[pv b A.length] 166 (0, 0)⟩, ⟨bt, true, .cells (tabV cd mp mq).cells 117 (0, 0)⟩], avi, wvi, h4, rfl, h5.up fun e h => List.mem_append_left _ h, h6.up fun e h => List.mem_append_left _ h⟩, ?_⟩
   have := hi_
   simp only [List.append_assoc, List.cons_append, List.nil_append] at this ⊢
   exact this
end
end Go.Sl
namespace Go.Sl
open Go Go.RowKit Go.Shelf Go.Proofs
attribute [local irreducible] Calls
theorem frameO {α : Type} {P : Program} {S : Nat → Prop} {w0 : World} {F A : List Ent} {f : FuncId} {vs : List Value} {pre : List Ent} {r : Out α} {G : α → Value → List Ent → Prop} (h : SLF P S w0 (A ++ F) f vs pre (MoO r G)) : SLF P S w0 F f vs (pre ++ A) (MoO r fun a v post => ∃ p, G a v p ∧ post = p ++ A) := by
 unfold SLF at *
 intro w hi
 refine (h w (by rwa [List.append_assoc] at hi)).mono ?_
 rintro e w' ⟨post, hq, hi2⟩
 cases r with
 | ok a => obtain ⟨v, rfl, hg⟩ := hq; exact ⟨post ++ A, ⟨v, rfl, post, hg, rfl⟩, by rwa [List.append_assoc]⟩
 | bad => obtain ⟨rfl, rfl⟩ := hq; exact ⟨[], ⟨rfl, rfl⟩, hi2.subset (List.sublist_append_right _ _)⟩
 | full => exact hq.elim
def TabK {S : Nat → Prop} {w0 : World} {σ : Type} (cd : Cod S w0 σ) (F : List Ent) (bt mp mq : Nat) : Prop :=
 (∃ rw fz, (⟨bt, rw, .cells #[.iface cd.it cd.iv, .map (some mp), .map (some mq)] 117 fz⟩ : Ent) ∈ F) ∧ (⟨mp, true, mapBO partTab⟩ : Ent) ∈ F ∧ (⟨mq, true, mapBO pieceTab⟩ : Ent) ∈ F
theorem TabK.up {S : Nat → Prop} {w0 : World} {σ : Type} {cd : Cod S w0 σ} {F F' : List Ent} {bt mp mq : Nat} (h : TabK cd F bt mp mq) (hu : ∀ e ∈ F, e ∈ F') : TabK cd F' bt mp mq := by
 obtain ⟨⟨rw, fz, h1⟩, h2, h3⟩ := h
 exact ⟨⟨rw, fz, hu _ h1⟩, hu _ h2, hu _ h3⟩
section
variable {S : Nat → Prop} {w0 : World} {σ : Type} (cd : Cod S w0 σ) {F : List Ent} {s : σ} {L : List Ent} (hE : cd.env F) (hs : cd.St s L)
include hE hs
theorem insf_c {A B : List Value} {b bt mp mq : Nat} {x : InsM} {av : Value} {el : TypeId} (hT : TabK cd F bt mp mq) (hA : ArgsK S w0 F x.args av) (hm : cd.Keep ∨ x.args = []) (hop0 : 0 ≤ x.op) (hop1 : x.op ≤ 255) (hf : codeIns cd.κ x s ≠ .full) :
 SLF Tryz.prog S w0 F 96 [pv b A.length, pv bt 0] (L ++ [⟨b, true, .cells (A ++ (insC x av ++ B)).toArray el (0, 0)⟩]) (MoO (codeIns cd.κ x s) fun a v post => v = unitV ∧ ∃ L' X av', cd.St a.2 L' ∧ post = L' ++ (⟨b, true, .cells (A ++ (insC a.1 av' ++ B)).toArray el (0, 0)⟩ :: X) ∧ SlS S w0 intsV X a.1.args x.args av' av) := by
 refine AA fun w hi => ?_
 simp only [List.append_assoc, List.cons_append, List.nil_append] at hi
 obtain ⟨⟨rw_, fz_, hbt⟩, hmp, hmq⟩ := hT
 refine Ai Tryz.func96 rfl rfl (hi) ?_
 repeat' (first | (refine Ah rfl ?_) | (refine Ak rfl ?_) | (refine Al ?_) | (refine Bl Tryz.func96 rfl (fun w_ hi_ => ?_)) | ((refine Ab 0 ?_; try (refine Zv (AV U117 rfl inf117 rfl Y0 rfl) ?_; try (refine Zm rfl (Zv (Bm (vs := [(0, pv b A.length)]) (cs := #[pv b A.length]) pl162 inf162 rfl rfl rfl) (Zv (C5 U162 rfl rfl) ?_)); try ((refine wo_callP Y7 Y6 (CallR.val rfl en97) rfl rfl (itemI_c cd hE hs hA hm hop0 hop1 hmp hf) (fun e => AN Tryz.func96 e Y4) ?_; rintro ⟨x', s'⟩ e1 v post ⟨rfl, L', X, av', h1, rfl, h2⟩) <;> try ((refine Aa [0, 1] ?_))))))))
 exact ⟨_, Bi e1 ⟨rfl, L', X, av', h1, rfl, h2⟩, hi_⟩
def insP (p : InsM × Value) : List Value := insC p.1 p.2
omit hE hs in
theorem insP_len (p : InsM × Value) : (insP p).length = 8 := rfl
def InsT (F : List Ent) (hv : Value) (d r : List InsM) (s : σ) (L : List Ent) : Prop :=
 ∃ Ls X, cd.St s Ls ∧ ((d = [] ∧ r = [] ∧ L = Ls ∧ X = [] ∧ ∃ a cap, hv = .slice a 0 cap ∧ 0 ≤ cap) ∨
  ∃ bb cap rst dp rp, L = Ls ++ (⟨bb, true, .cells (rowV insP (dp ++ rp) ++ rst).toArray 73 (0, 0)⟩ :: X) ∧ hv = .slice (some ⟨bb, 0, none⟩) (d.length + r.length) cap ∧ d.length + r.length ≤ cap ∧ dp.map Prod.fst = d ∧ rp.map Prod.fst = r ∧
   (∀ p ∈ dp, ArgsK S w0 (X ++ F) p.1.args p.2) ∧ ∀ p ∈ rp, ArgsK S w0 F p.1.args p.2 ∧ (0 ≤ p.1.op ∧ p.1.op ≤ 255) ∧ (cd.Keep ∨ p.1.args = []))
def InsLK (S : Nat → Prop) (w0 : World) (G : List Ent) (d : List InsM) (hv : Value) : Prop := ∃ ps : List (InsM × Value), ps.map Prod.fst = d ∧ SlK S w0 G (rowV insP ps) d.length hv ∧ ∀ p ∈ ps, ArgsK S w0 G p.1.args p.2
omit hE hs in
theorem InsLK.up {G G' : List Ent} {d : List InsM} {hv : Value} (h : InsLK S w0 G d hv) (hu : ∀ e ∈ G, e ∈ G') : InsLK S w0 G' d hv := by
 obtain ⟨ps, h1, h2, h3⟩ := h
 exact ⟨ps, h1, h2.up hu, fun p hp => (h3 p hp).up hu⟩
omit hE hs in
theorem InsT.done {hv : Value} {d : List InsM} (h : InsT cd F hv d [] s L) : ∃ Ls X, cd.St s Ls ∧ L = Ls ++ X ∧ InsLK S w0 (X ++ F) d hv := by
 obtain ⟨Ls, X, hs, h⟩ := h
 rcases h with ⟨rfl, _, rfl, rfl, a, cap, rfl, hc⟩ | ⟨bb, cap, rst, dp, rp, rfl, rfl, hcap, hd, hr, h1, h2⟩
 · exact ⟨L, [], hs, by simp, [], rfl, ⟨a, cap, rfl, hc, .inl rfl⟩, fun p hp => by cases hp⟩
 · obtain rfl : rp = [] := by simpa using hr
   refine ⟨Ls, _, hs, rfl, dp, hd, ?_, fun p hp => (h1 p hp).cons⟩
   simp only [List.append_nil, List.length_nil, Nat.add_zero]
   exact SlK.own hcap
omit hE hs in
theorem InsT.ata {hv : Value} {d : List InsM} {x : InsM} {r : List InsM} (h : InsT cd F hv d (x :: r) s L) : ∃ bb off cp, hv = .slice (some ⟨bb, off, none⟩) (d.length + (r.length + 1)) cp := by
 obtain ⟨Ls, X, hs, h⟩ := h
 rcases h with ⟨_, h, _⟩ | ⟨bb, cap, rst, dp, rp, rfl, rfl, _⟩
 · cases h
 · exact ⟨bb, 0, cap, rfl⟩
omit hE hs in
theorem rowV_rep {α : Type} (f : α → List Value) (z : α) : ∀ n : Nat, rowV (fun _ : Unit => f z) (List.replicate n ()) = rowV f (List.replicate n z)
 | 0 => rfl
 | n + 1 => by have := rowV_rep f z n; simp only [List.replicate_succ, rowV, List.flatMap_cons] at this ⊢; rw [this]
omit hE hs in
theorem InsT.up {G G' : List Ent} {hv : Value} {d r : List InsM} (h : InsT cd G hv d r s L) (hu : ∀ e ∈ G, e ∈ G') : InsT cd G' hv d r s L := by
 obtain ⟨Ls, X, hs, h⟩ := h
 refine ⟨Ls, X, hs, h.imp id ?_⟩
 rintro ⟨bb, cap, rst, dp, rp, h1, h2, h3, h4, h5, h6, h7⟩
 exact ⟨bb, cap, rst, dp, rp, h1, h2, h3, h4, h5, fun p hp => (h6 p hp).up fun e h => by
  rcases List.mem_append.1 h with h | h
  · exact List.mem_append_left _ h
  · exact List.mem_append_right _ (hu e h), fun p hp => ⟨(h7 p hp).1.up hu, (h7 p hp).2⟩⟩
theorem inss_c {b o bt mp mq cap0 : Nat} {a0 : Option Addr} {c : Array Value} {el : TypeId} {l : List InsM} {Lx G : List Ent} (hG : ∀ e ∈ G, e ∈ F) (hT : TabK cd F bt mp mq) (hc : c[o]? = some (.slice a0 l.length cap0)) (h0 : ∀ s' L', cd.St s' L' → InsT cd G (.slice a0 l.length cap0) [] l s' (L' ++ Lx)) (hm : cd.Keep ∨ l = [] ∧ Lx = []) (hsm : cd.Small) (hl : l.length ≤ 65535) (hf : lst cd.κ 1 ins0 (codeIns cd.κ) l s ≠ .full) :
 SLF Tryz.prog S w0 F 95 [wkV cd, pv b o, .int .i64 1, .func (.func 96) #[] #[pv bt 0]] (L ++ (Lx ++ [⟨b, true, .cells c el (0, 0)⟩])) (MoO (lst cd.κ 1 ins0 (codeIns cd.κ) l s) fun q v post => v = unitV ∧ ∃ hv Ls X, cd.St q.2 Ls ∧ post = (Ls ++ X) ++ [⟨b, true, .cells (c.setIfInBounds o hv) el (0, 0)⟩] ∧ InsLK S w0 (X ++ G) q.1 hv) := by
 have := list_ins_c cd (F := F) hE hs (b := b) (el := el) (sz := 1) hc l rfl ins0 (codeIns cd.κ) (.inl rfl) (.func (.func 96) #[] #[pv bt 0]) 96 (fun p => [p, pv bt 0]) (fun p => .fn _ _ _ _ _ rfl) en96 (InsT cd G) Lx
  (hm.imp (fun h n' s' e => h.num _ _ _ _ _ e) id)
  (fun s' L' e h => h0 s' L' h)
  (fun n s' L' bb e hn h => ⟨L', [], h, .inr ⟨bb, n, [], [], List.replicate n (ins0, .slice none 0 0), by
   have := rowV_rep insP (ins0, .slice none 0 0) n
   simp only [List.nil_append, List.append_nil]
   rw [← this]; rfl, by simp, by simp, rfl, by simp, fun p hp => (List.not_mem_nil hp).elim, fun p hp => by
   obtain ⟨_, rfl⟩ := List.mem_replicate.1 hp
   exact ⟨⟨none, 0, rfl, Nat.le_refl _, .inl rfl⟩, ⟨by decide, by decide⟩, .inr rfl⟩⟩⟩)
  (fun n' s' e => hsm _ _ _ _ _ (.inl rfl) hl e) Y9
  (fun hv d x r s L h => h.ata cd)
  (fun F2 hF2 bb off cp d x r s L h q hq hf => by
   obtain ⟨Ls, X, hLs, h⟩ := h
   rcases h with ⟨_, h, _⟩ | ⟨bb', cap, rst, dp, rp, rfl, he, hcap, hd, hr, h1, h2⟩
   · cases h
   simp only [Value.slice.injEq, Option.some.injEq, Addr.mk.injEq, and_true] at he
   obtain ⟨⟨rfl, rfl⟩, _, rfl⟩ := he
   obtain ⟨p, rp', rfl, rfl, hr'⟩ : ∃ p rp', rp = p :: rp' ∧ p.1 = x ∧ rp'.map Prod.fst = r := by
    match rp, hr with
    | p :: rp', hr => simp only [List.map_cons, List.cons.injEq] at hr; exact ⟨p, rp', rfl, hr.1, hr.2⟩
   obtain ⟨k1, ⟨k2, k3⟩, k4⟩ := h2 p (.head _)
   have hlen : (rowV insP dp).length = q := by rw [Ba insP insP_len, hq, ← hd]; simp
   have hrow : ∀ p2 : InsM × Value, rowV insP (dp ++ p2 :: rp') ++ rst = rowV insP dp ++ (insC p2.1 p2.2 ++ (rowV insP rp' ++ rst)) := fun p2 => by simp [rowV, insP]
   have hp := frameO (insf_c cd (F := X ++ F2) (A := rowV insP dp) (B := rowV insP rp' ++ rst) (b := bb) (el := 73) (cd.envA (cd.envU _ _ hF2 hE)) hLs (hT.up fun e h => List.mem_append_right _ (hF2 e h)) (k1.up fun e h => List.mem_append_right _ (hF2 e (hG e h))) k4 k2 k3 hf)
   rw [hlen, ← hrow, List.append_assoc] at hp
   refine hp.mono fun e post hq2 => BD hq2 id ?_
   rintro ⟨x', s'⟩ v post e ⟨p3, ⟨rfl, L', X', av', hL', rfl, hsl⟩, rfl⟩
   refine ⟨_, e, rfl, L', X' ++ X, hL', .inr ⟨bb, cp, rst, dp ++ [(x', av')], rp', ?_, by simp [Nat.add_assoc, Nat.add_comm 1], by simp at hcap ⊢; omega, by simp [hd], hr', ?_, fun p hp => h2 p (.tail _ hp)⟩⟩
   · rw [← hrow (x', av')]; simp
   · intro p2 hp2
     rcases List.mem_append.1 hp2 with h | h
     · exact (h1 p2 h).up fun e h => by rw [List.append_assoc]; exact List.mem_append_right _ h
     · obtain rfl : p2 = (x', av') := by simpa using h
       exact (hsl.kn k1).up fun e h => by
        rcases List.mem_append.1 h with h | h
        · exact List.mem_append_left _ (List.mem_append_left _ h)
        · exact List.mem_append_right _ h)
  hf
 refine this.mono fun e post h => BD h id ?_
 rintro ⟨l', s'⟩ v p e ⟨rfl, hv, Lr, hT, rfl⟩
 obtain ⟨Ls, X, h1, rfl, h2⟩ := hT.done cd
 exact ⟨_, e, rfl, hv, Ls, X, h1, rfl, h2⟩
end
end Go.Sl
namespace Go.Sl
open Go Go.RowKit Go.Shelf Go.Proofs
attribute [local irreducible] Calls
section
variable {C : Cx} {S : Nat → Prop} {w0 : World} {k : List Item} {D : List Deferred} {E : List (Nat × Value)} {H F1 F2 F3 L Lx : List Ent} {d : Option Tmp} {t : TypeId} {p : String} {af : Array Edge} {g : Option (Nat × Bool)} {ops : Array Oper} {rest : List Oper} {v : Value}
theorem wo_callX {α : Type} {r : Out α} {G : α → Value → List Ent → Prop} {c : Call} {f : FuncId} {vs : List Value} {b : Nat} {cs : Array Value} {el : TypeId} (tL : Take H L F1) (tX : Take F1 Lx F3) (tP : Take F3 [⟨b, true, .cells cs el (0, 0)⟩] F2) (hc : CallR C D E ⟨d, .call c, t, p, af, g⟩ f vs) (hg : guardOk E ops ⟨d, .call c, t, p, af, g⟩ = some true) (hd : dstOk d C.n = true)
 (h : SLF C.P S w0 F2 f vs (L ++ (Lx ++ [⟨b, true, .cells cs el (0, 0)⟩])) (MoO r G)) (hn : r = .bad → WP C S w0 badE D [] F2)
 (hk : ∀ a, r = .ok a → ∀ v post, G a v post → WO C S w0 ops rest k D (putE d v E) (post ++ F2)) : WO C S w0 ops (⟨d, .call c, t, p, af, g⟩ :: rest) k D E H := AS (tL.join (tX.join tP)) hc hg hd h hn hk
end
section
variable {S : Nat → Prop} {w0 : World} {σ : Type} (cd : Cod S w0 σ) {F : List Ent} {s : σ} {L : List Ent} (hE : cd.env F) (hs : cd.St s L)
include hE hs
theorem flow1_c {A B : List Value} {b bt mp mq cap0 : Nat} {a0 : Option Addr} {x : BlkM} {iv av wv : Value} {el : TypeId} {Lx G : List Ent} (hG : ∀ e ∈ G, e ∈ F) (hT : TabK cd F bt mp mq) (hiv : iv = .slice a0 x.ins.length cap0) (h0 : ∀ s' L', cd.St s' L' → InsT cd G iv [] x.ins s' (L' ++ Lx))
 (hA : ArgsK S w0 F x.en.args av) (hW : WhensK S w0 F x.en.ws wv) (hm : cd.Keep ∨ (x.ins = [] ∧ Lx = []) ∧ x.en.args = [] ∧ x.en.ws = []) (hsm : cd.Small) (hl : x.ins.length ≤ 65535) (hl1 : x.en.args.length ≤ 65535) (hl2 : x.en.ws.length ≤ 65535) (hkd0 : 0 ≤ x.en.kd) (hkd1 : x.en.kd ≤ 255) (hf : codeBlk cd.κ x s ≠ .full) :
 SLF Tryz.prog S w0 F 94 [pv b A.length, pv bt 0] (L ++ (Lx ++ [⟨b, true, .cells (A ++ ((iv :: endC x.en av wv) ++ B)).toArray el (0, 0)⟩])) (MoO (codeBlk cd.κ x s) fun a v post => v = unitV ∧ ∃ L' X iv' av' wv', cd.St a.2 L' ∧ post = L' ++ (⟨b, true, .cells (A ++ ((iv' :: endC a.1.en av' wv') ++ B)).toArray el (0, 0)⟩ :: X) ∧ InsLK S w0 (X ++ G) a.1.ins iv' ∧ SlS S w0 intsV X a.1.en.args x.en.args av' av ∧ SlS S w0 whensV X a.1.en.ws x.en.ws wv' wv) := by
 refine AA fun w hi => ?_
 simp only [List.append_assoc, List.cons_append, List.nil_append] at hi
 have hT' := hT
 obtain ⟨⟨rw_, fz_, hbt⟩, hmp, hmq⟩ := hT
 have c0 : ∀ iv : Value, ∀ y, (A ++ (iv :: (endC y av wv ++ B))).toArray[A.length + 0]? = some iv := fun iv y => by simp
 have st0 : ∀ iv iv' : Value, ∀ y, ((A ++ (iv :: (endC y av wv ++ B))).toArray).setIfInBounds (A.length + 0) iv' = (A ++ (iv' :: (endC y av wv ++ B))).toArray := fun iv iv' y => by simp
 have c1 : ∀ iv : Value, ∀ y, (A ++ (iv :: (endC y av wv ++ B))).toArray[A.length + 1 + 0]? = some (.int .u8 y.kd) := fun iv y => by simp [endC]
 have st9 : ∀ iv : Value, ∀ y v, ((A ++ (iv :: (endC y av wv ++ B))).toArray).setIfInBounds (A.length + 1 + 8) v = (A ++ (iv :: ((endC y av wv).set 8 v ++ B))).toArray := fun iv y v => by
  rw [List.setIfInBounds_toArray, List.set_append_right _ _ Y9, show A.length + 1 + 8 - A.length = 8 + 1 by omega, List.set_cons_succ, List.set_append_left _ _ (show 8 < 9 by decide)]
 have l9 : ∀ iv : Value, ∀ y, A.length + 1 + 8 < (A ++ (iv :: (endC y av wv ++ B))).toArray.size := fun iv y => by simp [endC]; omega
 have hre : ∀ (iv : Value) y av wv, (A ++ (iv :: (endC y av wv ++ B))) = (A ++ [iv]) ++ (endC y av wv ++ B) := fun iv y av wv => by simp
 have hln : ∀ iv : Value, (A ++ [iv]).length = A.length + 1 := fun iv => by simp
 have hitem := fun {F' : List Ent} {s' : σ} {L' : List Ent} (iv : Value) (hE' : cd.env F') (hs' : cd.St s' L') (hu : ∀ e ∈ F, e ∈ F') (hf' : codeEnd cd.κ (fixOt x.en) s' ≠ .full) => (by
  have fx : (fixOt x.en).args = x.en.args ∧ (fixOt x.en).ws = x.en.ws ∧ (fixOt x.en).kd = x.en.kd := by unfold fixOt; split <;> exact ⟨rfl, rfl, rfl⟩
  have := itemE_c cd (F := F') (A := A ++ [iv]) (B := B) (b := b) (mp := mp) (el := el) hE' hs' (x := fixOt x.en) (av := av) (wv := wv) (by rw [fx.1]; exact hA.up hu) (by rw [fx.2.1]; exact hW.up hu) (hm.imp id (fun h => by rw [fx.1, fx.2.1]; exact h.2)) hsm (by rw [fx.1]; exact hl1) (by rw [fx.2.1]; exact hl2) (by rw [fx.2.2]; exact hkd0) (by rw [fx.2.2]; exact hkd1) (hu _ hmq) hf'
  rw [← hre, hln] at this
  rw [fx.1, fx.2.1] at this
  exact this : SLF Tryz.prog S w0 F' 97 [tabV cd mp mq, .iface 166 (.agg #[pv b (A.length + 1)])] (L' ++ [⟨b, true, .cells (A ++ (iv :: (endC (fixOt x.en) av wv ++ B))).toArray el (0, 0)⟩]) (MoO (codeEnd cd.κ (fixOt x.en) s') fun a v post => v = unitV ∧ ∃ L' X av' wv', cd.St a.2 L' ∧ post = L' ++ (⟨b, true, .cells ((A ++ [iv]) ++ (endC a.1 av' wv' ++ B)).toArray el (0, 0)⟩ :: X) ∧ SlS S w0 intsV X a.1.args x.en.args av' av ∧ SlS S w0 whensV X a.1.ws x.en.ws wv' wv))
 by_cases hk0 : x.en.kd = 0
 · have hfx : fixOt x.en = { x.en with ot := -1 } := by simp only [fixOt, hk0, if_true]
   refine Ai Tryz.func94 rfl rfl (hi) ?_
   repeat' (first | (refine Ah rfl ?_) | (refine Ak rfl ?_) | (refine Al ?_) | (refine Am ?_) | (refine A1 rfl ?_) | (refine Bl Tryz.func94 rfl (fun w_ hi_ => ?_)) | ((refine Ab 0 ?_; try (refine Zf Cj rfl (Zf Bb rfl (Zv (Ac U111 rfl rfl Y0 Y5) ?_)); try ((refine wo_blk cd Y7 rfl rfl rfl rfl (by repeat (first | exact hE | apply cd.envC | apply cd.envA)) hs (Out.nf hf) (fun e => AN Tryz.func94 (by simp only [codeBlk, e, Out.bind]) Y4) (fun s1 e1 L1 hs1 => ?_); have hf2 := Out.nf_at hf e1; try dsimp only at hf2) <;> try ((refine Aa N31 ?_)))))) | ((refine Bd (id := 1) 6 rfl mixed Y1 ?_; try (refine Ax (Ad Cj rfl) rfl rfl ?_; try ((refine Ax (B1 (cs := #[.iface cd.it cd.iv]) U113 rfl B7 rfl Y0 rfl Y31 (fun j hj => by (obtain rfl : j = 0 := (by (have : j < 1 := hj); omega)); rfl)) rfl rfl ?_) <;> try (refine Ax (Aj rfl) rfl rfl (Ax (Ag rfl) rfl rfl (Ax (Ad fo70_0 rfl) rfl rfl (Ax (Bg rfl rfl) rfl rfl (Bc ?_)))); try ((refine wo_callX (L := L1) (Lx := Lx) Y7 Y7 Y6 (CallR.val rfl en95) rfl rfl (inss_c cd (l := x.ins) hE hs1 hG hT' (by rw [c0, hiv]) (by rw [← hiv]; exact h0) (hm.imp id (fun h => h.1)) hsm hl (Out.nf hf2)) (fun e => AN Tryz.func94 (by simp only [codeBlk, e1, e, Out.bind]) Y4) ?_; rintro ⟨ins', s2⟩ e2 v post ⟨rfl, iv', L2, X2, hs2, rfl, hk2⟩; have hf3 := Out.nf_at hf2 e2; try dsimp only at hf3; rw [st0]; simp only [List.append_assoc, List.cons_append, List.nil_append]; have c1' := c1 iv' x.en; have l9' := l9 iv' x.en) <;> try ((refine Aa N31 ?_)))))))) | ((refine Ab 2 ?_; try (refine Zm rfl (Zv (Ag rfl) (Zf fo70_1 rfl (Zf BS rfl (Zv (Ac U5 rfl rfl Y0 Y5) ?_)))); try (refine Zv (Aw rfl rfl Y2) ?_; try ((refine Aa N31 ?_)))))) | ((refine Ab 3 ?_; try (refine Zm rfl (Zv (Ag rfl) (Zf fo70_1 rfl (Zf fo68_8 rfl ?_))); try ((refine AJ rfl rfl rfl sz3 Y3 l9' (.inr (Nat.zero_le _)) rfl rfl ?_; rw [st9, show (endC x.en av wv).set 8 (Value.int .i64 (-1)) = endC (fixOt x.en) av wv by rw [hfx]; rfl]) <;> try ((refine Aa N31 ?_)))))) | ((refine Bd (id := 4) 6 rfl mixed Y1 ?_; try (refine Ax (AV U117 rfl inf117 rfl Y0 rfl) rfl rfl ?_; try (refine Ax (Aj rfl) rfl rfl (Ax (Ag rfl) rfl rfl (Ax (Ad fo70_1 rfl) rfl rfl (Ax (Bm (vs := [(0, pv b (A.length + 1))]) (cs := #[pv b (A.length + 1)]) pl166 inf166 rfl rfl rfl) rfl rfl (Ax (C5 U166 rfl rfl) rfl rfl (Bc ?_))))); try ((refine wo_callP (L := L2) Y7 Y6 (CallR.val rfl en97) rfl rfl (hitem iv' (by repeat (first | exact hE | apply cd.envC | apply cd.envA)) hs2 (fun e h => List.mem_append_right _ h) (Out.nf hf3)) (fun e => AN Tryz.func94 (by first | (simp only [codeBlk, Out.bind, e1, e2, e]; done) | (simp only [codeBlk, Out.bind, e1, e2, hfx, e]; done)) Y4) ?_; rintro ⟨en', s3⟩ e3 v post ⟨rfl, L3, X3, av', wv', hs3, rfl, k3, k4⟩) <;> try ((refine Aa N31 ?_))))))))
   refine ⟨_, Bi (by simp only [codeBlk, Out.bind, e1, e2, e3]; rfl) ⟨rfl, L3, X3 ++ X2, iv', av', wv', hs3, rfl, ?_, ?_, ?_⟩, ?_⟩
   · exact hk2.up fun e h => by simp only [List.mem_append] at h ⊢; rcases h with h | h <;> simp [h]
   · exact k3.up fun e h => List.mem_append_left _ h
   · exact k4.up fun e h => List.mem_append_left _ h
   · have := hi_
     simp only [List.append_assoc, List.cons_append, List.nil_append] at this ⊢
     exact this
 · have hfx : fixOt x.en = x.en := by simp only [fixOt, hk0, if_false]
   rw [hfx] at hitem
   refine Ai Tryz.func94 rfl rfl (hi) ?_
   repeat' (first | (refine Ah rfl ?_) | (refine Ak rfl ?_) | (refine Al ?_) | (refine Am ?_) | (refine Az rfl ?_) | (refine AE ?_) | (refine Bl Tryz.func94 rfl (fun w_ hi_ => ?_)) | ((refine Ab 0 ?_; try (refine Zf Cj rfl (Zf Bb rfl (Zv (Ac U111 rfl rfl Y0 Y5) ?_)); try ((refine wo_blk cd Y7 rfl rfl rfl rfl (by repeat (first | exact hE | apply cd.envC | apply cd.envA)) hs (Out.nf hf) (fun e => AN Tryz.func94 (by simp only [codeBlk, e, Out.bind]) Y4) (fun s1 e1 L1 hs1 => ?_); have hf2 := Out.nf_at hf e1; try dsimp only at hf2) <;> try ((refine Aa N31 ?_)))))) | ((refine Bd (id := 1) 6 rfl mixed Y1 ?_; try (refine Ax (Ad Cj rfl) rfl rfl ?_; try ((refine Ax (B1 (cs := #[.iface cd.it cd.iv]) U113 rfl B7 rfl Y0 rfl Y31 (fun j hj => by (obtain rfl : j = 0 := (by (have : j < 1 := hj); omega)); rfl)) rfl rfl ?_) <;> try (refine Ax (Aj rfl) rfl rfl (Ax (Ag rfl) rfl rfl (Ax (Ad fo70_0 rfl) rfl rfl (Ax (Bg rfl rfl) rfl rfl (Bc ?_)))); try ((refine wo_callX (L := L1) (Lx := Lx) Y7 Y7 Y6 (CallR.val rfl en95) rfl rfl (inss_c cd (l := x.ins) hE hs1 hG hT' (by rw [c0, hiv]) (by rw [← hiv]; exact h0) (hm.imp id (fun h => h.1)) hsm hl (Out.nf hf2)) (fun e => AN Tryz.func94 (by simp only [codeBlk, e1, e, Out.bind]) Y4) ?_; rintro ⟨ins', s2⟩ e2 v post ⟨rfl, iv', L2, X2, hs2, rfl, hk2⟩; have hf3 := Out.nf_at hf2 e2; try dsimp only at hf3; rw [st0]; simp only [List.append_assoc, List.cons_append, List.nil_append]; have c1' := c1 iv' x.en; rw [hfx] at hf3) <;> try ((refine Aa N31 ?_)))))))) | ((refine Ab 2 ?_; try (refine Zm rfl (Zv (Ag rfl) (Zf fo70_1 rfl (Zf BS rfl (Zv (Ac U5 rfl rfl Y0 Y5) ?_)))); try (refine Zv (Aw rfl rfl Y2) ?_; try ((refine Aa N31 ?_)))))) | ((refine Bd (id := 4) 6 rfl mixed Y1 ?_; try (refine Ax (AV U117 rfl inf117 rfl Y0 rfl) rfl rfl ?_; try (refine Ax (Aj rfl) rfl rfl (Ax (Ag rfl) rfl rfl (Ax (Ad fo70_1 rfl) rfl rfl (Ax (Bm (vs := [(0, pv b (A.length + 1))]) (cs := #[pv b (A.length + 1)]) pl166 inf166 rfl rfl rfl) rfl rfl (Ax (C5 U166 rfl rfl) rfl rfl (Bc ?_))))); try ((refine wo_callP (L := L2) Y7 Y6 (CallR.val rfl en97) rfl rfl (hitem iv' (by repeat (first | exact hE | apply cd.envC | apply cd.envA)) hs2 (fun e h => List.mem_append_right _ h) (Out.nf hf3)) (fun e => AN Tryz.func94 (by first | (simp only [codeBlk, Out.bind, e1, e2, e]; done) | (simp only [codeBlk, Out.bind, e1, e2, hfx, e]; done)) Y4) ?_; rintro ⟨en', s3⟩ e3 v post ⟨rfl, L3, X3, av', wv', hs3, rfl, k3, k4⟩) <;> try ((refine Aa N31 ?_))))))))
   refine ⟨_, Bi (by simp only [codeBlk, Out.bind, e1, e2, hfx, e3]; rfl) ⟨rfl, L3, X3 ++ X2, iv', av', wv', hs3, rfl, ?_, ?_, ?_⟩, ?_⟩
   · exact hk2.up fun e h => by simp only [List.mem_append] at h ⊢; rcases h with h | h <;> simp [h]
   · exact k3.up fun e h => List.mem_append_left _ h
   · exact k4.up fun e h => List.mem_append_left _ h
   · have := hi_
     simp only [List.append_assoc, List.cons_append, List.nil_append] at this ⊢
     exact this
end
end Go.Sl
namespace Go.Sl
open Go Go.RowKit Go.Shelf Go.Proofs
attribute [local irreducible] Calls
def regV (l : List Int) : List Value := l.map fun n => .int .u8 n
def strsV (l : List Bs) : List Value := l.map str
def OwnT {S : Nat → Prop} {w0 : World} {σ : Type} (cd : Cod S w0 σ) {α : Type} (V : List α → List Value) (ok : α → Prop) (el : TypeId) (hv : Value) (d r : List α) (s : σ) (L : List Ent) : Prop :=
 ∃ Ls, cd.St s Ls ∧ ((d = [] ∧ r = [] ∧ L = Ls ∧ ∃ a cap, hv = .slice a 0 cap) ∨
  ∃ bb cap rst, L = Ls ++ [⟨bb, true, .cells (V (d ++ r) ++ rst).toArray el (0, 0)⟩] ∧ hv = .slice (some ⟨bb, 0, none⟩) (d.length + r.length) cap ∧ d.length + r.length ≤ cap ∧ ∀ x ∈ r, ok x)
section
variable {S : Nat → Prop} {w0 : World} {σ : Type} (cd : Cod S w0 σ) {F : List Ent} {s : σ} {L : List Ent}
theorem OwnT.done {α : Type} {V : List α → List Value} {ok : α → Prop} {el : TypeId} (hV0 : V [] = []) {hv : Value} {d : List α} (h : OwnT cd V ok el hv d [] s L) : ∃ Ls X, cd.St s Ls ∧ L = Ls ++ X ∧ SlK S w0 X (V d) d.length hv := by
 obtain ⟨Ls, hs, h⟩ := h
 rcases h with ⟨rfl, _, rfl, a, cap, rfl⟩ | ⟨bb, cap, rst, rfl, rfl, hcap, _⟩
 · exact ⟨L, [], hs, by simp, a, cap, rfl, Nat.zero_le _, .inl hV0⟩
 · refine ⟨Ls, _, hs, rfl, ?_⟩
   simp only [List.append_nil, List.length_nil, Nat.add_zero] at hcap ⊢
   exact SlK.own hcap
theorem OwnT.ata {α : Type} {V : List α → List Value} {ok : α → Prop} {el : TypeId} {hv : Value} {d : List α} {x : α} {r : List α} (h : OwnT cd V ok el hv d (x :: r) s L) : ∃ bb off cp, hv = .slice (some ⟨bb, off, none⟩) (d.length + (r.length + 1)) cp := by
 obtain ⟨Ls, hs, h⟩ := h
 rcases h with ⟨_, h, _⟩ | ⟨bb, cap, rst, rfl, rfl, _⟩
 · cases h
 · exact ⟨bb, 0, cap, rfl⟩
theorem map_set1 {α : Type} (f : α → Value) (d r : List α) (x x' : α) (rst : List Value) : ((d ++ x :: r).map f ++ rst).toArray.setIfInBounds d.length (f x') = ((d ++ [x'] ++ r).map f ++ rst).toArray := by
 rw [List.setIfInBounds_toArray, List.map_append, List.map_cons, List.append_assoc, List.set_append_right _ _ Y26]
 simp
theorem map_get1 {α : Type} (f : α → Value) (d r : List α) (x : α) (rst : List Value) : ((d ++ x :: r).map f ++ rst).toArray[d.length]? = some (f x) := by
 rw [List.getElem?_toArray, List.map_append, List.map_cons, List.append_assoc, List.getElem?_append_right Y26]
 simp
theorem rep_map {α : Type} (f : α → Value) (z : α) : ∀ n : Nat, rowV (fun _ : Unit => [f z]) (List.replicate n ()) = (List.replicate n z).map f
 | 0 => rfl
 | n + 1 => by have := rep_map f z n; simp only [List.replicate_succ, rowV, List.flatMap_cons, List.map_cons] at this ⊢; rw [this]; rfl
variable (hE : cd.env F) (hs : cd.St s L)
include hE hs
theorem regs_c {b o cap0 : Nat} {a0 : Option Addr} {c : Array Value} {el : TypeId} {l : List Int} {Lx : List Ent} (hc : c[o]? = some (.slice a0 l.length cap0)) (h0 : ∀ s' L', cd.St s' L' → OwnT cd regV (fun n => 0 ≤ n ∧ n ≤ 255) 5 (.slice a0 l.length cap0) [] l s' (L' ++ Lx)) (hm : cd.Keep ∨ l = [] ∧ Lx = []) (hsm : cd.Small) (hl : l.length ≤ 65535) (hf : lst cd.κ 2 0 (small cd.κ) l s ≠ .full) :
 SLF Tryz.prog S w0 F 91 [wkV cd, pv b o, .int .i64 2, .func (.func 90) #[wkV cd] #[]] (L ++ (Lx ++ [⟨b, true, .cells c el (0, 0)⟩])) (MoO (lst cd.κ 2 0 (small cd.κ) l s) fun q v post => v = unitV ∧ ∃ hv Ls X, cd.St q.2 Ls ∧ post = (Ls ++ X) ++ [⟨b, true, .cells (c.setIfInBounds o hv) el (0, 0)⟩] ∧ SlK S w0 X (regV q.1) q.1.length hv) := by
 have := list_byte_c cd (F := F) hE hs (b := b) (el := el) (sz := 2) hc l rfl 0 (small cd.κ) (.inr (.inl rfl)) (.func (.func 90) #[wkV cd] #[]) 90 (fun p => [wkV cd, p]) (fun p => .fn _ _ _ _ _ rfl) en90 (OwnT cd regV (fun n => 0 ≤ n ∧ n ≤ 255) 5) Lx
  (hm.imp (fun h n' s' e => h.num _ _ _ _ _ e) id)
  (fun s' L' e h => h0 s' L' h)
  (fun n s' L' bb e hn h => ⟨L', h, .inr ⟨bb, n, [], by rw [rep_map (fun n => Value.int .u8 n)]; simp [regV], by simp, by simp, fun x hx => by obtain ⟨_, rfl⟩ := List.mem_replicate.1 hx; exact ⟨by decide, by decide⟩⟩⟩)
  (fun n' s' e => hsm _ _ _ _ _ (.inr rfl) hl e) Y9
  (fun hv d x r s L h => h.ata cd)
  (fun F2 hF2 bb off cp d x r s L h q hq hf => by
   obtain ⟨Ls, hLs, h⟩ := h
   rcases h with ⟨_, h, _⟩ | ⟨bb', cap, rst, rfl, he, hcap, h1⟩
   · cases h
   simp only [Value.slice.injEq, Option.some.injEq, Addr.mk.injEq, and_true] at he
   obtain ⟨⟨rfl, rfl⟩, _, rfl⟩ := he
   obtain rfl : q = d.length := by omega
   have hp := small_c cd (cd.envU _ _ hF2 hE) hLs (b := bb) (el := 5) (h1 x (.head _)).1 (h1 x (.head _)).2 (map_get1 (fun n => Value.int .u8 n) d r x rst) hf
   refine hp.mono fun e post hq2 => BD hq2 id ?_
   rintro ⟨n', s'⟩ v p e ⟨rfl, L', hL', rfl⟩
   refine ⟨_, e, rfl, L', hL', .inr ⟨bb, cp, rst, ?_, by simp [Nat.add_assoc, Nat.add_comm 1], by simp at hcap ⊢; omega, fun y hy => h1 y (.tail _ hy)⟩⟩
   rw [map_set1 (fun n => Value.int .u8 n) d r x n' rst]; rfl)
  hf
 refine this.mono fun e post h => BD h id ?_
 rintro ⟨l', s'⟩ v p e ⟨rfl, hv, Lr, hT, rfl⟩
 obtain ⟨Ls, X, h1, rfl, h2⟩ := hT.done cd rfl
 exact ⟨_, e, rfl, hv, Ls, X, h1, rfl, h2⟩
theorem raises_c {b o cap0 : Nat} {a0 : Option Addr} {c : Array Value} {el : TypeId} {l : List Bs} {Lx : List Ent} (hc : c[o]? = some (.slice a0 l.length cap0)) (h0 : ∀ s' L', cd.St s' L' → OwnT cd strsV (fun _ => True) 9 (.slice a0 l.length cap0) [] l s' (L' ++ Lx)) (hm : cd.Keep ∨ l = [] ∧ Lx = []) (hsm : cd.Small) (hl : l.length ≤ 65535) (hf : lst cd.κ 1 [] cd.κ.txt l s ≠ .full) :
 SLF Tryz.prog S w0 F 92 [wkV cd, pv b o, .int .i64 1, .func (.method "trestle/code.text") #[.iface cd.it cd.iv] #[]] (L ++ (Lx ++ [⟨b, true, .cells c el (0, 0)⟩])) (MoO (lst cd.κ 1 [] cd.κ.txt l s) fun q v post => v = unitV ∧ ∃ hv Ls X, cd.St q.2 Ls ∧ post = (Ls ++ X) ++ [⟨b, true, .cells (c.setIfInBounds o hv) el (0, 0)⟩] ∧ SlK S w0 X (strsV q.1) q.1.length hv) := by
 have := list_text_c cd (F := F) hE hs (b := b) (el := el) (sz := 1) hc l rfl [] cd.κ.txt (.inl rfl) (.func (.method "trestle/code.text") #[.iface cd.it cd.iv] #[]) cd.fT (fun p => [cd.iv, p]) (fun p => .met _ _ _ _ _ _ _ cd.mT rfl) cd.eT (OwnT cd strsV (fun _ => True) 9) Lx
  (hm.imp (fun h n' s' e => h.num _ _ _ _ _ e) id)
  (fun s' L' e h => h0 s' L' h)
  (fun n s' L' bb e hn h => ⟨L', h, .inr ⟨bb, n, [], by rw [rep_map str]; simp [strsV], by simp, by simp, fun x hx => trivial⟩⟩)
  (fun n' s' e => hsm _ _ _ _ _ (.inl rfl) hl e) Y9
  (fun hv d x r s L h => h.ata cd)
  (fun F2 hF2 bb off cp d x r s L h q hq hf => by
   obtain ⟨Ls, hLs, h⟩ := h
   rcases h with ⟨_, h, _⟩ | ⟨bb', cap, rst, rfl, he, hcap, h1⟩
   · cases h
   simp only [Value.slice.injEq, Option.some.injEq, Addr.mk.injEq, and_true] at he
   obtain ⟨⟨rfl, rfl⟩, _, rfl⟩ := he
   obtain rfl : q = d.length := by omega
   have hp := cd.txt F2 s Ls bb d.length x [⟨bb, true, .cells ((d ++ x :: r).map str ++ rst).toArray 9 (0, 0)⟩] (fun n' => [⟨bb, true, .cells (((d ++ x :: r).map str ++ rst).toArray.setIfInBounds d.length (str n')) 9 (0, 0)⟩]) (cd.envU _ _ hF2 hE) hLs hf (fun n' s' _ => .own _ _ _ (map_get1 str d r x rst))
   refine hp.mono fun e post hq2 => BD hq2 id ?_
   rintro ⟨n', s'⟩ v p e ⟨rfl, L', hL', rfl⟩
   refine ⟨_, e, rfl, L', hL', .inr ⟨bb, cp, rst, ?_, by simp [Nat.add_assoc, Nat.add_comm 1], by simp at hcap ⊢; omega, fun y hy => trivial⟩⟩
   simp only
   rw [map_set1 str d r x n' rst]; rfl)
  hf
 refine this.mono fun e post h => BD h id ?_
 rintro ⟨l', s'⟩ v p e ⟨rfl, hv, Lr, hT, rfl⟩
 obtain ⟨Ls, X, h1, rfl, h2⟩ := hT.done cd rfl
 exact ⟨_, e, rfl, hv, Ls, X, h1, rfl, h2⟩
end
structure PB where
 blk : BlkM
 iv : Value
 av : Value
 wv : Value
 row : List Ent
def pbC (p : PB) : List Value := p.iv :: endC p.blk.en p.av p.wv
theorem BP (p : PB) : (pbC p).length = 10 := rfl
section
variable {S : Nat → Prop} {w0 : World} {σ : Type} (cd : Cod S w0 σ) {F : List Ent} {s : σ} {L : List Ent}
structure PBok (G : List Ent) (p : PB) : Prop where
 iv : ∃ a cap, p.iv = .slice a p.blk.ins.length cap
 ins : ∀ s' L', cd.St s' L' → InsT cd G p.iv [] p.blk.ins s' (L' ++ p.row)
 args : ArgsK S w0 G p.blk.en.args p.av
 whens : WhensK S w0 G p.blk.en.ws p.wv
 mode : cd.Keep ∨ (p.blk.ins = [] ∧ p.row = []) ∧ p.blk.en.args = [] ∧ p.blk.en.ws = []
 len : p.blk.ins.length ≤ 65535 ∧ p.blk.en.args.length ≤ 65535 ∧ p.blk.en.ws.length ≤ 65535
 kd : 0 ≤ p.blk.en.kd ∧ p.blk.en.kd ≤ 255
structure PBkn (S : Nat → Prop) (w0 : World) (G : List Ent) (p : PB) : Prop where
 ins : InsLK S w0 G p.blk.ins p.iv
 args : ArgsK S w0 G p.blk.en.args p.av
 whens : WhensK S w0 G p.blk.en.ws p.wv
theorem PBkn.up {G G' : List Ent} {p : PB} (h : PBkn S w0 G p) (hu : ∀ e ∈ G, e ∈ G') : PBkn S w0 G' p := ⟨h.ins.up hu, h.args.up hu, h.whens.up hu⟩
def BlksLK (S : Nat → Prop) (w0 : World) (G : List Ent) (l : List BlkM) (hv : Value) : Prop := ∃ ps : List PB, ps.map PB.blk = l ∧ SlK S w0 G (rowV pbC ps) l.length hv ∧ ∀ p ∈ ps, PBkn S w0 G p
theorem BlksLK.up {G G' : List Ent} {l : List BlkM} {hv : Value} (h : BlksLK S w0 G l hv) (hu : ∀ e ∈ G, e ∈ G') : BlksLK S w0 G' l hv := by
 obtain ⟨ps, h1, h2, h3⟩ := h
 exact ⟨ps, h1, h2.up hu, fun p hp => (h3 p hp).up hu⟩
def BlkT (G : List Ent) (hv : Value) (d r : List BlkM) (s : σ) (L : List Ent) : Prop :=
 ∃ Ls X, cd.St s Ls ∧ ((d = [] ∧ r = [] ∧ L = Ls ∧ X = [] ∧ ∃ a cap, hv = .slice a 0 cap) ∨
  ∃ bb cap rst, ∃ dp rp : List PB, L = Ls ++ (⟨bb, true, .cells (rowV pbC (dp ++ rp) ++ rst).toArray 70 (0, 0)⟩ :: (X ++ rp.flatMap PB.row)) ∧ hv = .slice (some ⟨bb, 0, none⟩) (d.length + r.length) cap ∧ d.length + r.length ≤ cap ∧ dp.map PB.blk = d ∧ rp.map PB.blk = r ∧
   (∀ p ∈ dp, PBkn S w0 (X ++ G) p) ∧ ∀ p ∈ rp, PBok cd G p)
theorem BlkT.done {hv : Value} {d : List BlkM} (h : BlkT cd F hv d [] s L) : ∃ Ls X, cd.St s Ls ∧ L = Ls ++ X ∧ BlksLK S w0 (X ++ F) d hv := by
 obtain ⟨Ls, X, hs, h⟩ := h
 rcases h with ⟨rfl, _, rfl, rfl, a, cap, rfl⟩ | ⟨bb, cap, rst, dp, rp, rfl, rfl, hcap, hd, hr, h1, h2⟩
 · exact ⟨L, [], hs, by simp, [], rfl, ⟨a, cap, rfl, Nat.zero_le _, .inl rfl⟩, fun p hp => (List.not_mem_nil hp).elim⟩
 · obtain rfl : rp = [] := by simpa using hr
   refine ⟨Ls, _, hs, rfl, dp, hd, ?_, fun p hp => (h1 p hp).up fun e h => ?_⟩
   · simp only [List.append_nil, List.length_nil, Nat.add_zero] at hcap ⊢
     exact SlK.own hcap
   · simp only [List.flatMap_nil, List.append_nil]
     exact .tail _ h
theorem BlkT.ata {hv : Value} {d : List BlkM} {x : BlkM} {r : List BlkM} (h : BlkT cd F hv d (x :: r) s L) : ∃ bb off cp, hv = .slice (some ⟨bb, off, none⟩) (d.length + (r.length + 1)) cp := by
 obtain ⟨Ls, X, hs, h⟩ := h
 rcases h with ⟨_, h, _⟩ | ⟨bb, cap, rst, dp, rp, rfl, rfl, _⟩
 · cases h
 · exact ⟨bb, 0, cap, rfl⟩
theorem slf_perm {P : Program} {f : FuncId} {vs : List Value} {pre pre' : List Ent} {Q : Ending → List Ent → Prop} (h : SLF P S w0 F f vs pre Q) (hp : pre.Perm pre') : SLF P S w0 F f vs pre' Q := by
 unfold SLF at *
 exact fun w hi => h w (hi.perm (hp.symm.append_right F))
variable (hE : cd.env F) (hs : cd.St s L)
include hE hs
theorem blks_c {b o bt mp mq cap0 : Nat} {a0 : Option Addr} {c : Array Value} {el : TypeId} {l : List BlkM} {Lx G : List Ent} (hG : ∀ e ∈ G, e ∈ F) (hT : TabK cd F bt mp mq) (hc : c[o]? = some (.slice a0 l.length cap0)) (h0 : ∀ s' L', cd.St s' L' → BlkT cd G (.slice a0 l.length cap0) [] l s' (L' ++ Lx)) (hm : cd.Keep ∨ l = [] ∧ Lx = []) (hsm : cd.Small) (hl : l.length ≤ 65535) (hf : lst cd.κ 2 blk0 (codeBlk cd.κ) l s ≠ .full) :
 SLF Tryz.prog S w0 F 93 [wkV cd, pv b o, .int .i64 2, .func (.func 94) #[] #[pv bt 0]] (L ++ (Lx ++ [⟨b, true, .cells c el (0, 0)⟩])) (MoO (lst cd.κ 2 blk0 (codeBlk cd.κ) l s) fun q v post => v = unitV ∧ ∃ hv Ls X, cd.St q.2 Ls ∧ post = (Ls ++ X) ++ [⟨b, true, .cells (c.setIfInBounds o hv) el (0, 0)⟩] ∧ BlksLK S w0 (X ++ G) q.1 hv) := by
 have := list_blk_c cd (F := F) hE hs (b := b) (el := el) (sz := 2) hc l rfl blk0 (codeBlk cd.κ) (.inr (.inl rfl)) (.func (.func 94) #[] #[pv bt 0]) 94 (fun p => [p, pv bt 0]) (fun p => .fn _ _ _ _ _ rfl) en94 (BlkT cd G) Lx
  (hm.imp (fun h n' s' e => h.num _ _ _ _ _ e) id)
  (fun s' L' e h => h0 s' L' h)
  (fun n s' L' bb e hn h => ⟨L', [], h, .inr ⟨bb, n, [], [], List.replicate n ⟨blk0, .slice none 0 0, .slice none 0 0, .slice none 0 0, []⟩, by
   have := rowV_rep pbC ⟨blk0, .slice none 0 0, .slice none 0 0, .slice none 0 0, []⟩ n
   have h2 : ∀ n : Nat, (List.replicate n (⟨blk0, .slice none 0 0, .slice none 0 0, .slice none 0 0, []⟩ : PB)).flatMap PB.row = [] := fun n => by
    rw [List.flatMap_eq_nil_iff]; intro p hp; obtain ⟨_, rfl⟩ := List.mem_replicate.1 hp; rfl
   simp only [List.nil_append, List.append_nil, h2]
   rw [← this]; rfl, by simp, by simp, rfl, by simp, fun p hp => (List.not_mem_nil hp).elim, fun p hp => by
   obtain ⟨_, rfl⟩ := List.mem_replicate.1 hp
   exact ⟨⟨none, 0, rfl⟩, fun s' L' h => ⟨L', [], h, .inl ⟨rfl, rfl, by simp, rfl, none, 0, rfl, Nat.le_refl _⟩⟩, ⟨none, 0, rfl, Nat.le_refl _, .inl rfl⟩, ⟨none, 0, rfl, Nat.le_refl _, .inl rfl⟩, .inr ⟨⟨rfl, rfl⟩, rfl, rfl⟩, ⟨by decide, by decide, by decide⟩, ⟨by decide, by decide⟩⟩⟩⟩)
  (fun n' s' e => hsm _ _ _ _ _ (.inr rfl) hl e) Y9
  (fun hv d x r s L h => h.ata cd)
  (fun F2 hF2 bb off cp d x r s L h q hq hf => by
   obtain ⟨Ls, X, hLs, h⟩ := h
   rcases h with ⟨_, h, _⟩ | ⟨bb', cap, rst, dp, rp, rfl, he, hcap, hd, hr, h1, h2⟩
   · cases h
   simp only [Value.slice.injEq, Option.some.injEq, Addr.mk.injEq, and_true] at he
   obtain ⟨⟨rfl, rfl⟩, _, rfl⟩ := he
   obtain ⟨p, rp', rfl, rfl, hr'⟩ : ∃ p rp', rp = p :: rp' ∧ p.blk = x ∧ rp'.map PB.blk = r := by
    match rp, hr with
    | p :: rp', hr => simp only [List.map_cons, List.cons.injEq] at hr; exact ⟨p, rp', rfl, hr.1, hr.2⟩
   have ok := h2 p (.head _)
   obtain ⟨a1, cap1, hiv⟩ := ok.iv
   have hlen : (rowV pbC dp).length = q := by rw [Ba pbC BP, hq, ← hd]; simp
   have hrow : ∀ p2 : PB, rowV pbC (dp ++ p2 :: rp') ++ rst = rowV pbC dp ++ ((p2.iv :: endC p2.blk.en p2.av p2.wv) ++ (rowV pbC rp' ++ rst)) := fun p2 => by simp [rowV, pbC]
   have hp := frameO (A := X ++ rp'.flatMap PB.row) (flow1_c cd (F := (X ++ rp'.flatMap PB.row) ++ F2) (G := G) (A := rowV pbC dp) (B := rowV pbC rp' ++ rst) (b := bb) (el := 70) (Lx := p.row) (cd.envA (cd.envU _ _ hF2 hE)) hLs (fun e h => List.mem_append_right _ (hF2 e (hG e h))) (hT.up fun e h => List.mem_append_right _ (hF2 e h)) hiv ok.ins (ok.args.up fun e h => List.mem_append_right _ (hF2 e (hG e h))) (ok.whens.up fun e h => List.mem_append_right _ (hF2 e (hG e h))) ok.mode hsm ok.len.1 ok.len.2.1 ok.len.2.2 ok.kd.1 ok.kd.2 hf)
   rw [hlen, ← hrow] at hp
   have hp2 := slf_perm (pre' := Ls ++ (⟨bb, true, .cells (rowV pbC (dp ++ p :: rp') ++ rst).toArray 70 (0, 0)⟩ :: (X ++ (p :: rp').flatMap PB.row))) hp (by
    simp only [List.append_assoc, List.flatMap_cons, List.cons_append, List.nil_append]
    exact .append_left _ (List.perm_middle.trans (.cons _ (List.perm_append_comm_assoc _ _ _))))
   refine hp2.mono fun e post hq2 => BD hq2 id ?_
   rintro ⟨x', s'⟩ v post e ⟨p3, ⟨rfl, L', X', iv', av', wv', hL', rfl, k1, k2, k3⟩, rfl⟩
   refine ⟨_, e, rfl, L', X' ++ X, hL', .inr ⟨bb, cp, rst, dp ++ [⟨x', iv', av', wv', []⟩], rp', ?_, by simp [Nat.add_assoc, Nat.add_comm 1], by simp at hcap ⊢; omega, by simp [hd], hr', ?_, fun p hp => h2 p (.tail _ hp)⟩⟩
   · have := hrow ⟨x', iv', av', wv', []⟩
     simp only at this
     rw [← this]
     simp
   · intro p2 hp2
     rcases List.mem_append.1 hp2 with h | h
     · exact (h1 p2 h).up fun e h => by rw [List.append_assoc]; exact List.mem_append_right _ h
     · obtain rfl : p2 = ⟨x', iv', av', wv', []⟩ := by simpa using h
       have hu : ∀ e ∈ X' ++ G, e ∈ (X' ++ X) ++ G := fun e h => by
        rcases List.mem_append.1 h with h | h
        · exact List.mem_append_left _ (List.mem_append_left _ h)
        · exact List.mem_append_right _ h
       exact ⟨k1.up hu, (k2.kn ok.args).up hu, (k3.kn ok.whens).up hu⟩)
  hf
 refine this.mono fun e post h => BD h id ?_
 rintro ⟨l', s'⟩ v p e ⟨rfl, hv, Lr, hT, rfl⟩
 obtain ⟨Ls, X, h1, rfl, h2⟩ := hT.done cd
 exact ⟨_, e, rfl, hv, Ls, X, h1, rfl, h2⟩
end
end Go.Sl
namespace Go.Sl
open Go Go.RowKit Go.Shelf Go.Proofs
attribute [local irreducible] Calls
def flowC (x : FlowM) (rv sv bv : Value) : Array Value := #[str x.nm, .int .i64 x.ac, .int .u8 x.res, rv, sv, bv]
section
variable {S : Nat → Prop} {w0 : World} {σ : Type} (cd : Cod S w0 σ) {F : List Ent} {s : σ} {L : List Ent} (hE : cd.env F) (hs : cd.St s L)
include hE hs
theorem flow_c {b mp mq cr ct cb : Nat} {ar at_ ab : Option Addr} {x : FlowM} {rv sv bv : Value} {el : TypeId} {Lr Lt Lb G : List Ent} (hG : ∀ e ∈ G, e ∈ F) (hmp : (⟨mp, true, mapBO partTab⟩ : Ent) ∈ F) (hmq : (⟨mq, true, mapBO pieceTab⟩ : Ent) ∈ F)
 (hrv : rv = .slice ar x.regs.length cr) (hr : ∀ s' L', cd.St s' L' → OwnT cd regV (fun n => 0 ≤ n ∧ n ≤ 255) 5 rv [] x.regs s' (L' ++ Lr))
 (hsv : sv = .slice at_ x.raises.length ct) (ht : ∀ s' L', cd.St s' L' → OwnT cd strsV (fun _ => True) 9 sv [] x.raises s' (L' ++ Lt))
 (hbv : bv = .slice ab x.blks.length cb) (hb : ∀ s' L', cd.St s' L' → BlkT cd G bv [] x.blks s' (L' ++ Lb))
 (hm : cd.Keep ∨ (x.regs = [] ∧ Lr = []) ∧ (x.raises = [] ∧ Lt = []) ∧ (x.blks = [] ∧ Lb = [])) (hsm : cd.Small) (hl : x.regs.length ≤ 65535 ∧ x.raises.length ≤ 65535 ∧ x.blks.length ≤ 65535) (hres : 0 ≤ x.res ∧ x.res ≤ 255) (hf : codeFlow cd.κ x s ≠ .full) :
 SLF Tryz.prog S w0 F 63 [tabV cd mp mq, pv b 0] (L ++ (Lr ++ (Lt ++ (Lb ++ [⟨b, true, .cells (flowC x rv sv bv) el (0, 0)⟩])))) (MoO (codeFlow cd.κ x s) fun a v post => v = unitV ∧ ∃ L' X rv' sv' bv', cd.St a.2 L' ∧ post = L' ++ (⟨b, true, .cells (flowC a.1 rv' sv' bv') el (0, 0)⟩ :: X) ∧ SlK S w0 X (regV a.1.regs) a.1.regs.length rv' ∧ SlK S w0 X (strsV a.1.raises) a.1.raises.length sv' ∧ BlksLK S w0 (X ++ G) a.1.blks bv') := by
 refine AA fun w hi => ?_
 simp only [List.append_assoc, List.cons_append, List.nil_append] at hi
 have f1 : ∀ (x : FlowM) rv sv bv n, (flowC x rv sv bv).setIfInBounds (0 + 1) (.int .i64 n) = flowC { x with ac := n } rv sv bv := fun _ _ _ _ _ => rfl
 have f2 : ∀ (x : FlowM) rv sv bv n, (flowC x rv sv bv).setIfInBounds (0 + 2) (.int .u8 n) = flowC { x with res := n } rv sv bv := fun _ _ _ _ _ => rfl
 have f3 : ∀ (x : FlowM) rv sv bv n, (flowC x rv sv bv).setIfInBounds (0 + 3) n = flowC x n sv bv := fun _ _ _ _ _ => rfl
 have f4 : ∀ (x : FlowM) rv sv bv n, (flowC x rv sv bv).setIfInBounds (0 + 4) n = flowC x rv n bv := fun _ _ _ _ _ => rfl
 have f5 : ∀ (x : FlowM) rv sv bv n, (flowC x rv sv bv).setIfInBounds (0 + 5) n = flowC x rv sv n := fun _ _ _ _ _ => rfl
 have g3 : ∀ (x : FlowM) rv sv bv, (flowC x rv sv bv)[0 + 3]? = some rv := fun _ _ _ _ => rfl
 have g4 : ∀ (x : FlowM) rv sv bv, (flowC x rv sv bv)[0 + 4]? = some sv := fun _ _ _ _ => rfl
 have g5 : ∀ (x : FlowM) rv sv bv, (flowC x rv sv bv)[0 + 5]? = some bv := fun _ _ _ _ => rfl
 subst hrv hsv hbv
 refine Ai Tryz.func63 rfl rfl (hi) ?_
 repeat' (first | (refine Ah rfl ?_) | (refine Ak rfl ?_) | (refine Al ?_) | (refine Am ?_) | (refine Bl Tryz.func63 rfl (fun w_ hi_ => ?_)) | ((refine Ab 0 ?_; try (refine AF rfl rfl rfl rfl (fun bt hbt => ?_); try ((refine Aa N3 ?_))))) | ((refine Bd (id := 1) 8 rfl mixed Y1 ?_; try (refine Ax (Ad Cj rfl) rfl rfl (Ax (Ad Bb rfl) rfl rfl (Ax (Ac U111 rfl rfl Y0 Y5) rfl rfl ?_)); try (refine Ax (Aj rfl) rfl rfl (Ax (Ag rfl) rfl rfl (Ax (Ad fo26_1 rfl) rfl rfl (Ax (AW rfl) rfl rfl (Ax (Aj rfl) rfl rfl (Bc ?_))))); try ((refine BL cd (sz := 1) Y7 Y6 rfl rfl rfl rfl rfl rfl (by repeat (first | exact hE | apply cd.envC | apply cd.envA)) hs Y9 (Out.nf hf) (fun e => AN Tryz.func63 (by simp only [codeFlow, e, Out.bind]) Y4) (fun ac' s1 e1 L1 hs1 => ?_); have hf2 := Out.nf_at hf e1; try dsimp only at hf2; rw [f1]) <;> try ((refine Aa N3 ?_))))))) | ((refine Bd (id := 2) 5 rfl mixed Y1 ?_; try (refine Ax (Ad Cj rfl) rfl rfl ?_; try ((refine Ax (B1 (cs := #[.iface cd.it cd.iv]) U113 rfl B7 rfl Y0 rfl Y31 (fun j hj => by (obtain rfl : j = 0 := (by (have : j < 1 := hj); omega)); rfl)) rfl rfl ?_) <;> try (refine Ax (Aj rfl) rfl rfl (Ax (Ag rfl) rfl rfl (Ax (Ad fo26_2 rfl) rfl rfl (Bc ?_))); try ((refine CA cd (L := L1) (o := 0 + 2) (gv := fun n => .int .u8 n) Y7 Y6 (CallR.val rfl en90) rfl rfl (small_c cd (by repeat (first | exact hE | apply cd.envC | apply cd.envA)) hs1 hres.1 hres.2 rfl (Out.nf hf2)) (fun e => AN Tryz.func63 (by simp only [codeFlow, e1, e, Out.bind]) Y4) (fun res' s2 e2 L2 hs2 => ?_); have hf3 := Out.nf_at hf2 e2; try dsimp only at hf3; rw [f2]) <;> try ((refine Aa N3 ?_)))))))) | ((refine Bd (id := 3) 8 rfl mixed Y1 ?_; try (refine Ax (Ad Cj rfl) rfl rfl ?_; try ((refine Ax (B1 (cs := #[.iface cd.it cd.iv]) U113 rfl B7 rfl Y0 rfl Y31 (fun j hj => by (obtain rfl : j = 0 := (by (have : j < 1 := hj); omega)); rfl)) rfl rfl ?_) <;> try (refine Ax (Aj rfl) rfl rfl (Ax (Ag rfl) rfl rfl (Ax (Ad Cc rfl) rfl rfl (Ax (Ad Cj rfl) rfl rfl ?_))); try ((refine Ax (B1 (cs := #[.iface cd.it cd.iv]) U113 rfl B7 rfl Y0 rfl Y31 (fun j hj => by (obtain rfl : j = 0 := (by (have : j < 1 := hj); omega)); rfl)) rfl rfl ?_) <;> try (refine Ax (Bg rfl rfl) rfl rfl (Bc ?_); try ((refine wo_callX (L := L2) (Lx := Lr) Y7 Y7 Y6 (CallR.val rfl en91) rfl rfl (regs_c cd (l := x.regs) (by repeat (first | exact hE | apply cd.envC | apply cd.envA)) hs2 (g3 _ _ _ _) hr (hm.imp id (fun h => h.1)) hsm hl.1 (Out.nf hf3)) (fun e => AN Tryz.func63 (by simp only [codeFlow, e1, e2, e, Out.bind]) Y4) ?_; rintro ⟨regs', s3⟩ e3 v post ⟨rfl, rv', L3, X1, hs3, rfl, k1⟩; have hf4 := Out.nf_at hf3 e3; try dsimp only at hf4; rw [f3]; simp only [List.append_assoc, List.cons_append, List.nil_append]) <;> try ((refine Aa N3 ?_)))))))))) | ((refine Bd (id := 4) 10 rfl mixed Y1 ?_; try (refine Ax (Ad Cj rfl) rfl rfl ?_; try ((refine Ax (B1 (cs := #[.iface cd.it cd.iv]) U113 rfl B7 rfl Y0 rfl Y31 (fun j hj => by (obtain rfl : j = 0 := (by (have : j < 1 := hj); omega)); rfl)) rfl rfl ?_) <;> try (refine Ax (Aj rfl) rfl rfl (Ax (Ag rfl) rfl rfl (Ax (Ad Co rfl) rfl rfl (Ax (Ad Cj rfl) rfl rfl (Ax (Ad Bb rfl) rfl rfl (Ax (Ac U111 rfl rfl Y0 Y5) rfl rfl ?_))))); try (refine Ax (AW rfl) rfl rfl (Ax (Bg rfl rfl) rfl rfl (Bc ?_)); try ((refine wo_callX (L := L3) (Lx := Lt) Y7 Y7 Y6 (CallR.val rfl en92) rfl rfl (raises_c cd (l := x.raises) (by repeat (first | exact hE | apply cd.envC | apply cd.envA)) hs3 (g4 _ _ _ _) ht (hm.imp id (fun h => h.2.1)) hsm hl.2.1 (Out.nf hf4)) (fun e => AN Tryz.func63 (by simp only [codeFlow, e1, e2, e3, e, Out.bind]) Y4) ?_; rintro ⟨raises', s4⟩ e4 v post ⟨rfl, sv', L4, X2, hs4, rfl, k2⟩; have hf5 := Out.nf_at hf4 e4; try dsimp only at hf5; rw [f4]; simp only [List.append_assoc, List.cons_append, List.nil_append]) <;> try ((refine Aa N3 ?_))))))))) | ((refine Bd (id := 5) 6 rfl mixed Y1 ?_; try (refine Ax (Ad Cj rfl) rfl rfl ?_; try ((refine Ax (B1 (cs := #[.iface cd.it cd.iv]) U113 rfl B7 rfl Y0 rfl Y31 (fun j hj => by (obtain rfl : j = 0 := (by (have : j < 1 := hj); omega)); rfl)) rfl rfl ?_) <;> try (refine Ax (Aj rfl) rfl rfl (Ax (Ag rfl) rfl rfl (Ax (Ad BJ rfl) rfl rfl (Ax (Bg rfl rfl) rfl rfl (Bc ?_)))); try ((refine wo_callX (L := L4) (Lx := Lb) Y7 Y7 Y6 (CallR.val rfl en93) rfl rfl (blks_c cd (l := x.blks) (mp := mp) (mq := mq) (by repeat (first | exact hE | apply cd.envC | apply cd.envA)) hs4 (fun e h => List.mem_append_right _ (List.mem_append_right _ (.tail _ (hG e h)))) ⟨⟨_, _, Y0⟩, Y0, Y0⟩ (g5 _ _ _ _) hb (hm.imp id (fun h => h.2.2)) hsm hl.2.2 (Out.nf hf5)) (fun e => AN Tryz.func63 (by simp only [codeFlow, e1, e2, e3, e4, e, Out.bind]) Y4) ?_; rintro ⟨blks', s5⟩ e5 v post ⟨rfl, bv', L5, X3, hs5, rfl, k3⟩; rw [f5]) <;> try ((refine Aa N3 ?_)))))))))
 refine ⟨_, Bi (by simp only [codeFlow, Out.bind, e1, e2, e3, e4, e5]; rfl) ⟨rfl, L5, X3 ++ (X2 ++ (X1 ++ [⟨bt, true, .cells (tabV cd mp mq).cells 117 (0, 0)⟩])), rv', sv', bv', hs5, rfl, ?_, ?_, ?_⟩, ?_⟩
 · exact k1.up fun e h => List.mem_append_right _ (List.mem_append_right _ (List.mem_append_left _ h))
 · exact k2.up fun e h => List.mem_append_right _ (List.mem_append_left _ h)
 · exact k3.up fun e h => by
    rcases List.mem_append.1 h with h | h
    · exact List.mem_append_left _ (List.mem_append_left _ h)
    · exact List.mem_append_right _ h
 · have := hi_
   simp only [List.append_assoc, List.cons_append, List.nil_append] at this ⊢
   exact this.perm (.append_left _ List.perm_middle)
end
end Go.Sl
namespace Go.Sl
open Go Go.RowKit Go.Shelf Go.Proofs
attribute [local irreducible] Calls
def beB (n : Int) (i : Nat) : Int := (n.fdiv (2 ^ (min (8 * i) 64))) % 256
def be (sz : Nat) (n : Int) : Bs := (List.range sz).map fun j => UInt8.ofNat (beB n (sz - 1 - j)).toNat
theorem Cp (sz : Nat) (n : Int) : (be sz n).length = sz := by simp [be]
theorem beB_range (n : Int) (i : Nat) : 0 ≤ beB n i ∧ beB n i < 256 := by unfold beB; omega
theorem be_val (n : Int) (i : Nat) : ((UInt8.ofNat (beB n i).toNat).toNat : Int) = beB n i := by
 have := beB_range n i
 rw [UInt8.toNat_ofNat']; omega
theorem be_take (sz : Nat) (n : Int) (k : Nat) (hk : k < sz) : (be sz n).take (k + 1) = (be sz n).take k ++ [UInt8.ofNat (beB n (sz - 1 - k)).toNat] := by
 rw [List.take_succ_eq_append_getElem (by simpa [Cp] using hk)]
 simp [be]
abbrev slV (b : Option Nat) (n cap : Nat) : Value := .slice (b.map fun b => ⟨b, 0, none⟩) n cap
structure RowB (b : Option Nat) (n cap sz : Nat) (xs rst : List Value) : Prop where
 hl : xs.length = n * sz
 hc : xs.length + rst.length = cap * sz
 hn : b = none → cap = 0
abbrev maxB : Nat := 1099511627776
section
variable {S : Nat → Prop} {w0 : World} {F : List Ent}
theorem add_c {wb c1 sz : Nat} {b1 : Option Nat} {bs : Bs} {r1 : List Value} {p2 p3 : Value} {n : Int} (hr : RowB b1 bs.length c1 1 (byv bs) r1) (hB : bs.length + sz ≤ maxB) (hsz : sz ≤ 4) :
 SLF Tryz.prog S w0 F 178 [pv wb 0, .int .i64 n, .int .i64 (sz : Int)] (⟨wb, true, .cells #[slV b1 bs.length c1, p2, p3] 83 (0, 0)⟩ :: rowE b1 (byv bs) r1 5) (fun e post => ∃ v, e = .returned v ∧ v = unitV ∧ ∃ b1' c1' r1', RowB b1' (bs ++ be sz n).length c1' 1 (byv (bs ++ be sz n)) r1' ∧ post = ⟨wb, true, .cells #[slV b1' (bs ++ be sz n).length c1', p2, p3] 83 (0, 0)⟩ :: rowE b1' (byv (bs ++ be sz n)) r1' 5) := by
 refine AA fun w hi => ?_
 simp only [List.append_assoc, List.cons_append, List.nil_append] at hi
 have hB' : bs.length + sz ≤ 1099511627776 := hB
 refine Ai Tryz.func178 rfl rfl (hi) ?_
 repeat' (first | (refine Ah rfl ?_) | (refine Ak rfl ?_) | (refine Al ?_) | (refine Am ?_) | (refine A5 ?_) | ((refine Ab 0 ?_; try (refine Zm rfl (Zv (Cf rfl rfl Y9 Y9) ?_); try (refine Za rfl (Aa N36 ?_))))))
 refine A0 (E' := (fun q : Int × Nat × Bs × Option Nat × Nat × List Value => [(0, pv wb 0), (1, .int .i64 n), (2, .int .i64 (sz : Int)), (6, .int .i64 q.1)]) ((sz : Int) - 1, 0, bs, b1, c1, r1)) Y14 ?_
 refine Bf (fun q : Int × Nat × Bs × Option Nat × Nat × List Value => q.2.1 ≤ sz ∧ q.1 = (sz : Int) - 1 - (q.2.1 : Int) ∧ q.2.2.1 = bs ++ (be sz n).take q.2.1 ∧ RowB q.2.2.2.1 q.2.2.1.length q.2.2.2.2.1 1 (byv q.2.2.1) q.2.2.2.2.2) (fun q => sz - q.2.1) (fun q : Int × Nat × Bs × Option Nat × Nat × List Value => [(0, pv wb 0), (1, .int .i64 n), (2, .int .i64 (sz : Int)), (6, .int .i64 q.1)]) (fun q => ⟨wb, true, .cells #[slV q.2.2.2.1 q.2.2.1.length q.2.2.2.2.1, p2, p3] 83 (0, 0)⟩ :: (rowE q.2.2.2.1 (byv q.2.2.1) q.2.2.2.2.2 5 ++ F)) ?_ ((sz : Int) - 1, 0, bs, b1, c1, r1) ⟨Nat.zero_le _, by simp, by simp, hr⟩
 rintro ⟨i, k, bs2, b2, c2, r2⟩ ⟨k1, k2, k3, k4⟩ ih
 dsimp only at k1 k2 k3 k4 ih ⊢
 by_cases hk : k < sz
 · have e1 := be_take sz n k hk
   have hv : IntKind.u8.wrap (n.fdiv (2 ^ (min (8 * i).toNat IntKind.i64.bits))) = (((UInt8.ofNat (beB n (sz - 1 - k)).toNat).toNat : Nat) : Int) := by
    rw [be_val, wrap_u8, beB, show (8 * i).toNat = 8 * (sz - 1 - k) by omega]; rfl
   have hlen : bs2.length = bs.length + k := by rw [k3]; simp [Cp]; omega
   generalize UInt8.ofNat (beB n (sz - 1 - k)).toNat = c at *
   repeat' (first | (refine Ah rfl ?_) | (refine Ak rfl ?_) | (refine Al ?_) | (refine Am ?_) | (refine A1 rfl ?_) | (refine A5 ?_) | (refine AH ?_) | (refine AE ?_) | ((refine Ab 1 ?_; try (refine Zm rfl (Zv (Bn rfl rfl Y2) ?_); try ((refine Aa N36 ?_))))) | ((refine Cs (m := 15) 3 rfl mixed rfl ?_; try (refine Zt 0 rfl (fun _ => Aj rfl) (Zt 1 rfl (fun _ => Aj rfl) (Zt 5 rfl (fun _ => Aj rfl) (Zt 6 rfl (fun _ => Aj rfl) (Zt 7 rfl (fun _ => ov_mul_i64 rfl rfl Y9 Y9) ?_)))); try (refine Zt 8 rfl (fun _ => ov_shr rfl rfl Y9 rfl) ?_; try (refine Zt 9 rfl (fun _ => CK U3 U5 rfl hv) ?_; try (refine A9 2 10 Y1 ?_ ?_ <;> (first | (show WI _ _ _ _ _ _ 2 _ _ _ _; try (refine An rfl (Ag rfl) rfl rfl rfl (Zt 3 rfl (fun _ => Ad CE rfl) ?_); try (refine A9 4 10 Y1 ?_ ?_ <;> (first | (show WI _ _ _ _ _ _ 4 _ _ _ _; try (refine An rfl (Ac U22 rfl rfl Y0 Y5) rfl rfl rfl ?_; try (refine Ae 10 Y1 ?_ <;> try ((refine wi_bs1 rfl U22 inf5 rfl rfl rfl rfl rfl rfl rfl (fun bb_ hb_ => ?_)) <;> try (refine Ae 11 Y1 ?_ <;> try ((refine Br (sz := 1) (base := b2) (xs := byv bs2) (rst := r2) rfl rfl rfl U22 U22 rfl inf5 rfl Y22 rfl rfl k4.hl k4.hc (BO (A := [_, _]) k4.hn) (.head _) (new := byv [c]) rfl Y26 (List.all_eq_true.1 rfl) (by show (2 * (_ + 1) + 192) * 1 ≤ _; omega) Y9 Y9 rfl rfl rfl (fun b3 c3 r3 hc_ hn_ => ?_)) <;> try (refine Ae 12 Y1 ?_ <;> try (refine An rfl (Ag rfl) rfl rfl rfl (Zt 13 rfl (fun _ => Ad CE rfl) (Ae 14 Y1 ?_)) <;> try (refine A3 rfl rfl rfl rfl Ce Y3 Y8 (.inr Y8) rfl rfl rfl ?_; try ((refine Ap N36 Y1 ?_))))))))))) | (show WI _ _ _ _ _ _ 10 _ _ _ _; try ((refine wi_bs1 rfl U22 inf5 rfl rfl rfl rfl rfl rfl rfl (fun bb_ hb_ => ?_)) <;> try (refine Ae 4 Y1 ?_ <;> try (refine An rfl (Ac U22 rfl rfl Y0 Y5) rfl rfl rfl ?_; try (refine Ae 11 Y1 ?_ <;> try ((refine Br (sz := 1) (base := b2) (xs := byv bs2) (rst := r2) rfl rfl rfl U22 U22 rfl inf5 rfl Y22 rfl rfl k4.hl k4.hc (BO (A := [_, _]) k4.hn) (.head _) (new := byv [c]) rfl Y26 (List.all_eq_true.1 rfl) (by show (2 * (_ + 1) + 192) * 1 ≤ _; omega) Y9 Y9 rfl rfl rfl (fun b3 c3 r3 hc_ hn_ => ?_)) <;> try (refine Ae 12 Y1 ?_ <;> try (refine An rfl (Ag rfl) rfl rfl rfl (Zt 13 rfl (fun _ => Ad CE rfl) (Ae 14 Y1 ?_)) <;> try (refine A3 rfl rfl rfl rfl Ce Y3 Y8 (.inr Y8) rfl rfl rfl ?_; try ((refine Ap N36 Y1 ?_))))))))))))))) | (show WI _ _ _ _ _ _ 10 _ _ _ _; try ((refine wi_bs1 rfl U22 inf5 rfl rfl rfl rfl rfl rfl rfl (fun bb_ hb_ => ?_)) <;> try (refine Ae 2 Y1 ?_ <;> try (refine An rfl (Ag rfl) rfl rfl rfl (Zt 3 rfl (fun _ => Ad CE rfl) (Ae 4 Y1 ?_)) <;> try (refine An rfl (Ac U22 rfl rfl Y0 Y5) rfl rfl rfl ?_; try (refine Ae 11 Y1 ?_ <;> try ((refine Br (sz := 1) (base := b2) (xs := byv bs2) (rst := r2) rfl rfl rfl U22 U22 rfl inf5 rfl Y22 rfl rfl k4.hl k4.hc (BO (A := [_, _]) k4.hn) (.head _) (new := byv [c]) rfl Y26 (List.all_eq_true.1 rfl) (by show (2 * (_ + 1) + 192) * 1 ≤ _; omega) Y9 Y9 rfl rfl rfl (fun b3 c3 r3 hc_ hn_ => ?_)) <;> try (refine Ae 12 Y1 ?_ <;> try (refine An rfl (Ag rfl) rfl rfl rfl (Zt 13 rfl (fun _ => Ad CE rfl) (Ae 14 Y1 ?_)) <;> try (refine A3 rfl rfl rfl rfl Ce Y3 Y8 (.inr Y8) rfl rfl rfl ?_; try ((refine Ap N36 Y1 ?_))))))))))))))))))) | ((refine Ab 2 ?_; try (refine Zm rfl (Zv (Cf rfl rfl Y9 Y9) ?_); try (refine Za rfl (Aa N36 ?_))))))
   all_goals
    have hl1 : (bs2 ++ [c]).length = bs2.length + 1 := by simp
    have ih2 := ih (i - 1, k + 1, bs2 ++ [c], some b3, c3, r3) ⟨by simp only; omega, by simp only; omega, by simp only; rw [k3, e1, List.append_assoc], ⟨by simp only; rw [byv_len]; omega, by rw [byv_app]; exact hc_, by simp⟩⟩ (by simp only; omega)
    have hby : byv (bs2 ++ [c]) = byv bs2 ++ byv [c] := byv_app _ _
    simp only [hl1, hby, rowE_some, List.cons_append, List.nil_append] at ih2
    exact A0 Y10 (w_pick (ps := [_, _]) (F := F) Y6 Y4 ih2)
 · have hks : k = sz := by omega
   subst hks
   have hbe : (be k n).take k = be k n := List.take_of_length_le (by rw [Cp]; exact Nat.le_refl _)
   rw [hbe] at k3
   subst k3
   repeat' (first | (refine Ah rfl ?_) | (refine Ak rfl ?_) | (refine Al ?_) | (refine Am ?_) | (refine Az rfl ?_) | (refine Bp rfl ?_) | (refine Bl Tryz.func178 rfl (fun w_ hi_ => ?_)) | ((refine Ab 1 ?_; try (refine Zm rfl (Zv (Bn rfl rfl Y2) ?_); try ((refine Aa N36 ?_))))))
   exact ⟨_, ⟨_, rfl, rfl, b2, c2, r2, k4, rfl⟩, hi_⟩
end
end Go.Sl
namespace Go.Sl
open Go Go.RowKit Go.Shelf Go.Proofs
theorem perm_row (a : Ent) (A B F : List Ent) : (a :: (A ++ (B ++ F))).Perm (A ++ (B ++ a :: F)) := by
 rw [← List.append_assoc, ← List.append_assoc]
 exact List.perm_middle.symm
theorem RowAt.tl {e : Ent} {H H' : List Ent} {el cap : Nat} {xs rst : List Value} {b : Option Nat} (h : RowAt H H' el xs rst cap b) : RowAt (e :: H) (e :: H') el xs rst cap b := by
 cases b with
 | none => exact ⟨h.1, by rw [h.2]⟩
 | some b => exact ⟨.tail _ h.1, .tail _ h.2⟩
theorem RowAt.ap {A H H' : List Ent} {el cap : Nat} {xs rst : List Value} {b : Option Nat} (h : RowAt H H' el xs rst cap b) : RowAt (A ++ H) (A ++ H') el xs rst cap b := by
 induction A with
 | nil => exact h
 | cons a A ih => exact ih.tl
section
variable {C : Cx} {S : Nat → Prop} {w0 : World} {k : List Item} {D : List Deferred} {E : List (Nat × Value)} {H H' : List Ent} {d : Option Tmp} {t t' : TypeId} {p : String} {af : Array Edge} {g : Option (Nat × Bool)} {x y z : Operand} {v u : Value} {ops : Array Oper} {fuel : Nat} {listed listed' : Array Bool}
def OpC (C : Cx) (D : List Deferred) (E : List (Nat × Value)) (o : Oper) (v : Value) : Prop := ∀ tmps w, Fits E C.n tmps → (execOp ({ tmps := tmps, defers := D } : Act).eval o).run C.P w = .ok (.value v) w
theorem Bu {a : Addr} (hx : opv E x = some (.pointer (some a))) : OpC C D E ⟨d, .nilCheck x, t, p, af, g⟩ (.pointer (some a)) := fun tmps w hf => by simp [execOp, hf.opv D hx]
theorem AZ (i : Nat) {o : Oper} (hi : ops[i]? = some o) (hv : OpC C D E o v) (hs : Region.noSelect ops = true) (hf : Region.free .any ops listed i = true) (hr : (Region.ready .any ops listed).contains i = true)
 (hg : guardOk E ops o = some true) (hd : dstOk o.dst C.n = true) (hl : listed.setIfInBounds i true = listed')
 (h : WA C S w0 ops fuel listed' k D (putE o.dst v E) H) : WA C S w0 ops (fuel + 1) listed k D E H := by
 unfold WA Go3 at *
 exact fun w hiv tmps hft => by
  obtain ⟨f1, f2⟩ := hft.putE (CF hd) v D
  refine wpAny_take (v := v) hi hs hf hr qa_panic (.inl ⟨BE hft hg, fun w1 => hv tmps w1 hft⟩) ?_
  rw [hl, act_eta f2]; exact h w hiv _ f1
theorem wi_appendS {el n cap i : Nat} {ti : TypeInfo} {zv : Value} {base : Option Nat} {xs rst : List Value} {sT xT : TypeId} {aT : Array TypeId} {l : List UInt8} (hop : ops[i]? = some ⟨d, .call { callee := .builtin .append, args := #[x, y], argTypes := aT }, t, p, af, g⟩)
 (hx : opv E x = some (.slice (base.map fun b => ⟨b, 0, none⟩) n cap)) (hy : opv E y = some (str l)) (hu : C.P.underlying sT = some (.slice el)) (hux : C.P.underlying xT = some .string) (haT : aT = #[sT, xT]) (hti : C.P.info? el = some ti) (hsz : ti.size = 1)
 (hz : ti.zero = some zv) (hzs : zv.cells.size = 1) (hxs : xs.length = n) (hcap : xs.length + rst.length = cap) (hb : RowAt H H' el xs rst cap base)
 (hroom : (2 * (n + l.length) + 192) * ti.bytes ≤ 281474976710656) (hmax : n + l.length ≤ 4611686018427387904) (hk : 0 < l.length) (hg : guardOk E ops ⟨d, .call { callee := .builtin .append, args := #[x, y], argTypes := aT }, t, p, af, g⟩ = some true) (hd : dstOk d C.n = true) (hl : listed.setIfInBounds i true = listed')
 (h : ∀ b' cap' rst', (xs ++ byv l).length + rst'.length = cap' → n + l.length ≤ cap' → WA C S w0 ops fuel listed' k D (putE d (.slice (some ⟨b', 0, none⟩) (n + l.length) cap') E) (⟨b', true, .cells (xs ++ byv l ++ rst').toArray el (0, 0)⟩ :: H')) :
 WI C S w0 ops fuel listed i k D E H := by
 refine wi_op hop hg hd hl fun w hi tmps hft => ?_
 obtain ⟨b', cap', rst', w', r1, r2, r3, r4⟩ := run_append (t := t) (w := w) (kn := l.length) (new := byv l) (sv := .slice (base.map fun b => ⟨b, 0, none⟩) n cap) (xv := str l) hi hu hux (.inr rfl) haT hti hsz Y9 hz hzs rfl Y9 Y9 hb (by simp [Builtin.lenOf, size_list]) (fun w' _ => by
  simp only [Builtin.firstCells, ext_list, Sem.run_pure]
  congr 1
  apply Array.ext'
  simp [byv]) (by simp [byv]) (by simp [byv, okCell]) hroom hmax hk
 have hrun : (execOp ({ tmps := tmps, defers := D } : Act).eval (⟨d, .call { callee := .builtin .append, args := #[x, y], argTypes := aT }, t, p, af, g⟩ : Oper)).run C.P w = .ok (.value (.slice (some ⟨b', 0, none⟩) (n + l.length) cap')) w' := by
  simp [execOp, resolve, invoke, builtin, hft.opv D hx, hft.opv D hy, r1]
 rw [hrun]
 exact (h b' cap' rst' Y9 r3).go3 r4
end
end Go.Sl
namespace Go.Sl
open Go Go.RowKit Go.Shelf Go.Proofs
attribute [local irreducible] Calls
structure WS where
 bytes : Bs
 places : List (Int × Int × Bs)
 blocks : List Int
def ws0 : WS := ⟨[], [], []⟩
def plcC (p : Int × Int × Bs) : List Value := [.int .i64 p.1, .int .u8 p.2.1, str p.2.2]
theorem CC (p : Int × Int × Bs) : (plcC p).length = 3 := rfl
def wKd : Kd WS where
 num n sz s := if s.bytes.length + sz ≤ maxB then .ok (n, { s with bytes := s.bytes ++ be sz n }) else .full
 txt t s := if t ≠ [] ∧ s.bytes.length + 1 + t.length ≤ maxB then .ok (t, { s with bytes := s.bytes ++ be 1 t.length ++ t }) else .full
 ref nm q s := if s.bytes.length + 2 ≤ maxB ∧ s.places.length < maxB then .ok (nm, { s with bytes := s.bytes ++ be 2 0, places := s.places ++ [((s.bytes.length : Int), q, nm)] }) else .full
 blk s := if s.blocks.length < maxB then .ok { s with blocks := s.blocks ++ [(s.bytes.length : Int)] } else .full
abbrev WBE (wb : Nat) (v1 v2 v3 : Value) : Ent := ⟨wb, true, .cells #[v1, v2, v3] 83 (0, 0)⟩
def wSt (wb : Nat) (s : WS) (L : List Ent) : Prop :=
 ∃ b1 c1 r1 b2 c2 r2 b3 c3 r3, RowB b1 s.bytes.length c1 1 (byv s.bytes) r1 ∧ RowB b2 s.places.length c2 3 (rowV plcC s.places) r2 ∧ RowB b3 s.blocks.length c3 1 (intsV s.blocks) r3 ∧
  L = WBE wb (slV b1 s.bytes.length c1) (slV b2 s.places.length c2) (slV b3 s.blocks.length c3) :: (rowE b1 (byv s.bytes) r1 5 ++ (rowE b2 (rowV plcC s.places) r2 49 ++ rowE b3 (intsV s.blocks) r3 3))
section
variable {S : Nat → Prop} {w0 : World} {F : List Ent} {s : WS} {L : List Ent} {wb : Nat}
theorem set_same {c : Array Value} {o : Nat} {v : Value} (h : c[o]? = some v) : c.setIfInBounds o v = c := by
 rw [Array.getElem?_eq_some_iff] at h
 obtain ⟨h1, h2⟩ := h
 rw [Array.setIfInBounds_def, dif_pos h1, ← h2]
 simp
theorem Pt.same {b o : Nat} {v : Value} {Lp Lp' : List Ent} {K : Prop} (h : Pt K S w0 F b o v v Lp Lp') : Lp' = Lp ∧ Kn S w0 (Lp ++ F) b o v := by
 cases h with
 | own c el v' h => exact ⟨by rw [set_same h], Kn.of (.head _) h⟩
 | kn _ h => exact ⟨rfl, h⟩
theorem wri_number {b o sz : Nat} {n : Int} (hs : wSt wb s L) (hsz : sz = 1 ∨ sz = 2 ∨ sz = 4) (hB : s.bytes.length + sz ≤ maxB) (kn : Kn S w0 F b o (.int .i64 n)) :
 SLF Tryz.prog S w0 F 174 [pv wb 0, pv b o, .int .i64 (sz : Int)] L (fun e post => ∃ v, e = .returned v ∧ v = unitV ∧ wSt wb { s with bytes := s.bytes ++ be sz n } post) := by
 refine AA fun w hi => ?_
 obtain ⟨b1, c1, r1, b2, c2, r2, b3, c3, r3, h1, h2, h3, rfl⟩ := hs
 simp only [List.append_assoc, List.cons_append, List.nil_append] at hi
 refine Ai Tryz.func174 rfl rfl (hi) ?_
 repeat' (first | (refine Ah rfl ?_) | (refine Ak rfl ?_) | (refine Al ?_) | (refine Bl Tryz.func174 rfl (fun w_ hi_ => ?_)) | ((refine Bd (id := 0) 7 rfl mixed Y1 ?_; try (refine Ax (Aj rfl) rfl rfl (Ax (Ag rfl) rfl rfl (Ax (Ad BQ rfl) rfl rfl (Ax (Aj rfl) rfl rfl (Ax (Ag rfl) rfl rfl (Ax (A7 U3 rfl rfl (by repeat (first | exact kn | apply Kn.cons | apply Kn.app))) rfl rfl ?_))))); try (refine Ax (Aj rfl) rfl rfl (Bc ?_); try ((refine AT (pre := WBE wb (slV b1 s.bytes.length c1) (slV b2 s.places.length c2) (slV b3 s.blocks.length c3) :: rowE b1 (byv s.bytes) r1 5) (.cons Y30 Y7) (CallR.val rfl en178) rfl rfl (add_c h1 hB Y9) ?_; rintro v post ⟨rfl, b1', c1', r1', k1, rfl⟩) <;> try ((refine Aa N3 ?_))))))))
 exact ⟨_, ⟨_, rfl, rfl, b1', c1', r1', b2, c2, r2, b3, c3, r3, k1, h2, h3, rfl⟩, by simpa only [List.append_assoc, List.cons_append, List.nil_append] using hi_⟩
theorem wri_text {b o : Nat} {t : Bs} (hs : wSt wb s L) (ht : t ≠ []) (hB : s.bytes.length + 1 + t.length ≤ maxB) (kn : Kn S w0 F b o (str t)) :
 SLF Tryz.prog S w0 F 176 [pv wb 0, pv b o] L (fun e post => ∃ v, e = .returned v ∧ v = unitV ∧ wSt wb { s with bytes := s.bytes ++ be 1 t.length ++ t } post) := by
 refine AA fun w hi => ?_
 obtain ⟨b1, c1, r1, b2, c2, r2, b3, c3, r3, h1, h2, h3, rfl⟩ := hs
 simp only [List.append_assoc, List.cons_append, List.nil_append] at hi
 have hB' : s.bytes.length + 1 + t.length ≤ 1099511627776 := hB
 have ht0 : 0 < t.length := List.length_pos_iff.2 ht
 have hlen : (s.bytes ++ be 1 t.length).length = s.bytes.length + 1 := by simp [Cp]
 refine Ai Tryz.func176 rfl rfl (hi) ?_
 repeat' (first | (refine Ah rfl ?_) | (refine Ak rfl ?_) | (refine Al ?_) | (refine Am ?_) | ((refine Bd (id := 0) 7 rfl mixed Y1 ?_; try (refine Ax (Aj rfl) rfl rfl (Ax (Ag rfl) rfl rfl (Ax (Ad BQ rfl) rfl rfl (Ax (Aj rfl) rfl rfl (Ax (Ag rfl) rfl rfl (Ax (A7 U9 rfl rfl (by repeat (first | exact kn | apply Kn.cons | apply Kn.app))) rfl rfl ?_))))); try (refine Ax (ov_lenS rfl U9 rfl) rfl rfl (Bc ?_); try ((refine AT (pre := WBE wb (slV b1 s.bytes.length c1) (slV b2 s.places.length c2) (slV b3 s.blocks.length c3) :: rowE b1 (byv s.bytes) r1 5) (.cons Y30 Y7) (CallR.val rfl en178) rfl rfl (add_c (sz := 1) (n := (t.length : Int)) h1 (by show s.bytes.length + 1 ≤ 1099511627776; omega) Y9) ?_; rintro v post ⟨rfl, b1', c1', r1', k1, rfl⟩) <;> try ((refine Aa [0, 1] ?_))))))))
 generalize s.bytes ++ be 1 t.length = bs at *
 simp only [List.append_assoc, List.cons_append, List.nil_append]
 repeat' (first | (refine Ah rfl ?_) | (refine Ak rfl ?_) | (refine Al ?_) | ((refine Cs (m := 14) 1 rfl mixed rfl ?_; try (refine Zt 0 rfl (fun _ => Aj rfl) (Zt 1 rfl (fun _ => Aj rfl) (AZ 2 rfl (Bu rfl) Y1 Y1 Y1 rfl rfl rfl ?_)); try (refine Zt 3 rfl (fun _ => Ad BQ rfl) (Zt 4 rfl (fun _ => Ad CE rfl) (Zt 6 rfl (fun _ => Aj rfl) (AZ 7 rfl (Bu rfl) Y1 Y1 Y1 rfl rfl rfl ?_))); try (refine A9 5 8 Y1 ?_ ?_ <;> (first | (show WI _ _ _ _ _ _ 5 _ _ _ _; try (refine An rfl (Ac U22 rfl rfl Y0 Y5) rfl rfl rfl ?_; try (refine Ae 8 Y1 ?_ <;> try (refine An rfl (A7 U9 rfl rfl (by repeat (first | exact kn | apply Kn.cons | apply Kn.app))) rfl rfl rfl ?_; try (refine Ae 9 Y1 ?_ <;> try ((refine wi_appendS (base := b1') (xs := byv bs) (rst := r1') rfl rfl rfl U22 U9 rfl inf5 rfl rfl rfl (byv_len bs) (by have := k1.hc; omega) (BO (A := [_]) k1.hn) (by show (2 * (_ + _) + 192) * 1 ≤ _; omega) Y9 ht0 rfl rfl rfl (fun b3' c3' r3' hc_ hn_ => ?_)) <;> try (refine AZ 10 rfl (Bu rfl) Y1 Y1 Y1 rfl rfl rfl ?_; try (refine Zt 11 rfl (fun _ => Ad BQ rfl) (Zt 12 rfl (fun _ => Ad CE rfl) (Ae 13 Y1 ?_)) <;> try (refine A3 rfl rfl rfl rfl Ce Y3 Y8 (.inr Y8) rfl rfl rfl ?_; try ((refine Ap [0, 1] Y1 ?_))))))))))) | (show WI _ _ _ _ _ _ 8 _ _ _ _; try (refine An rfl (A7 U9 rfl rfl (by repeat (first | exact kn | apply Kn.cons | apply Kn.app))) rfl rfl rfl ?_; try (refine Ae 5 Y1 ?_ <;> try (refine An rfl (Ac U22 rfl rfl Y0 Y5) rfl rfl rfl ?_; try (refine Ae 9 Y1 ?_ <;> try ((refine wi_appendS (base := b1') (xs := byv bs) (rst := r1') rfl rfl rfl U22 U9 rfl inf5 rfl rfl rfl (byv_len bs) (by have := k1.hc; omega) (BO (A := [_]) k1.hn) (by show (2 * (_ + _) + 192) * 1 ≤ _; omega) Y9 ht0 rfl rfl rfl (fun b3' c3' r3' hc_ hn_ => ?_)) <;> try (refine AZ 10 rfl (Bu rfl) Y1 Y1 Y1 rfl rfl rfl ?_; try (refine Zt 11 rfl (fun _ => Ad BQ rfl) (Zt 12 rfl (fun _ => Ad CE rfl) (Ae 13 Y1 ?_)) <;> try (refine A3 rfl rfl rfl rfl Ce Y3 Y8 (.inr Y8) rfl rfl rfl ?_; try ((refine Ap [0, 1] Y1 ?_))))))))))))))))))
 all_goals
  repeat' (refine Bl Tryz.func176 rfl (fun w_ hi_ => ?_))
  have hl2 : (bs ++ t).length = bs.length + t.length := by simp
  have hb2 : byv (bs ++ t) = byv bs ++ byv t := byv_app _ _
  refine ⟨WBE wb (slV (some b3') (bs ++ t).length c3') (slV b2 s.places.length c2) (slV b3 s.blocks.length c3) :: (rowE (some b3') (byv (bs ++ t)) r3' 5 ++ (rowE b2 (rowV plcC s.places) r2 49 ++ rowE b3 (intsV s.blocks) r3 3)), ⟨_, rfl, rfl, some b3', c3', r3', b2, c2, r2, b3, c3, r3, ⟨by simp only; rw [byv_len]; omega, by simp only; rw [hb2]; omega, by simp⟩, h2, h3, rfl⟩, ?_⟩
  rw [hb2, hl2]
  simp only [rowE_some, List.append_assoc (α := Ent), List.cons_append, List.nil_append]
  exact hi_.pick (ps := [_, _]) (F := rowE b2 (rowV plcC s.places) r2 49 ++ (rowE b3 (intsV s.blocks) r3 3 ++ F)) Y6 Y4
theorem at_c {b1 : Option Nat} {n c1 : Nat} (kn : Kn S w0 F wb 0 (slV b1 n c1)) :
 SLF Tryz.prog S w0 F 177 [pv wb 0] [] (fun e post => e = .returned (.int .i64 (n : Int)) ∧ post = []) := by
 refine AA fun w hi => ?_
 simp only [List.nil_append] at hi
 refine Ai Tryz.func177 rfl rfl (hi) ?_
 repeat' (first | (refine Ah rfl ?_) | (refine Ak rfl ?_) | (refine Al ?_) | (refine Am ?_) | (refine AL Tryz.func177 rfl (fun w_ hi_ => ?_)) | ((refine Ab 0 ?_; try (refine Za rfl (Aa N16 ?_)))) | ((refine Ab 1 ?_; try (refine Zm rfl (Zv (Ag rfl) (Zf CE rfl (Zv (A7 U22 rfl rfl kn) (Zv (As rfl U22 rfl) (Za rfl (Aa N16 ?_))))))))))
 exact ⟨_, ⟨rfl, rfl⟩, hi_⟩
theorem wri_refer {b o : Nat} {t : Bs} {q : Int} (hs : wSt wb s L) (hB : s.bytes.length + 2 ≤ maxB) (hB2 : s.places.length < maxB) (kn : Kn S w0 F b o (str t)) :
 SLF Tryz.prog S w0 F 175 [pv wb 0, pv b o, .int .u8 q] L (fun e post => ∃ v, e = .returned v ∧ v = unitV ∧ wSt wb { s with bytes := s.bytes ++ be 2 0, places := s.places ++ [((s.bytes.length : Int), q, t)] } post) := by
 refine AA fun w hi => ?_
 obtain ⟨b1, c1, r1, b2, c2, r2, b3, c3, r3, h1, h2, h3, rfl⟩ := hs
 simp only [List.append_assoc, List.cons_append, List.nil_append] at hi
 have hB' : s.bytes.length + 2 ≤ 1099511627776 := hB
 have hB2' : s.places.length < 1099511627776 := hB2
 have hpl : (rowV plcC s.places).length = s.places.length * 3 := h2.hl
 refine Ai Tryz.func175 rfl rfl (hi) ?_
 repeat' (first | (refine Ah rfl ?_) | (refine Ak rfl ?_) | (refine Al ?_) | (refine Am ?_) | ((refine Cs (m := 21) 0 rfl mixed rfl ?_; try (refine Zt 0 rfl (fun _ => Aj rfl) (Zt 1 rfl (fun _ => Aj rfl) (AZ 2 rfl (Bu rfl) Y1 Y1 Y1 rfl rfl rfl ?_)); try (refine Zt 3 rfl (fun _ => Ad BQ rfl) (Zt 4 rfl (fun _ => Ad BR rfl) (Zt 6 rfl (fun _ => Aj rfl) (AZ 7 rfl (Bu rfl) Y1 Y1 Y1 rfl rfl rfl ?_))); try (refine Zt 8 rfl (fun _ => Ad BQ rfl) (Zt 10 rfl (fun _ => Aj rfl) (Zt 11 rfl (fun _ => Aj rfl) (AZ 12 rfl (Bu rfl) Y1 Y1 Y1 rfl rfl rfl ?_))); try (refine Cb 5 9 13 Y1 ?_ ?_ ?_ <;> (first | (show WI _ _ _ _ _ _ 5 _ _ _ _; try (refine An rfl (Ac U29 rfl rfl Y0 Y5) rfl rfl rfl ?_; try (refine A9 9 13 Y1 ?_ ?_ <;> (first | (show WI _ _ _ _ _ _ 9 _ _ _ _; try (refine An rfl (Au (CallR.val rfl en177) (at_c (Kn.of (.head _) rfl))) rfl rfl rfl (Ae 13 Y1 ?_) <;> try (refine An rfl (A7 U9 rfl rfl (by repeat (first | exact kn | apply Kn.cons | apply Kn.app))) rfl rfl rfl ?_; try (refine Zt 14 rfl (fun _ => C4 pl49 Bh rfl rfl rfl rfl rfl rfl rfl) (Ae 15 Y1 ?_) <;> try ((refine C7 rfl U29 Bh rfl rfl rfl rfl rfl rfl (fun bb_ hb_ => ?_)) <;> try (refine Ae 16 Y1 ?_ <;> try ((refine Br (sz := 3) (base := b2) (xs := rowV plcC s.places) (rst := r2) rfl rfl rfl U29 U29 rfl Bh rfl Y22 rfl rfl h2.hl h2.hc (BO (A := _ :: _ :: rowE b1 (byv s.bytes) r1 5) h2.hn) (.head _) (new := plcC ((s.bytes.length : Int), q, t)) rfl (by simp [plcC]) (List.all_eq_true.1 rfl) (by show (2 * (_ + 1) + 192) * 32 ≤ _; omega) Y9 Y9 rfl rfl rfl (fun b2' c2' r2' hc_ hn_ => ?_)) <;> try (refine AZ 17 rfl (Bu rfl) Y1 Y1 Y1 rfl rfl rfl ?_; try (refine Zt 18 rfl (fun _ => Ad BQ rfl) (Zt 19 rfl (fun _ => Ad BR rfl) (Ae 20 Y1 ?_)) <;> try (refine A3 rfl rfl rfl rfl sz29 Y3 Y8 (.inr Y8) rfl rfl rfl ?_; try ((refine Ap N3 Y1 ?_)))))))))))) | (show WI _ _ _ _ _ _ 13 _ _ _ _; try (refine An rfl (A7 U9 rfl rfl (by repeat (first | exact kn | apply Kn.cons | apply Kn.app))) rfl rfl rfl ?_; try (refine Ae 9 Y1 ?_ <;> try (refine An rfl (Au (CallR.val rfl en177) (at_c (Kn.of (.head _) rfl))) rfl rfl rfl (Zt 14 rfl (fun _ => C4 pl49 Bh rfl rfl rfl rfl rfl rfl rfl) (Ae 15 Y1 ?_)) <;> try ((refine C7 rfl U29 Bh rfl rfl rfl rfl rfl rfl (fun bb_ hb_ => ?_)) <;> try (refine Ae 16 Y1 ?_ <;> try ((refine Br (sz := 3) (base := b2) (xs := rowV plcC s.places) (rst := r2) rfl rfl rfl U29 U29 rfl Bh rfl Y22 rfl rfl h2.hl h2.hc (BO (A := _ :: _ :: rowE b1 (byv s.bytes) r1 5) h2.hn) (.head _) (new := plcC ((s.bytes.length : Int), q, t)) rfl (by simp [plcC]) (List.all_eq_true.1 rfl) (by show (2 * (_ + 1) + 192) * 32 ≤ _; omega) Y9 Y9 rfl rfl rfl (fun b2' c2' r2' hc_ hn_ => ?_)) <;> try (refine AZ 17 rfl (Bu rfl) Y1 Y1 Y1 rfl rfl rfl ?_; try (refine Zt 18 rfl (fun _ => Ad BQ rfl) (Zt 19 rfl (fun _ => Ad BR rfl) (Ae 20 Y1 ?_)) <;> try (refine A3 rfl rfl rfl rfl sz29 Y3 Y8 (.inr Y8) rfl rfl rfl ?_; try ((refine Ap N3 Y1 ?_)))))))))))))))) | (show WI _ _ _ _ _ _ 9 _ _ _ _; try (refine An rfl (Au (CallR.val rfl en177) (at_c (Kn.of (.head _) rfl))) rfl rfl rfl ?_; try (refine A9 5 13 Y1 ?_ ?_ <;> (first | (show WI _ _ _ _ _ _ 5 _ _ _ _; try (refine An rfl (Ac U29 rfl rfl Y0 Y5) rfl rfl rfl ?_; try (refine Ae 13 Y1 ?_ <;> try (refine An rfl (A7 U9 rfl rfl (by repeat (first | exact kn | apply Kn.cons | apply Kn.app))) rfl rfl rfl ?_; try (refine Zt 14 rfl (fun _ => C4 pl49 Bh rfl rfl rfl rfl rfl rfl rfl) (Ae 15 Y1 ?_) <;> try ((refine C7 rfl U29 Bh rfl rfl rfl rfl rfl rfl (fun bb_ hb_ => ?_)) <;> try (refine Ae 16 Y1 ?_ <;> try ((refine Br (sz := 3) (base := b2) (xs := rowV plcC s.places) (rst := r2) rfl rfl rfl U29 U29 rfl Bh rfl Y22 rfl rfl h2.hl h2.hc (BO (A := _ :: _ :: rowE b1 (byv s.bytes) r1 5) h2.hn) (.head _) (new := plcC ((s.bytes.length : Int), q, t)) rfl (by simp [plcC]) (List.all_eq_true.1 rfl) (by show (2 * (_ + 1) + 192) * 32 ≤ _; omega) Y9 Y9 rfl rfl rfl (fun b2' c2' r2' hc_ hn_ => ?_)) <;> try (refine AZ 17 rfl (Bu rfl) Y1 Y1 Y1 rfl rfl rfl ?_; try (refine Zt 18 rfl (fun _ => Ad BQ rfl) (Zt 19 rfl (fun _ => Ad BR rfl) (Ae 20 Y1 ?_)) <;> try (refine A3 rfl rfl rfl rfl sz29 Y3 Y8 (.inr Y8) rfl rfl rfl ?_; try ((refine Ap N3 Y1 ?_))))))))))))) | (show WI _ _ _ _ _ _ 13 _ _ _ _; try (refine An rfl (A7 U9 rfl rfl (by repeat (first | exact kn | apply Kn.cons | apply Kn.app))) rfl rfl rfl ?_; try (refine Zt 14 rfl (fun _ => C4 pl49 Bh rfl rfl rfl rfl rfl rfl rfl) ?_; try (refine A9 5 15 Y1 ?_ ?_ <;> (first | (show WI _ _ _ _ _ _ 5 _ _ _ _; try (refine An rfl (Ac U29 rfl rfl Y0 Y5) rfl rfl rfl ?_; try (refine Ae 15 Y1 ?_ <;> try ((refine C7 rfl U29 Bh rfl rfl rfl rfl rfl rfl (fun bb_ hb_ => ?_)) <;> try (refine Ae 16 Y1 ?_ <;> try ((refine Br (sz := 3) (base := b2) (xs := rowV plcC s.places) (rst := r2) rfl rfl rfl U29 U29 rfl Bh rfl Y22 rfl rfl h2.hl h2.hc (BO (A := _ :: _ :: rowE b1 (byv s.bytes) r1 5) h2.hn) (.head _) (new := plcC ((s.bytes.length : Int), q, t)) rfl (by simp [plcC]) (List.all_eq_true.1 rfl) (by show (2 * (_ + 1) + 192) * 32 ≤ _; omega) Y9 Y9 rfl rfl rfl (fun b2' c2' r2' hc_ hn_ => ?_)) <;> try (refine AZ 17 rfl (Bu rfl) Y1 Y1 Y1 rfl rfl rfl ?_; try (refine Zt 18 rfl (fun _ => Ad BQ rfl) (Zt 19 rfl (fun _ => Ad BR rfl) (Ae 20 Y1 ?_)) <;> try (refine A3 rfl rfl rfl rfl sz29 Y3 Y8 (.inr Y8) rfl rfl rfl ?_; try ((refine Ap N3 Y1 ?_))))))))))) | (show WI _ _ _ _ _ _ 15 _ _ _ _; try ((refine C7 rfl U29 Bh rfl rfl rfl rfl rfl rfl (fun bb_ hb_ => ?_)) <;> try (refine Ae 5 Y1 ?_ <;> try (refine An rfl (Ac U29 rfl rfl Y0 Y5) rfl rfl rfl ?_; try (refine Ae 16 Y1 ?_ <;> try ((refine Br (sz := 3) (base := b2) (xs := rowV plcC s.places) (rst := r2) rfl rfl rfl U29 U29 rfl Bh rfl Y22 rfl rfl h2.hl h2.hc (BO (A := _ :: _ :: rowE b1 (byv s.bytes) r1 5) h2.hn) (.head _) (new := plcC ((s.bytes.length : Int), q, t)) rfl (by simp [plcC]) (List.all_eq_true.1 rfl) (by show (2 * (_ + 1) + 192) * 32 ≤ _; omega) Y9 Y9 rfl rfl rfl (fun b2' c2' r2' hc_ hn_ => ?_)) <;> try (refine AZ 17 rfl (Bu rfl) Y1 Y1 Y1 rfl rfl rfl ?_; try (refine Zt 18 rfl (fun _ => Ad BQ rfl) (Zt 19 rfl (fun _ => Ad BR rfl) (Ae 20 Y1 ?_)) <;> try (refine A3 rfl rfl rfl rfl sz29 Y3 Y8 (.inr Y8) rfl rfl rfl ?_; try ((refine Ap N3 Y1 ?_)))))))))))))))))))) | (show WI _ _ _ _ _ _ 13 _ _ _ _; try (refine An rfl (A7 U9 rfl rfl (by repeat (first | exact kn | apply Kn.cons | apply Kn.app))) rfl rfl rfl ?_; try (refine A9 5 9 Y1 ?_ ?_ <;> (first | (show WI _ _ _ _ _ _ 5 _ _ _ _; try (refine An rfl (Ac U29 rfl rfl Y0 Y5) rfl rfl rfl ?_; try (refine Ae 9 Y1 ?_ <;> try (refine An rfl (Au (CallR.val rfl en177) (at_c (Kn.of (.head _) rfl))) rfl rfl rfl (Zt 14 rfl (fun _ => C4 pl49 Bh rfl rfl rfl rfl rfl rfl rfl) (Ae 15 Y1 ?_)) <;> try ((refine C7 rfl U29 Bh rfl rfl rfl rfl rfl rfl (fun bb_ hb_ => ?_)) <;> try (refine Ae 16 Y1 ?_ <;> try ((refine Br (sz := 3) (base := b2) (xs := rowV plcC s.places) (rst := r2) rfl rfl rfl U29 U29 rfl Bh rfl Y22 rfl rfl h2.hl h2.hc (BO (A := _ :: _ :: rowE b1 (byv s.bytes) r1 5) h2.hn) (.head _) (new := plcC ((s.bytes.length : Int), q, t)) rfl (by simp [plcC]) (List.all_eq_true.1 rfl) (by show (2 * (_ + 1) + 192) * 32 ≤ _; omega) Y9 Y9 rfl rfl rfl (fun b2' c2' r2' hc_ hn_ => ?_)) <;> try (refine AZ 17 rfl (Bu rfl) Y1 Y1 Y1 rfl rfl rfl ?_; try (refine Zt 18 rfl (fun _ => Ad BQ rfl) (Zt 19 rfl (fun _ => Ad BR rfl) (Ae 20 Y1 ?_)) <;> try (refine A3 rfl rfl rfl rfl sz29 Y3 Y8 (.inr Y8) rfl rfl rfl ?_; try ((refine Ap N3 Y1 ?_)))))))))))) | (show WI _ _ _ _ _ _ 9 _ _ _ _; try (refine An rfl (Au (CallR.val rfl en177) (at_c (Kn.of (.head _) rfl))) rfl rfl rfl (Zt 14 rfl (fun _ => C4 pl49 Bh rfl rfl rfl rfl rfl rfl rfl) ?_); try (refine A9 5 15 Y1 ?_ ?_ <;> (first | (show WI _ _ _ _ _ _ 5 _ _ _ _; try (refine An rfl (Ac U29 rfl rfl Y0 Y5) rfl rfl rfl ?_; try (refine Ae 15 Y1 ?_ <;> try ((refine C7 rfl U29 Bh rfl rfl rfl rfl rfl rfl (fun bb_ hb_ => ?_)) <;> try (refine Ae 16 Y1 ?_ <;> try ((refine Br (sz := 3) (base := b2) (xs := rowV plcC s.places) (rst := r2) rfl rfl rfl U29 U29 rfl Bh rfl Y22 rfl rfl h2.hl h2.hc (BO (A := _ :: _ :: rowE b1 (byv s.bytes) r1 5) h2.hn) (.head _) (new := plcC ((s.bytes.length : Int), q, t)) rfl (by simp [plcC]) (List.all_eq_true.1 rfl) (by show (2 * (_ + 1) + 192) * 32 ≤ _; omega) Y9 Y9 rfl rfl rfl (fun b2' c2' r2' hc_ hn_ => ?_)) <;> try (refine AZ 17 rfl (Bu rfl) Y1 Y1 Y1 rfl rfl rfl ?_; try (refine Zt 18 rfl (fun _ => Ad BQ rfl) (Zt 19 rfl (fun _ => Ad BR rfl) (Ae 20 Y1 ?_)) <;> try (refine A3 rfl rfl rfl rfl sz29 Y3 Y8 (.inr Y8) rfl rfl rfl ?_; try ((refine Ap N3 Y1 ?_))))))))))) | (show WI _ _ _ _ _ _ 15 _ _ _ _; try ((refine C7 rfl U29 Bh rfl rfl rfl rfl rfl rfl (fun bb_ hb_ => ?_)) <;> try (refine Ae 5 Y1 ?_ <;> try (refine An rfl (Ac U29 rfl rfl Y0 Y5) rfl rfl rfl ?_; try (refine Ae 16 Y1 ?_ <;> try ((refine Br (sz := 3) (base := b2) (xs := rowV plcC s.places) (rst := r2) rfl rfl rfl U29 U29 rfl Bh rfl Y22 rfl rfl h2.hl h2.hc (BO (A := _ :: _ :: rowE b1 (byv s.bytes) r1 5) h2.hn) (.head _) (new := plcC ((s.bytes.length : Int), q, t)) rfl (by simp [plcC]) (List.all_eq_true.1 rfl) (by show (2 * (_ + 1) + 192) * 32 ≤ _; omega) Y9 Y9 rfl rfl rfl (fun b2' c2' r2' hc_ hn_ => ?_)) <;> try (refine AZ 17 rfl (Bu rfl) Y1 Y1 Y1 rfl rfl rfl ?_; try (refine Zt 18 rfl (fun _ => Ad BQ rfl) (Zt 19 rfl (fun _ => Ad BR rfl) (Ae 20 Y1 ?_)) <;> try (refine A3 rfl rfl rfl rfl sz29 Y3 Y8 (.inr Y8) rfl rfl rfl ?_; try ((refine Ap N3 Y1 ?_)))))))))))))))))))))))))))
 all_goals
  repeat' (first | (refine Ah rfl ?_) | (refine Ak rfl ?_) | (refine Al ?_) | (refine Bl Tryz.func175 rfl (fun w_ hi_ => ?_)) | ((refine Ab 1 ?_; try (refine Zm rfl (Zv (Ag rfl) (Zf BQ rfl ?_)); try ((refine AT (pre := WBE wb (slV b1 s.bytes.length c1) (slV (some b2') (s.places.length + 1) c2') (slV b3 s.blocks.length c3) :: rowE b1 (byv s.bytes) r1 5) (.cons Y30 Y7) (CallR.val rfl en178) rfl rfl (add_c (sz := 2) (n := 0) h1 (by show s.bytes.length + 2 ≤ 1099511627776; omega) Y9) ?_; rintro v post ⟨rfl, b1', c1', r1', k1, rfl⟩) <;> try ((refine Aa N3 ?_)))))))
  have hl2 : (s.places ++ [((s.bytes.length : Int), q, t)]).length = s.places.length + 1 := by simp
  have hb2 : rowV plcC (s.places ++ [((s.bytes.length : Int), q, t)]) = rowV plcC s.places ++ plcC ((s.bytes.length : Int), q, t) := by simp [rowV]
  refine ⟨WBE wb (slV b1' (s.bytes ++ be 2 0).length c1') (slV (some b2') (s.places ++ [((s.bytes.length : Int), q, t)]).length c2') (slV b3 s.blocks.length c3) :: (rowE b1' (byv (s.bytes ++ be 2 0)) r1' 5 ++ (rowE (some b2') (rowV plcC (s.places ++ [((s.bytes.length : Int), q, t)])) r2' 49 ++ rowE b3 (intsV s.blocks) r3 3)), ⟨_, rfl, rfl, b1', c1', r1', some b2', c2', r2', b3, c3, r3, k1, ⟨by simp only; rw [hb2, hl2, List.length_append, hpl, CC]; omega, by simp only; rw [hb2]; exact hc_, by simp⟩, h3, rfl⟩, ?_⟩
  rw [hb2, hl2]
  simp only [rowE_some, List.append_assoc (α := Ent), List.cons_append, List.nil_append]
  exact hi_.pick (ps := [WBE _ _ _ _]) (F := rowE b1' (byv (s.bytes ++ be 2 0)) r1' 5 ++ (⟨b2', true, .cells (rowV plcC s.places ++ plcC ((s.bytes.length : Int), q, t) ++ r2').toArray 49 (0, 0)⟩ :: (rowE b3 (intsV s.blocks) r3 3 ++ F))) Y6 (by repeat (first | exact List.Sublist.refl _ | apply List.Sublist.cons_cons | apply List.Sublist.cons | apply List.Sublist.append (List.Sublist.refl _) | apply List.sublist_append_of_sublist_right))
theorem wri_block (hs : wSt wb s L) (hB2 : s.blocks.length < maxB) :
 SLF Tryz.prog S w0 F 173 [pv wb 0] L (fun e post => ∃ v, e = .returned v ∧ v = unitV ∧ wSt wb { s with blocks := s.blocks ++ [(s.bytes.length : Int)] } post) := by
 refine AA fun w hi => ?_
 obtain ⟨b1, c1, r1, b2, c2, r2, b3, c3, r3, h1, h2, h3, rfl⟩ := hs
 simp only [List.append_assoc, List.cons_append, List.nil_append] at hi
 have hB2' : s.blocks.length < 1099511627776 := hB2
 refine Ai Tryz.func173 rfl rfl (hi) ?_
 repeat' (first | (refine Ah rfl ?_) | (refine Ak rfl ?_) | (refine Al ?_) | (refine Bl Tryz.func173 rfl (fun w_ hi_ => ?_)) | ((refine Cs (m := 16) 0 rfl mixed rfl ?_; try (refine Zt 0 rfl (fun _ => Aj rfl) (Zt 1 rfl (fun _ => Aj rfl) (AZ 2 rfl (Bu rfl) Y1 Y1 Y1 rfl rfl rfl ?_)); try (refine Zt 3 rfl (fun _ => Ad BQ rfl) (Zt 4 rfl (fun _ => Ad fo81_2 rfl) (Zt 6 rfl (fun _ => Aj rfl) (AZ 7 rfl (Bu rfl) Y1 Y1 Y1 rfl rfl rfl ?_))); try (refine Zt 8 rfl (fun _ => Ad BQ rfl) ?_; try (refine A9 5 9 Y1 ?_ ?_ <;> (first | (show WI _ _ _ _ _ _ 5 _ _ _ _; try (refine An rfl (Ac U59 rfl rfl Y0 Y5) rfl rfl rfl ?_; try (refine Ae 9 Y1 ?_ <;> try (refine An rfl (Au (CallR.val rfl en177) (at_c (Kn.of (.head _) rfl))) rfl rfl rfl (Ae 10 Y1 ?_) <;> try ((refine wi_bs1 rfl U59 Cg rfl rfl rfl rfl rfl rfl rfl (fun bb_ hb_ => ?_)) <;> try (refine Ae 11 Y1 ?_ <;> try ((refine Br (sz := 1) (base := b3) (xs := intsV s.blocks) (rst := r3) rfl rfl rfl U59 U59 rfl Cg rfl Y22 rfl rfl h3.hl h3.hc (.tl (.tl (.ap (.ap (rowAt0 h3.hn))))) (.head _) (new := [.int .i64 (s.bytes.length : Int)]) rfl Y26 (List.all_eq_true.1 rfl) (by show (2 * (_ + 1) + 192) * 8 ≤ _; omega) Y9 Y9 rfl rfl rfl (fun b3' c3' r3' hc_ hn_ => ?_)) <;> try (refine AZ 12 rfl (Bu rfl) Y1 Y1 Y1 rfl rfl rfl ?_; try (refine Zt 13 rfl (fun _ => Ad BQ rfl) (Zt 14 rfl (fun _ => Ad fo81_2 rfl) (Ae 15 Y1 ?_)) <;> try (refine A3 rfl rfl rfl rfl sz59 Y3 Y8 (.inr Y8) rfl rfl rfl ?_; try ((refine Ap [0] Y1 ?_)))))))))))) | (show WI _ _ _ _ _ _ 9 _ _ _ _; try (refine An rfl (Au (CallR.val rfl en177) (at_c (Kn.of (.head _) rfl))) rfl rfl rfl ?_; try (refine A9 5 10 Y1 ?_ ?_ <;> (first | (show WI _ _ _ _ _ _ 5 _ _ _ _; try (refine An rfl (Ac U59 rfl rfl Y0 Y5) rfl rfl rfl ?_; try (refine Ae 10 Y1 ?_ <;> try ((refine wi_bs1 rfl U59 Cg rfl rfl rfl rfl rfl rfl rfl (fun bb_ hb_ => ?_)) <;> try (refine Ae 11 Y1 ?_ <;> try ((refine Br (sz := 1) (base := b3) (xs := intsV s.blocks) (rst := r3) rfl rfl rfl U59 U59 rfl Cg rfl Y22 rfl rfl h3.hl h3.hc (.tl (.tl (.ap (.ap (rowAt0 h3.hn))))) (.head _) (new := [.int .i64 (s.bytes.length : Int)]) rfl Y26 (List.all_eq_true.1 rfl) (by show (2 * (_ + 1) + 192) * 8 ≤ _; omega) Y9 Y9 rfl rfl rfl (fun b3' c3' r3' hc_ hn_ => ?_)) <;> try (refine AZ 12 rfl (Bu rfl) Y1 Y1 Y1 rfl rfl rfl ?_; try (refine Zt 13 rfl (fun _ => Ad BQ rfl) (Zt 14 rfl (fun _ => Ad fo81_2 rfl) (Ae 15 Y1 ?_)) <;> try (refine A3 rfl rfl rfl rfl sz59 Y3 Y8 (.inr Y8) rfl rfl rfl ?_; try ((refine Ap [0] Y1 ?_))))))))))) | (show WI _ _ _ _ _ _ 10 _ _ _ _; try ((refine wi_bs1 rfl U59 Cg rfl rfl rfl rfl rfl rfl rfl (fun bb_ hb_ => ?_)) <;> try (refine Ae 5 Y1 ?_ <;> try (refine An rfl (Ac U59 rfl rfl Y0 Y5) rfl rfl rfl ?_; try (refine Ae 11 Y1 ?_ <;> try ((refine Br (sz := 1) (base := b3) (xs := intsV s.blocks) (rst := r3) rfl rfl rfl U59 U59 rfl Cg rfl Y22 rfl rfl h3.hl h3.hc (.tl (.tl (.ap (.ap (rowAt0 h3.hn))))) (.head _) (new := [.int .i64 (s.bytes.length : Int)]) rfl Y26 (List.all_eq_true.1 rfl) (by show (2 * (_ + 1) + 192) * 8 ≤ _; omega) Y9 Y9 rfl rfl rfl (fun b3' c3' r3' hc_ hn_ => ?_)) <;> try (refine AZ 12 rfl (Bu rfl) Y1 Y1 Y1 rfl rfl rfl ?_; try (refine Zt 13 rfl (fun _ => Ad BQ rfl) (Zt 14 rfl (fun _ => Ad fo81_2 rfl) (Ae 15 Y1 ?_)) <;> try (refine A3 rfl rfl rfl rfl sz59 Y3 Y8 (.inr Y8) rfl rfl rfl ?_; try ((refine Ap [0] Y1 ?_)))))))))))))))))))))))
 all_goals
  have hl2 : (s.blocks ++ [(s.bytes.length : Int)]).length = s.blocks.length + 1 := by simp
  have hb2 : intsV (s.blocks ++ [(s.bytes.length : Int)]) = intsV s.blocks ++ [.int .i64 (s.bytes.length : Int)] := by simp [intsV]
  refine ⟨WBE wb (slV b1 s.bytes.length c1) (slV b2 s.places.length c2) (slV (some b3') (s.blocks ++ [(s.bytes.length : Int)]).length c3') :: (rowE b1 (byv s.bytes) r1 5 ++ (rowE b2 (rowV plcC s.places) r2 49 ++ rowE (some b3') (intsV (s.blocks ++ [(s.bytes.length : Int)])) r3' 3)), ⟨_, rfl, rfl, b1, c1, r1, b2, c2, r2, some b3', c3', r3', h1, h2, ⟨by simp only; rw [hb2, hl2, List.length_append, h3.hl]; simp, by simp only; rw [hb2]; exact hc_, by simp⟩, rfl⟩, ?_⟩
  rw [hb2, hl2]
  simp only [rowE_some, List.append_assoc (α := Ent), List.cons_append, List.nil_append]
  refine (hi_.pick (ps := [_, ⟨b3', true, .cells (intsV s.blocks ++ [Value.int .i64 (s.bytes.length : Int)] ++ r3').toArray 3 (0, 0)⟩]) (F := rowE b1 (byv s.bytes) r1 5 ++ (rowE b2 (rowV plcC s.places) r2 49 ++ F)) Y6 (by repeat (first | exact List.Sublist.refl _ | apply List.Sublist.cons_cons | apply List.Sublist.cons | apply List.Sublist.append (List.Sublist.refl _) | apply List.sublist_append_of_sublist_right))).perm (List.Perm.cons _ ?_)
  exact perm_row ⟨b3', true, .cells (intsV s.blocks ++ [Value.int .i64 (s.bytes.length : Int)] ++ r3').toArray 3 (0, 0)⟩ (rowE b1 (byv s.bytes) r1 5) (rowE b2 (rowV plcC s.places) r2 49) F
end
end Go.Sl
namespace Go.Sl
open Go Go.RowKit Go.Shelf Go.Proofs
attribute [local irreducible] Calls
theorem SLF.mo {P : Program} {S : Nat → Prop} {w0 : World} {F A : List Ent} {f : FuncId} {vs : List Value} {pre : List Ent} {α : Type} {r : Out α} {a : α} {G : α → Value → List Ent → Prop} {Q : List Ent → Prop} (hr : r = .ok a)
 (h : SLF P S w0 (A ++ F) f vs pre fun e post => ∃ v, e = .returned v ∧ v = unitV ∧ Q post) (hg : ∀ post, Q post → G a unitV (post ++ A)) : SLF P S w0 F f vs (pre ++ A) (MoO r G) := by
 refine h.frame.mono ?_
 rintro e post ⟨p, ⟨v, rfl, rfl, hq⟩, rfl⟩
 exact Bi hr (hg p hq)
theorem metWN : metTo Tryz.prog 78 "trestle/code.number" = some 174 := by kernel_rfl
theorem metWT : metTo Tryz.prog 78 "trestle/code.text" = some 176 := by kernel_rfl
theorem metWR : metTo Tryz.prog 78 "trestle/code.refer" = some 175 := by kernel_rfl
theorem metWB : metTo Tryz.prog 78 "trestle/code.block" = some 173 := by kernel_rfl
theorem wKd_num {n : Int} {sz : Nat} {s : WS} (h : wKd.num n sz s ≠ .full) : s.bytes.length + sz ≤ maxB ∧ wKd.num n sz s = .ok (n, { s with bytes := s.bytes ++ be sz n }) := by
 simp only [wKd] at h ⊢
 split at h
 · rename_i h1; exact ⟨h1, by rw [if_pos h1]⟩
 · exact absurd rfl h
theorem wKd_txt {t : Bs} {s : WS} (h : wKd.txt t s ≠ .full) : t ≠ [] ∧ s.bytes.length + 1 + t.length ≤ maxB ∧ wKd.txt t s = .ok (t, { s with bytes := s.bytes ++ be 1 t.length ++ t }) := by
 simp only [wKd] at h ⊢
 split at h
 · rename_i h1; exact ⟨h1.1, h1.2, by rw [if_pos h1]⟩
 · exact absurd rfl h
theorem wKd_ref {t : Bs} {q : Int} {s : WS} (h : wKd.ref t q s ≠ .full) : s.bytes.length + 2 ≤ maxB ∧ s.places.length < maxB ∧ wKd.ref t q s = .ok (t, { s with bytes := s.bytes ++ be 2 0, places := s.places ++ [((s.bytes.length : Int), q, t)] }) := by
 simp only [wKd] at h ⊢
 split at h
 · rename_i h1; exact ⟨h1.1, h1.2, by rw [if_pos h1]⟩
 · exact absurd rfl h
theorem wKd_blk {s : WS} (h : wKd.blk s ≠ .full) : s.blocks.length < maxB ∧ wKd.blk s = .ok { s with blocks := s.blocks ++ [(s.bytes.length : Int)] } := by
 simp only [wKd] at h ⊢
 split at h
 · rename_i h1; exact ⟨h1, by rw [if_pos h1]⟩
 · exact absurd rfl h
def wCod (S : Nat → Prop) (w0 : World) (wb : Nat) : Cod S w0 WS where
 κ := wKd
 K := True
 it := 78
 iv := pv wb 0
 env := fun _ => True
 envU := fun _ _ _ h => h
 St := wSt wb
 fN := 174
 fT := 176
 fR := 175
 fB := 173
 mN := metWN
 mT := metWT
 mR := metWR
 mB := metWB
 eN := en174
 eT := en176
 eR := en175
 eB := en173
 num := by
  intro F s L b o n sz Lp Lp' _ hs hsz hf hp
  obtain ⟨h1, h2⟩ := wKd_num hf
  obtain ⟨h3, h4⟩ := (hp _ _ h2).same
  exact SLF.mo h2 (wri_number hs hsz h1 h4) fun post hq => ⟨rfl, post, hq, by rw [h3]⟩
 txt := by
  intro F s L b o n Lp Lp' _ hs hf hp
  obtain ⟨h0, h1, h2⟩ := wKd_txt hf
  obtain ⟨h3, h4⟩ := (hp _ _ h2).same
  exact SLF.mo h2 (wri_text hs h0 h1 h4) fun post hq => ⟨rfl, post, hq, by rw [h3]⟩
 ref := by
  intro F s L b o n q Lp Lp' _ hs hf hp
  obtain ⟨h0, h1, h2⟩ := wKd_ref hf
  obtain ⟨h3, h4⟩ := (hp _ _ h2).same
  exact SLF.mo h2 (wri_refer hs h0 h1 h4) fun post hq => ⟨rfl, post, hq, by rw [h3]⟩
 blk := by
  intro F s L _ hs hf
  obtain ⟨h1, h2⟩ := wKd_blk hf
  have := SLF.mo (S := S) (w0 := w0) (F := F) (A := []) (G := fun a v post => v = unitV ∧ wSt wb a post) h2 (wri_block hs h1) fun post hq => ⟨rfl, by rwa [List.append_nil]⟩
  rwa [List.append_nil] at this
theorem wCod_keep (S : Nat → Prop) (w0 : World) (wb : Nat) : (wCod S w0 wb).Keep where
 k := trivial
 num := fun n sz s n' s' h => by
  have := (wKd_num (show wKd.num n sz s ≠ .full from fun h2 => by rw [show wKd.num n sz s = .ok (n', s') from h] at h2; cases h2)).2
  rw [show wKd.num n sz s = .ok (n', s') from h] at this
  exact congrArg Prod.fst (Out.ok.inj this)
 txt := fun t s n' s' h => by
  have := (wKd_txt (show wKd.txt t s ≠ .full from fun h2 => by rw [show wKd.txt t s = .ok (n', s') from h] at h2; cases h2)).2.2
  rw [show wKd.txt t s = .ok (n', s') from h] at this
  exact congrArg Prod.fst (Out.ok.inj this)
theorem wCod_small (S : Nat → Prop) (w0 : World) (wb : Nat) : (wCod S w0 wb).Small := fun m sz s n' s' _ hm h => by
 have := (wCod_keep S w0 wb).num _ _ _ _ _ h
 subst this
 omega
end Go.Sl
namespace Go.Sl
open Go Go.RowKit Go.Shelf Go.Proofs
attribute [local irreducible] Calls
section
variable {C : Cx} {S : Nat → Prop} {w0 : World} {k : List Item} {D : List Deferred} {E : List (Nat × Value)} {H H' : List Ent} {d : Option Tmp} {t t' xt yt : TypeId} {p : String} {af : Array Edge} {g : Option (Nat × Bool)} {x y z : Operand} {v u : Value} {ops : Array Oper} {rest : List Oper}
theorem cell_kept {w w' : World} {b j : Nat} {v : Value} (hw : ∀ (b : Nat) (c : Array Value) (e : TypeId) (f : Nat × Nat), w.heap[b]? = some (Obj.cells c e f) → w'.heap[b]? = some (Obj.cells c e f)) (h : w.cell? ⟨b, j, none⟩ = some v) : w'.cell? ⟨b, j, none⟩ = some v := by
 unfold World.cell? at h ⊢
 simp only at h ⊢
 split at h
 · rename_i c e f h1
   rw [hw _ _ _ _ h1]; exact h
 · cases h
theorem BI {el n cap : Nat} {a : Option Addr} (hu : C.P.underlying xt = some (.slice el)) (hx : opv E x = some (.slice a n cap)) :
 OpV C S w0 H D E ⟨d, .binOp .eql xt x (.const (.slice none 0 0)) yt, t, p, af, g⟩ (.bool a.isNone) :=
 ov_binE hx rfl (fun w => by simp [eqGuard]) fun w => by
  have : ∀ n', (Op.equalIn (n' + 1) xt (.slice a n cap) (.slice none 0 0)).run C.P w = .ok a.isNone w := fun n' => by cases a <;> simp [Op.equalIn, underlying, program, Sem.run, hu]
  have h2 : (Op.equal xt (.slice a n cap) (.slice none 0 0)).run C.P w = .ok a.isNone w := this 9999
  simp [binOp, h2]
theorem ov_append0 {el n cap c2 : Nat} {ti : TypeInfo} {a a2 : Option Addr} {sT xT e2 : TypeId} {aT : Array TypeId} (hx : opv E x = some (.slice a n cap)) (hy : opv E y = some (.slice a2 0 c2)) (hu : C.P.underlying sT = some (.slice el)) (hux : C.P.underlying xT = some (.slice e2)) (haT : aT = #[sT, xT]) (hti : C.P.info? el = some ti) (hc : n ≤ cap) :
 OpV C S w0 H D E ⟨d, .call { callee := .builtin .append, args := #[x, y], argTypes := aT }, t, p, af, g⟩ (.slice a n cap) := B2 fun tmps w hf hi => by
 subst haT
 have hs0 : ∀ w, (sizeOf el).run C.P w = .ok ti.size w := fun w => B6 (by rw [hti]; rfl)
 have h1 : ∀ w, (Builtin.firstCells ti.size 0 (.slice a2 0 c2)).run C.P w = .ok #[] w := fun w => by cases a2 <;> simp [Builtin.firstCells, loadCells, loadCellsFrom]
 have h2 : (Builtin.append_ #[sT, xT] t #[.slice a n cap, .slice a2 0 c2]).run C.P w = .ok (.slice a n cap) w := by
  simp only [Builtin.append_, Sem.run_bind, A6 hu, A6 hux, Result.andThen_ok, hs0, List.getElem?_toArray, List.getElem?_cons_zero, List.getElem?_cons_succ, Sem.run_pure]
  simp only [Bool.false_eq_true, if_false, Builtin.lenOf, Sem.run_pure, Result.andThen_ok, Sem.run_bind, Nat.add_zero]
  rw [if_pos hc]
  cases a <;> simp [h1, Sem.run_bind, Sem.run_pure, Result.andThen_ok, storeCells]
 simp [execOp, resolve, invoke, builtin, hf.opv D hx, hf.opv D hy, h2]
theorem wo_appendK {el sz n cap kn : Nat} {ti : TypeInfo} {zv : Value} {base : Option Nat} {xs rst new : List Value} {sT xT : TypeId} {aT : Array TypeId} {e2 : TypeId} {b2 o2 c2 : Nat}
 (hx : opv E x = some (.slice (base.map fun b => ⟨b, 0, none⟩) n cap)) (hy : opv E y = some (.slice (some ⟨b2, o2, none⟩) kn c2)) (hu : C.P.underlying sT = some (.slice el)) (hux : C.P.underlying xT = some (.slice e2)) (haT : aT = #[sT, xT]) (hti : C.P.info? el = some ti) (hsz : ti.size = sz) (hpos : 0 < sz)
 (hz : ti.zero = some zv) (hzs : zv.cells.size = sz) (hxs : xs.length = n * sz) (hcap : xs.length + rst.length = cap * sz) (hb : RowAt H H' el xs rst cap base)
 (hkn : ∀ i (h : i < new.length), Kn S w0 H b2 (o2 + i) new[i]) (hnl : new.length = kn * sz) (hok : ∀ v ∈ new, okCell v = true)
 (hroom : (2 * (n + kn) + 192) * ti.bytes ≤ 281474976710656) (hmax : n + kn ≤ 4611686018427387904) (hk : 0 < kn) (hg : guardOk E ops ⟨d, .call { callee := .builtin .append, args := #[x, y], argTypes := aT }, t, p, af, g⟩ = some true) (hd : dstOk d C.n = true)
 (h : ∀ b' cap' rst', (xs ++ new).length + rst'.length = cap' * sz → n + kn ≤ cap' → WO C S w0 ops rest k D (putE d (.slice (some ⟨b', 0, none⟩) (n + kn) cap') E) (⟨b', true, .cells (xs ++ new ++ rst').toArray el (0, 0)⟩ :: H')) :
 WO C S w0 ops (⟨d, .call { callee := .builtin .append, args := #[x, y], argTypes := aT }, t, p, af, g⟩ :: rest) k D E H := by
 refine CT hg hd fun w hi tmps hft => ?_
 rw [BN _ _ _ (nd_of rfl)]
 obtain ⟨b', cap', rst', w', r1, r2, r3, r4⟩ := run_append (t := t) (w := w) (new := new) (sv := .slice (base.map fun b => ⟨b, 0, none⟩) n cap) (xv := .slice (some ⟨b2, o2, none⟩) kn c2) hi hu hux (.inl ⟨e2, rfl⟩) haT hti hsz hpos hz hzs rfl hxs hcap hb (by simp [Builtin.lenOf]) (fun w' hw' => by
  have h1 := BA (P := C.P) (w := w') (b := b2) (off := o2) (c := new.toArray) (fun j h1 h2 => by
   have h3 : j - o2 < new.length := by simp at h2; omega
   have h4 := cell_kept hw' ((hkn (j - o2) h3).cell hi)
   rw [show o2 + (j - o2) = j by omega] at h4
   rw [h4, List.getElem?_toArray, List.getElem?_eq_getElem h3]) (kn * sz) 0 #[] (by simp; omega)
  simp only [Builtin.firstCells, loadCells]
  rw [h1]
  congr 1
  apply Array.ext'
  simp [← hnl]) hnl hok hroom hmax hk
 have hrun : (execOp ({ tmps := tmps, defers := D } : Act).eval (⟨d, .call { callee := .builtin .append, args := #[x, y], argTypes := aT }, t, p, af, g⟩ : Oper)).run C.P w = .ok (.value (.slice (some ⟨b', 0, none⟩) (n + kn) cap')) w' := by
  simp [execOp, resolve, invoke, builtin, hft.opv D hx, hft.opv D hy, r1]
 rw [hrun]
 exact (h b' cap' rst' r2 r3).go2 r4
theorem BC {el : Nat} {ti : TypeInfo} (hu : C.P.underlying t' = some (.slice el)) (hti : C.P.info? el = some ti) (hg : guardOk E ops ⟨d, .buildSlice t' 0 #[], t, p, af, g⟩ = some true) (hd : dstOk d C.n = true)
 (h : ∀ bb, w0.heap.size ≤ bb → WO C S w0 ops rest k D (putE d (.slice (some ⟨bb, 0, none⟩) 0 0) E) (⟨bb, true, .cells #[] el (0, 0)⟩ :: H)) : WO C S w0 ops (⟨d, .buildSlice t' 0 #[], t, p, af, g⟩ :: rest) k D E H := by
 refine CT hg hd fun w hi tmps hft => ?_
 rw [BN _ _ _ (nd_of rfl)]
 have hrun : (execOp ({ tmps := tmps, defers := D } : Act).eval (⟨d, .buildSlice t' 0 #[], t, p, af, g⟩ : Oper)).run C.P w = .ok (.value (.slice (some ⟨w.heap.size, 0, none⟩) 0 0)) { w with heap := w.heap.push (.cells #[] el (0, 0)) } := by
  have hs0 := B6 (t' := el) (P := C.P) (w := w) (n := ti.size) (by rw [hti]; rfl)
  have e1 : ¬ (0 * ti.size > 2 ^ 24) := by rw [Nat.zero_mul]; omega
  simp only [execOp, Instr.buildSlice, Sem.run_bind, A6 hu, Result.andThen_ok, hs0]
  rw [if_neg e1]
  simp [Sem.run_bind, Sem.run_pure, Result.andThen_ok, newRow, newObj, Sem.run, Instr.fill, show Array.range 0 = #[] from rfl]
 rw [hrun]
 exact (h _ hi.fr.size).go2 (hi.new _)
end
def Cloned (cells : List Value) (n : Nat) (el : TypeId) (e : Ending) (post : List Ent) : Prop :=
 ∃ a cap, e = .returned (.slice a n cap) ∧ n ≤ cap ∧ ((n = 0 ∧ post = []) ∨ ∃ bb rst, a = some ⟨bb, 0, none⟩ ∧ post = [⟨bb, true, .cells (cells ++ rst).toArray el (0, 0)⟩])
end Go.Sl
namespace Go.Sl
open Go Go.RowKit Go.Shelf Go.Proofs
attribute [local irreducible] Calls
section
variable {S : Nat → Prop} {w0 : World} {F : List Ent}
theorem C6 {cells : List Value} {n : Nat} {v : Value} (hs : SlK S w0 F cells n v) (hl : cells.length = n * 1) (hok : ∀ v ∈ cells, okCell v = true) (hroom : n ≤ 65535) :
 SLF Tryz.prog S w0 F 51 [v] [] (Cloned cells n 5) := by
 refine AA fun w hi => ?_
 simp only [List.nil_append] at hi
 obtain ⟨a, cap, rfl, hc, hk⟩ := hs
 refine Ai Tryz.func51 rfl rfl (hi) ?_
 cases a with
 | none =>
   have hn : n = 0 := by
    rcases hk with h | ⟨b, off, h, _⟩
    · subst h; simp at hl; omega
    · cases h
   subst hn
   repeat' (first | (refine Ah rfl ?_) | (refine Ak rfl ?_) | (refine Al ?_) | (refine Am ?_) | (refine A1 rfl ?_) | (refine AL Tryz.func51 rfl (fun w_ hi_ => ?_)) | ((refine Ab 0 ?_; try (refine Za rfl (Aa N5 ?_)))) | ((refine Ab 1 ?_; try (refine Zm rfl (Zv (BI U22 rfl) (Aa N5 ?_))))) | ((refine Ab 2 ?_; try (refine Za rfl (Aa N5 ?_)))))
   exact ⟨[], ⟨none, 0, rfl, Nat.le_refl _, .inl ⟨rfl, rfl⟩⟩, hi_⟩
 | some ad =>
   by_cases hn : n = 0
   · subst hn
     repeat' (first | (refine Ah rfl ?_) | (refine Ak rfl ?_) | (refine Al ?_) | (refine Am ?_) | (refine Az rfl ?_) | (refine AE ?_) | (refine AL Tryz.func51 rfl (fun w_ hi_ => ?_)) | ((refine Ab 0 ?_; try (refine Za rfl (Aa N5 ?_)))) | ((refine Ab 1 ?_; try (refine Zm rfl (Zv (BI U22 rfl) (Aa N5 ?_))))) | ((refine Ab 3 ?_; try ((refine BC U22 inf5 rfl rfl (fun bb_ hb_ => ?_)) <;> try (refine Zm rfl (Zv (ov_append0 rfl rfl U22 U22 rfl inf5 (Nat.le_refl _)) (Za rfl (Aa N5 ?_))))))))
     exact ⟨[], ⟨some ⟨bb_, 0, none⟩, 0, rfl, Nat.le_refl _, .inl ⟨rfl, rfl⟩⟩, hi_.subset (List.sublist_cons_self _ _)⟩
   · have hne : cells ≠ [] := by rintro rfl; simp at hl; omega
     obtain ⟨b, off, hb, hkn⟩ := hk.resolve_left hne
     cases hb
     repeat' (first | (refine Ah rfl ?_) | (refine Ak rfl ?_) | (refine Al ?_) | (refine Am ?_) | (refine Az rfl ?_) | (refine AE ?_) | (refine AL Tryz.func51 rfl (fun w_ hi_ => ?_)) | ((refine Ab 0 ?_; try (refine Za rfl (Aa N5 ?_)))) | ((refine Ab 1 ?_; try (refine Zm rfl (Zv (BI U22 rfl) (Aa N5 ?_))))) | ((refine Ab 3 ?_; try ((refine BC U22 inf5 rfl rfl (fun bb_ hb_ => ?_)) <;> try (refine Zm rfl ?_; try ((refine wo_appendK (n := 0) (sz := 1) (base := some bb_) (xs := []) (rst := []) (new := cells) rfl rfl U22 U22 rfl inf5 rfl Y22 rfl rfl Y26 Y26 ⟨.head _, .head _ _⟩ (fun i h => (hkn i h).cons) hl hok (by show (2 * (_ + n) + 192) * 1 ≤ _; omega) Y9 Y9 rfl rfl (fun b' cap' rst' hc_ hn_ => ?_)) <;> try (refine Za rfl (Aa N5 ?_))))))))
     exact ⟨[⟨b', true, .cells (cells ++ rst').toArray 5 (0, 0)⟩], ⟨some ⟨b', 0, none⟩, cap', by rw [Nat.zero_add]; rfl, by omega, .inr ⟨b', rst', rfl, rfl⟩⟩, hi_⟩
theorem BX {cells : List Value} {n : Nat} {v : Value} (hs : SlK S w0 F cells n v) (hl : cells.length = n * 1) (hok : ∀ v ∈ cells, okCell v = true) (hroom : n ≤ 65535) :
 SLF Tryz.prog S w0 F 59 [v] [] (Cloned cells n 9) := by
 refine AA fun w hi => ?_
 simp only [List.nil_append] at hi
 obtain ⟨a, cap, rfl, hc, hk⟩ := hs
 refine Ai Tryz.func59 rfl rfl (hi) ?_
 cases a with
 | none =>
   have hn : n = 0 := by
    rcases hk with h | ⟨b, off, h, _⟩
    · subst h; simp at hl; omega
    · cases h
   subst hn
   repeat' (first | (refine Ah rfl ?_) | (refine Ak rfl ?_) | (refine Al ?_) | (refine Am ?_) | (refine A1 rfl ?_) | (refine AL Tryz.func59 rfl (fun w_ hi_ => ?_)) | ((refine Ab 0 ?_; try (refine Za rfl (Aa N5 ?_)))) | ((refine Ab 1 ?_; try (refine Zm rfl (Zv (BI U23 rfl) (Aa N5 ?_))))) | ((refine Ab 2 ?_; try (refine Za rfl (Aa N5 ?_)))))
   exact ⟨[], ⟨none, 0, rfl, Nat.le_refl _, .inl ⟨rfl, rfl⟩⟩, hi_⟩
 | some ad =>
   by_cases hn : n = 0
   · subst hn
     repeat' (first | (refine Ah rfl ?_) | (refine Ak rfl ?_) | (refine Al ?_) | (refine Am ?_) | (refine Az rfl ?_) | (refine AE ?_) | (refine AL Tryz.func59 rfl (fun w_ hi_ => ?_)) | ((refine Ab 0 ?_; try (refine Za rfl (Aa N5 ?_)))) | ((refine Ab 1 ?_; try (refine Zm rfl (Zv (BI U23 rfl) (Aa N5 ?_))))) | ((refine Ab 3 ?_; try ((refine BC U23 inf9 rfl rfl (fun bb_ hb_ => ?_)) <;> try (refine Zm rfl (Zv (ov_append0 rfl rfl U23 U23 rfl inf9 (Nat.le_refl _)) (Za rfl (Aa N5 ?_))))))))
     exact ⟨[], ⟨some ⟨bb_, 0, none⟩, 0, rfl, Nat.le_refl _, .inl ⟨rfl, rfl⟩⟩, hi_.subset (List.sublist_cons_self _ _)⟩
   · have hne : cells ≠ [] := by rintro rfl; simp at hl; omega
     obtain ⟨b, off, hb, hkn⟩ := hk.resolve_left hne
     cases hb
     repeat' (first | (refine Ah rfl ?_) | (refine Ak rfl ?_) | (refine Al ?_) | (refine Am ?_) | (refine Az rfl ?_) | (refine AE ?_) | (refine AL Tryz.func59 rfl (fun w_ hi_ => ?_)) | ((refine Ab 0 ?_; try (refine Za rfl (Aa N5 ?_)))) | ((refine Ab 1 ?_; try (refine Zm rfl (Zv (BI U23 rfl) (Aa N5 ?_))))) | ((refine Ab 3 ?_; try ((refine BC U23 inf9 rfl rfl (fun bb_ hb_ => ?_)) <;> try (refine Zm rfl ?_; try ((refine wo_appendK (n := 0) (sz := 1) (base := some bb_) (xs := []) (rst := []) (new := cells) rfl rfl U23 U23 rfl inf9 rfl Y22 rfl rfl Y26 Y26 ⟨.head _, .head _ _⟩ (fun i h => (hkn i h).cons) hl hok (by show (2 * (_ + n) + 192) * 16 ≤ _; omega) Y9 Y9 rfl rfl (fun b' cap' rst' hc_ hn_ => ?_)) <;> try (refine Za rfl (Aa N5 ?_))))))))
     exact ⟨[⟨b', true, .cells (cells ++ rst').toArray 9 (0, 0)⟩], ⟨some ⟨b', 0, none⟩, cap', by rw [Nat.zero_add]; rfl, by omega, .inr ⟨b', rst', rfl, rfl⟩⟩, hi_⟩
theorem BY {cells : List Value} {n : Nat} {v : Value} (hs : SlK S w0 F cells n v) (hl : cells.length = n * 10) (hok : ∀ v ∈ cells, okCell v = true) (hroom : n ≤ 65535) :
 SLF Tryz.prog S w0 F 60 [v] [] (Cloned cells n 70) := by
 refine AA fun w hi => ?_
 simp only [List.nil_append] at hi
 obtain ⟨a, cap, rfl, hc, hk⟩ := hs
 refine Ai Tryz.func60 rfl rfl (hi) ?_
 cases a with
 | none =>
   have hn : n = 0 := by
    rcases hk with h | ⟨b, off, h, _⟩
    · subst h; simp at hl; omega
    · cases h
   subst hn
   repeat' (first | (refine Ah rfl ?_) | (refine Ak rfl ?_) | (refine Al ?_) | (refine Am ?_) | (refine A1 rfl ?_) | (refine AL Tryz.func60 rfl (fun w_ hi_ => ?_)) | ((refine Ab 0 ?_; try (refine Za rfl (Aa N5 ?_)))) | ((refine Ab 1 ?_; try (refine Zm rfl (Zv (BI U24 rfl) (Aa N5 ?_))))) | ((refine Ab 2 ?_; try (refine Za rfl (Aa N5 ?_)))))
   exact ⟨[], ⟨none, 0, rfl, Nat.le_refl _, .inl ⟨rfl, rfl⟩⟩, hi_⟩
 | some ad =>
   by_cases hn : n = 0
   · subst hn
     repeat' (first | (refine Ah rfl ?_) | (refine Ak rfl ?_) | (refine Al ?_) | (refine Am ?_) | (refine Az rfl ?_) | (refine AE ?_) | (refine AL Tryz.func60 rfl (fun w_ hi_ => ?_)) | ((refine Ab 0 ?_; try (refine Za rfl (Aa N5 ?_)))) | ((refine Ab 1 ?_; try (refine Zm rfl (Zv (BI U24 rfl) (Aa N5 ?_))))) | ((refine Ab 3 ?_; try ((refine BC U24 inf70 rfl rfl (fun bb_ hb_ => ?_)) <;> try (refine Zm rfl (Zv (ov_append0 rfl rfl U24 U24 rfl inf70 (Nat.le_refl _)) (Za rfl (Aa N5 ?_))))))))
     exact ⟨[], ⟨some ⟨bb_, 0, none⟩, 0, rfl, Nat.le_refl _, .inl ⟨rfl, rfl⟩⟩, hi_.subset (List.sublist_cons_self _ _)⟩
   · have hne : cells ≠ [] := by rintro rfl; simp at hl; omega
     obtain ⟨b, off, hb, hkn⟩ := hk.resolve_left hne
     cases hb
     repeat' (first | (refine Ah rfl ?_) | (refine Ak rfl ?_) | (refine Al ?_) | (refine Am ?_) | (refine Az rfl ?_) | (refine AE ?_) | (refine AL Tryz.func60 rfl (fun w_ hi_ => ?_)) | ((refine Ab 0 ?_; try (refine Za rfl (Aa N5 ?_)))) | ((refine Ab 1 ?_; try (refine Zm rfl (Zv (BI U24 rfl) (Aa N5 ?_))))) | ((refine Ab 3 ?_; try ((refine BC U24 inf70 rfl rfl (fun bb_ hb_ => ?_)) <;> try (refine Zm rfl ?_; try ((refine wo_appendK (n := 0) (sz := 10) (base := some bb_) (xs := []) (rst := []) (new := cells) rfl rfl U24 U24 rfl inf70 rfl Y22 rfl rfl Y26 Y26 ⟨.head _, .head _ _⟩ (fun i h => (hkn i h).cons) hl hok (by show (2 * (_ + n) + 192) * 136 ≤ _; omega) Y9 Y9 rfl rfl (fun b' cap' rst' hc_ hn_ => ?_)) <;> try (refine Za rfl (Aa N5 ?_))))))))
     exact ⟨[⟨b', true, .cells (cells ++ rst').toArray 70 (0, 0)⟩], ⟨some ⟨b', 0, none⟩, cap', by rw [Nat.zero_add]; rfl, by omega, .inr ⟨b', rst', rfl, rfl⟩⟩, hi_⟩
theorem clone_ins {cells : List Value} {n : Nat} {v : Value} (hs : SlK S w0 F cells n v) (hl : cells.length = n * 8) (hok : ∀ v ∈ cells, okCell v = true) (hroom : n ≤ 65535) :
 SLF Tryz.prog S w0 F 61 [v] [] (Cloned cells n 73) := by
 refine AA fun w hi => ?_
 simp only [List.nil_append] at hi
 obtain ⟨a, cap, rfl, hc, hk⟩ := hs
 refine Ai Tryz.func61 rfl rfl (hi) ?_
 cases a with
 | none =>
   have hn : n = 0 := by
    rcases hk with h | ⟨b, off, h, _⟩
    · subst h; simp at hl; omega
    · cases h
   subst hn
   repeat' (first | (refine Ah rfl ?_) | (refine Ak rfl ?_) | (refine Al ?_) | (refine Am ?_) | (refine A1 rfl ?_) | (refine AL Tryz.func61 rfl (fun w_ hi_ => ?_)) | ((refine Ab 0 ?_; try (refine Za rfl (Aa N5 ?_)))) | ((refine Ab 1 ?_; try (refine Zm rfl (Zv (BI U65 rfl) (Aa N5 ?_))))) | ((refine Ab 2 ?_; try (refine Za rfl (Aa N5 ?_)))))
   exact ⟨[], ⟨none, 0, rfl, Nat.le_refl _, .inl ⟨rfl, rfl⟩⟩, hi_⟩
 | some ad =>
   by_cases hn : n = 0
   · subst hn
     repeat' (first | (refine Ah rfl ?_) | (refine Ak rfl ?_) | (refine Al ?_) | (refine Am ?_) | (refine Az rfl ?_) | (refine AE ?_) | (refine AL Tryz.func61 rfl (fun w_ hi_ => ?_)) | ((refine Ab 0 ?_; try (refine Za rfl (Aa N5 ?_)))) | ((refine Ab 1 ?_; try (refine Zm rfl (Zv (BI U65 rfl) (Aa N5 ?_))))) | ((refine Ab 3 ?_; try ((refine BC U65 inf73 rfl rfl (fun bb_ hb_ => ?_)) <;> try (refine Zm rfl (Zv (ov_append0 rfl rfl U65 U65 rfl inf73 (Nat.le_refl _)) (Za rfl (Aa N5 ?_))))))))
     exact ⟨[], ⟨some ⟨bb_, 0, none⟩, 0, rfl, Nat.le_refl _, .inl ⟨rfl, rfl⟩⟩, hi_.subset (List.sublist_cons_self _ _)⟩
   · have hne : cells ≠ [] := by rintro rfl; simp at hl; omega
     obtain ⟨b, off, hb, hkn⟩ := hk.resolve_left hne
     cases hb
     repeat' (first | (refine Ah rfl ?_) | (refine Ak rfl ?_) | (refine Al ?_) | (refine Am ?_) | (refine Az rfl ?_) | (refine AE ?_) | (refine AL Tryz.func61 rfl (fun w_ hi_ => ?_)) | ((refine Ab 0 ?_; try (refine Za rfl (Aa N5 ?_)))) | ((refine Ab 1 ?_; try (refine Zm rfl (Zv (BI U65 rfl) (Aa N5 ?_))))) | ((refine Ab 3 ?_; try ((refine BC U65 inf73 rfl rfl (fun bb_ hb_ => ?_)) <;> try (refine Zm rfl ?_; try ((refine wo_appendK (n := 0) (sz := 8) (base := some bb_) (xs := []) (rst := []) (new := cells) rfl rfl U65 U65 rfl inf73 rfl Y22 rfl rfl Y26 Y26 ⟨.head _, .head _ _⟩ (fun i h => (hkn i h).cons) hl hok (by show (2 * (_ + n) + 192) * 88 ≤ _; omega) Y9 Y9 rfl rfl (fun b' cap' rst' hc_ hn_ => ?_)) <;> try (refine Za rfl (Aa N5 ?_))))))))
     exact ⟨[⟨b', true, .cells (cells ++ rst').toArray 73 (0, 0)⟩], ⟨some ⟨b', 0, none⟩, cap', by rw [Nat.zero_add]; rfl, by omega, .inr ⟨b', rst', rfl, rfl⟩⟩, hi_⟩
end
end Go.Sl
namespace Go.Sl
open Go Go.RowKit Go.Shelf Go.Proofs
attribute [local irreducible] Calls
theorem w_cutG {C : Cx} {S : Nat → Prop} {w0 : World} {k : List Item} {D : List Deferred} {E : List (Nat × Value)} {H : List Ent} {c : Code} {β : Type} (EJ : β → List (Nat × Value)) (HJ : β → List Ent) (rest : ∀ q, WF C S w0 k D (EJ q) (HJ q)) (body : ∀ k', (∀ q, WF C S w0 k' D (EJ q) (HJ q)) → WF C S w0 (.code c :: k') D E H) : WF C S w0 (.code c :: k) D E H := body k rest
theorem perm_three {a : Ent} {R X1 X2 Z Z' : List Ent} (h : Z.Perm Z') : (Z ++ (X2 ++ (X1 ++ (a :: R)))).Perm (a :: (X1 ++ (X2 ++ (Z' ++ R)))) := by
 have h1 : (Z ++ (X2 ++ (X1 ++ (a :: R)))) = (Z ++ X2 ++ X1) ++ a :: R := by simp
 have h2 : (Z ++ X2 ++ X1).Perm (X1 ++ (X2 ++ Z')) := List.perm_append_comm.trans (List.Perm.append_left X1 (List.perm_append_comm.trans (List.Perm.append_left X2 h)))
 rw [h1]
 refine List.perm_middle.trans (List.Perm.cons _ ?_)
 have := h2.append_right R
 simpa only [List.append_assoc] using this
def FlowK (S : Nat → Prop) (w0 : World) (F : List Ent) (x : FlowM) (v : Value) : Prop :=
 ∃ rv sv bv, v = .agg (flowC x rv sv bv) ∧ SlK S w0 F (regV x.regs) x.regs.length rv ∧ SlK S w0 F (strsV x.raises) x.raises.length sv ∧ BlksLK S w0 F x.blks bv
theorem FlowK.up {S : Nat → Prop} {w0 : World} {F F' : List Ent} {x : FlowM} {v : Value} (h : FlowK S w0 F x v) (hu : ∀ e ∈ F, e ∈ F') : FlowK S w0 F' x v := by
 obtain ⟨rv, sv, bv, h0, h1, h2, h3⟩ := h
 exact ⟨rv, sv, bv, h0, h1.up hu, h2.up hu, h3.up hu⟩
structure BlkR (b : BlkM) : Prop where
 ops : ∀ i ∈ b.ins, 0 ≤ i.op ∧ i.op ≤ 255
 len : b.ins.length ≤ 65535 ∧ b.en.args.length ≤ 65535 ∧ b.en.ws.length ≤ 65535
 kd : 0 ≤ b.en.kd ∧ b.en.kd ≤ 255
structure FlowR (x : FlowM) : Prop where
 res : 0 ≤ x.res ∧ x.res ≤ 255
 regs : ∀ r ∈ x.regs, 0 ≤ r ∧ r ≤ 255
 len : x.regs.length ≤ 65535 ∧ x.raises.length ≤ 65535 ∧ x.blks.length ≤ 65535
 blks : ∀ b ∈ x.blks, BlkR b
def ClonedV (cells : List Value) (n : Nat) (el : TypeId) (v : Value) (post : List Ent) : Prop :=
 ∃ a cap, v = .slice a n cap ∧ n ≤ cap ∧ ((n = 0 ∧ post = []) ∨ ∃ bb rst, a = some ⟨bb, 0, none⟩ ∧ post = [⟨bb, true, .cells (cells ++ rst).toArray el (0, 0)⟩])
section
variable {S : Nat → Prop} {w0 : World} {F : List Ent}
theorem SLF.cl {P : Program} {f : FuncId} {vs : List Value} {pre : List Ent} {cells : List Value} {n : Nat} {el : TypeId} (h : SLF P S w0 F f vs pre (Cloned cells n el)) : SLF P S w0 F f vs pre fun e post => ∃ v, e = .returned v ∧ ClonedV cells n el v post :=
 h.mono fun e post ⟨a, cap, h1, h2⟩ => ⟨_, h1, a, cap, rfl, h2⟩
theorem Cz (l : List Int) : (regV l).length = l.length * 1 := by simp [regV]
theorem By (l : List Bs) : (strsV l).length = l.length * 1 := by simp [strsV]
theorem regV_ok (l : List Int) : ∀ v ∈ regV l, okCell v = true := by simp [regV, okCell]
theorem Cl (l : List Bs) : ∀ v ∈ strsV l, okCell v = true := by simp [strsV, okCell]
theorem SlK.okv {cells : List Value} {n : Nat} {v : Value} (h : SlK S w0 F cells n v) : okCell v = true := by
 obtain ⟨a, cap, rfl, _⟩ := h; rfl
theorem insP_ok {G : List Ent} {ps : List (InsM × Value)} (h : ∀ p ∈ ps, ArgsK S w0 G p.1.args p.2) : ∀ v ∈ rowV insP ps, okCell v = true := by
 intro v hv
 obtain ⟨p, hp, hv⟩ := List.mem_flatMap.1 hv
 have := SlK.okv (h p hp)
 simp only [insP, insC, List.mem_cons, List.not_mem_nil, or_false] at hv
 rcases hv with rfl | rfl | rfl | rfl | rfl | rfl | rfl | rfl <;> first | rfl | assumption
theorem CI {G : List Ent} {ps : List PB} (h : ∀ p ∈ ps, PBkn S w0 G p) : ∀ v ∈ rowV pbC ps, okCell v = true := by
 intro v hv
 obtain ⟨p, hp, hv⟩ := List.mem_flatMap.1 hv
 obtain ⟨⟨_, _, h1, _⟩, h2, h3⟩ := h p hp
 have h1 := h1.okv
 have h2 := SlK.okv h2
 have h3 := SlK.okv h3
 simp only [pbC, endC, List.mem_cons, List.not_mem_nil, or_false] at hv
 rcases hv with rfl | rfl | rfl | rfl | rfl | rfl | rfl | rfl | rfl | rfl <;> first | rfl | assumption
theorem ownT_of {σ : Type} {cd : Cod S w0 σ} {α : Type} {V : List α → List Value} {ok : α → Prop} {el : TypeId} {l : List α} {a : Option Addr} {c : Nat} {X L' : List Ent} {s' : σ} (hs : cd.St s' L') (h : ClonedV (V l) l.length el (.slice a l.length c) X) (hok : ∀ x ∈ l, ok x) : OwnT cd V ok el (.slice a l.length c) [] l s' (L' ++ X) := by
 obtain ⟨_, _, e, hc, h⟩ := h
 cases e
 rcases h with ⟨hn, rfl⟩ | ⟨bb, rst, rfl, rfl⟩
 · have : l = [] := List.length_eq_zero_iff.1 hn
   subst this
   exact ⟨L', hs, .inl ⟨rfl, rfl, by simp, a, c, rfl⟩⟩
 · exact ⟨L', hs, .inr ⟨bb, c, rst, rfl, by simp, by simpa using hc, hok⟩⟩
end
end Go.Sl
namespace Go.Sl
open Go Go.RowKit Go.Shelf Go.Proofs
attribute [local irreducible] Calls
structure Cl3 (x : FlowM) (ps : List PB) where
 a1 : Option Addr
 c1 : Nat
 a2 : Option Addr
 c2 : Nat
 a3 : Option Addr
 c3 : Nat
 X1 : List Ent
 X2 : List Ent
 X3 : List Ent
 h1 : ClonedV (regV x.regs) x.regs.length 5 (.slice a1 x.regs.length c1) X1
 h2 : ClonedV (strsV x.raises) x.raises.length 9 (.slice a2 x.raises.length c2) X2
 h3 : ClonedV (rowV pbC ps) x.blks.length 70 (.slice a3 x.blks.length c3) X3
section
variable {S : Nat → Prop} {w0 : World} {F : List Ent}
theorem pbok_new {wb : Nat} {p : PB} {is : List (InsM × Value)} {X4 : List Ent} {a4 : Option Addr} {c4 : Nat} (hp : PBkn S w0 F p) (hR : BlkR p.blk) (i1 : is.map Prod.fst = p.blk.ins) (i3 : ∀ p ∈ is, ArgsK S w0 F p.1.args p.2)
 (hx : ClonedV (rowV insP is) p.blk.ins.length 73 (.slice a4 p.blk.ins.length c4) X4) : PBok (wCod S w0 wb) F { p with iv := .slice a4 p.blk.ins.length c4, row := X4 } := by
 refine ⟨⟨a4, c4, rfl⟩, fun s' L' hs' => ?_, hp.args, hp.whens, .inl (wCod_keep _ _ _), hR.len, hR.kd⟩
 obtain ⟨_, _, e, hc, h⟩ := hx
 cases e
 rcases h with ⟨hn, rfl⟩ | ⟨bb, rst, rfl, rfl⟩
 · have hn : p.blk.ins = [] := List.length_eq_zero_iff.1 hn
   exact ⟨L', [], hs', .inl ⟨rfl, hn, by simp, rfl, a4, c4, by rw [hn]; rfl, Nat.zero_le _⟩⟩
 · refine ⟨L', [], hs', .inr ⟨bb, c4, rst, [], is, by simp, by simp, by simpa using hc, rfl, i1, by simp, fun q hq => ⟨i3 q hq, hR.ops _ (by rw [← i1]; exact List.mem_map_of_mem hq), .inl (wCod_keep _ _ _)⟩⟩⟩
theorem written_c {x : FlowM} {v : Value} {s1 : WS} {x1 : FlowM} (hK : FlowK S w0 F x v) (hR : FlowR x) (hC : codeFlow wKd x ws0 = .ok (x1, s1)) :
 SLF Tryz.prog S w0 F 38 [v] [] (fun e post => ∃ wb, e = .returned (pv wb 0) ∧ wSt wb s1 post) := by
 refine AA fun w hi => ?_
 simp only [List.nil_append] at hi
 obtain ⟨rv, sv, bv, rfl, hk1, hk2, ⟨ps, hps, hk3, hk4⟩⟩ := hK
 refine Ai Tryz.func38 rfl rfl (hi) ?_
 repeat' (first | (refine Ah rfl ?_) | (refine Al ?_) | (refine Am ?_) | ((refine Ab 0 ?_; try (refine AF rfl rfl rfl rfl (fun bt hbt => ?_); try (refine Za rfl (Aa N9 ?_))))))
 repeat' (first | (refine Ah rfl ?_) | (refine Ak rfl ?_) | (refine Al ?_) | ((refine Ab 1 ?_; try (refine Zv (Cq pl83 inf83 rfl) ?_; try (refine AF rfl rfl rfl rfl (fun wb hwb => ?_); try (refine Za rfl (Aa N9 ?_)))))))
 have n1 := hR.len.1
 have n2 := hR.len.2.1
 have n3 := hR.len.2.2
 have n4 : ps.length = x.blks.length := by rw [← hps]; simp
 refine Am ?_
 refine w_cutK (β := Cl3 x ps) (fun _ => [(3, pv wb 0), (0, .agg (flowC x rv sv bv)), (1, pv bt 0), (2, .pointer none)]) (fun q => q.X3 ++ (q.X2 ++ (q.X1 ++ (WBE wb (.slice none 0 0) (.slice none 0 0) (.slice none 0 0) :: ⟨bt, true, .cells (flowC x (.slice q.a1 x.regs.length q.c1) (.slice q.a2 x.raises.length q.c2) (.slice q.a3 x.blks.length q.c3)) 26 (0, 0)⟩ :: F)))) ?_ ?_
 · rintro ⟨a1, c1, a2, c2, a3, c3, X1, X2, X3, h1, h2, h3⟩
   obtain ⟨_, _, e3, hc3, h3⟩ := h3
   cases e3
   dsimp only
   refine Am ?_
   refine w_cutG (β := {Lb : List Ent // ∀ s' L', (wCod S w0 wb).St s' L' → BlkT (wCod S w0 wb) F (.slice a3 x.blks.length c3) [] x.blks s' (L' ++ Lb)}) (fun _ => [(3, pv wb 0), (1, pv bt 0), (2, .pointer none)]) (fun q => WBE wb (.slice none 0 0) (.slice none 0 0) (.slice none 0 0) :: (X1 ++ (X2 ++ (q.1 ++ (⟨bt, true, .cells (flowC x (.slice a1 x.regs.length c1) (.slice a2 x.raises.length c2) (.slice a3 x.blks.length c3)) 26 (0, 0)⟩ :: F))))) ?_ ?_
   · rintro ⟨Lb, hLb⟩
     dsimp only
     have hws : (wCod S w0 wb).St ws0 [WBE wb (.slice none 0 0) (.slice none 0 0) (.slice none 0 0)] := ⟨none, 0, [], none, 0, [], none, 0, [], ⟨rfl, rfl, fun _ => rfl⟩, ⟨rfl, rfl, fun _ => rfl⟩, ⟨rfl, rfl, fun _ => rfl⟩, rfl⟩
     have hfl : ∀ mp mq, SLF Tryz.prog S w0 (⟨mp, true, mapBO partTab⟩ :: ⟨mq, true, mapBO pieceTab⟩ :: F) 63 [.agg #[.iface 78 (pv wb 0), .map (some mp), .map (some mq)], pv bt 0] ([WBE wb (.slice none 0 0) (.slice none 0 0) (.slice none 0 0)] ++ (X1 ++ (X2 ++ (Lb ++ [⟨bt, true, .cells (flowC x (.slice a1 x.regs.length c1) (.slice a2 x.raises.length c2) (.slice a3 x.blks.length c3)) 26 (0, 0)⟩])))) fun e post => ∃ v, e = .returned v ∧ v = unitV ∧ ∃ L' X, wSt wb s1 L' ∧ post = L' ++ X := by
      intro mp mq
      refine (flow_c (wCod S w0 wb) (F := ⟨mp, true, mapBO partTab⟩ :: ⟨mq, true, mapBO pieceTab⟩ :: F) (G := F) trivial hws (fun e h => .tail _ (.tail _ h)) (.head _) (.tail _ (.head _)) rfl ?_ rfl ?_ rfl hLb (.inl (wCod_keep _ _ _)) (wCod_small _ _ _) hR.len hR.res ?_).mono ?_
      · exact fun s' L' hs' => ownT_of hs' h1 hR.regs
      · exact fun s' L' hs' => ownT_of hs' h2 (fun _ _ => trivial)
      · rw [show (wCod S w0 wb).κ = wKd from rfl, hC]; simp
      · intro e post hm
        rw [show (wCod S w0 wb).κ = wKd from rfl, hC] at hm
        obtain ⟨v, rfl, rfl, L', X, rv', sv', bv', hL, rfl, _⟩ := hm
        exact ⟨_, rfl, rfl, L', _, hL, rfl⟩
     have hTk : ∀ (e1 e2 : Ent), Take (e1 :: e2 :: (WBE wb (.slice none 0 0) (.slice none 0 0) (.slice none 0 0) :: (X1 ++ (X2 ++ (Lb ++ (⟨bt, true, .cells (flowC x (.slice a1 x.regs.length c1) (.slice a2 x.raises.length c2) (.slice a3 x.blks.length c3)) 26 (0, 0)⟩ :: F)))))) ([WBE wb (.slice none 0 0) (.slice none 0 0) (.slice none 0 0)] ++ (X1 ++ (X2 ++ (Lb ++ [⟨bt, true, .cells (flowC x (.slice a1 x.regs.length c1) (.slice a2 x.raises.length c2) (.slice a3 x.blks.length c3)) 26 (0, 0)⟩])))) (e1 :: e2 :: F) := fun e1 e2 => by
      have := Take.tail e1 (Take.tail e2 (Take.mid ([WBE wb (.slice none 0 0) (.slice none 0 0) (.slice none 0 0)] ++ (X1 ++ (X2 ++ (Lb ++ [⟨bt, true, .cells (flowC x (.slice a1 x.regs.length c1) (.slice a2 x.raises.length c2) (.slice a3 x.blks.length c3)) 26 (0, 0)⟩])))) F))
      simpa only [List.append_assoc, List.cons_append, List.nil_append] using this
     repeat' (first | (refine Ah rfl ?_) | (refine Ak rfl ?_) | (refine Al ?_) | (refine Am ?_) | (refine AL Tryz.func38 rfl (fun w_ hi_ => ?_)) | ((refine Ab 8 ?_; try (refine Zm rfl (Zv (C5 U78 rfl rfl) ?_); try ((refine AT (pre := []) (Take.nil _) (CallR.val rfl en62) rfl rfl with_c ?_; rintro v post ⟨mp, mq, rfl, rfl⟩) <;> try ((refine AT (hTk _ _) (CallR.val rfl en63) rfl rfl (hfl mp mq) ?_; rintro v post ⟨rfl, L', X, hL', rfl⟩) <;> try ((refine Aa N9 ?_))))))) | ((refine Ab 9 ?_; try (refine Zm rfl (Za rfl (Aa N9 ?_))))))
     refine ⟨L', ⟨wb, rfl, hL'⟩, hi_.subset ?_⟩
     rw [List.append_assoc]
     exact List.Sublist.append (List.Sublist.refl _) (List.sublist_append_of_sublist_right (List.Sublist.cons _ (List.Sublist.cons _ (List.Sublist.refl _))))
   intro k' rest2
   rcases h3 with ⟨hn, rfl⟩ | ⟨bb, rst, rfl, rfl⟩
   · have hx : x.blks = [] := List.length_eq_zero_iff.1 hn
     rw [hn] at rest2 ⊢
     simp only [List.nil_append]
     repeat' (first | (refine Ah rfl ?_) | (refine Ak rfl ?_) | (refine Al ?_) | (refine Am ?_) | (refine A5 ?_) | ((refine Ab 3 ?_; try (refine Zf BJ rfl (Zv (Ac U24 rfl rfl Y0 Y5) ?_); try (refine Zv (As rfl U24 rfl) (Zm rfl (Aa N9 ?_)))))))
     refine A0 (E' := (fun q : Unit => [(3, pv wb 0), (1, pv bt 0), (2, .pointer none), (21, .int .i64 0), (22, .int .i64 0)]) ()) Y14 ?_
     refine Bf (fun q : Unit => True) (fun q => 0) (fun q : Unit => [(3, pv wb 0), (1, pv bt 0), (2, .pointer none), (21, .int .i64 0), (22, .int .i64 0)]) (fun q => X2 ++ (X1 ++ (WBE wb (.slice none 0 0) (.slice none 0 0) (.slice none 0 0) :: ⟨bt, true, .cells (flowC x (.slice a1 x.regs.length c1) (.slice a2 x.raises.length c2) (.slice a3 0 c3)) 26 (0, 0)⟩ :: F))) ?_ () trivial
     rintro _ _ ih
     try dsimp only
     repeat' (first | (refine Ah rfl ?_) | (refine Al ?_) | (refine Am ?_) | (refine Az rfl ?_) | (refine Bp rfl ?_) | ((refine Ab 4 ?_; try (refine Zv (A8 rfl rfl Y2) ?_; try ((refine Aa N9 ?_))))))
     have r := rest2 ⟨[], fun s' L' hs' => ⟨L', [], hs', .inl ⟨rfl, hx, by simp, rfl, a3, c3, rfl⟩⟩⟩
     exact A0 Y10 (w_perm (perm_three (Z := []) (Z' := []) (List.Perm.refl _)) r)
   · have hn0 : (0 : Nat) + 0 = 0 := rfl
     repeat' (first | (refine Ah rfl ?_) | (refine Ak rfl ?_) | (refine Al ?_) | (refine Am ?_) | (refine A5 ?_) | ((refine Ab 3 ?_; try (refine Zf BJ rfl (Zv (Ac U24 rfl rfl Y0 Y5) ?_); try (refine Zv (As rfl U24 rfl) (Zm rfl (Aa N9 ?_)))))))
     refine A0 (E' := (fun q : Nat × List PB × List PB × List Ent => [(3, pv wb 0), (1, pv bt 0), (2, .pointer none), (21, .int .i64 (x.blks.length : Int)), (22, .int .i64 (q.1 : Int))]) (0, [], ps, [])) Y14 ?_
     refine Bf (fun q : Nat × List PB × List PB × List Ent => q.2.1.length = q.1 ∧ (q.2.1 ++ q.2.2.1).map PB.blk = x.blks ∧ (∀ p ∈ q.2.1, PBok (wCod S w0 wb) F p) ∧ (∀ p ∈ q.2.2.1, PBkn S w0 F p) ∧ q.2.2.2.Perm (q.2.1.flatMap PB.row)) (fun q => q.2.2.1.length) (fun q : Nat × List PB × List PB × List Ent => [(3, pv wb 0), (1, pv bt 0), (2, .pointer none), (21, .int .i64 (x.blks.length : Int)), (22, .int .i64 (q.1 : Int))]) (fun q => ⟨bb, true, .cells (rowV pbC (q.2.1 ++ q.2.2.1) ++ rst).toArray 70 (0, 0)⟩ :: (q.2.2.2 ++ (X2 ++ (X1 ++ (WBE wb (.slice none 0 0) (.slice none 0 0) (.slice none 0 0) :: ⟨bt, true, .cells (flowC x (.slice a1 x.regs.length c1) (.slice a2 x.raises.length c2) (.slice (some ⟨bb, 0, none⟩) x.blks.length c3)) 26 (0, 0)⟩ :: F))))) ?_ (0, [], ps, []) ⟨rfl, by simpa using hps, by simp, hk4, List.Perm.refl _⟩
     rintro ⟨i, dp, rp, acc⟩ ⟨k1, k2, k3, k4, k5⟩ ih
     dsimp only at k1 k2 k3 k4 k5 ih ⊢
     have hlen : dp.length + rp.length = x.blks.length := by rw [← k2]; simp
     cases rp with
     | nil =>
       have hin : i = x.blks.length := by simp at hlen; omega
       simp only [List.append_nil] at k2 ⊢
       repeat' (first | (refine Ah rfl ?_) | (refine Al ?_) | (refine Am ?_) | (refine Az rfl ?_) | (refine Bp rfl ?_) | ((refine Ab 4 ?_; try (refine Zv (A8 rfl rfl Y2) ?_; try ((refine Aa N9 ?_))))))
       have r := rest2 ⟨⟨bb, true, .cells (rowV pbC ([] ++ dp) ++ rst).toArray 70 (0, 0)⟩ :: dp.flatMap PB.row, fun s' L' hs' => ⟨L', [], hs', .inr ⟨bb, c3, rst, [], dp, rfl, by simp, by simp; exact hc3, rfl, k2, by simp, k3⟩⟩⟩
       exact A0 Y10 (w_perm (perm_three (Z := _ :: acc) (Z' := _ :: dp.flatMap PB.row) (List.Perm.cons _ k5)) r)
     | cons p rp =>
       have hi : i < x.blks.length := by simp at hlen; omega
       repeat' (first | (refine Ah rfl ?_) | (refine Ak rfl ?_) | (refine Al ?_) | (refine Am ?_) | (refine A1 rfl ?_) | (refine A5 ?_) | (refine AE ?_) | ((refine Ab 4 ?_; try (refine Zv (A8 rfl rfl Y2) ?_; try ((refine Aa N9 ?_))))) | ((refine Ab 5 ?_; try (refine Zm rfl (Za rfl (Aa N9 ?_))))))
       have hrow : rowV pbC (dp ++ p :: rp) ++ rst = rowV pbC dp ++ (pbC p ++ (rowV pbC rp ++ rst)) := by simp [rowV]
       have hoff : 0 + ((i : Nat) : Int).toNat * 10 + 0 = (rowV pbC dp).length + 0 := by rw [Ba pbC BP, k1]; simp
       have hcell : (rowV pbC (dp ++ p :: rp) ++ rst).toArray[0 + ((i : Nat) : Int).toNat * 10 + 0]? = some p.iv := by rw [hrow, hoff]; exact B9 (by rw [BP]; omega) rfl
       have hBR := hR.blks p.blk (by rw [← k2]; simp)
       obtain ⟨is, i1, i2, i3⟩ := (k4 p (.head _)).ins
       have hil : is.length = p.blk.ins.length := by rw [← i1]; simp
       have hlt := (Array.getElem?_eq_some_iff.1 hcell).1
       repeat' (first | (refine Ah rfl ?_) | (refine Ak rfl ?_) | (refine Al ?_) | ((refine Cs (m := 13) 6 rfl mixed rfl ?_; try (refine Zt 0 rfl (fun _ => Ad BJ rfl) (Zt 2 rfl (fun _ => Aj rfl) (Zt 3 rfl (fun _ => Ad BJ rfl) (Zt 5 rfl (fun _ => Aj rfl) ?_))); try (refine A9 1 4 Y1 ?_ ?_ <;> (first | (show WI _ _ _ _ _ _ 1 _ _ _ _; try (refine An rfl (Ac U24 rfl rfl Y0 Y5) rfl rfl rfl ?_; try (refine Ae 4 Y1 ?_ <;> try (refine An rfl (Ac U24 rfl rfl Y0 Y5) rfl rfl rfl ?_; try (refine Zt 6 rfl (fun _ => Aq U24 sz70 rfl rfl Y9 Y9) ?_; try (refine Zt 7 rfl (fun _ => Ad fo70_0 rfl) (Ae 8 Y1 ?_) <;> try (refine An rfl (Ac U65 rfl rfl (.head _) hcell) rfl rfl rfl (Ae 9 Y1 ?_) <;> try ((refine AD (pre := []) rfl (Take.nil _) (CallR.val rfl en61) rfl rfl rfl (clone_ins (by repeat (first | exact i2 | apply SlK.cons | apply SlK.app)) (by rw [Ba insP insP_len, hil]) (insP_ok i3) hBR.len.1).cl ?_; rintro _ X4 ⟨a4, c4, rfl, hx4⟩) <;> try (refine Zt 10 rfl (fun _ => Aq U24 sz70 rfl rfl Y9 Y9) ?_; try (refine Zt 11 rfl (fun _ => Ad fo70_0 rfl) (Ae 12 Y1 ?_) <;> try (refine A3 rfl rfl rfl rfl sz65 Y3 hlt (.inr (Nat.zero_le _)) rfl rfl rfl ?_; try ((refine Ap N9 Y1 ?_))))))))))))) | (show WI _ _ _ _ _ _ 4 _ _ _ _; try (refine An rfl (Ac U24 rfl rfl Y0 Y5) rfl rfl rfl ?_; try (refine Zt 6 rfl (fun _ => Aq U24 sz70 rfl rfl Y9 Y9) ?_; try (refine Zt 7 rfl (fun _ => Ad fo70_0 rfl) ?_; try (refine A9 1 8 Y1 ?_ ?_ <;> (first | (show WI _ _ _ _ _ _ 1 _ _ _ _; try (refine An rfl (Ac U24 rfl rfl Y0 Y5) rfl rfl rfl ?_; try (refine Ae 8 Y1 ?_ <;> try (refine An rfl (Ac U65 rfl rfl (.head _) hcell) rfl rfl rfl (Ae 9 Y1 ?_) <;> try ((refine AD (pre := []) rfl (Take.nil _) (CallR.val rfl en61) rfl rfl rfl (clone_ins (by repeat (first | exact i2 | apply SlK.cons | apply SlK.app)) (by rw [Ba insP insP_len, hil]) (insP_ok i3) hBR.len.1).cl ?_; rintro _ X4 ⟨a4, c4, rfl, hx4⟩) <;> try (refine Zt 10 rfl (fun _ => Aq U24 sz70 rfl rfl Y9 Y9) ?_; try (refine Zt 11 rfl (fun _ => Ad fo70_0 rfl) (Ae 12 Y1 ?_) <;> try (refine A3 rfl rfl rfl rfl sz65 Y3 hlt (.inr (Nat.zero_le _)) rfl rfl rfl ?_; try ((refine Ap N9 Y1 ?_)))))))))) | (show WI _ _ _ _ _ _ 8 _ _ _ _; try (refine An rfl (Ac U65 rfl rfl (.head _) hcell) rfl rfl rfl ?_; try (refine A9 1 9 Y1 ?_ ?_ <;> (first | (show WI _ _ _ _ _ _ 1 _ _ _ _; try (refine An rfl (Ac U24 rfl rfl Y0 Y5) rfl rfl rfl ?_; try (refine Ae 9 Y1 ?_ <;> try ((refine AD (pre := []) rfl (Take.nil _) (CallR.val rfl en61) rfl rfl rfl (clone_ins (by repeat (first | exact i2 | apply SlK.cons | apply SlK.app)) (by rw [Ba insP insP_len, hil]) (insP_ok i3) hBR.len.1).cl ?_; rintro _ X4 ⟨a4, c4, rfl, hx4⟩) <;> try (refine Zt 10 rfl (fun _ => Aq U24 sz70 rfl rfl Y9 Y9) ?_; try (refine Zt 11 rfl (fun _ => Ad fo70_0 rfl) (Ae 12 Y1 ?_) <;> try (refine A3 rfl rfl rfl rfl sz65 Y3 hlt (.inr (Nat.zero_le _)) rfl rfl rfl ?_; try ((refine Ap N9 Y1 ?_))))))))) | (show WI _ _ _ _ _ _ 9 _ _ _ _; try ((refine AD (pre := []) rfl (Take.nil _) (CallR.val rfl en61) rfl rfl rfl (clone_ins (by repeat (first | exact i2 | apply SlK.cons | apply SlK.app)) (by rw [Ba insP insP_len, hil]) (insP_ok i3) hBR.len.1).cl ?_; rintro _ X4 ⟨a4, c4, rfl, hx4⟩) <;> try (refine Ae 1 Y1 ?_ <;> try (refine An rfl (Ac U24 rfl rfl Y0 Y5) rfl rfl rfl ?_; try (refine Zt 10 rfl (fun _ => Aq U24 sz70 rfl rfl Y9 Y9) ?_; try (refine Zt 11 rfl (fun _ => Ad fo70_0 rfl) (Ae 12 Y1 ?_) <;> try (refine A3 rfl rfl rfl rfl sz65 Y3 hlt (.inr (Nat.zero_le _)) rfl rfl rfl ?_; try ((refine Ap N9 Y1 ?_)))))))))))))))))))))))))
       all_goals
        have hset : ∀ v, (rowV pbC (dp ++ p :: rp) ++ rst).toArray.setIfInBounds (0 + ((i : Nat) : Int).toNat * 10 + 0) v = (rowV pbC ((dp ++ [{ p with iv := v, row := X4 }]) ++ rp) ++ rst).toArray := by
         intro v
         rw [hrow, hoff, BB (by rw [BP]; omega)]
         simp [rowV, pbC]
        rw [hset]
        have hnew : PBok (wCod S w0 wb) F { p with iv := .slice a4 p.blk.ins.length c4, row := X4 } := pbok_new (k4 p (.head _)) hBR i1 i3 ⟨_, _, rfl, hx4⟩
        generalize hp' : ({ blk := p.blk, iv := Value.slice a4 p.blk.ins.length c4, av := p.av, wv := p.wv, row := X4 } : PB) = p' at *
        have hblk : p'.blk = p.blk := by rw [← hp']
        have hrow' : p'.row = X4 := by rw [← hp']
        repeat' (first | (refine Ah rfl ?_) | (refine Ak rfl ?_) | (refine Al ?_) | (refine AH ?_) | ((refine Ab 7 ?_; try (refine Zv (AG rfl rfl Y9 Y9) ?_; try (refine Zm rfl (Aa N9 ?_))))))
        have r := ih (i + 1, dp ++ [p'], rp, X4 ++ acc) ⟨by simp [k1], by simp [hblk, ← k2], fun q hq => by (rcases List.mem_append.1 hq with hq | hq; exact k3 q hq; simp at hq; subst hq; exact hnew), fun q hq => k4 q (.tail _ hq), by rw [List.flatMap_append, List.flatMap_cons, List.flatMap_nil, List.append_nil, hrow']; exact List.perm_append_comm.trans (List.Perm.append_right _ k5)⟩ Y26
        refine A0 Y10 (w_perm ?_ r)
        dsimp only
        rw [List.append_assoc X4 acc]
        exact List.perm_middle
 intro rest
 repeat' (first | (refine Ah rfl ?_) | (refine Ak rfl ?_) | (refine Al ?_) | ((refine Cs (m := 15) 2 rfl mixed rfl ?_; try (refine Zt 0 rfl (fun _ => Ad Cc rfl) (Zt 3 rfl (fun _ => Ad Co rfl) (Zt 6 rfl (fun _ => Ad BJ rfl) ?_)); try (refine Cb 1 4 7 Y1 ?_ ?_ ?_ <;> (first | (show WI _ _ _ _ _ _ 1 _ _ _ _; try (refine An rfl (Ac U22 rfl rfl Y0 Y5) rfl rfl rfl ?_; try (refine Cb 2 4 7 Y1 ?_ ?_ ?_ <;> (first | (show WI _ _ _ _ _ _ 2 _ _ _ _; try ((refine AD (pre := []) rfl (Take.nil _) (CallR.val rfl en51) rfl rfl rfl (C6 (by repeat (first | exact hk1 | exact hk2 | exact hk3 | apply SlK.cons | apply SlK.app)) (Cz _) (regV_ok _) n1).cl ?_; rintro _ X1 ⟨a1, c1, rfl, hx1⟩) <;> try (refine A9 4 7 Y1 ?_ ?_ <;> (first | (show WI _ _ _ _ _ _ 4 _ _ _ _; try (refine An rfl (Ac U23 rfl rfl Y0 Y5) rfl rfl rfl ?_; try (refine A9 5 7 Y1 ?_ ?_ <;> (first | (show WI _ _ _ _ _ _ 5 _ _ _ _; try ((refine AD (pre := []) rfl (Take.nil _) (CallR.val rfl en59) rfl rfl rfl (BX (by repeat (first | exact hk1 | exact hk2 | exact hk3 | apply SlK.cons | apply SlK.app)) (By _) (Cl _) n2).cl ?_; rintro _ X2 ⟨a2, c2, rfl, hx2⟩) <;> try (refine Ae 7 Y1 ?_ <;> try (refine An rfl (Ac U24 rfl rfl Y0 Y5) rfl rfl rfl ?_; try (refine Ae 8 Y1 ?_ <;> try ((refine AD (pre := []) rfl (Take.nil _) (CallR.val rfl en60) rfl rfl rfl (BY (by repeat (first | exact hk1 | exact hk2 | exact hk3 | apply SlK.cons | apply SlK.app)) (by rw [Ba pbC BP, n4]) (CI hk4) n3).cl ?_; rintro _ X3 ⟨a3, c3, rfl, hx3⟩) <;> try (refine Zt 9 rfl (fun _ => Ad Cc rfl) (Ae 10 Y1 ?_) <;> try (refine A3 rfl rfl rfl rfl Ce Y3 Y24 (.inr (Nat.zero_le _)) rfl rfl rfl ?_; try (refine Zt 11 rfl (fun _ => Ad Co rfl) (Ae 12 Y1 ?_) <;> try (refine A3 rfl rfl rfl rfl Ce Y3 Y24 (.inr (Nat.zero_le _)) rfl rfl rfl ?_; try (refine Zt 13 rfl (fun _ => Ad BJ rfl) (Ae 14 Y1 ?_) <;> try (refine A3 rfl rfl rfl rfl Ce Y3 Y24 (.inr (Nat.zero_le _)) rfl rfl rfl ?_; try ((refine Ap N9 Y1 ?_)))))))))))))) | (show WI _ _ _ _ _ _ 7 _ _ _ _; try (refine An rfl (Ac U24 rfl rfl Y0 Y5) rfl rfl rfl ?_; try (refine Ae 5 Y1 ?_ <;> try ((refine AD (pre := []) rfl (Take.nil _) (CallR.val rfl en59) rfl rfl rfl (BX (by repeat (first | exact hk1 | exact hk2 | exact hk3 | apply SlK.cons | apply SlK.app)) (By _) (Cl _) n2).cl ?_; rintro _ X2 ⟨a2, c2, rfl, hx2⟩) <;> try (refine Ae 8 Y1 ?_ <;> try ((refine AD (pre := []) rfl (Take.nil _) (CallR.val rfl en60) rfl rfl rfl (BY (by repeat (first | exact hk1 | exact hk2 | exact hk3 | apply SlK.cons | apply SlK.app)) (by rw [Ba pbC BP, n4]) (CI hk4) n3).cl ?_; rintro _ X3 ⟨a3, c3, rfl, hx3⟩) <;> try (refine Zt 9 rfl (fun _ => Ad Cc rfl) (Ae 10 Y1 ?_) <;> try (refine A3 rfl rfl rfl rfl Ce Y3 Y24 (.inr (Nat.zero_le _)) rfl rfl rfl ?_; try (refine Zt 11 rfl (fun _ => Ad Co rfl) (Ae 12 Y1 ?_) <;> try (refine A3 rfl rfl rfl rfl Ce Y3 Y24 (.inr (Nat.zero_le _)) rfl rfl rfl ?_; try (refine Zt 13 rfl (fun _ => Ad BJ rfl) (Ae 14 Y1 ?_) <;> try (refine A3 rfl rfl rfl rfl Ce Y3 Y24 (.inr (Nat.zero_le _)) rfl rfl rfl ?_; try ((refine Ap N9 Y1 ?_)))))))))))))))))) | (show WI _ _ _ _ _ _ 7 _ _ _ _; try (refine An rfl (Ac U24 rfl rfl Y0 Y5) rfl rfl rfl ?_; try (refine Ae 4 Y1 ?_ <;> try (refine An rfl (Ac U23 rfl rfl Y0 Y5) rfl rfl rfl ?_; try (refine Ae 5 Y1 ?_ <;> try ((refine AD (pre := []) rfl (Take.nil _) (CallR.val rfl en59) rfl rfl rfl (BX (by repeat (first | exact hk1 | exact hk2 | exact hk3 | apply SlK.cons | apply SlK.app)) (By _) (Cl _) n2).cl ?_; rintro _ X2 ⟨a2, c2, rfl, hx2⟩) <;> try (refine Ae 8 Y1 ?_ <;> try ((refine AD (pre := []) rfl (Take.nil _) (CallR.val rfl en60) rfl rfl rfl (BY (by repeat (first | exact hk1 | exact hk2 | exact hk3 | apply SlK.cons | apply SlK.app)) (by rw [Ba pbC BP, n4]) (CI hk4) n3).cl ?_; rintro _ X3 ⟨a3, c3, rfl, hx3⟩) <;> try (refine Zt 9 rfl (fun _ => Ad Cc rfl) (Ae 10 Y1 ?_) <;> try (refine A3 rfl rfl rfl rfl Ce Y3 Y24 (.inr (Nat.zero_le _)) rfl rfl rfl ?_; try (refine Zt 11 rfl (fun _ => Ad Co rfl) (Ae 12 Y1 ?_) <;> try (refine A3 rfl rfl rfl rfl Ce Y3 Y24 (.inr (Nat.zero_le _)) rfl rfl rfl ?_; try (refine Zt 13 rfl (fun _ => Ad BJ rfl) (Ae 14 Y1 ?_) <;> try (refine A3 rfl rfl rfl rfl Ce Y3 Y24 (.inr (Nat.zero_le _)) rfl rfl rfl ?_; try ((refine Ap N9 Y1 ?_)))))))))))))))))))) | (show WI _ _ _ _ _ _ 4 _ _ _ _; try (refine An rfl (Ac U23 rfl rfl Y0 Y5) rfl rfl rfl ?_; try (refine A9 2 7 Y1 ?_ ?_ <;> (first | (show WI _ _ _ _ _ _ 2 _ _ _ _; try ((refine AD (pre := []) rfl (Take.nil _) (CallR.val rfl en51) rfl rfl rfl (C6 (by repeat (first | exact hk1 | exact hk2 | exact hk3 | apply SlK.cons | apply SlK.app)) (Cz _) (regV_ok _) n1).cl ?_; rintro _ X1 ⟨a1, c1, rfl, hx1⟩) <;> try (refine A9 5 7 Y1 ?_ ?_ <;> (first | (show WI _ _ _ _ _ _ 5 _ _ _ _; try ((refine AD (pre := []) rfl (Take.nil _) (CallR.val rfl en59) rfl rfl rfl (BX (by repeat (first | exact hk1 | exact hk2 | exact hk3 | apply SlK.cons | apply SlK.app)) (By _) (Cl _) n2).cl ?_; rintro _ X2 ⟨a2, c2, rfl, hx2⟩) <;> try (refine Ae 7 Y1 ?_ <;> try (refine An rfl (Ac U24 rfl rfl Y0 Y5) rfl rfl rfl ?_; try (refine Ae 8 Y1 ?_ <;> try ((refine AD (pre := []) rfl (Take.nil _) (CallR.val rfl en60) rfl rfl rfl (BY (by repeat (first | exact hk1 | exact hk2 | exact hk3 | apply SlK.cons | apply SlK.app)) (by rw [Ba pbC BP, n4]) (CI hk4) n3).cl ?_; rintro _ X3 ⟨a3, c3, rfl, hx3⟩) <;> try (refine Zt 9 rfl (fun _ => Ad Cc rfl) (Ae 10 Y1 ?_) <;> try (refine A3 rfl rfl rfl rfl Ce Y3 Y24 (.inr (Nat.zero_le _)) rfl rfl rfl ?_; try (refine Zt 11 rfl (fun _ => Ad Co rfl) (Ae 12 Y1 ?_) <;> try (refine A3 rfl rfl rfl rfl Ce Y3 Y24 (.inr (Nat.zero_le _)) rfl rfl rfl ?_; try (refine Zt 13 rfl (fun _ => Ad BJ rfl) (Ae 14 Y1 ?_) <;> try (refine A3 rfl rfl rfl rfl Ce Y3 Y24 (.inr (Nat.zero_le _)) rfl rfl rfl ?_; try ((refine Ap N9 Y1 ?_)))))))))))))) | (show WI _ _ _ _ _ _ 7 _ _ _ _; try (refine An rfl (Ac U24 rfl rfl Y0 Y5) rfl rfl rfl ?_; try (refine Ae 5 Y1 ?_ <;> try ((refine AD (pre := []) rfl (Take.nil _) (CallR.val rfl en59) rfl rfl rfl (BX (by repeat (first | exact hk1 | exact hk2 | exact hk3 | apply SlK.cons | apply SlK.app)) (By _) (Cl _) n2).cl ?_; rintro _ X2 ⟨a2, c2, rfl, hx2⟩) <;> try (refine Ae 8 Y1 ?_ <;> try ((refine AD (pre := []) rfl (Take.nil _) (CallR.val rfl en60) rfl rfl rfl (BY (by repeat (first | exact hk1 | exact hk2 | exact hk3 | apply SlK.cons | apply SlK.app)) (by rw [Ba pbC BP, n4]) (CI hk4) n3).cl ?_; rintro _ X3 ⟨a3, c3, rfl, hx3⟩) <;> try (refine Zt 9 rfl (fun _ => Ad Cc rfl) (Ae 10 Y1 ?_) <;> try (refine A3 rfl rfl rfl rfl Ce Y3 Y24 (.inr (Nat.zero_le _)) rfl rfl rfl ?_; try (refine Zt 11 rfl (fun _ => Ad Co rfl) (Ae 12 Y1 ?_) <;> try (refine A3 rfl rfl rfl rfl Ce Y3 Y24 (.inr (Nat.zero_le _)) rfl rfl rfl ?_; try (refine Zt 13 rfl (fun _ => Ad BJ rfl) (Ae 14 Y1 ?_) <;> try (refine A3 rfl rfl rfl rfl Ce Y3 Y24 (.inr (Nat.zero_le _)) rfl rfl rfl ?_; try ((refine Ap N9 Y1 ?_)))))))))))))))))) | (show WI _ _ _ _ _ _ 7 _ _ _ _; try (refine An rfl (Ac U24 rfl rfl Y0 Y5) rfl rfl rfl ?_; try (refine Ae 2 Y1 ?_ <;> try ((refine AD (pre := []) rfl (Take.nil _) (CallR.val rfl en51) rfl rfl rfl (C6 (by repeat (first | exact hk1 | exact hk2 | exact hk3 | apply SlK.cons | apply SlK.app)) (Cz _) (regV_ok _) n1).cl ?_; rintro _ X1 ⟨a1, c1, rfl, hx1⟩) <;> try (refine Ae 5 Y1 ?_ <;> try ((refine AD (pre := []) rfl (Take.nil _) (CallR.val rfl en59) rfl rfl rfl (BX (by repeat (first | exact hk1 | exact hk2 | exact hk3 | apply SlK.cons | apply SlK.app)) (By _) (Cl _) n2).cl ?_; rintro _ X2 ⟨a2, c2, rfl, hx2⟩) <;> try (refine Ae 8 Y1 ?_ <;> try ((refine AD (pre := []) rfl (Take.nil _) (CallR.val rfl en60) rfl rfl rfl (BY (by repeat (first | exact hk1 | exact hk2 | exact hk3 | apply SlK.cons | apply SlK.app)) (by rw [Ba pbC BP, n4]) (CI hk4) n3).cl ?_; rintro _ X3 ⟨a3, c3, rfl, hx3⟩) <;> try (refine Zt 9 rfl (fun _ => Ad Cc rfl) (Ae 10 Y1 ?_) <;> try (refine A3 rfl rfl rfl rfl Ce Y3 Y24 (.inr (Nat.zero_le _)) rfl rfl rfl ?_; try (refine Zt 11 rfl (fun _ => Ad Co rfl) (Ae 12 Y1 ?_) <;> try (refine A3 rfl rfl rfl rfl Ce Y3 Y24 (.inr (Nat.zero_le _)) rfl rfl rfl ?_; try (refine Zt 13 rfl (fun _ => Ad BJ rfl) (Ae 14 Y1 ?_) <;> try (refine A3 rfl rfl rfl rfl Ce Y3 Y24 (.inr (Nat.zero_le _)) rfl rfl rfl ?_; try ((refine Ap N9 Y1 ?_)))))))))))))))))))) | (show WI _ _ _ _ _ _ 7 _ _ _ _; try (refine An rfl (Ac U24 rfl rfl Y0 Y5) rfl rfl rfl ?_; try (refine A9 2 4 Y1 ?_ ?_ <;> (first | (show WI _ _ _ _ _ _ 2 _ _ _ _; try ((refine AD (pre := []) rfl (Take.nil _) (CallR.val rfl en51) rfl rfl rfl (C6 (by repeat (first | exact hk1 | exact hk2 | exact hk3 | apply SlK.cons | apply SlK.app)) (Cz _) (regV_ok _) n1).cl ?_; rintro _ X1 ⟨a1, c1, rfl, hx1⟩) <;> try (refine Ae 4 Y1 ?_ <;> try (refine An rfl (Ac U23 rfl rfl Y0 Y5) rfl rfl rfl ?_; try (refine Ae 5 Y1 ?_ <;> try ((refine AD (pre := []) rfl (Take.nil _) (CallR.val rfl en59) rfl rfl rfl (BX (by repeat (first | exact hk1 | exact hk2 | exact hk3 | apply SlK.cons | apply SlK.app)) (By _) (Cl _) n2).cl ?_; rintro _ X2 ⟨a2, c2, rfl, hx2⟩) <;> try (refine Ae 8 Y1 ?_ <;> try ((refine AD (pre := []) rfl (Take.nil _) (CallR.val rfl en60) rfl rfl rfl (BY (by repeat (first | exact hk1 | exact hk2 | exact hk3 | apply SlK.cons | apply SlK.app)) (by rw [Ba pbC BP, n4]) (CI hk4) n3).cl ?_; rintro _ X3 ⟨a3, c3, rfl, hx3⟩) <;> try (refine Zt 9 rfl (fun _ => Ad Cc rfl) (Ae 10 Y1 ?_) <;> try (refine A3 rfl rfl rfl rfl Ce Y3 Y24 (.inr (Nat.zero_le _)) rfl rfl rfl ?_; try (refine Zt 11 rfl (fun _ => Ad Co rfl) (Ae 12 Y1 ?_) <;> try (refine A3 rfl rfl rfl rfl Ce Y3 Y24 (.inr (Nat.zero_le _)) rfl rfl rfl ?_; try (refine Zt 13 rfl (fun _ => Ad BJ rfl) (Ae 14 Y1 ?_) <;> try (refine A3 rfl rfl rfl rfl Ce Y3 Y24 (.inr (Nat.zero_le _)) rfl rfl rfl ?_; try ((refine Ap N9 Y1 ?_)))))))))))))))) | (show WI _ _ _ _ _ _ 4 _ _ _ _; try (refine An rfl (Ac U23 rfl rfl Y0 Y5) rfl rfl rfl ?_; try (refine Ae 2 Y1 ?_ <;> try ((refine AD (pre := []) rfl (Take.nil _) (CallR.val rfl en51) rfl rfl rfl (C6 (by repeat (first | exact hk1 | exact hk2 | exact hk3 | apply SlK.cons | apply SlK.app)) (Cz _) (regV_ok _) n1).cl ?_; rintro _ X1 ⟨a1, c1, rfl, hx1⟩) <;> try (refine Ae 5 Y1 ?_ <;> try ((refine AD (pre := []) rfl (Take.nil _) (CallR.val rfl en59) rfl rfl rfl (BX (by repeat (first | exact hk1 | exact hk2 | exact hk3 | apply SlK.cons | apply SlK.app)) (By _) (Cl _) n2).cl ?_; rintro _ X2 ⟨a2, c2, rfl, hx2⟩) <;> try (refine Ae 8 Y1 ?_ <;> try ((refine AD (pre := []) rfl (Take.nil _) (CallR.val rfl en60) rfl rfl rfl (BY (by repeat (first | exact hk1 | exact hk2 | exact hk3 | apply SlK.cons | apply SlK.app)) (by rw [Ba pbC BP, n4]) (CI hk4) n3).cl ?_; rintro _ X3 ⟨a3, c3, rfl, hx3⟩) <;> try (refine Zt 9 rfl (fun _ => Ad Cc rfl) (Ae 10 Y1 ?_) <;> try (refine A3 rfl rfl rfl rfl Ce Y3 Y24 (.inr (Nat.zero_le _)) rfl rfl rfl ?_; try (refine Zt 11 rfl (fun _ => Ad Co rfl) (Ae 12 Y1 ?_) <;> try (refine A3 rfl rfl rfl rfl Ce Y3 Y24 (.inr (Nat.zero_le _)) rfl rfl rfl ?_; try (refine Zt 13 rfl (fun _ => Ad BJ rfl) (Ae 14 Y1 ?_) <;> try (refine A3 rfl rfl rfl rfl Ce Y3 Y24 (.inr (Nat.zero_le _)) rfl rfl rfl ?_; try ((refine Ap N9 Y1 ?_)))))))))))))))))))))))) | (show WI _ _ _ _ _ _ 4 _ _ _ _; try (refine An rfl (Ac U23 rfl rfl Y0 Y5) rfl rfl rfl ?_; try (refine A9 1 7 Y1 ?_ ?_ <;> (first | (show WI _ _ _ _ _ _ 1 _ _ _ _; try (refine An rfl (Ac U22 rfl rfl Y0 Y5) rfl rfl rfl ?_; try (refine A9 2 7 Y1 ?_ ?_ <;> (first | (show WI _ _ _ _ _ _ 2 _ _ _ _; try ((refine AD (pre := []) rfl (Take.nil _) (CallR.val rfl en51) rfl rfl rfl (C6 (by repeat (first | exact hk1 | exact hk2 | exact hk3 | apply SlK.cons | apply SlK.app)) (Cz _) (regV_ok _) n1).cl ?_; rintro _ X1 ⟨a1, c1, rfl, hx1⟩) <;> try (refine A9 5 7 Y1 ?_ ?_ <;> (first | (show WI _ _ _ _ _ _ 5 _ _ _ _; try ((refine AD (pre := []) rfl (Take.nil _) (CallR.val rfl en59) rfl rfl rfl (BX (by repeat (first | exact hk1 | exact hk2 | exact hk3 | apply SlK.cons | apply SlK.app)) (By _) (Cl _) n2).cl ?_; rintro _ X2 ⟨a2, c2, rfl, hx2⟩) <;> try (refine Ae 7 Y1 ?_ <;> try (refine An rfl (Ac U24 rfl rfl Y0 Y5) rfl rfl rfl ?_; try (refine Ae 8 Y1 ?_ <;> try ((refine AD (pre := []) rfl (Take.nil _) (CallR.val rfl en60) rfl rfl rfl (BY (by repeat (first | exact hk1 | exact hk2 | exact hk3 | apply SlK.cons | apply SlK.app)) (by rw [Ba pbC BP, n4]) (CI hk4) n3).cl ?_; rintro _ X3 ⟨a3, c3, rfl, hx3⟩) <;> try (refine Zt 9 rfl (fun _ => Ad Cc rfl) (Ae 10 Y1 ?_) <;> try (refine A3 rfl rfl rfl rfl Ce Y3 Y24 (.inr (Nat.zero_le _)) rfl rfl rfl ?_; try (refine Zt 11 rfl (fun _ => Ad Co rfl) (Ae 12 Y1 ?_) <;> try (refine A3 rfl rfl rfl rfl Ce Y3 Y24 (.inr (Nat.zero_le _)) rfl rfl rfl ?_; try (refine Zt 13 rfl (fun _ => Ad BJ rfl) (Ae 14 Y1 ?_) <;> try (refine A3 rfl rfl rfl rfl Ce Y3 Y24 (.inr (Nat.zero_le _)) rfl rfl rfl ?_; try ((refine Ap N9 Y1 ?_)))))))))))))) | (show WI _ _ _ _ _ _ 7 _ _ _ _; try (refine An rfl (Ac U24 rfl rfl Y0 Y5) rfl rfl rfl ?_; try (refine Ae 5 Y1 ?_ <;> try ((refine AD (pre := []) rfl (Take.nil _) (CallR.val rfl en59) rfl rfl rfl (BX (by repeat (first | exact hk1 | exact hk2 | exact hk3 | apply SlK.cons | apply SlK.app)) (By _) (Cl _) n2).cl ?_; rintro _ X2 ⟨a2, c2, rfl, hx2⟩) <;> try (refine Ae 8 Y1 ?_ <;> try ((refine AD (pre := []) rfl (Take.nil _) (CallR.val rfl en60) rfl rfl rfl (BY (by repeat (first | exact hk1 | exact hk2 | exact hk3 | apply SlK.cons | apply SlK.app)) (by rw [Ba pbC BP, n4]) (CI hk4) n3).cl ?_; rintro _ X3 ⟨a3, c3, rfl, hx3⟩) <;> try (refine Zt 9 rfl (fun _ => Ad Cc rfl) (Ae 10 Y1 ?_) <;> try (refine A3 rfl rfl rfl rfl Ce Y3 Y24 (.inr (Nat.zero_le _)) rfl rfl rfl ?_; try (refine Zt 11 rfl (fun _ => Ad Co rfl) (Ae 12 Y1 ?_) <;> try (refine A3 rfl rfl rfl rfl Ce Y3 Y24 (.inr (Nat.zero_le _)) rfl rfl rfl ?_; try (refine Zt 13 rfl (fun _ => Ad BJ rfl) (Ae 14 Y1 ?_) <;> try (refine A3 rfl rfl rfl rfl Ce Y3 Y24 (.inr (Nat.zero_le _)) rfl rfl rfl ?_; try ((refine Ap N9 Y1 ?_)))))))))))))))))) | (show WI _ _ _ _ _ _ 7 _ _ _ _; try (refine An rfl (Ac U24 rfl rfl Y0 Y5) rfl rfl rfl ?_; try (refine Ae 2 Y1 ?_ <;> try ((refine AD (pre := []) rfl (Take.nil _) (CallR.val rfl en51) rfl rfl rfl (C6 (by repeat (first | exact hk1 | exact hk2 | exact hk3 | apply SlK.cons | apply SlK.app)) (Cz _) (regV_ok _) n1).cl ?_; rintro _ X1 ⟨a1, c1, rfl, hx1⟩) <;> try (refine Ae 5 Y1 ?_ <;> try ((refine AD (pre := []) rfl (Take.nil _) (CallR.val rfl en59) rfl rfl rfl (BX (by repeat (first | exact hk1 | exact hk2 | exact hk3 | apply SlK.cons | apply SlK.app)) (By _) (Cl _) n2).cl ?_; rintro _ X2 ⟨a2, c2, rfl, hx2⟩) <;> try (refine Ae 8 Y1 ?_ <;> try ((refine AD (pre := []) rfl (Take.nil _) (CallR.val rfl en60) rfl rfl rfl (BY (by repeat (first | exact hk1 | exact hk2 | exact hk3 | apply SlK.cons | apply SlK.app)) (by rw [Ba pbC BP, n4]) (CI hk4) n3).cl ?_; rintro _ X3 ⟨a3, c3, rfl, hx3⟩) <;> try (refine Zt 9 rfl (fun _ => Ad Cc rfl) (Ae 10 Y1 ?_) <;> try (refine A3 rfl rfl rfl rfl Ce Y3 Y24 (.inr (Nat.zero_le _)) rfl rfl rfl ?_; try (refine Zt 11 rfl (fun _ => Ad Co rfl) (Ae 12 Y1 ?_) <;> try (refine A3 rfl rfl rfl rfl Ce Y3 Y24 (.inr (Nat.zero_le _)) rfl rfl rfl ?_; try (refine Zt 13 rfl (fun _ => Ad BJ rfl) (Ae 14 Y1 ?_) <;> try (refine A3 rfl rfl rfl rfl Ce Y3 Y24 (.inr (Nat.zero_le _)) rfl rfl rfl ?_; try ((refine Ap N9 Y1 ?_)))))))))))))))))))) | (show WI _ _ _ _ _ _ 7 _ _ _ _; try (refine An rfl (Ac U24 rfl rfl Y0 Y5) rfl rfl rfl ?_; try (refine Ae 1 Y1 ?_ <;> try (refine An rfl (Ac U22 rfl rfl Y0 Y5) rfl rfl rfl ?_; try (refine Ae 2 Y1 ?_ <;> try ((refine AD (pre := []) rfl (Take.nil _) (CallR.val rfl en51) rfl rfl rfl (C6 (by repeat (first | exact hk1 | exact hk2 | exact hk3 | apply SlK.cons | apply SlK.app)) (Cz _) (regV_ok _) n1).cl ?_; rintro _ X1 ⟨a1, c1, rfl, hx1⟩) <;> try (refine Ae 5 Y1 ?_ <;> try ((refine AD (pre := []) rfl (Take.nil _) (CallR.val rfl en59) rfl rfl rfl (BX (by repeat (first | exact hk1 | exact hk2 | exact hk3 | apply SlK.cons | apply SlK.app)) (By _) (Cl _) n2).cl ?_; rintro _ X2 ⟨a2, c2, rfl, hx2⟩) <;> try (refine Ae 8 Y1 ?_ <;> try ((refine AD (pre := []) rfl (Take.nil _) (CallR.val rfl en60) rfl rfl rfl (BY (by repeat (first | exact hk1 | exact hk2 | exact hk3 | apply SlK.cons | apply SlK.app)) (by rw [Ba pbC BP, n4]) (CI hk4) n3).cl ?_; rintro _ X3 ⟨a3, c3, rfl, hx3⟩) <;> try (refine Zt 9 rfl (fun _ => Ad Cc rfl) (Ae 10 Y1 ?_) <;> try (refine A3 rfl rfl rfl rfl Ce Y3 Y24 (.inr (Nat.zero_le _)) rfl rfl rfl ?_; try (refine Zt 11 rfl (fun _ => Ad Co rfl) (Ae 12 Y1 ?_) <;> try (refine A3 rfl rfl rfl rfl Ce Y3 Y24 (.inr (Nat.zero_le _)) rfl rfl rfl ?_; try (refine Zt 13 rfl (fun _ => Ad BJ rfl) (Ae 14 Y1 ?_) <;> try (refine A3 rfl rfl rfl rfl Ce Y3 Y24 (.inr (Nat.zero_le _)) rfl rfl rfl ?_; try ((refine Ap N9 Y1 ?_)))))))))))))))))))))) | (show WI _ _ _ _ _ _ 7 _ _ _ _; try (refine An rfl (Ac U24 rfl rfl Y0 Y5) rfl rfl rfl ?_; try (refine A9 1 4 Y1 ?_ ?_ <;> (first | (show WI _ _ _ _ _ _ 1 _ _ _ _; try (refine An rfl (Ac U22 rfl rfl Y0 Y5) rfl rfl rfl ?_; try (refine A9 2 4 Y1 ?_ ?_ <;> (first | (show WI _ _ _ _ _ _ 2 _ _ _ _; try ((refine AD (pre := []) rfl (Take.nil _) (CallR.val rfl en51) rfl rfl rfl (C6 (by repeat (first | exact hk1 | exact hk2 | exact hk3 | apply SlK.cons | apply SlK.app)) (Cz _) (regV_ok _) n1).cl ?_; rintro _ X1 ⟨a1, c1, rfl, hx1⟩) <;> try (refine Ae 4 Y1 ?_ <;> try (refine An rfl (Ac U23 rfl rfl Y0 Y5) rfl rfl rfl ?_; try (refine Ae 5 Y1 ?_ <;> try ((refine AD (pre := []) rfl (Take.nil _) (CallR.val rfl en59) rfl rfl rfl (BX (by repeat (first | exact hk1 | exact hk2 | exact hk3 | apply SlK.cons | apply SlK.app)) (By _) (Cl _) n2).cl ?_; rintro _ X2 ⟨a2, c2, rfl, hx2⟩) <;> try (refine Ae 8 Y1 ?_ <;> try ((refine AD (pre := []) rfl (Take.nil _) (CallR.val rfl en60) rfl rfl rfl (BY (by repeat (first | exact hk1 | exact hk2 | exact hk3 | apply SlK.cons | apply SlK.app)) (by rw [Ba pbC BP, n4]) (CI hk4) n3).cl ?_; rintro _ X3 ⟨a3, c3, rfl, hx3⟩) <;> try (refine Zt 9 rfl (fun _ => Ad Cc rfl) (Ae 10 Y1 ?_) <;> try (refine A3 rfl rfl rfl rfl Ce Y3 Y24 (.inr (Nat.zero_le _)) rfl rfl rfl ?_; try (refine Zt 11 rfl (fun _ => Ad Co rfl) (Ae 12 Y1 ?_) <;> try (refine A3 rfl rfl rfl rfl Ce Y3 Y24 (.inr (Nat.zero_le _)) rfl rfl rfl ?_; try (refine Zt 13 rfl (fun _ => Ad BJ rfl) (Ae 14 Y1 ?_) <;> try (refine A3 rfl rfl rfl rfl Ce Y3 Y24 (.inr (Nat.zero_le _)) rfl rfl rfl ?_; try ((refine Ap N9 Y1 ?_)))))))))))))))) | (show WI _ _ _ _ _ _ 4 _ _ _ _; try (refine An rfl (Ac U23 rfl rfl Y0 Y5) rfl rfl rfl ?_; try (refine Ae 2 Y1 ?_ <;> try ((refine AD (pre := []) rfl (Take.nil _) (CallR.val rfl en51) rfl rfl rfl (C6 (by repeat (first | exact hk1 | exact hk2 | exact hk3 | apply SlK.cons | apply SlK.app)) (Cz _) (regV_ok _) n1).cl ?_; rintro _ X1 ⟨a1, c1, rfl, hx1⟩) <;> try (refine Ae 5 Y1 ?_ <;> try ((refine AD (pre := []) rfl (Take.nil _) (CallR.val rfl en59) rfl rfl rfl (BX (by repeat (first | exact hk1 | exact hk2 | exact hk3 | apply SlK.cons | apply SlK.app)) (By _) (Cl _) n2).cl ?_; rintro _ X2 ⟨a2, c2, rfl, hx2⟩) <;> try (refine Ae 8 Y1 ?_ <;> try ((refine AD (pre := []) rfl (Take.nil _) (CallR.val rfl en60) rfl rfl rfl (BY (by repeat (first | exact hk1 | exact hk2 | exact hk3 | apply SlK.cons | apply SlK.app)) (by rw [Ba pbC BP, n4]) (CI hk4) n3).cl ?_; rintro _ X3 ⟨a3, c3, rfl, hx3⟩) <;> try (refine Zt 9 rfl (fun _ => Ad Cc rfl) (Ae 10 Y1 ?_) <;> try (refine A3 rfl rfl rfl rfl Ce Y3 Y24 (.inr (Nat.zero_le _)) rfl rfl rfl ?_; try (refine Zt 11 rfl (fun _ => Ad Co rfl) (Ae 12 Y1 ?_) <;> try (refine A3 rfl rfl rfl rfl Ce Y3 Y24 (.inr (Nat.zero_le _)) rfl rfl rfl ?_; try (refine Zt 13 rfl (fun _ => Ad BJ rfl) (Ae 14 Y1 ?_) <;> try (refine A3 rfl rfl rfl rfl Ce Y3 Y24 (.inr (Nat.zero_le _)) rfl rfl rfl ?_; try ((refine Ap N9 Y1 ?_)))))))))))))))))))) | (show WI _ _ _ _ _ _ 4 _ _ _ _; try (refine An rfl (Ac U23 rfl rfl Y0 Y5) rfl rfl rfl ?_; try (refine Ae 1 Y1 ?_ <;> try (refine An rfl (Ac U22 rfl rfl Y0 Y5) rfl rfl rfl ?_; try (refine Ae 2 Y1 ?_ <;> try ((refine AD (pre := []) rfl (Take.nil _) (CallR.val rfl en51) rfl rfl rfl (C6 (by repeat (first | exact hk1 | exact hk2 | exact hk3 | apply SlK.cons | apply SlK.app)) (Cz _) (regV_ok _) n1).cl ?_; rintro _ X1 ⟨a1, c1, rfl, hx1⟩) <;> try (refine Ae 5 Y1 ?_ <;> try ((refine AD (pre := []) rfl (Take.nil _) (CallR.val rfl en59) rfl rfl rfl (BX (by repeat (first | exact hk1 | exact hk2 | exact hk3 | apply SlK.cons | apply SlK.app)) (By _) (Cl _) n2).cl ?_; rintro _ X2 ⟨a2, c2, rfl, hx2⟩) <;> try (refine Ae 8 Y1 ?_ <;> try ((refine AD (pre := []) rfl (Take.nil _) (CallR.val rfl en60) rfl rfl rfl (BY (by repeat (first | exact hk1 | exact hk2 | exact hk3 | apply SlK.cons | apply SlK.app)) (by rw [Ba pbC BP, n4]) (CI hk4) n3).cl ?_; rintro _ X3 ⟨a3, c3, rfl, hx3⟩) <;> try (refine Zt 9 rfl (fun _ => Ad Cc rfl) (Ae 10 Y1 ?_) <;> try (refine A3 rfl rfl rfl rfl Ce Y3 Y24 (.inr (Nat.zero_le _)) rfl rfl rfl ?_; try (refine Zt 11 rfl (fun _ => Ad Co rfl) (Ae 12 Y1 ?_) <;> try (refine A3 rfl rfl rfl rfl Ce Y3 Y24 (.inr (Nat.zero_le _)) rfl rfl rfl ?_; try (refine Zt 13 rfl (fun _ => Ad BJ rfl) (Ae 14 Y1 ?_) <;> try (refine A3 rfl rfl rfl rfl Ce Y3 Y24 (.inr (Nat.zero_le _)) rfl rfl rfl ?_; try ((refine Ap N9 Y1 ?_))))))))))))))))))))))))))))
 all_goals exact rest ⟨a1, c1, a2, c2, a3, c3, X1, X2, X3, ⟨_, _, rfl, hx1⟩, ⟨_, _, rfl, hx2⟩, ⟨_, _, rfl, hx3⟩⟩
end
end Go.Sl
namespace Go.Sl
open Go Go.RowKit Go.Shelf Go.Proofs
attribute [local irreducible] Calls
def idxOf {α : Type} (p : α → Bool) (l : List α) : Int := match l.findIdx? p with
 | some i => (i : Int)
 | none => -1
theorem idx_any {α : Type} (p : α → Bool) (l : List α) : l.any p = decide (0 ≤ idxOf p l) := by
 unfold idxOf
 cases h : l.findIdx? p with
 | none =>
   rw [List.findIdx?_eq_none_iff] at h
   simp only [show ¬ (0 : Int) ≤ -1 by omega, decide_false]
   rw [List.any_eq_false]
   exact fun x hx => by rw [h x hx]; simp
 | some i =>
   obtain ⟨h1, h2, _⟩ := List.findIdx?_eq_some_iff_getElem.1 h
   simp only [show (0 : Int) ≤ (i : Int) by omega, decide_true]
   exact List.any_eq_true.2 ⟨_, List.getElem_mem h1, h2⟩
theorem idx_at {α : Type} {p : α → Bool} {l : List α} {k : Nat} (hk : k < l.length) (h1 : ∀ j (hj : j < k), p (l[j]'Y9) = false) (h2 : p l[k] = true) : idxOf p l = (k : Int) := by
 unfold idxOf
 rw [List.findIdx?_eq_some_iff_getElem.2 ⟨hk, h2, fun j hj => by simp [h1 j hj]⟩]
theorem idx_none {α : Type} {p : α → Bool} {l : List α} (h1 : ∀ j (hj : j < l.length), p l[j] = false) : idxOf p l = -1 := by
 unfold idxOf
 rw [List.findIdx?_eq_none_iff.2 fun x hx => by obtain ⟨j, hj, rfl⟩ := List.getElem_of_mem hx; exact h1 j hj]
def Tells (S : Nat → Prop) (w0 : World) (F : List Ent) (fv v : Value) (q : Bool) : Prop := ∃ f vs, GoesTo Tryz.prog fv [v] f vs ∧ Enters Tryz.prog f ∧ SLF Tryz.prog S w0 F f vs [] fun e post => e = .returned (.bool q) ∧ post = []
section
variable {S : Nat → Prop} {w0 : World} {F : List Ent}
theorem index_u8 {l : List (Int)} {v fv : Value} {p : (Int) → Bool} (hs : SlK S w0 F (regV l) l.length v) (hl : l.length ≤ 65535) (hp : ∀ x ∈ l, Tells S w0 F fv (.int .u8 x) (p x)) :
 SLF Tryz.prog S w0 F 102 [v, fv] [] fun e post => e = .returned (.int .i64 (idxOf p l)) ∧ post = [] := by
 refine AA fun w hi => ?_
 simp only [List.nil_append] at hi
 obtain ⟨a, cap, rfl, hc, hk⟩ := hs
 have hlen : (regV l).length = l.length * 1 := by rw [Cz]
 refine Ai Tryz.func102 rfl rfl (hi) ?_
 repeat' (first | (refine Ah rfl ?_) | (refine Ak rfl ?_) | (refine Al ?_) | (refine Am ?_) | (refine A5 ?_) | ((refine Ab 0 ?_; try (refine Za rfl (Aa N6 ?_)))) | ((refine Ab 1 ?_; try (refine Zm rfl (Zv (As rfl U22 rfl) (Zm rfl (Aa N6 ?_)))))))
 refine A0 (E' := (fun k : Nat => [(0, .slice a l.length cap), (1, fv), (7, .int .i64 (l.length : Int)), (8, .int .i64 (k : Int))]) 0) Y14 ?_
 refine Bf (fun k : Nat => k ≤ l.length ∧ ∀ j (hj : j < k) (hj2 : j < l.length), p l[j] = false) (fun k => l.length - k) (fun k : Nat => [(0, .slice a l.length cap), (1, fv), (7, .int .i64 (l.length : Int)), (8, .int .i64 (k : Int))]) (fun _ => F) ?_ 0 ⟨by omega, fun j hj => by omega⟩
 rintro k ⟨k1, k2⟩ ih
 try dsimp only at k1 k2 ih ⊢
 by_cases hlt : k < l.length
 · rcases hk with h | ⟨b, off, rfl, hkn⟩
   · rw [h] at hlen; simp only [List.length_nil] at hlen; omega
   · have hcell : Kn S w0 F b (off + ((k : Nat) : Int).toNat * 1) (.int .u8 l[k]) := by have := hkn k (by rw [hlen]; omega); simpa [regV] using this
     obtain ⟨f, vs, hg, he, hq⟩ := hp l[k] (List.getElem_mem hlt)
     cases hpk : p l[k] with
     | true =>
       rw [hpk] at hq
       repeat' (first | (refine Ah rfl ?_) | (refine Ak rfl ?_) | (refine Al ?_) | (refine Am ?_) | (refine A1 rfl ?_) | (refine A5 ?_) | (refine AE ?_) | (refine AL Tryz.func102 rfl (fun w_ hi_ => ?_)) | ((refine Ab 2 ?_; try (refine Zv (A8 rfl rfl Y2) ?_; try ((refine Aa N6 ?_))))) | ((refine Ab 3 ?_; try (refine Zm rfl (Za rfl (Aa N6 ?_))))) | ((refine Ab 4 ?_; try (refine Zm rfl (Zm rfl (Zm rfl (Zv (Aq U22 sz5 rfl rfl Y9 Y9) ?_))); try (refine Zv (A7 U5 rfl rfl hcell) (Zv (Au (CallR.fv rfl rfl hg he) hq) (Aa N6 ?_)))))) | ((refine Ab 5 ?_; try (refine Zm rfl (Za rfl (Aa N6 ?_))))))
       rw [idx_at hlt (fun j hj => k2 j hj _) hpk]
       exact ⟨[], ⟨rfl, rfl⟩, hi_⟩
     | false =>
       rw [hpk] at hq
       repeat' (first | (refine Ah rfl ?_) | (refine Ak rfl ?_) | (refine Al ?_) | (refine Am ?_) | (refine A1 rfl ?_) | (refine Az rfl ?_) | (refine A5 ?_) | (refine AH ?_) | (refine AE ?_) | ((refine Ab 2 ?_; try (refine Zv (A8 rfl rfl Y2) ?_; try ((refine Aa N6 ?_))))) | ((refine Ab 3 ?_; try (refine Zm rfl (Za rfl (Aa N6 ?_))))) | ((refine Ab 4 ?_; try (refine Zm rfl (Zm rfl (Zm rfl (Zv (Aq U22 sz5 rfl rfl Y9 Y9) ?_))); try (refine Zv (A7 U5 rfl rfl hcell) (Zv (Au (CallR.fv rfl rfl hg he) hq) (Aa N6 ?_)))))) | ((refine Ab 6 ?_; try (refine Zv (AG rfl rfl Y9 Y9) ?_; try (refine Zm rfl (Aa N6 ?_))))))
       refine A0 Y10 (ih (k + 1) ⟨by omega, fun j hj hj2 => by (by_cases e : j = k; subst e; exact hpk; exact k2 j Y9 hj2)⟩ Y9)
 · repeat' (first | (refine Ah rfl ?_) | (refine Al ?_) | (refine Am ?_) | (refine Az rfl ?_) | (refine Bp rfl ?_) | (refine AL Tryz.func102 rfl (fun w_ hi_ => ?_)) | ((refine Ab 2 ?_; try (refine Zv (A8 rfl rfl Y2) ?_; try ((refine Aa N6 ?_))))) | ((refine Ab 7 ?_; try (refine Za rfl (Aa N6 ?_)))))
   rw [idx_none fun j hj => k2 j Y9 hj]
   exact ⟨[], ⟨rfl, rfl⟩, hi_⟩
theorem has_u8 {l : List (Int)} {v fv : Value} {p : (Int) → Bool} (hs : SlK S w0 F (regV l) l.length v) (hl : l.length ≤ 65535) (hp : ∀ x ∈ l, Tells S w0 F fv (.int .u8 x) (p x)) :
 SLF Tryz.prog S w0 F 70 [v, fv] [] fun e post => e = .returned (.bool (l.any p)) ∧ post = [] := by
 refine AA fun w hi => ?_
 simp only [List.nil_append] at hi
 have hq := index_u8 hs hl hp
 rw [idx_any]
 generalize idxOf p l = i at *
 refine Ai Tryz.func70 rfl rfl (hi) ?_
 by_cases h0 : 0 ≤ i
 · rw [decide_eq_true h0]
   repeat' (first | (refine Ah rfl ?_) | (refine Ak rfl ?_) | (refine Al ?_) | (refine Am ?_) | (refine AL Tryz.func70 rfl (fun w_ hi_ => ?_)) | ((refine Ab 0 ?_; try (refine Za rfl (Aa N12 ?_)))) | ((refine Ab 1 ?_; try (refine Zm rfl (Zm rfl (Zv (Au (CallR.val rfl en102) hq) (Zv (Bn rfl rfl Y2) ?_))); try (refine Za rfl (Aa N12 ?_))))))
   exact ⟨[], ⟨rfl, rfl⟩, hi_⟩
 · rw [decide_eq_false h0]
   repeat' (first | (refine Ah rfl ?_) | (refine Ak rfl ?_) | (refine Al ?_) | (refine Am ?_) | (refine AL Tryz.func70 rfl (fun w_ hi_ => ?_)) | ((refine Ab 0 ?_; try (refine Za rfl (Aa N12 ?_)))) | ((refine Ab 1 ?_; try (refine Zm rfl (Zm rfl (Zv (Au (CallR.val rfl en102) hq) (Zv (Bn rfl rfl Y2) ?_))); try (refine Za rfl (Aa N12 ?_))))))
   exact ⟨[], ⟨rfl, rfl⟩, hi_⟩
theorem index_int {l : List (Int)} {v fv : Value} {p : (Int) → Bool} (hs : SlK S w0 F (intsV l) l.length v) (hl : l.length ≤ 65535) (hp : ∀ x ∈ l, Tells S w0 F fv (.int .i64 x) (p x)) :
 SLF Tryz.prog S w0 F 141 [v, fv] [] fun e post => e = .returned (.int .i64 (idxOf p l)) ∧ post = [] := by
 refine AA fun w hi => ?_
 simp only [List.nil_append] at hi
 obtain ⟨a, cap, rfl, hc, hk⟩ := hs
 have hlen : (intsV l).length = l.length * 1 := by rw [intsV_len]; omega
 refine Ai Tryz.func141 rfl rfl (hi) ?_
 repeat' (first | (refine Ah rfl ?_) | (refine Ak rfl ?_) | (refine Al ?_) | (refine Am ?_) | (refine A5 ?_) | ((refine Ab 0 ?_; try (refine Za rfl (Aa N6 ?_)))) | ((refine Ab 1 ?_; try (refine Zm rfl (Zv (As rfl U59 rfl) (Zm rfl (Aa N6 ?_)))))))
 refine A0 (E' := (fun k : Nat => [(0, .slice a l.length cap), (1, fv), (7, .int .i64 (l.length : Int)), (8, .int .i64 (k : Int))]) 0) Y14 ?_
 refine Bf (fun k : Nat => k ≤ l.length ∧ ∀ j (hj : j < k) (hj2 : j < l.length), p l[j] = false) (fun k => l.length - k) (fun k : Nat => [(0, .slice a l.length cap), (1, fv), (7, .int .i64 (l.length : Int)), (8, .int .i64 (k : Int))]) (fun _ => F) ?_ 0 ⟨by omega, fun j hj => by omega⟩
 rintro k ⟨k1, k2⟩ ih
 try dsimp only at k1 k2 ih ⊢
 by_cases hlt : k < l.length
 · rcases hk with h | ⟨b, off, rfl, hkn⟩
   · rw [h] at hlen; simp only [List.length_nil] at hlen; omega
   · have hcell : Kn S w0 F b (off + ((k : Nat) : Int).toNat * 1) (.int .i64 l[k]) := by have := hkn k (by rw [hlen]; omega); simpa [intsV] using this
     obtain ⟨f, vs, hg, he, hq⟩ := hp l[k] (List.getElem_mem hlt)
     cases hpk : p l[k] with
     | true =>
       rw [hpk] at hq
       repeat' (first | (refine Ah rfl ?_) | (refine Ak rfl ?_) | (refine Al ?_) | (refine Am ?_) | (refine A1 rfl ?_) | (refine A5 ?_) | (refine AE ?_) | (refine AL Tryz.func141 rfl (fun w_ hi_ => ?_)) | ((refine Ab 2 ?_; try (refine Zv (A8 rfl rfl Y2) ?_; try ((refine Aa N6 ?_))))) | ((refine Ab 3 ?_; try (refine Zm rfl (Za rfl (Aa N6 ?_))))) | ((refine Ab 4 ?_; try (refine Zm rfl (Zm rfl (Zm rfl (Zv (Aq U59 sz3 rfl rfl Y9 Y9) ?_))); try (refine Zv (A7 U3 rfl rfl hcell) (Zv (Au (CallR.fv rfl rfl hg he) hq) (Aa N6 ?_)))))) | ((refine Ab 5 ?_; try (refine Zm rfl (Za rfl (Aa N6 ?_))))))
       rw [idx_at hlt (fun j hj => k2 j hj _) hpk]
       exact ⟨[], ⟨rfl, rfl⟩, hi_⟩
     | false =>
       rw [hpk] at hq
       repeat' (first | (refine Ah rfl ?_) | (refine Ak rfl ?_) | (refine Al ?_) | (refine Am ?_) | (refine A1 rfl ?_) | (refine Az rfl ?_) | (refine A5 ?_) | (refine AH ?_) | (refine AE ?_) | ((refine Ab 2 ?_; try (refine Zv (A8 rfl rfl Y2) ?_; try ((refine Aa N6 ?_))))) | ((refine Ab 3 ?_; try (refine Zm rfl (Za rfl (Aa N6 ?_))))) | ((refine Ab 4 ?_; try (refine Zm rfl (Zm rfl (Zm rfl (Zv (Aq U59 sz3 rfl rfl Y9 Y9) ?_))); try (refine Zv (A7 U3 rfl rfl hcell) (Zv (Au (CallR.fv rfl rfl hg he) hq) (Aa N6 ?_)))))) | ((refine Ab 6 ?_; try (refine Zv (AG rfl rfl Y9 Y9) ?_; try (refine Zm rfl (Aa N6 ?_))))))
       refine A0 Y10 (ih (k + 1) ⟨by omega, fun j hj hj2 => by (by_cases e : j = k; subst e; exact hpk; exact k2 j Y9 hj2)⟩ Y9)
 · repeat' (first | (refine Ah rfl ?_) | (refine Al ?_) | (refine Am ?_) | (refine Az rfl ?_) | (refine Bp rfl ?_) | (refine AL Tryz.func141 rfl (fun w_ hi_ => ?_)) | ((refine Ab 2 ?_; try (refine Zv (A8 rfl rfl Y2) ?_; try ((refine Aa N6 ?_))))) | ((refine Ab 7 ?_; try (refine Za rfl (Aa N6 ?_)))))
   rw [idx_none fun j hj => k2 j Y9 hj]
   exact ⟨[], ⟨rfl, rfl⟩, hi_⟩
theorem has_int {l : List (Int)} {v fv : Value} {p : (Int) → Bool} (hs : SlK S w0 F (intsV l) l.length v) (hl : l.length ≤ 65535) (hp : ∀ x ∈ l, Tells S w0 F fv (.int .i64 x) (p x)) :
 SLF Tryz.prog S w0 F 109 [v, fv] [] fun e post => e = .returned (.bool (l.any p)) ∧ post = [] := by
 refine AA fun w hi => ?_
 simp only [List.nil_append] at hi
 have hq := index_int hs hl hp
 rw [idx_any]
 generalize idxOf p l = i at *
 refine Ai Tryz.func109 rfl rfl (hi) ?_
 by_cases h0 : 0 ≤ i
 · rw [decide_eq_true h0]
   repeat' (first | (refine Ah rfl ?_) | (refine Ak rfl ?_) | (refine Al ?_) | (refine Am ?_) | (refine AL Tryz.func109 rfl (fun w_ hi_ => ?_)) | ((refine Ab 0 ?_; try (refine Za rfl (Aa N12 ?_)))) | ((refine Ab 1 ?_; try (refine Zm rfl (Zm rfl (Zv (Au (CallR.val rfl en141) hq) (Zv (Bn rfl rfl Y2) ?_))); try (refine Za rfl (Aa N12 ?_))))))
   exact ⟨[], ⟨rfl, rfl⟩, hi_⟩
 · rw [decide_eq_false h0]
   repeat' (first | (refine Ah rfl ?_) | (refine Ak rfl ?_) | (refine Al ?_) | (refine Am ?_) | (refine AL Tryz.func109 rfl (fun w_ hi_ => ?_)) | ((refine Ab 0 ?_; try (refine Za rfl (Aa N12 ?_)))) | ((refine Ab 1 ?_; try (refine Zm rfl (Zm rfl (Zv (Au (CallR.val rfl en141) hq) (Zv (Bn rfl rfl Y2) ?_))); try (refine Za rfl (Aa N12 ?_))))))
   exact ⟨[], ⟨rfl, rfl⟩, hi_⟩
theorem index_when {l : List (Bs × Int)} {v fv : Value} {p : (Bs × Int) → Bool} (hs : SlK S w0 F (whensV l) l.length v) (hl : l.length ≤ 65535) (hp : ∀ x ∈ l, Tells S w0 F fv (.agg #[str x.1, .int .i64 x.2]) (p x)) :
 SLF Tryz.prog S w0 F 142 [v, fv] [] fun e post => e = .returned (.int .i64 (idxOf p l)) ∧ post = [] := by
 refine AA fun w hi => ?_
 simp only [List.nil_append] at hi
 obtain ⟨a, cap, rfl, hc, hk⟩ := hs
 have hlen : (whensV l).length = l.length * 2 := by rw [whensV_len]
 refine Ai Tryz.func142 rfl rfl (hi) ?_
 repeat' (first | (refine Ah rfl ?_) | (refine Ak rfl ?_) | (refine Al ?_) | (refine Am ?_) | (refine A5 ?_) | ((refine Ab 0 ?_; try (refine Za rfl (Aa N6 ?_)))) | ((refine Ab 1 ?_; try (refine Zm rfl (Zv (As rfl U66 rfl) (Zm rfl (Aa N6 ?_)))))))
 refine A0 (E' := (fun k : Nat => [(0, .slice a l.length cap), (1, fv), (7, .int .i64 (l.length : Int)), (8, .int .i64 (k : Int))]) 0) Y14 ?_
 refine Bf (fun k : Nat => k ≤ l.length ∧ ∀ j (hj : j < k) (hj2 : j < l.length), p l[j] = false) (fun k => l.length - k) (fun k : Nat => [(0, .slice a l.length cap), (1, fv), (7, .int .i64 (l.length : Int)), (8, .int .i64 (k : Int))]) (fun _ => F) ?_ 0 ⟨by omega, fun j hj => by omega⟩
 rintro k ⟨k1, k2⟩ ih
 try dsimp only at k1 k2 ih ⊢
 by_cases hlt : k < l.length
 · rcases hk with h | ⟨b, off, rfl, hkn⟩
   · rw [h] at hlen; simp only [List.length_nil] at hlen; omega
   · have hcell : ∀ j (h : j < (#[str l[k].1, .int .i64 l[k].2]).size), Kn S w0 F b (off + ((k : Nat) : Int).toNat * 2 + j) (#[str l[k].1, .int .i64 l[k].2])[j] := by
      intro j h
      have h2 : j < 2 := h
      have := C8 (fun p : Bs × Int => [str p.1, Value.int .i64 p.2]) (fun _ => rfl) l k j Y9 h2
      obtain ⟨h3, h4⟩ := List.getElem?_eq_some_iff.1 (this.trans (List.getElem?_eq_getElem (show j < [str l[k].1, Value.int .i64 l[k].2].length from h2)))
      have h5 : Kn S w0 F b (off + (k * 2 + j)) ((rowV (fun p : Bs × Int => [str p.1, Value.int .i64 p.2]) l)[k * 2 + j]'h3) := hkn (k * 2 + j) h3
      rw [h4] at h5
      rw [show off + ((k : Nat) : Int).toNat * 2 + j = off + (k * 2 + j) by simp; omega]
      simpa using h5
     obtain ⟨f, vs, hg, he, hq⟩ := hp l[k] (List.getElem_mem hlt)
     cases hpk : p l[k] with
     | true =>
       rw [hpk] at hq
       repeat' (first | (refine Ah rfl ?_) | (refine Ak rfl ?_) | (refine Al ?_) | (refine Am ?_) | (refine A1 rfl ?_) | (refine A5 ?_) | (refine AE ?_) | (refine AL Tryz.func142 rfl (fun w_ hi_ => ?_)) | ((refine Ab 2 ?_; try (refine Zv (A8 rfl rfl Y2) ?_; try ((refine Aa N6 ?_))))) | ((refine Ab 3 ?_; try (refine Zm rfl (Za rfl (Aa N6 ?_))))) | ((refine Ab 4 ?_; try (refine Zm rfl (Zm rfl (Zm rfl (Zv (Aq U66 sz75 rfl rfl Y9 Y9) ?_))); try (refine Zv (AK (cs := #[str l[k].1, .int .i64 l[k].2]) U75 rfl inf75 rfl hcell rfl) (Zv (Au (CallR.fv rfl rfl hg he) hq) (Aa N6 ?_)))))) | ((refine Ab 5 ?_; try (refine Zm rfl (Za rfl (Aa N6 ?_))))))
       rw [idx_at hlt (fun j hj => k2 j hj _) hpk]
       exact ⟨[], ⟨rfl, rfl⟩, hi_⟩
     | false =>
       rw [hpk] at hq
       repeat' (first | (refine Ah rfl ?_) | (refine Ak rfl ?_) | (refine Al ?_) | (refine Am ?_) | (refine A1 rfl ?_) | (refine Az rfl ?_) | (refine A5 ?_) | (refine AH ?_) | (refine AE ?_) | ((refine Ab 2 ?_; try (refine Zv (A8 rfl rfl Y2) ?_; try ((refine Aa N6 ?_))))) | ((refine Ab 3 ?_; try (refine Zm rfl (Za rfl (Aa N6 ?_))))) | ((refine Ab 4 ?_; try (refine Zm rfl (Zm rfl (Zm rfl (Zv (Aq U66 sz75 rfl rfl Y9 Y9) ?_))); try (refine Zv (AK (cs := #[str l[k].1, .int .i64 l[k].2]) U75 rfl inf75 rfl hcell rfl) (Zv (Au (CallR.fv rfl rfl hg he) hq) (Aa N6 ?_)))))) | ((refine Ab 6 ?_; try (refine Zv (AG rfl rfl Y9 Y9) ?_; try (refine Zm rfl (Aa N6 ?_))))))
       refine A0 Y10 (ih (k + 1) ⟨by omega, fun j hj hj2 => by (by_cases e : j = k; subst e; exact hpk; exact k2 j Y9 hj2)⟩ Y9)
 · repeat' (first | (refine Ah rfl ?_) | (refine Al ?_) | (refine Am ?_) | (refine Az rfl ?_) | (refine Bp rfl ?_) | (refine AL Tryz.func142 rfl (fun w_ hi_ => ?_)) | ((refine Ab 2 ?_; try (refine Zv (A8 rfl rfl Y2) ?_; try ((refine Aa N6 ?_))))) | ((refine Ab 7 ?_; try (refine Za rfl (Aa N6 ?_)))))
   rw [idx_none fun j hj => k2 j Y9 hj]
   exact ⟨[], ⟨rfl, rfl⟩, hi_⟩
theorem has_when {l : List (Bs × Int)} {v fv : Value} {p : (Bs × Int) → Bool} (hs : SlK S w0 F (whensV l) l.length v) (hl : l.length ≤ 65535) (hp : ∀ x ∈ l, Tells S w0 F fv (.agg #[str x.1, .int .i64 x.2]) (p x)) :
 SLF Tryz.prog S w0 F 111 [v, fv] [] fun e post => e = .returned (.bool (l.any p)) ∧ post = [] := by
 refine AA fun w hi => ?_
 simp only [List.nil_append] at hi
 have hq := index_when hs hl hp
 rw [idx_any]
 generalize idxOf p l = i at *
 refine Ai Tryz.func111 rfl rfl (hi) ?_
 by_cases h0 : 0 ≤ i
 · rw [decide_eq_true h0]
   repeat' (first | (refine Ah rfl ?_) | (refine Ak rfl ?_) | (refine Al ?_) | (refine Am ?_) | (refine AL Tryz.func111 rfl (fun w_ hi_ => ?_)) | ((refine Ab 0 ?_; try (refine Za rfl (Aa N12 ?_)))) | ((refine Ab 1 ?_; try (refine Zm rfl (Zm rfl (Zv (Au (CallR.val rfl en142) hq) (Zv (Bn rfl rfl Y2) ?_))); try (refine Za rfl (Aa N12 ?_))))))
   exact ⟨[], ⟨rfl, rfl⟩, hi_⟩
 · rw [decide_eq_false h0]
   repeat' (first | (refine Ah rfl ?_) | (refine Ak rfl ?_) | (refine Al ?_) | (refine Am ?_) | (refine AL Tryz.func111 rfl (fun w_ hi_ => ?_)) | ((refine Ab 0 ?_; try (refine Za rfl (Aa N12 ?_)))) | ((refine Ab 1 ?_; try (refine Zm rfl (Zm rfl (Zv (Au (CallR.val rfl en142) hq) (Zv (Bn rfl rfl Y2) ?_))); try (refine Za rfl (Aa N12 ?_))))))
   exact ⟨[], ⟨rfl, rfl⟩, hi_⟩
theorem index_ins {l : List (InsM × Value)} {v fv : Value} {p : (InsM × Value) → Bool} (hs : SlK S w0 F (rowV insP l) l.length v) (hl : l.length ≤ 65535) (hp : ∀ x ∈ l, Tells S w0 F fv (.agg (insP x).toArray) (p x)) :
 SLF Tryz.prog S w0 F 103 [v, fv] [] fun e post => e = .returned (.int .i64 (idxOf p l)) ∧ post = [] := by
 refine AA fun w hi => ?_
 simp only [List.nil_append] at hi
 obtain ⟨a, cap, rfl, hc, hk⟩ := hs
 have hlen : (rowV insP l).length = l.length * 8 := by rw [Ba insP insP_len]
 refine Ai Tryz.func103 rfl rfl (hi) ?_
 repeat' (first | (refine Ah rfl ?_) | (refine Ak rfl ?_) | (refine Al ?_) | (refine Am ?_) | (refine A5 ?_) | ((refine Ab 0 ?_; try (refine Za rfl (Aa N6 ?_)))) | ((refine Ab 1 ?_; try (refine Zm rfl (Zv (As rfl U65 rfl) (Zm rfl (Aa N6 ?_)))))))
 refine A0 (E' := (fun k : Nat => [(0, .slice a l.length cap), (1, fv), (7, .int .i64 (l.length : Int)), (8, .int .i64 (k : Int))]) 0) Y14 ?_
 refine Bf (fun k : Nat => k ≤ l.length ∧ ∀ j (hj : j < k) (hj2 : j < l.length), p l[j] = false) (fun k => l.length - k) (fun k : Nat => [(0, .slice a l.length cap), (1, fv), (7, .int .i64 (l.length : Int)), (8, .int .i64 (k : Int))]) (fun _ => F) ?_ 0 ⟨by omega, fun j hj => by omega⟩
 rintro k ⟨k1, k2⟩ ih
 try dsimp only at k1 k2 ih ⊢
 by_cases hlt : k < l.length
 · rcases hk with h | ⟨b, off, rfl, hkn⟩
   · rw [h] at hlen; simp only [List.length_nil] at hlen; omega
   · have hcell : ∀ j (h : j < ((insP l[k]).toArray).size), Kn S w0 F b (off + ((k : Nat) : Int).toNat * 8 + j) ((insP l[k]).toArray)[j] := by
      intro j h
      have h2 : j < 8 := h
      have := C8 insP insP_len l k j Y9 h2
      obtain ⟨h3, h4⟩ := List.getElem?_eq_some_iff.1 (this.trans (List.getElem?_eq_getElem (show j < (insP l[k]).length from h2)))
      have h5 := hkn (k * 8 + j) h3
      rw [h4] at h5
      rw [show off + ((k : Nat) : Int).toNat * 8 + j = off + (k * 8 + j) by simp; omega]
      simpa using h5
     obtain ⟨f, vs, hg, he, hq⟩ := hp l[k] (List.getElem_mem hlt)
     cases hpk : p l[k] with
     | true =>
       rw [hpk] at hq
       repeat' (first | (refine Ah rfl ?_) | (refine Ak rfl ?_) | (refine Al ?_) | (refine Am ?_) | (refine A1 rfl ?_) | (refine A5 ?_) | (refine AE ?_) | (refine AL Tryz.func103 rfl (fun w_ hi_ => ?_)) | ((refine Ab 2 ?_; try (refine Zv (A8 rfl rfl Y2) ?_; try ((refine Aa N6 ?_))))) | ((refine Ab 3 ?_; try (refine Zm rfl (Za rfl (Aa N6 ?_))))) | ((refine Ab 4 ?_; try (refine Zm rfl (Zm rfl (Zm rfl (Zv (Aq U65 sz73 rfl rfl Y9 Y9) ?_))); try (refine Zv (AK (cs := (insP l[k]).toArray) U73 rfl inf73 rfl hcell rfl) (Zv (Au (CallR.fv rfl rfl hg he) hq) (Aa N6 ?_)))))) | ((refine Ab 5 ?_; try (refine Zm rfl (Za rfl (Aa N6 ?_))))))
       rw [idx_at hlt (fun j hj => k2 j hj _) hpk]
       exact ⟨[], ⟨rfl, rfl⟩, hi_⟩
     | false =>
       rw [hpk] at hq
       repeat' (first | (refine Ah rfl ?_) | (refine Ak rfl ?_) | (refine Al ?_) | (refine Am ?_) | (refine A1 rfl ?_) | (refine Az rfl ?_) | (refine A5 ?_) | (refine AH ?_) | (refine AE ?_) | ((refine Ab 2 ?_; try (refine Zv (A8 rfl rfl Y2) ?_; try ((refine Aa N6 ?_))))) | ((refine Ab 3 ?_; try (refine Zm rfl (Za rfl (Aa N6 ?_))))) | ((refine Ab 4 ?_; try (refine Zm rfl (Zm rfl (Zm rfl (Zv (Aq U65 sz73 rfl rfl Y9 Y9) ?_))); try (refine Zv (AK (cs := (insP l[k]).toArray) U73 rfl inf73 rfl hcell rfl) (Zv (Au (CallR.fv rfl rfl hg he) hq) (Aa N6 ?_)))))) | ((refine Ab 6 ?_; try (refine Zv (AG rfl rfl Y9 Y9) ?_; try (refine Zm rfl (Aa N6 ?_))))))
       refine A0 Y10 (ih (k + 1) ⟨by omega, fun j hj hj2 => by (by_cases e : j = k; subst e; exact hpk; exact k2 j Y9 hj2)⟩ Y9)
 · repeat' (first | (refine Ah rfl ?_) | (refine Al ?_) | (refine Am ?_) | (refine Az rfl ?_) | (refine Bp rfl ?_) | (refine AL Tryz.func103 rfl (fun w_ hi_ => ?_)) | ((refine Ab 2 ?_; try (refine Zv (A8 rfl rfl Y2) ?_; try ((refine Aa N6 ?_))))) | ((refine Ab 7 ?_; try (refine Za rfl (Aa N6 ?_)))))
   rw [idx_none fun j hj => k2 j Y9 hj]
   exact ⟨[], ⟨rfl, rfl⟩, hi_⟩
theorem has_ins {l : List (InsM × Value)} {v fv : Value} {p : (InsM × Value) → Bool} (hs : SlK S w0 F (rowV insP l) l.length v) (hl : l.length ≤ 65535) (hp : ∀ x ∈ l, Tells S w0 F fv (.agg (insP x).toArray) (p x)) :
 SLF Tryz.prog S w0 F 72 [v, fv] [] fun e post => e = .returned (.bool (l.any p)) ∧ post = [] := by
 refine AA fun w hi => ?_
 simp only [List.nil_append] at hi
 have hq := index_ins hs hl hp
 rw [idx_any]
 generalize idxOf p l = i at *
 refine Ai Tryz.func72 rfl rfl (hi) ?_
 by_cases h0 : 0 ≤ i
 · rw [decide_eq_true h0]
   repeat' (first | (refine Ah rfl ?_) | (refine Ak rfl ?_) | (refine Al ?_) | (refine Am ?_) | (refine AL Tryz.func72 rfl (fun w_ hi_ => ?_)) | ((refine Ab 0 ?_; try (refine Za rfl (Aa N12 ?_)))) | ((refine Ab 1 ?_; try (refine Zm rfl (Zm rfl (Zv (Au (CallR.val rfl en103) hq) (Zv (Bn rfl rfl Y2) ?_))); try (refine Za rfl (Aa N12 ?_))))))
   exact ⟨[], ⟨rfl, rfl⟩, hi_⟩
 · rw [decide_eq_false h0]
   repeat' (first | (refine Ah rfl ?_) | (refine Ak rfl ?_) | (refine Al ?_) | (refine Am ?_) | (refine AL Tryz.func72 rfl (fun w_ hi_ => ?_)) | ((refine Ab 0 ?_; try (refine Za rfl (Aa N12 ?_)))) | ((refine Ab 1 ?_; try (refine Zm rfl (Zm rfl (Zv (Au (CallR.val rfl en103) hq) (Zv (Bn rfl rfl Y2) ?_))); try (refine Za rfl (Aa N12 ?_))))))
   exact ⟨[], ⟨rfl, rfl⟩, hi_⟩
end
end Go.Sl
namespace Go.Sl
def symOk (s : Bs) : Bool := decide (1 ≤ s.length) && decide (s.length ≤ 60) && decide (s ≠ [45]) && s.all fun c => decide (33 ≤ c.toNat) && decide (c.toNat ≤ 126)
def formR (op : Int) : Bs :=
 if op = 1 then [116, 108] else if op = 2 ∨ op = 11 ∨ op = 36 then [116, 97]
 else if op = 3 ∨ op = 4 ∨ op = 5 ∨ op = 6 ∨ op = 7 ∨ op = 8 ∨ op = 9 ∨ op = 10 ∨ op = 34 then [116, 97, 98]
 else if op = 12 then [116] else if op = 20 then [97, 108, 104] else if op = 21 ∨ op = 22 ∨ op = 40 ∨ op = 50 ∨ op = 51 ∨ op = 52 ∨ op = 53 ∨ op = 54 then [97]
 else if op = 23 then [97, 98] else if op = 24 ∨ op = 38 then [97, 110] else if op = 30 ∨ op = 37 then [116, 110]
 else if op = 31 ∨ op = 32 ∨ op = 39 ∨ op = 55 then [116, 97, 110] else if op = 33 then [97, 98, 110] else if op = 35 then [97, 98, 103] else []
def has (f : Bs) (c : Int) : Bool := f.any fun x => decide ((x.toNat : Int) = c)
def inR (n b : Int) : Bool := decide (0 ≤ n) && decide (n < b)
def insR (n : Int) (x : InsM) : Bool :=
 let f := formR x.op
 if f = [] then false
 else if has f 116 && !inR x.to n || !has f 116 && decide (x.to ≠ 0) || has f 97 && !inR x.a n || !has f 97 && decide (x.a ≠ 0) || has f 98 && !inR x.b n || !has f 98 && decide (x.b ≠ 0) then false
 else if !has f 108 && decide (x.lo ≠ 0) || !has f 104 && decide (x.hi ≠ 0) || decide (x.lo < -1000000000) || decide (1000000000 < x.lo) || decide (x.hi < -1000000000) || decide (1000000000 < x.hi) || has f 104 && decide (x.hi < x.lo) then false
 else if has f 110 && !symOk x.nm || !has f 110 && decide (x.nm ≠ []) then false
 else if has f 103 then decide (x.args.length = 1) && inR (arg1 x.args) n else decide (x.args.length = 0)
def inP (n a b : Int) : Bool := decide (a ≤ n) && decide (n ≤ b)
def wantP (n : Int) : LI → InsM → Bool × InsM
 | .to, x => (inP x.to 0 (n - 1), { x with to := 0 })
 | .a, x => (inP x.a 0 (n - 1), { x with a := 0 })
 | .b, x => (inP x.b 0 (n - 1), { x with b := 0 })
 | .lo, x => (inP x.lo (-1000000000) 1000000000, if x.op ≠ 20 then { x with lo := 0 } else x)
 | .hi, x => (inP x.hi x.lo 1000000000, { x with lo := 0, hi := 0 })
 | .one, x => (decide (x.args.length = 1) && inP (arg1 x.args) 0 (n - 1), { x with args := [] })
 | .sh, x => (symOk x.nm, { x with nm := [] })
 | .fi, x => (symOk x.nm, { x with nm := [] })
 | .me, x => (symOk x.nm, { x with nm := [] })
 | .gl, x => (symOk x.nm, { x with nm := [] })
def restP (x : InsM) : Bool := decide (x.to = 0) && decide (x.a = 0) && decide (x.b = 0) && decide (x.lo = 0) && decide (x.hi = 0) && decide (x.nm = []) && decide (x.args.length = 0)
def wantsP (n : Int) : List LI → InsM → Bool
 | [], x => restP x
 | l :: r, x => if (wantP n l x).1 then wantsP n r (wantP n l x).2 else false
def insPr (n : Int) (x : InsM) : Bool := match formI x.op with
 | some ls => wantsP n ls x
 | none => false
theorem inP_eq (n b : Int) : inP n 0 (b - 1) = inR n b := by
 unfold inP inR
 congr 1
 exact decide_eq_decide.2 Y9
def opsL : List Int := [1, 12, 20, 23, 24, 30, 37, 31, 32, 39, 55, 33, 35, 38, 2, 11, 36, 3, 4, 5, 6, 7, 8, 9, 10, 34, 21, 22, 40, 50, 51, 52, 53, 54]
theorem formI_some {op : Int} {ls : List LI} (h : formI op = some ls) : op ∈ opsL := by
 unfold formI at h
 cases hf : formTab.find? (fun p => p.1 == op) with
 | none => rw [hf] at h; cases h
 | some p =>
   have h1 := List.find?_some hf
   have h2 := List.mem_of_find?_eq_some hf
   have e : p.1 = op := by simpa using h1
   have : p.1 ∈ formTab.map (·.1) := List.mem_map_of_mem h2
   rw [e] at this
   exact this
theorem formR_nil {op : Int} (h : op ∉ opsL) : formR op = [] := by
 simp only [opsL, List.mem_cons, List.not_mem_nil, or_false, not_or] at h
 unfold formR
 repeat rw [if_neg Y9]
set_option maxHeartbeats 4000000 in
theorem insPr_R (n : Int) (x : InsM) : insPr n x = insR n x := by
 by_cases h : x.op ∈ opsL
 · obtain ⟨op, to, a, b, lo, hi, nm, args⟩ := x
   simp only [opsL, List.mem_cons, List.not_mem_nil, or_false] at h
   rcases h with rfl | rfl | rfl | rfl | rfl | rfl | rfl | rfl | rfl | rfl | rfl | rfl | rfl | rfl | rfl | rfl | rfl | rfl | rfl | rfl | rfl | rfl | rfl | rfl | rfl | rfl | rfl | rfl | rfl | rfl | rfl | rfl | rfl | rfl
   all_goals
    first
     | rw [show insPr n _ = wantsP n [.to, .lo] _ from rfl] | rw [show insPr n _ = wantsP n [.to] _ from rfl] | rw [show insPr n _ = wantsP n [.a, .lo, .hi] _ from rfl] | rw [show insPr n _ = wantsP n [.a, .b] _ from rfl]
     | rw [show insPr n _ = wantsP n [.a, .sh] _ from rfl] | rw [show insPr n _ = wantsP n [.to, .sh] _ from rfl] | rw [show insPr n _ = wantsP n [.to, .gl] _ from rfl] | rw [show insPr n _ = wantsP n [.to, .a, .sh] _ from rfl]
     | rw [show insPr n _ = wantsP n [.to, .a, .fi] _ from rfl] | rw [show insPr n _ = wantsP n [.to, .a, .me] _ from rfl] | rw [show insPr n _ = wantsP n [.a, .b, .fi] _ from rfl] | rw [show insPr n _ = wantsP n [.a, .b, .one] _ from rfl]
     | rw [show insPr n _ = wantsP n [.a, .gl] _ from rfl] | rw [show insPr n _ = wantsP n [.to, .a] _ from rfl] | rw [show insPr n _ = wantsP n [.to, .a, .b] _ from rfl] | rw [show insPr n _ = wantsP n [.a] _ from rfl]
    rw [Bool.eq_iff_iff]
    simp [wantsP, wantP, restP, inR, insR, formR, has, inP]
    grind
 · unfold insPr insR
   rw [formR_nil h]
   cases hf : formI x.op with
   | none => rfl
   | some ls => exact absurd (formI_some hf) h
def formEnd (k : Int) : Bs :=
 if k = 1 then [116] else if k = 2 then [97, 116, 101] else if k = 3 then [97] else if k = 4 then [120] else if k = 5 ∨ k = 6 then [114, 103, 97, 116, 119]
 else if k = 7 then [97, 98, 116, 119] else if k = 8 then [97, 116, 119] else if k = 9 then [99] else []
def whensOk (nb : Int) : List Bs → List (Bs × Int) → Bool
 | _, [] => true
 | seen, w :: r => symOk w.1 && inR w.2 nb && !(seen.contains w.1) && whensOk nb (seen ++ [w.1]) r
def handlersR (nb : Int) (x : EndM) : Bool := decide (x.ws.length ≤ 7) && (decide (x.ot = -1) || inR x.ot nb) && whensOk nb [] x.ws
def endR (n nb : Int) (x : EndM) : Bool :=
 let f := formEnd x.kd
 if f = [] then false
 else
  let none := (decide (x.kd = 3) || decide (x.kd = 5) || decide (x.kd = 6)) && decide (x.a = -1)
  if has f 97 && !none && !inR x.a n || has f 99 && (decide (x.a < 1) || decide (9 < x.a)) || !has f 97 && !has f 99 && decide (x.a ≠ 0) then false
  else if has f 98 && !inR x.b n || !has f 98 && decide (x.b ≠ 0) || has f 116 && !inR x.to nb || !has f 116 && decide (x.to ≠ 0) || has f 101 && !inR x.el nb || !has f 101 && decide (x.el ≠ 0) then false
  else if (has f 120 || has f 114) && !symOk x.nm || !(has f 120 || has f 114) && decide (x.nm ≠ []) || !has f 103 && decide (0 < x.args.length) || decide (7 < x.args.length) then false
  else if x.args.all fun a => inR a n then if has f 119 then handlersR nb x else decide (x.ws.length = 0) && decide (x.ot = -1)
  else false
structure EndS where
 ok : Bool
 args : Bool
 whens : Bool
 rest : EndM
def endLook (n nb : Int) (x : EndM) : EndS :=
 let r := { x with kd := 0, ws := [], args := [] }
 if x.kd = 1 then ⟨inR x.to nb, false, false, { r with to := 0 }⟩
 else if x.kd = 2 then ⟨inR x.a n && inR x.to nb && inR x.el nb, false, false, { r with a := 0, to := 0, el := 0 }⟩
 else if x.kd = 3 then ⟨decide (x.a = -1) || inR x.a n, false, false, { r with a := 0 }⟩
 else if x.kd = 4 then ⟨symOk x.nm, false, false, { r with nm := [] }⟩
 else if x.kd = 5 ∨ x.kd = 6 then ⟨symOk x.nm && (decide (x.a = -1) || inR x.a n) && inR x.to nb, true, true, { r with nm := [], a := 0, to := 0 }⟩
 else if x.kd = 7 then ⟨inR x.a n && inR x.b n && inR x.to nb, false, true, { r with a := 0, b := 0, to := 0 }⟩
 else if x.kd = 8 then ⟨inR x.a n && inR x.to nb, false, true, { r with a := 0, to := 0 }⟩
 else if x.kd = 9 then ⟨inP x.a 1 9, false, false, { r with a := 0 }⟩
 else ⟨false, false, false, r⟩
def endPr (n nb : Int) (x : EndM) : Bool :=
 let q := endLook n nb x
 if !q.ok || !q.args && decide (0 < x.args.length) || decide (7 < x.args.length) || x.args.any (fun a => !inR a n) then false
 else if q.whens && decide (x.ot ≠ -1) && !inR x.ot nb then false
 else
  let ot := if q.whens then -1 else q.rest.ot
  if !q.whens && decide (0 < x.ws.length) then false
  else if decide (x.ws.length ≤ 7) && whensOk nb [] x.ws then decide (q.rest.a = 0) && decide (q.rest.b = 0) && decide (q.rest.to = 0) && decide (q.rest.el = 0) && decide (q.rest.nm = []) && decide (ot = -1)
  else false
theorem any_not {α : Type} (l : List α) (p : α → Bool) : l.any (fun a => !p a) = !l.all p := by
 induction l with
 | nil => rfl
 | cons a l ih => simp [ih]
set_option maxHeartbeats 4000000 in
theorem endPr_R (n nb : Int) (x : EndM) : endPr n nb x = endR n nb x := by
 obtain ⟨kd, a, b, to, el, nm, args, ws, ot⟩ := x
 unfold endPr endR
 rw [any_not]
 by_cases h : kd = 1 ∨ kd = 2 ∨ kd = 3 ∨ kd = 4 ∨ kd = 5 ∨ kd = 6 ∨ kd = 7 ∨ kd = 8 ∨ kd = 9
 · rcases h with rfl | rfl | rfl | rfl | rfl | rfl | rfl | rfl | rfl
   all_goals
    rw [Bool.eq_iff_iff]
    simp [endLook, formEnd, has, handlersR, inP]
    generalize args.all (fun a => inR a n) = q
    generalize hw : whensOk nb [] ws = q2
    cases ws with
    | nil =>
      simp [whensOk] at hw
      subst hw
      grind
    | cons w ws => grind
 · rw [not_or, not_or, not_or, not_or, not_or, not_or, not_or, not_or] at h
   simp [endLook, formEnd, h]
def bsLt (a b : Bs) : Bool := Go.Op.bytesLess a b
def raisesOk : List Bs → Bool
 | [] => true
 | [a] => symOk a
 | a :: b :: r => symOk a && bsLt a b && raisesOk (b :: r)
def blkOk (n nb : Int) (b : BlkM) : Bool := decide (b.ins.length ≤ 200) && endR n nb b.en && b.ins.all fun x => insR n x
def sndOk (f : FlowM) : Bool := decide (f.regs.length ≤ 400) && decide (0 ≤ f.ac) && decide (f.ac ≤ 7) && decide (f.ac ≤ (f.regs.length : Int)) && decide (f.res ≤ 2) && decide (f.raises.length ≤ 6) && decide (1 ≤ f.blks.length) && decide (f.blks.length ≤ 600) &&
 f.regs.all (fun r => decide (r = 1) || decide (r = 2)) && raisesOk f.raises && f.blks.all (blkOk f.regs.length f.blks.length)
def chkOk (f : FlowM) : Bool := symOk f.nm && sndOk f
end Go.Sl
namespace Go.Sl
open Go Go.RowKit Go.Shelf Go.Proofs
attribute [local irreducible] Calls
section
variable {S : Nat → Prop} {w0 : World} {F : List Ent}
abbrev Yields (S : Nat → Prop) (w0 : World) (F : List Ent) (f : FuncId) (vs : List Value) (v : Value) : Prop := SLF Tryz.prog S w0 F f vs [] fun e post => e = .returned v ∧ post = []
theorem in_c (n a b : Int) : Yields S w0 F 69 [.int .i64 n, .int .i64 a, .int .i64 b] (.bool (inP n a b)) := by
 refine AA fun w hi => ?_
 simp only [List.nil_append] at hi
 refine Ai Tryz.func69 rfl rfl (hi) ?_
 by_cases h1 : a ≤ n
 · by_cases h2 : n ≤ b
   · rw [show inP n a b = true by simp [inP, h1, h2]]
     repeat' (first | (refine Ah rfl ?_) | (refine Ak rfl ?_) | (refine Al ?_) | (refine Am ?_) | (refine AL Tryz.func69 rfl (fun w_ hi_ => ?_)) | ((refine Ab 0 ?_; try (refine Za rfl (Aa N40 ?_)))) | ((refine Ab 1 ?_; try (refine Zm rfl (Zm rfl (Zv (Bn rfl rfl Y2) ?_)); try (refine Zm rfl ?_; try (((refine Zm rfl ?_)) <;> try (((refine Zm rfl ?_)) <;> try (((refine Zv (CO rfl rfl Y2) ?_)) <;> try (refine Zv (Av rfl rfl) (Za rfl (Aa N40 ?_)))))))))))
     exact ⟨[], ⟨rfl, rfl⟩, hi_⟩
   · rw [show inP n a b = false by simp [inP, h1, h2]]
     repeat' (first | (refine Ah rfl ?_) | (refine Ak rfl ?_) | (refine Al ?_) | (refine Am ?_) | (refine AL Tryz.func69 rfl (fun w_ hi_ => ?_)) | ((refine Ab 0 ?_; try (refine Za rfl (Aa N40 ?_)))) | ((refine Ab 1 ?_; try (refine Zm rfl (Zm rfl (Zv (Bn rfl rfl Y2) ?_)); try (refine Zm rfl ?_; try (((refine Zm rfl ?_)) <;> try (((refine Zm rfl ?_)) <;> try (((refine Zv (CO rfl rfl Y2) ?_)) <;> try (refine Zv (Av rfl rfl) (Za rfl (Aa N40 ?_)))))))))))
     exact ⟨[], ⟨rfl, rfl⟩, hi_⟩
 · rw [show inP n a b = false by simp [inP, h1]]
   repeat' (first | (refine Ah rfl ?_) | (refine Ak rfl ?_) | (refine Al ?_) | (refine Am ?_) | (refine AL Tryz.func69 rfl (fun w_ hi_ => ?_)) | ((refine Ab 0 ?_; try (refine Za rfl (Aa N40 ?_)))) | ((refine Ab 1 ?_; try (refine Zm rfl (Zm rfl (Zv (Bn rfl rfl Y2) ?_)); try (refine Zm rfl (Zk (Zk (Zk (Zv (AC rfl rfl) (Za rfl (Aa N40 ?_)))))))))))
   exact ⟨[], ⟨rfl, rfl⟩, hi_⟩
theorem symc_c (c : Int) : Yields S w0 F 101 [.int .u8 c] (.bool (decide (c < 33) || decide (126 < c))) := by
 refine AA fun w hi => ?_
 simp only [List.nil_append] at hi
 refine Ai Tryz.func101 rfl rfl (hi) ?_
 by_cases h1 : c < 33
 · rw [show (decide (c < 33) || decide (126 < c)) = true by simp [h1]]
   repeat' (first | (refine Ah rfl ?_) | (refine Ak rfl ?_) | (refine Al ?_) | (refine Am ?_) | (refine AL Tryz.func101 rfl (fun w_ hi_ => ?_)) | ((refine Ab 0 ?_; try (refine Za rfl (Aa N16 ?_)))) | ((refine Ab 1 ?_; try (refine Zm rfl (Zv (A8 rfl rfl Y2) ?_); try (refine Zm rfl (Zk (Zk (Zv (Av rfl rfl) (Za rfl (Aa N16 ?_))))))))))
   exact ⟨[], ⟨rfl, rfl⟩, hi_⟩
 · by_cases h2 : 126 < c
   · rw [show (decide (c < 33) || decide (126 < c)) = true by simp [h2]]
     repeat' (first | (refine Ah rfl ?_) | (refine Ak rfl ?_) | (refine Al ?_) | (refine Am ?_) | (refine AL Tryz.func101 rfl (fun w_ hi_ => ?_)) | ((refine Ab 0 ?_; try (refine Za rfl (Aa N16 ?_)))) | ((refine Ab 1 ?_; try (refine Zm rfl (Zv (A8 rfl rfl Y2) ?_); try (refine Zm rfl ?_; try (((refine Zm rfl ?_)) <;> try (((refine Zv (B4 rfl rfl Y2) ?_)) <;> try (refine Zv (AC rfl rfl) (Za rfl (Aa N16 ?_))))))))))
     exact ⟨[], ⟨rfl, rfl⟩, hi_⟩
   · rw [show (decide (c < 33) || decide (126 < c)) = false by simp [h1, h2]]
     repeat' (first | (refine Ah rfl ?_) | (refine Ak rfl ?_) | (refine Al ?_) | (refine Am ?_) | (refine AL Tryz.func101 rfl (fun w_ hi_ => ?_)) | ((refine Ab 0 ?_; try (refine Za rfl (Aa N16 ?_)))) | ((refine Ab 1 ?_; try (refine Zm rfl (Zv (A8 rfl rfl Y2) ?_); try (refine Zm rfl ?_; try (((refine Zm rfl ?_)) <;> try (((refine Zv (B4 rfl rfl Y2) ?_)) <;> try (refine Zv (AC rfl rfl) (Za rfl (Aa N16 ?_))))))))))
     exact ⟨[], ⟨rfl, rfl⟩, hi_⟩
theorem tells_fn {f : FuncId} {fs : Array Value} {v : Value} {q : Bool} (he : Enters Tryz.prog f) (h : Yields S w0 F f (v :: fs.toList) (.bool q)) : Tells S w0 F (.func (.func f) #[] fs) v q :=
 ⟨f, v :: fs.toList, .fn _ _ _ _ _ Y26, he, h⟩
theorem slk_bytes {bb cap : Nat} {s : Bs} {rst : List Value} {el : TypeId} {fz : Nat × Nat} {rw_ : Bool} (hc : s.length ≤ cap) : SlK S w0 (⟨bb, rw_, .cells (byv s ++ rst).toArray el fz⟩ :: F) (regV (s.map fun c => (c.toNat : Int))) (s.map fun c => (c.toNat : Int)).length (.slice (some ⟨bb, 0, none⟩) s.length cap) := by
 refine ⟨_, cap, by rw [List.length_map], by rw [List.length_map]; exact hc, .inr ⟨bb, 0, rfl, fun i h => Kn.of (.head _) ?_⟩⟩
 have e : regV (s.map fun c => (c.toNat : Int)) = byv s := by simp [regV, byv]
 simp only [e] at h ⊢
 rw [List.getElem?_toArray, List.getElem?_append_left Y9, Nat.zero_add, List.getElem?_eq_getElem h]
theorem sym_any (s : Bs) : (s.map fun c => (c.toNat : Int)).any (fun c => decide (c < 33) || decide (126 < c)) = !s.all fun c => decide (33 ≤ c.toNat) && decide (c.toNat ≤ 126) := by
 rw [List.any_map, ← any_not]
 congr 1
 funext c
 simp only [Function.comp, Bool.not_and]
 congr 1
 · rw [← decide_not]; exact decide_eq_decide.2 Y9
 · rw [← decide_not]; exact decide_eq_decide.2 Y9
theorem sym_c (s : Bs) : Yields S w0 F 68 [str s] (.bool (symOk s)) := by
 refine AA fun w hi => ?_
 simp only [List.nil_append] at hi
 refine Ai Tryz.func68 rfl rfl (hi) ?_
 by_cases h1 : 1 ≤ s.length ∧ s.length ≤ 60
 · have hin : ∀ {F}, Yields S w0 F 69 [.int .i64 (s.length : Int), .int .i64 1, .int .i64 60] (.bool true) := by
    intro F
    have := in_c (S := S) (w0 := w0) (F := F) (s.length : Int) 1 60
    rwa [show inP (s.length : Int) 1 60 = true by simp [inP]; omega] at this
   by_cases h2 : s = [45]
   · rw [show symOk s = false by simp [symOk, h2]]
     have h2' : s = [45] := h2
     repeat' (first | (refine Ah rfl ?_) | (refine Ak rfl ?_) | (refine Al ?_) | (refine Am ?_) | (refine AL Tryz.func68 rfl (fun w_ hi_ => ?_)) | ((refine Ab 0 ?_; try (refine Za rfl (Aa N16 ?_)))) | ((refine Ab 1 ?_; try (refine Zm rfl (Zv (ov_lenS rfl U9 rfl) (Zv (Au (CallR.val rfl en69) hin) (Zm rfl ?_))); try (((refine Zm rfl ?_)) <;> try (((refine Zv (ov_neqS3 rfl rfl Y25) ?_)) <;> try (refine Zv (Av rfl rfl) (Zm rfl (Zk (Zk (Zk (Zk (Zv (AC rfl rfl) (Za rfl (Aa N16 ?_)))))))))))))))
     exact ⟨[], ⟨rfl, rfl⟩, hi_⟩
   · have hc : ∀ {rst : List Value} {bb cap : Nat} {fz : Nat × Nat}, s.length ≤ cap → Yields S w0 (⟨bb, true, .cells (byv s ++ rst).toArray 5 fz⟩ :: F) 70 [.slice (some ⟨bb, 0, none⟩) s.length cap, .func (.func 101) #[] #[]] (.bool (!s.all fun c => decide (33 ≤ c.toNat) && decide (c.toNat ≤ 126))) := by
      intro rst bb cap fz hc
      rw [← sym_any]
      exact has_u8 (slk_bytes hc) (by simp; omega) (fun x _ => tells_fn en101 (symc_c x))
     rw [show symOk s = (s.all fun c => decide (33 ≤ c.toNat) && decide (c.toNat ≤ 126)) by simp [symOk, h1, h2]]
     generalize (s.all fun c => decide (33 ≤ c.toNat) && decide (c.toNat ≤ 126)) = q at *
     cases q
     · repeat' (first | (refine Ah rfl ?_) | (refine Ak rfl ?_) | (refine Al ?_) | (refine Am ?_) | (refine AL Tryz.func68 rfl (fun w_ hi_ => ?_)) | ((refine Ab 0 ?_; try (refine Za rfl (Aa N16 ?_)))) | ((refine Ab 1 ?_; try (refine Zm rfl (Zv (ov_lenS rfl U9 rfl) (Zv (Au (CallR.val rfl en69) hin) (Zm rfl ?_))); try (((refine Zm rfl ?_)) <;> try (((refine Zv (ov_neqS3 rfl rfl Y25) ?_)) <;> try (refine Zv (Av rfl rfl) (Zm rfl ?_); try (((refine Zm rfl ?_)) <;> try (((refine wo_bytes U9 U22 U5 rfl rfl rfl (fun bb cap_ hbb hcap => ?_))) <;> try (((refine Zv (Au (CallR.val rfl en70) (hc hcap)) ?_)) <;> try (((refine Zv (BT rfl) ?_)) <;> try (refine Zv (Av rfl rfl) (Za rfl (Aa N16 ?_))))))))))))))
       exact ⟨[], ⟨rfl, rfl⟩, hi_.subset (List.sublist_cons_self _ _)⟩
     · repeat' (first | (refine Ah rfl ?_) | (refine Ak rfl ?_) | (refine Al ?_) | (refine Am ?_) | (refine AL Tryz.func68 rfl (fun w_ hi_ => ?_)) | ((refine Ab 0 ?_; try (refine Za rfl (Aa N16 ?_)))) | ((refine Ab 1 ?_; try (refine Zm rfl (Zv (ov_lenS rfl U9 rfl) (Zv (Au (CallR.val rfl en69) hin) (Zm rfl ?_))); try (((refine Zm rfl ?_)) <;> try (((refine Zv (ov_neqS3 rfl rfl Y25) ?_)) <;> try (refine Zv (Av rfl rfl) (Zm rfl ?_); try (((refine Zm rfl ?_)) <;> try (((refine wo_bytes U9 U22 U5 rfl rfl rfl (fun bb cap_ hbb hcap => ?_))) <;> try (((refine Zv (Au (CallR.val rfl en70) (hc hcap)) ?_)) <;> try (((refine Zv (Ci rfl) ?_)) <;> try (refine Zv (Av rfl rfl) (Za rfl (Aa N16 ?_))))))))))))))
       exact ⟨[], ⟨rfl, rfl⟩, hi_.subset (List.sublist_cons_self _ _)⟩
 · have hin : ∀ {F}, Yields S w0 F 69 [.int .i64 (s.length : Int), .int .i64 1, .int .i64 60] (.bool false) := by
    intro F
    have := in_c (S := S) (w0 := w0) (F := F) (s.length : Int) 1 60
    rwa [show inP (s.length : Int) 1 60 = false by simp [inP]; omega] at this
   rw [show symOk s = false by simp [symOk]; intro h2 h3; omega]
   repeat' (first | (refine Ah rfl ?_) | (refine Ak rfl ?_) | (refine Al ?_) | (refine Am ?_) | (refine AL Tryz.func68 rfl (fun w_ hi_ => ?_)) | ((refine Ab 0 ?_; try (refine Za rfl (Aa N16 ?_)))) | ((refine Ab 1 ?_; try (refine Zm rfl (Zv (ov_lenS rfl U9 rfl) (Zv (Au (CallR.val rfl en69) hin) (Zm rfl (Zk (Zk (Zv (AC rfl rfl) (Zm rfl (Zk (Zk (Zk (Zk (Zv (AC rfl rfl) (Za rfl (Aa N16 ?_))))))))))))))))))
   exact ⟨[], ⟨rfl, rfl⟩, hi_⟩
structure FlowAt (S : Nat → Prop) (w0 : World) (F : List Ent) (bf : Nat) (nr nb : Nat) : Prop where
 regs : ∃ a c, Kn S w0 F bf 3 (.slice a nr c)
 blks : ∃ a c, Kn S w0 F bf 5 (.slice a nb c)
theorem FlowAt.up {F' : List Ent} {bf nr nb : Nat} (h : FlowAt S w0 F bf nr nb) (hu : ∀ e ∈ F, e ∈ F') : FlowAt S w0 F' bf nr nb := by
 obtain ⟨⟨a, c, h1⟩, ⟨a2, c2, h2⟩⟩ := h
 exact ⟨⟨a, c, h1.mono hu⟩, ⟨a2, c2, h2.mono hu⟩⟩
theorem reg1_c {bx bf nr nb : Nat} (hx : Kn S w0 F bx 0 (pv bf 0)) (hf : FlowAt S w0 F bf nr nb) (hn : nr ≤ 65535) (r : Int) : Yields S w0 F 104 [.int .i64 r, pv bx 0] (.bool (inP r 0 ((nr : Int) - 1))) := by
 refine AA fun w hi => ?_
 simp only [List.nil_append] at hi
 obtain ⟨⟨a, c, h1⟩, _⟩ := hf
 refine Ai Tryz.func104 rfl rfl (hi) ?_
 repeat' (first | (refine Ah rfl ?_) | (refine Ak rfl ?_) | (refine Al ?_) | (refine Am ?_) | (refine AL Tryz.func104 rfl (fun w_ hi_ => ?_)) | ((refine Ab 0 ?_; try (refine Za rfl (Aa N28 ?_)))) | ((refine Ab 1 ?_; try (refine Zm rfl (Zv (A7 U120 rfl rfl hx) (Zv (Ag rfl) (Zf Cc rfl (Zv (A7 U22 rfl rfl h1) (Zv (As rfl U22 rfl) (Zv (Cf rfl rfl Y9 Y9) ?_)))))); try (refine Zv (Au (CallR.val rfl en69) (in_c _ _ _)) (Za rfl (Aa N28 ?_)))))))
 exact ⟨[], ⟨rfl, rfl⟩, hi_⟩
theorem reg2_c {bx bf nr nb : Nat} (hx : Kn S w0 F bx 0 (pv bf 0)) (hf : FlowAt S w0 F bf nr nb) (hn : nr ≤ 65535) (r : Int) : Yields S w0 F 107 [.int .i64 r, pv bx 0] (.bool (inP r 0 ((nr : Int) - 1))) := by
 refine AA fun w hi => ?_
 simp only [List.nil_append] at hi
 obtain ⟨⟨a, c, h1⟩, _⟩ := hf
 refine Ai Tryz.func107 rfl rfl (hi) ?_
 repeat' (first | (refine Ah rfl ?_) | (refine Ak rfl ?_) | (refine Al ?_) | (refine Am ?_) | (refine AL Tryz.func107 rfl (fun w_ hi_ => ?_)) | ((refine Ab 0 ?_; try (refine Za rfl (Aa N28 ?_)))) | ((refine Ab 1 ?_; try (refine Zm rfl (Zv (A7 U120 rfl rfl hx) (Zv (Ag rfl) (Zf Cc rfl (Zv (A7 U22 rfl rfl h1) (Zv (As rfl U22 rfl) (Zv (Cf rfl rfl Y9 Y9) ?_)))))); try (refine Zv (Au (CallR.val rfl en69) (in_c _ _ _)) (Za rfl (Aa N28 ?_)))))))
 exact ⟨[], ⟨rfl, rfl⟩, hi_⟩
theorem blk2_c {bx bf nr nb : Nat} (hx : Kn S w0 F bx 0 (pv bf 0)) (hf : FlowAt S w0 F bf nr nb) (hn : nb ≤ 65535) (r : Int) : Yields S w0 F 108 [.int .i64 r, pv bx 0] (.bool (inP r 0 ((nb : Int) - 1))) := by
 refine AA fun w hi => ?_
 simp only [List.nil_append] at hi
 obtain ⟨_, ⟨a, c, h1⟩⟩ := hf
 refine Ai Tryz.func108 rfl rfl (hi) ?_
 repeat' (first | (refine Ah rfl ?_) | (refine Ak rfl ?_) | (refine Al ?_) | (refine Am ?_) | (refine AL Tryz.func108 rfl (fun w_ hi_ => ?_)) | ((refine Ab 0 ?_; try (refine Za rfl (Aa N28 ?_)))) | ((refine Ab 1 ?_; try (refine Zm rfl (Zv (A7 U120 rfl rfl hx) (Zv (Ag rfl) (Zf BJ rfl (Zv (A7 U24 rfl rfl h1) (Zv (As rfl U24 rfl) (Zv (Cf rfl rfl Y9 Y9) ?_)))))); try (refine Zv (Au (CallR.val rfl en69) (in_c _ _ _)) (Za rfl (Aa N28 ?_)))))))
 exact ⟨[], ⟨rfl, rfl⟩, hi_⟩
theorem reg3_c {bg bx : Nat} {r : Int} {q : Bool} (hg : Kn S w0 F bg 0 (.func (.func 107) #[] #[pv bx 0])) (hq : Yields S w0 F 107 [.int .i64 r, pv bx 0] (.bool q)) : Yields S w0 F 110 [.int .i64 r, pv bg 0] (.bool (!q)) := by
 refine AA fun w hi => ?_
 simp only [List.nil_append] at hi
 refine Ai Tryz.func110 rfl rfl (hi) ?_
 cases q
 · repeat' (first | (refine Ah rfl ?_) | (refine Ak rfl ?_) | (refine Al ?_) | (refine Am ?_) | (refine AL Tryz.func110 rfl (fun w_ hi_ => ?_)) | ((refine Ab 0 ?_; try (refine Za rfl (Aa N28 ?_)))) | ((refine Ab 1 ?_; try (refine Zv (A7 U176 rfl rfl hg) (Zm rfl (Zv (Au (CallR.fv rfl rfl (.fn _ _ _ _ _ rfl) en107) hq) (Zv (Ci rfl) (Za rfl (Aa N28 ?_)))))))))
   exact ⟨[], ⟨rfl, rfl⟩, hi_⟩
 · repeat' (first | (refine Ah rfl ?_) | (refine Ak rfl ?_) | (refine Al ?_) | (refine Am ?_) | (refine AL Tryz.func110 rfl (fun w_ hi_ => ?_)) | ((refine Ab 0 ?_; try (refine Za rfl (Aa N28 ?_)))) | ((refine Ab 1 ?_; try (refine Zv (A7 U176 rfl rfl hg) (Zm rfl (Zv (Au (CallR.fv rfl rfl (.fn _ _ _ _ _ rfl) en107) hq) (Zv (BT rfl) (Za rfl (Aa N28 ?_)))))))))
   exact ⟨[], ⟨rfl, rfl⟩, hi_⟩
theorem when4_c {bw : Nat} {h x : Bs × Int} (hw : Kn S w0 F bw 0 (str h.1)) : Yields S w0 F 112 [.agg #[str x.1, .int .i64 x.2], pv bw 0] (.bool (decide (x.1 = h.1))) := by
 refine AA fun w hi => ?_
 simp only [List.nil_append] at hi
 refine Ai Tryz.func112 rfl rfl (hi) ?_
 by_cases e : x.1 = h.1
 · rw [decide_eq_true e]
   repeat' (first | (refine Ah rfl ?_) | (refine Ak rfl ?_) | (refine Al ?_) | (refine Am ?_) | (refine AL Tryz.func112 rfl (fun w_ hi_ => ?_)) | ((refine Ab 0 ?_; try (refine AF rfl rfl rfl rfl (fun b_ hb_ => ?_); try (refine Za rfl (Aa [0, 1, 2, 3] ?_))))) | ((refine Ab 1 ?_; try (refine Zf fo75_0 rfl (Zv (Ac U9 rfl rfl Y0 Y5) ?_); try (refine Zf fo75_0 rfl (Zv (A7 U9 rfl rfl hw.cons) (Zv (BU rfl rfl Y18) ?_)); try (refine Za rfl (Aa [0, 1, 2, 3] ?_)))))))
   exact ⟨[], ⟨rfl, rfl⟩, hi_.subset (List.sublist_cons_self _ _)⟩
 · rw [decide_eq_false e]
   repeat' (first | (refine Ah rfl ?_) | (refine Ak rfl ?_) | (refine Al ?_) | (refine Am ?_) | (refine AL Tryz.func112 rfl (fun w_ hi_ => ?_)) | ((refine Ab 0 ?_; try (refine AF rfl rfl rfl rfl (fun b_ hb_ => ?_); try (refine Za rfl (Aa [0, 1, 2, 3] ?_))))) | ((refine Ab 1 ?_; try (refine Zf fo75_0 rfl (Zv (Ac U9 rfl rfl Y0 Y5) ?_); try (refine Zf fo75_0 rfl (Zv (A7 U9 rfl rfl hw.cons) (Zv (BU rfl rfl Y18) ?_)); try (refine Za rfl (Aa [0, 1, 2, 3] ?_)))))))
   exact ⟨[], ⟨rfl, rfl⟩, hi_.subset (List.sublist_cons_self _ _)⟩
end
end Go.Sl
namespace Go.Sl
open Go Go.RowKit Go.Shelf Go.Proofs
attribute [local irreducible] Calls
def mKd : Kd Unit where
 num _ _ _ := .ok (77, ())
 txt _ _ := .ok ([63], ())
 ref _ _ _ := .ok ([63], ())
 blk _ := .ok ()
theorem metMN : metTo Tryz.prog 128 "trestle/code.number" = some 186 := by kernel_rfl
theorem metMT : metTo Tryz.prog 128 "trestle/code.text" = some 188 := by kernel_rfl
theorem metMR : metTo Tryz.prog 128 "trestle/code.refer" = some 187 := by kernel_rfl
theorem metMB : metTo Tryz.prog 128 "trestle/code.block" = some 185 := by kernel_rfl
section
variable {S : Nat → Prop} {w0 : World} {F : List Ent}
theorem mar_number {bm b o : Nat} {n : Int} {sz : Nat} {c : Array Value} {el : TypeId} (h : c[o]? = some (.int .i64 n)) :
 SLF Tryz.prog S w0 F 186 [pv bm 0, pv b o, .int .i64 (sz : Int)] [⟨b, true, .cells c el (0, 0)⟩] (fun e post => e = .returned unitV ∧ post = [⟨b, true, .cells (c.setIfInBounds o (.int .i64 77)) el (0, 0)⟩]) := by
 refine AA fun w hi => ?_
 simp only [List.cons_append, List.nil_append] at hi
 have hlt := (Array.getElem?_eq_some_iff.1 h).1
 refine Ai Tryz.func186 rfl rfl (hi) ?_
 repeat' (first | (refine Ah rfl ?_) | (refine Ak rfl ?_) | (refine Al ?_) | (refine Bl Tryz.func186 rfl (fun w_ hi_ => ?_)) | ((refine Ab 0 ?_; try (refine Zm rfl (Zv (Ag rfl) ?_); try (refine AJ rfl rfl rfl sz3 Y3 hlt (.inr (Nat.zero_le _)) rfl rfl ?_; try ((refine Aa N3 ?_)))))))
 exact ⟨_, ⟨rfl, rfl⟩, hi_⟩
theorem mar_text {bm b o : Nat} {n : Bs} {c : Array Value} {el : TypeId} (h : c[o]? = some (str n)) :
 SLF Tryz.prog S w0 F 188 [pv bm 0, pv b o] [⟨b, true, .cells c el (0, 0)⟩] (fun e post => e = .returned unitV ∧ post = [⟨b, true, .cells (c.setIfInBounds o (str [63])) el (0, 0)⟩]) := by
 refine AA fun w hi => ?_
 simp only [List.cons_append, List.nil_append] at hi
 have hlt := (Array.getElem?_eq_some_iff.1 h).1
 refine Ai Tryz.func188 rfl rfl (hi) ?_
 repeat' (first | (refine Ah rfl ?_) | (refine Ak rfl ?_) | (refine Al ?_) | (refine Bl Tryz.func188 rfl (fun w_ hi_ => ?_)) | ((refine Ab 0 ?_; try (refine Zm rfl (Zv (Ag rfl) ?_); try (refine AJ rfl rfl rfl sz9 Y3 hlt (.inr (Nat.zero_le _)) rfl rfl ?_; try ((refine Aa [0, 1] ?_)))))))
 exact ⟨_, ⟨rfl, rfl⟩, hi_⟩
theorem mar_refer {bm b o : Nat} {n : Bs} {q : Int} {c : Array Value} {el : TypeId} (h : c[o]? = some (str n)) :
 SLF Tryz.prog S w0 F 187 [pv bm 0, pv b o, .int .u8 q] [⟨b, true, .cells c el (0, 0)⟩] (fun e post => e = .returned unitV ∧ post = [⟨b, true, .cells (c.setIfInBounds o (str [63])) el (0, 0)⟩]) := by
 refine AA fun w hi => ?_
 simp only [List.cons_append, List.nil_append] at hi
 have hlt := (Array.getElem?_eq_some_iff.1 h).1
 refine Ai Tryz.func187 rfl rfl (hi) ?_
 repeat' (first | (refine Ah rfl ?_) | (refine Ak rfl ?_) | (refine Al ?_) | (refine Bl Tryz.func187 rfl (fun w_ hi_ => ?_)) | ((refine Ab 0 ?_; try (refine Zm rfl (Zv (Ag rfl) ?_); try (refine AJ rfl rfl rfl sz9 Y3 hlt (.inr (Nat.zero_le _)) rfl rfl ?_; try ((refine Aa N3 ?_)))))))
 exact ⟨_, ⟨rfl, rfl⟩, hi_⟩
theorem mar_block {bm : Nat} : SLF Tryz.prog S w0 F 185 [pv bm 0] [] (fun e post => e = .returned unitV ∧ post = []) := by
 refine AA fun w hi => ?_
 simp only [List.nil_append] at hi
 refine Ai Tryz.func185 rfl rfl (hi) ?_
 repeat' (first | (refine AE ?_) | (refine Bl Tryz.func185 rfl (fun w_ hi_ => ?_)))
 exact ⟨[], ⟨rfl, rfl⟩, hi_⟩
def mCod (S : Nat → Prop) (w0 : World) (bm : Nat) : Cod S w0 Unit where
 κ := mKd
 K := False
 it := 128
 iv := pv bm 0
 env := fun _ => True
 envU := fun _ _ _ h => h
 St := fun _ L => L = []
 fN := 186
 fT := 188
 fR := 187
 fB := 185
 mN := metMN
 mT := metMT
 mR := metMR
 mB := metMB
 eN := en186
 eT := en188
 eR := en187
 eB := en185
 num := by
  intro F s L b o n sz Lp Lp' _ hs hsz hf hp
  subst hs
  have h := hp 77 () rfl
  generalize hQ : Lp' 77 = Q at h
  cases h with
  | own c el v' hc => exact (mar_number hc).mono fun e post ⟨h1, h2⟩ => ⟨unitV, h1, rfl, [], rfl, by rw [h2]; exact hQ.symm⟩
  | kn hk _ => exact hk.elim
 txt := by
  intro F s L b o n Lp Lp' _ hs hf hp
  subst hs
  have h := hp [63] () rfl
  generalize hQ : Lp' [63] = Q at h
  cases h with
  | own c el v' hc => exact (mar_text hc).mono fun e post ⟨h1, h2⟩ => ⟨unitV, h1, rfl, [], rfl, by rw [h2]; exact hQ.symm⟩
  | kn hk _ => exact hk.elim
 ref := by
  intro F s L b o n q Lp Lp' _ hs hf hp
  subst hs
  have h := hp [63] () rfl
  generalize hQ : Lp' [63] = Q at h
  cases h with
  | own c el v' hc => exact (mar_refer hc).mono fun e post ⟨h1, h2⟩ => ⟨unitV, h1, rfl, [], rfl, by rw [h2]; exact hQ.symm⟩
  | kn hk _ => exact hk.elim
 blk := by
  intro F s L _ hs hf
  subst hs
  exact mar_block.mono fun e post ⟨h1, h2⟩ => ⟨unitV, h1, rfl, h2⟩
def prb : InsM := { ins0 with args := [0] }
theorem mone_c {bm bp br : Nat} :
 SLF Tryz.prog S w0 F 130 [wkV (mCod S w0 bm), pv bp 0] [⟨bp, true, .cells (insC prb (.slice (some ⟨br, 0, none⟩) 1 1)).toArray 73 (0, 0)⟩, ⟨br, true, .cells #[.int .i64 0] 3 (0, 0)⟩] (fun e post => e = .returned unitV ∧ post = [⟨bp, true, .cells (insC prb (.slice (some ⟨br, 0, none⟩) 1 1)).toArray 73 (0, 0)⟩, ⟨br, true, .cells #[.int .i64 77] 3 (0, 0)⟩]) := by
 refine AA fun w hi => ?_
 simp only [List.cons_append, List.nil_append] at hi
 have hpl : ∀ {F : List Ent}, SLF Tryz.prog S w0 F 147 [wkV (mCod S w0 bm), pv br 0] ([] ++ [⟨br, true, .cells #[.int .i64 0] 3 (0, 0)⟩]) (MoO (mKd.num 0 2 ()) fun a v post => v = unitV ∧ ∃ L', (mCod S w0 bm).St a.2 L' ∧ post = L' ++ [⟨br, true, .cells #[.int .i64 a.1] 3 (0, 0)⟩]) := fun {F} => C3 (mCod S w0 bm) (F := F) (L := []) (s := ()) (b := br) (o := 0) (n := 0) (Lp := [⟨br, true, .cells #[.int .i64 0] 3 (0, 0)⟩]) (Lp' := fun n => [⟨br, true, .cells #[.int .i64 n] 3 (0, 0)⟩]) trivial rfl (by simp [mCod, mKd]) (fun n' s' _ => .own #[.int .i64 0] _ (.int .i64 n') rfl)
 refine Ai Tryz.func130 rfl rfl (hi) ?_
 repeat' (first | (refine Ah rfl ?_) | (refine Ak rfl ?_) | (refine Al ?_) | (refine Am ?_) | (refine Az rfl ?_) | (refine AE ?_) | (refine Bl Tryz.func130 rfl (fun w_ hi_ => ?_)) | ((refine Ab 0 ?_; try (refine AF rfl rfl rfl rfl (fun b_ hb_ => ?_); try ((refine Aa N27 ?_))))) | ((refine Ab 1 ?_; try (refine Zm rfl (Zv (Ag rfl) (Zf CJ rfl (Zv (Ac U59 rfl rfl Y0 Y5) ?_))); try (refine Zv (As rfl U59 rfl) (Zv (AX rfl rfl (by first | exact A2 Y9 | exact Ay Y9 | exact rfl)) ?_); try ((refine Aa N27 ?_)))))) | ((refine Bd (id := 3) 6 rfl mixed Y1 ?_; try (refine Ax (AV U113 rfl B7 rfl Y0 Y15) rfl rfl ?_; try (refine Ax (Aj rfl) rfl rfl (Ax (Ag rfl) rfl rfl (Ax (Ad CJ rfl) rfl rfl (Ax (Ac U59 rfl rfl Y0 Y5) rfl rfl ?_))); try (refine Ax (Aq U59 sz3 rfl rfl Y9 Y9) rfl rfl ?_; try ((refine Bc ?_; try ((refine AS (pre := [⟨br, true, .cells #[.int .i64 0] 3 (0, 0)⟩]) Y6 (CallR.val rfl en147) rfl rfl hpl (fun e => by cases e) ?_; rintro ⟨n', s'⟩ e1 v post ⟨rfl, L', hL, rfl⟩; cases e1; obtain rfl : L' = [] := hL) <;> try ((refine Aa N27 ?_)))))))))))
 refine ⟨_, ⟨rfl, rfl⟩, hi_.pick (ps := [_, _]) (F := F) Y6 Y4⟩
theorem mlet_c {l : LI} (hl : l ≠ .one) {bm bp : Nat} {av : Value} (hav : ArgsK S w0 F [0] av) : SLF Tryz.prog S w0 F (fnI l) [wkV (mCod S w0 bm), pv bp 0] [⟨bp, true, .cells (insC prb av).toArray 73 (0, 0)⟩] (MoO (ltI mKd l prb ()) fun a v post => v = unitV ∧ ∃ X av', post = ⟨bp, true, .cells (insC a.1 av').toArray 73 (0, 0)⟩ :: X) := by
 have h := let_c (mCod S w0 bm) (F := F) (L := []) (s := ()) trivial rfl l (A := []) (B := []) (b := bp) (x := prb) (av := av) (el := 73) hav (.inr fun e => absurd e hl) (by cases l <;> simp [ltI, mCod, mKd, Out.bind])
 simp only [List.nil_append, List.append_nil] at h
 refine h.mono fun e post hq => BD hq id ?_
 rintro a v p e1 ⟨rfl, L', X, av', hL, rfl, _⟩
 obtain rfl : L' = [] := hL
 exact ⟨a, e1, rfl, X, av', rfl⟩
end
end Go.Sl
namespace Go.Sl
open Go Go.RowKit Go.Shelf Go.Proofs
attribute [local irreducible] Calls
section
variable {S : Nat → Prop} {w0 : World} {F : List Ent}
theorem mone_n {bm bp br : Nat} :
 SLF Tryz.prog S w0 F 130 [wkV (mCod S w0 bm), pv bp 0] [⟨bp, true, .cells (insC prb (.slice (some ⟨br, 0, none⟩) 1 1)).toArray 73 (0, 0)⟩, ⟨br, true, .cells #[.int .i64 0] 3 (0, 0)⟩] (fun e post => ∃ v, e = .returned v ∧ post = [⟨bp, true, .cells (insC prb (.slice (some ⟨br, 0, none⟩) 1 1)).toArray 73 (0, 0)⟩, ⟨br, true, .cells #[.int .i64 77] 3 (0, 0)⟩]) := mone_c.mono fun e post h => ⟨_, h.1, h.2⟩
theorem want_c {l : LI} (hl : l ≠ .one) {b9 b4 bf bx nr nb : Nat} {x : InsM} {av : Value} (hg : Kn S w0 F b9 0 (.func (.func 104) #[] #[pv b4 0])) (hx : Kn S w0 F b4 0 (pv bf 0)) (hf : FlowAt S w0 F bf nr nb) (hn : nr ≤ 65535) :
 SLF Tryz.prog S w0 F 106 [.func (.func (fnI l)) #[] #[], pv b9 0, pv bx 0] [⟨bx, true, .cells (insC x av).toArray 73 (0, 0)⟩] fun e post => e = .returned (.bool (wantP nr l x).1) ∧ post = [⟨bx, true, .cells (insC (wantP nr l x).2 av).toArray 73 (0, 0)⟩] := by
 refine AA fun w hi => ?_
 simp only [List.cons_append, List.nil_append] at hi
 refine Ai Tryz.func106 rfl rfl (hi) ?_
 cases l
 case one => exact absurd rfl hl
 all_goals
  repeat' (first | (refine Ah rfl ?_) | (refine Ak rfl ?_) | (refine Al ?_) | (refine Am ?_) | (refine A1 rfl ?_) | (refine Az rfl ?_) | (refine w_condN rfl (fun h => ?_) (fun h => ?_)) | (refine A5 ?_) | (refine AE ?_) | (refine AL Tryz.func106 rfl (fun w_ hi_ => ?_)) | ((refine Ab 0 ?_; try (refine Za rfl (Aa N4 ?_)))) | ((refine Ab 1 ?_; try ((refine wo_bs1 (a := .int .i64 0) U59 Cg rfl rfl rfl rfl rfl rfl (fun br hbr => ?_)) <;> try (refine Zv (Bm (vs := [(7, .slice (some ⟨br, 0, none⟩) 1 1)]) (cs := (insC prb (.slice (some ⟨br, 0, none⟩) 1 1)).toArray) pl73 inf73 rfl rfl rfl) ?_; try (refine A4 inf73 rfl rfl rfl rfl (fun bp hbp => ?_); try (refine AI rfl rfl rfl sz73 Y3 Y15 rfl rfl ?_; try ((refine Aa N4 ?_)))))))) | ((refine Ab 2 ?_; try (refine Zm rfl (Zv (Cq pl130 inf130 rfl) ?_); try (refine AF rfl rfl rfl rfl (fun bm hbm => ?_); try (refine Zv (C5 U128 rfl rfl) (Zv (Bm (vs := [(0, .iface 128 (pv bm 0))]) (cs := #[.iface 128 (pv bm 0)]) pl113 B7 rfl rfl rfl) ?_); try ((refine AS (pre := [⟨bp, true, .cells (insC prb (.slice (some ⟨br, 0, none⟩) 1 1)).toArray 73 (0, 0)⟩]) Y6 (CallR.fv rfl rfl (.fn _ _ _ _ _ rfl) (enI _)) rfl rfl (mlet_c hl (SlK.own0 (cells := intsV [0]) (n := 1) (Nat.le_refl _)).cons) (fun e => by cases e) ?_; rintro ⟨a, s'⟩ e1 v post ⟨rfl, X, av', rfl⟩; cases e1; simp only [List.cons_append]) <;> try ((refine Aa N4 ?_)))))))) | ((refine Ab 3 ?_; try (refine Zf fo73_1 rfl (Zv (Ac U3 rfl rfl Y0 Y5) ?_); try (refine Zv (Aw rfl rfl Y2) ?_; try (refine Za rfl (Aa N4 ?_)))))) | ((refine Ab 4 ?_; try (refine Zv (A7 U176 rfl rfl (by repeat (first | exact hg | apply Kn.cons | apply Kn.app))) ?_; try (refine Zf fo73_1 rfl (Zv (Ac U3 rfl rfl Y0 Y5) ?_); try (refine Zv (Au (CallR.fv rfl rfl (.fn _ _ _ _ _ rfl) en104) (reg1_c (by repeat (first | exact hx | apply Kn.cons | apply Kn.app)) (hf.up fun e h => by repeat (first | exact h | apply List.Mem.tail | apply List.mem_append_right)) hn _)) ?_; try (refine Za rfl (Aa N4 ?_))))))) | ((refine Ab 5 ?_; try (refine Zf fo73_1 rfl ?_; try ((refine AJ rfl rfl rfl sz3 Y3 (by show _ < 8; omega) (.inr (Nat.zero_le _)) rfl rfl ?_) <;> try ((refine Aa N4 ?_)))))) | ((refine Ab 6 ?_; try (refine Zm rfl (Za rfl (Aa N4 ?_))))) | ((refine Ab 7 ?_; try (refine Zf fo73_2 rfl (Zv (Ac U3 rfl rfl Y0 Y5) ?_); try (refine Zv (Aw rfl rfl Y2) ?_; try (refine Za rfl (Aa N4 ?_)))))) | ((refine Ab 8 ?_; try (refine Zv (A7 U176 rfl rfl (by repeat (first | exact hg | apply Kn.cons | apply Kn.app))) ?_; try (refine Zf fo73_2 rfl (Zv (Ac U3 rfl rfl Y0 Y5) ?_); try (refine Zv (Au (CallR.fv rfl rfl (.fn _ _ _ _ _ rfl) en104) (reg1_c (by repeat (first | exact hx | apply Kn.cons | apply Kn.app)) (hf.up fun e h => by repeat (first | exact h | apply List.Mem.tail | apply List.mem_append_right)) hn _)) ?_; try (refine Za rfl (Aa N4 ?_))))))) | ((refine Ab 9 ?_; try (refine Zf fo73_2 rfl ?_; try ((refine AJ rfl rfl rfl sz3 Y3 (by show _ < 8; omega) (.inr (Nat.zero_le _)) rfl rfl ?_) <;> try ((refine Aa N4 ?_)))))) | ((refine Ab 10 ?_; try (refine Zm rfl (Za rfl (Aa N4 ?_))))) | ((refine Ab 11 ?_; try (refine Zf fo73_3 rfl (Zv (Ac U3 rfl rfl Y0 Y5) ?_); try (refine Zv (Aw rfl rfl Y2) ?_; try (refine Za rfl (Aa N4 ?_)))))) | ((refine Ab 12 ?_; try (refine Zv (A7 U176 rfl rfl (by repeat (first | exact hg | apply Kn.cons | apply Kn.app))) ?_; try (refine Zf fo73_3 rfl (Zv (Ac U3 rfl rfl Y0 Y5) ?_); try (refine Zv (Au (CallR.fv rfl rfl (.fn _ _ _ _ _ rfl) en104) (reg1_c (by repeat (first | exact hx | apply Kn.cons | apply Kn.app)) (hf.up fun e h => by repeat (first | exact h | apply List.Mem.tail | apply List.mem_append_right)) hn _)) ?_; try (refine Za rfl (Aa N4 ?_))))))) | ((refine Ab 13 ?_; try (refine Zf fo73_3 rfl ?_; try ((refine AJ rfl rfl rfl sz3 Y3 (by show _ < 8; omega) (.inr (Nat.zero_le _)) rfl rfl ?_) <;> try ((refine Aa N4 ?_)))))) | ((refine Ab 14 ?_; try (refine Zm rfl (Za rfl (Aa N4 ?_))))) | ((refine Ab 15 ?_; try (refine Zf fo73_4 rfl (Zv (Ac U3 rfl rfl Y0 Y5) ?_); try (refine Zv (Aw rfl rfl Y2) ?_; try (refine Za rfl (Aa N4 ?_)))))) | ((refine Ab 16 ?_; try (refine Zf fo73_4 rfl (Zv (Ac U3 rfl rfl Y0 Y5) ?_); try (refine Zv (Au (CallR.val rfl en69) (in_c _ _ _)) (Za rfl (Aa N4 ?_)))))) | ((refine Ab 17 ?_; try (refine Zf BW rfl (Zv (Ac U5 rfl rfl Y0 Y5) ?_); try (refine Zv (AX rfl rfl (by first | exact A2 Y9 | exact Ay Y9 | exact rfl)) ?_; try ((refine Aa N4 ?_)))))) | ((refine Ab 18 ?_; try (refine Zf fo73_4 rfl ?_; try ((refine AJ rfl rfl rfl sz3 Y3 (by show _ < 8; omega) (.inr (Nat.zero_le _)) rfl rfl ?_) <;> try ((refine Aa N4 ?_)))))) | ((refine Ab 19 ?_; try (refine Zm rfl (Za rfl (Aa N4 ?_))))) | ((refine Ab 20 ?_; try (refine Zf fo73_5 rfl (Zv (Ac U3 rfl rfl Y0 Y5) ?_); try (refine Zv (Aw rfl rfl Y2) ?_; try (refine Za rfl (Aa N4 ?_)))))) | ((refine Ab 21 ?_; try (refine Zf fo73_5 rfl (Zv (Ac U3 rfl rfl Y0 Y5) ?_); try (refine Zf fo73_4 rfl (Zv (Ac U3 rfl rfl Y0 Y5) ?_); try (refine Zv (Au (CallR.val rfl en69) (in_c _ _ _)) (Za rfl (Aa N4 ?_))))))) | ((refine Ab 22 ?_; try (refine Zf fo73_4 rfl ?_; try ((refine AJ rfl rfl rfl sz3 Y3 (by show _ < 8; omega) (.inr (Nat.zero_le _)) rfl rfl ?_) <;> try (refine Zf fo73_5 rfl ?_; try ((refine AJ rfl rfl rfl sz3 Y3 (by show _ < 8; omega) (.inr (Nat.zero_le _)) rfl rfl ?_) <;> try ((refine Aa N4 ?_)))))))) | ((refine Ab 23 ?_; try (refine Zm rfl (Za rfl (Aa N4 ?_))))) | ((refine Ab 24 ?_; try (refine Zf fo73_6 rfl (Zv (Ac U9 rfl rfl Y0 Y5) ?_); try (refine Zv (ov_neqS3 rfl rfl Y25) ?_; try (refine Za rfl (Aa N4 ?_)))))) | ((refine Ab 25 ?_; try (refine Zf fo73_6 rfl (Zv (Ac U9 rfl rfl Y0 Y5) ?_); try (refine Zv (Au (CallR.val rfl en68) (sym_c _)) (Za rfl (Aa N4 ?_)))))) | ((refine Ab 26 ?_; try (refine Zf fo73_6 rfl ?_; try ((refine AJ rfl rfl rfl sz3 Y3 (by show _ < 8; omega) (.inr (Nat.zero_le _)) rfl rfl ?_) <;> try ((refine Aa N4 ?_)))))) | ((refine Ab 27 ?_; try (refine Zm rfl (Za rfl (Aa N4 ?_))))))
 all_goals first
  | (rw [show (wantP (nr : Int) LI.lo x).2 = { x with lo := 0 } by simp only [wantP]; rw [if_pos h]]; exact ⟨_, ⟨rfl, rfl⟩, hi_.pick (ps := [_]) (F := F) Y6 Y4⟩)
  | (rw [show (wantP (nr : Int) LI.lo x).2 = x by simp only [wantP]; rw [if_neg (fun h2 => h2 h)]]; exact ⟨_, ⟨rfl, rfl⟩, hi_.pick (ps := [_]) (F := F) Y6 Y4⟩)
  | exact ⟨_, ⟨rfl, rfl⟩, hi_.pick (ps := [_]) (F := F) Y6 Y4⟩
theorem wone_c {b9 b4 bf bx nr nb : Nat} {x : InsM} {av : Value} (hg : Kn S w0 F b9 0 (.func (.func 104) #[] #[pv b4 0])) (hx : Kn S w0 F b4 0 (pv bf 0)) (hf : FlowAt S w0 F bf nr nb) (hn : nr ≤ 65535) (hA : ArgsK S w0 F x.args av) :
 SLF Tryz.prog S w0 F 106 [.func (.func (fnI .one)) #[] #[], pv b9 0, pv bx 0] [⟨bx, true, .cells (insC x av).toArray 73 (0, 0)⟩] fun e post => e = .returned (.bool (wantP nr .one x).1) ∧ post = [⟨bx, true, .cells (insC (wantP nr .one x).2 (.slice none 0 0)).toArray 73 (0, 0)⟩] := by
 refine AA fun w hi => ?_
 simp only [List.cons_append, List.nil_append] at hi
 obtain ⟨a, cap, rfl, hcap, hk⟩ := hA
 refine Ai Tryz.func106 rfl rfl (hi) ?_
 by_cases h1 : x.args.length = 1
 · obtain ⟨n, hn1⟩ : ∃ n, x.args = [n] := List.length_eq_one_iff.1 h1
   obtain ⟨b, off, rfl, hkn⟩ := hk.resolve_left (by rw [hn1]; simp [intsV])
   have hcell : Kn S w0 F b (off + 0 * 1) (.int .i64 n) := by
    have := hkn 0 (by rw [hn1]; simp [intsV])
    simpa [hn1, intsV] using this
   rw [show (wantP (nr : Int) LI.one x).1 = inP n 0 ((nr : Int) - 1) by simp [wantP, hn1, arg1]]
   rw [h1] at hi ⊢
   generalize hq : inP n 0 ((nr : Int) - 1) = q
   have hrg : ∀ {F'}, (∀ e ∈ F, e ∈ F') → Yields S w0 F' 104 [.int .i64 n, pv b4 0] (.bool q) := fun hu => by
    have := reg1_c (hx.mono hu) (hf.up hu) hn n
    rwa [hq] at this
   repeat' (first | (refine Ah rfl ?_) | (refine Ak rfl ?_) | (refine Al ?_) | (refine Am ?_) | (refine Az rfl ?_) | (refine A5 ?_) | (refine AH ?_) | (refine AE ?_) | (refine AL Tryz.func106 rfl (fun w_ hi_ => ?_)) | ((refine Ab 0 ?_; try (refine Za rfl (Aa N4 ?_)))) | ((refine Ab 1 ?_; try ((refine wo_bs1 (a := .int .i64 0) U59 Cg rfl rfl rfl rfl rfl rfl (fun br hbr => ?_)) <;> try (refine Zv (Bm (vs := [(7, .slice (some ⟨br, 0, none⟩) 1 1)]) (cs := (insC prb (.slice (some ⟨br, 0, none⟩) 1 1)).toArray) pl73 inf73 rfl rfl rfl) ?_; try (refine A4 inf73 rfl rfl rfl rfl (fun bp hbp => ?_); try (refine AI rfl rfl rfl sz73 Y3 Y15 rfl rfl ?_; try ((refine Aa N4 ?_)))))))) | ((refine Ab 2 ?_; try (refine Zm rfl (Zv (Cq pl130 inf130 rfl) ?_); try (refine AF rfl rfl rfl rfl (fun bm hbm => ?_); try (refine Zv (C5 U128 rfl rfl) (Zv (Bm (vs := [(0, .iface 128 (pv bm 0))]) (cs := #[.iface 128 (pv bm 0)]) pl113 B7 rfl rfl rfl) ?_); try ((refine AT (pre := [⟨bp, true, .cells (insC prb (.slice (some ⟨br, 0, none⟩) 1 1)).toArray 73 (0, 0)⟩, ⟨br, true, .cells #[.int .i64 0] 3 (0, 0)⟩]) Y6 (CallR.fv rfl rfl (.fn _ _ _ _ _ rfl) (enI _)) rfl rfl mone_n ?_; rintro v post rfl; simp only [List.cons_append, List.nil_append]) <;> try ((refine Aa N4 ?_)))))))) | ((refine Ab 3 ?_; try (refine Zf fo73_1 rfl (Zv (Ac U3 rfl rfl Y0 Y5) ?_); try (refine Zv (Aw rfl rfl Y2) ?_; try (refine Za rfl (Aa N4 ?_)))))) | ((refine Ab 7 ?_; try (refine Zf fo73_2 rfl (Zv (Ac U3 rfl rfl Y0 Y5) ?_); try (refine Zv (Aw rfl rfl Y2) ?_; try (refine Za rfl (Aa N4 ?_)))))) | ((refine Ab 11 ?_; try (refine Zf fo73_3 rfl (Zv (Ac U3 rfl rfl Y0 Y5) ?_); try (refine Zv (Aw rfl rfl Y2) ?_; try (refine Za rfl (Aa N4 ?_)))))) | ((refine Ab 15 ?_; try (refine Zf fo73_4 rfl (Zv (Ac U3 rfl rfl Y0 Y5) ?_); try (refine Zv (Aw rfl rfl Y2) ?_; try (refine Za rfl (Aa N4 ?_)))))) | ((refine Ab 20 ?_; try (refine Zf fo73_5 rfl (Zv (Ac U3 rfl rfl Y0 Y5) ?_); try (refine Zv (Aw rfl rfl Y2) ?_; try (refine Za rfl (Aa N4 ?_)))))) | ((refine Ab 24 ?_; try (refine Zf fo73_6 rfl (Zv (Ac U9 rfl rfl Y0 Y5) ?_); try (refine Zv (ov_neqS3 rfl rfl Y25) ?_; try (refine Za rfl (Aa N4 ?_)))))) | ((refine Ca 28 rfl mixed Y1 ?_; try (refine AQ (Ad CJ rfl) rfl rfl (AQ (Ac U59 rfl rfl Y0 Y5) rfl rfl ?_); try (refine AQ (As rfl U59 rfl) rfl rfl (AQ (Aw rfl rfl Y2) rfl rfl ?_); try (refine AQ (Aj rfl) rfl rfl ?_; try (((refine AQ (A7 U176 rfl rfl (by repeat (first | exact hg | apply Kn.cons | apply Kn.app))) rfl rfl ?_)) <;> try (((refine AQ (Ad CJ rfl) rfl rfl ?_)) <;> try (((refine AQ (Ac U59 rfl rfl Y0 Y5) rfl rfl ?_)) <;> try (((refine AQ (Aq U59 sz3 rfl rfl Y9 Y9) rfl rfl ?_)) <;> try (((refine AQ (A7 U3 rfl rfl (by repeat (first | exact hcell | apply Kn.cons | apply Kn.app))) rfl rfl ?_)) <;> try (((refine AQ (Au (CallR.fv rfl rfl (.fn _ _ _ _ _ rfl) en104) (hrg fun e h => by repeat (first | exact h | apply List.Mem.tail | apply List.mem_append_right))) rfl rfl ?_)) <;> try (refine AQ (Av rfl rfl) rfl rfl (AQ (Ao rfl) rfl rfl (BZ N4 ?_)))))))))))))) | ((refine Ab 29 ?_; try (refine Zf CJ rfl ?_; try ((refine AJ rfl rfl rfl sz59 Y3 (by show _ < 8; omega) (.inr (Nat.zero_le _)) rfl rfl ?_) <;> try ((refine Aa N4 ?_)))))) | ((refine Ab 30 ?_; try (refine Zm rfl (Za rfl (Aa N4 ?_))))))
   all_goals exact ⟨_, ⟨rfl, rfl⟩, hi_.pick (ps := [_]) (F := F) Y6 Y4⟩
 · rw [show (wantP (nr : Int) LI.one x).1 = false by simp [wantP, h1]]
   have h1' : ¬ ((x.args.length : Nat) : Int) = 1 := by omega
   repeat' (first | (refine Ah rfl ?_) | (refine Ak rfl ?_) | (refine Al ?_) | (refine Am ?_) | (refine Az rfl ?_) | (refine A5 ?_) | (refine AH ?_) | (refine AE ?_) | (refine AL Tryz.func106 rfl (fun w_ hi_ => ?_)) | ((refine Ab 0 ?_; try (refine Za rfl (Aa N4 ?_)))) | ((refine Ab 1 ?_; try ((refine wo_bs1 (a := .int .i64 0) U59 Cg rfl rfl rfl rfl rfl rfl (fun br hbr => ?_)) <;> try (refine Zv (Bm (vs := [(7, .slice (some ⟨br, 0, none⟩) 1 1)]) (cs := (insC prb (.slice (some ⟨br, 0, none⟩) 1 1)).toArray) pl73 inf73 rfl rfl rfl) ?_; try (refine A4 inf73 rfl rfl rfl rfl (fun bp hbp => ?_); try (refine AI rfl rfl rfl sz73 Y3 Y15 rfl rfl ?_; try ((refine Aa N4 ?_)))))))) | ((refine Ab 2 ?_; try (refine Zm rfl (Zv (Cq pl130 inf130 rfl) ?_); try (refine AF rfl rfl rfl rfl (fun bm hbm => ?_); try (refine Zv (C5 U128 rfl rfl) (Zv (Bm (vs := [(0, .iface 128 (pv bm 0))]) (cs := #[.iface 128 (pv bm 0)]) pl113 B7 rfl rfl rfl) ?_); try ((refine AT (pre := [⟨bp, true, .cells (insC prb (.slice (some ⟨br, 0, none⟩) 1 1)).toArray 73 (0, 0)⟩, ⟨br, true, .cells #[.int .i64 0] 3 (0, 0)⟩]) Y6 (CallR.fv rfl rfl (.fn _ _ _ _ _ rfl) (enI _)) rfl rfl mone_n ?_; rintro v post rfl; simp only [List.cons_append, List.nil_append]) <;> try ((refine Aa N4 ?_)))))))) | ((refine Ab 3 ?_; try (refine Zf fo73_1 rfl (Zv (Ac U3 rfl rfl Y0 Y5) ?_); try (refine Zv (Aw rfl rfl Y2) ?_; try (refine Za rfl (Aa N4 ?_)))))) | ((refine Ab 7 ?_; try (refine Zf fo73_2 rfl (Zv (Ac U3 rfl rfl Y0 Y5) ?_); try (refine Zv (Aw rfl rfl Y2) ?_; try (refine Za rfl (Aa N4 ?_)))))) | ((refine Ab 11 ?_; try (refine Zf fo73_3 rfl (Zv (Ac U3 rfl rfl Y0 Y5) ?_); try (refine Zv (Aw rfl rfl Y2) ?_; try (refine Za rfl (Aa N4 ?_)))))) | ((refine Ab 15 ?_; try (refine Zf fo73_4 rfl (Zv (Ac U3 rfl rfl Y0 Y5) ?_); try (refine Zv (Aw rfl rfl Y2) ?_; try (refine Za rfl (Aa N4 ?_)))))) | ((refine Ab 20 ?_; try (refine Zf fo73_5 rfl (Zv (Ac U3 rfl rfl Y0 Y5) ?_); try (refine Zv (Aw rfl rfl Y2) ?_; try (refine Za rfl (Aa N4 ?_)))))) | ((refine Ab 24 ?_; try (refine Zf fo73_6 rfl (Zv (Ac U9 rfl rfl Y0 Y5) ?_); try (refine Zv (ov_neqS3 rfl rfl Y25) ?_; try (refine Za rfl (Aa N4 ?_)))))) | ((refine Bd (id := 28) 10 rfl mixed Y1 ?_; try (refine Ax (Ad CJ rfl) rfl rfl (Ax (Ac U59 rfl rfl Y0 Y5) rfl rfl ?_); try (refine Ax (As rfl U59 rfl) rfl rfl (Ax (Aw rfl rfl Y2) rfl rfl ?_); try (refine Ax (Aj rfl) rfl rfl (wt_skip rfl rfl (wt_skip rfl rfl (wt_skip rfl rfl (wt_skip rfl rfl (wt_skip rfl rfl (Bc (Zk (Zv (AC rfl rfl) (Za rfl (Aa N4 ?_))))))))))))))) | ((refine Ab 29 ?_; try (refine Zf CJ rfl ?_; try ((refine AJ rfl rfl rfl sz59 Y3 (by show _ < 8; omega) (.inr (Nat.zero_le _)) rfl rfl ?_) <;> try ((refine Aa N4 ?_)))))) | ((refine Ab 30 ?_; try (refine Zm rfl (Za rfl (Aa N4 ?_))))))
   all_goals exact ⟨_, ⟨rfl, rfl⟩, hi_.pick (ps := [_]) (F := F) Y6 Y4⟩
end
end Go.Sl
