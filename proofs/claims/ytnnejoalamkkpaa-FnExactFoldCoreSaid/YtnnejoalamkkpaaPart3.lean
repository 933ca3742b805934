/- Part 3 of what the law's proof rests on: FnOk5, FnG, FnFold1, FnFold2, FnFold3, FnFold4, FnM, FnFoldH, FnLaw5. Conditions: none. -/
import Derived.Test.YtnnejoalamkkpaaPart2
set_option linter.unusedVariables false
set_option linter.unusedSimpArgs false
namespace Go.Proofs.Ytnnejoalamkkpaa
open Go Go.AI Go.Proofs
set_option linter.unusedSimpArgs false

theorem ok_pv (x : Cr) (hw : x.wt < 1000000000) : PV Try.prog 63 [.agg x.enc] (.one (.bool (okM x))) := by
  generalize hr : okM x = r
  rw [okM] at hr
  refine h63.pvq ⟨rfl, rfl, ?_⟩
  simp [f63]
  refine callP_of (parts_pv x [] 1 hw (by simp; omega) (by omega)) ?_
  have hp : partsR x [] 1 = if 1 + x.kd ≤ 150 ∧ rightM x [] = true ∧ x.cnt + 1 ≤ 3000 then ((x.cnt + 1 : Nat) : Int) else 3001 := rfl
  generalize partsR x [] 1 = p at *
  simp
  rw [← hr]
  by_cases q : 1 + x.kd ≤ 150 ∧ rightM x [] = true ∧ x.cnt + 1 ≤ 3000
  · rw [if_pos q] at hp
    obtain ⟨q1, q2, q3⟩ := q
    have e1 : p ≤ 3000 := by omega
    have e2 : x.kd + 1 ≤ 150 := by omega
    simp [e1, e2, q2, q3]
  · rw [if_neg q] at hp
    have e1 : ¬ p ≤ 3000 := by omega
    simp only [e1, decide_false]
    symm
    rw [Bool.eq_false_iff]
    intro h
    simp only [Bool.and_eq_true, decide_eq_true_eq] at h
    exact q ⟨by omega, h.2, h.1.1⟩

def placeG (l : List Txt) (s : Txt) : Nat → Int
  | 0 => -1
  | n + 1 => if l[n]? = some s then n else placeG l s n

theorem placeS_pv (l : List Txt) (hl : l.length < 1000000000000) (s : Txt) : PV Try.prog 130 [.one (encT l), .one (.str s)] (.one (.int .i64 (placeG l s l.length))) := by
  generalize hr : placeG l s l.length = r
  refine h130.pvq ⟨rfl, rfl, ?_⟩
  simp [f130, encT]
  generalize hM : l.map (fun s => [C.str s]) = M
  have hml : M.length = l.length := by rw [← hM]; simp
  have hw0 : IntKind.i64.wrap ((l.length : Int) - 1) = (l.length : Int) - 1 := wrapI ⟨by omega, by omega⟩
  refine w_for (fun n st => ∃ vars, st = ⟨vars, Heap.empty, 0⟩ ∧ n ≤ l.length ∧ vars.get 0 = some (.one (.dv M)) ∧ vars.get 1 = some (.one (.str s)) ∧ vars.get 3 = some (.one (.int .i64 ((n : Int) - 1))) ∧
    placeG l s n = r ∧ NB vars [2, 4]) l.length ?_ ?_
  · exact ⟨_, rfl, by omega, by simp, by simp, by simp [hml, hw0], hr, by simp⟩
  · rintro J hJ n _ ⟨vars, rfl, hn, v0, v1, v3, hx, nb⟩
    simp only [NB_cons, NB_nil] at nb
    cases n with
    | zero =>
      simp [placeG] at hx
      simp [v0, v1, v3, nb, ← hx]
    | succ n =>
      have hi2 : n < M.length := by omega
      have hi3 : n < l.length := by omega
      have hgE : M[n] = [.str l[n]] := by subst hM; simp
      have hw : IntKind.i64.wrap ((n : Int) - 1) = (n : Int) - 1 := wrapI ⟨by omega, by omega⟩
      rw [placeG, List.getElem?_eq_getElem hi3] at hx
      simp at v3
      by_cases he : l[n] = s
      · rw [if_pos (by rw [he])] at hx
        simp [v0, v1, v3, nb, hgE, hi2, he]
        exact hx
      · rw [if_neg (by simpa using he)] at hx
        simp [v0, v1, v3, nb, hgE, hi2, he, hw]
        subst hJ
        exact ⟨n, by omega, _, rfl, by omega, by simp [v0], by simp [v1], by simp, hx, by simp [nb]⟩

theorem place_pv (l : List Txt) (hl : l.length < 1000000000000) (s : Txt) : PV Try.prog 131 [.one (encT l), .one (.str s)] (.one (.int .i64 (placeG l s l.length))) := by
  generalize hr : placeG l s l.length = r
  refine h131.pvq ⟨rfl, rfl, ?_⟩
  simp [f131, encT]
  generalize hM : l.map (fun s => [C.str s]) = M
  have hml : M.length = l.length := by rw [← hM]; simp
  have hw0 : IntKind.i64.wrap ((l.length : Int) - 1) = (l.length : Int) - 1 := wrapI ⟨by omega, by omega⟩
  refine w_for (fun n st => ∃ vars, st = ⟨vars, Heap.empty, 0⟩ ∧ n ≤ l.length ∧ vars.get 0 = some (.one (.dv M)) ∧ vars.get 1 = some (.one (.str s)) ∧ vars.get 3 = some (.one (.int .i64 ((n : Int) - 1))) ∧
    placeG l s n = r ∧ NB vars [2, 4, 5]) l.length ?_ ?_
  · exact ⟨_, rfl, by omega, by simp, by simp, by simp [hml, hw0], hr, by simp⟩
  · rintro J hJ n _ ⟨vars, rfl, hn, v0, v1, v3, hx, nb⟩
    simp only [NB_cons, NB_nil] at nb
    cases n with
    | zero =>
      simp [placeG] at hx
      simp [v0, v1, v3, nb, ← hx]
    | succ n =>
      have hi2 : n < M.length := by omega
      have hi3 : n < l.length := by omega
      have hgE : M[n] = [.str l[n]] := by subst hM; simp
      have hw : IntKind.i64.wrap ((n : Int) - 1) = (n : Int) - 1 := wrapI ⟨by omega, by omega⟩
      rw [placeG, List.getElem?_eq_getElem hi3] at hx
      simp at v3
      by_cases he : l[n] = s
      · rw [if_pos (by rw [he])] at hx
        simp [v0, v1, v3, nb, hgE, hi2, he]
        exact hx
      · rw [if_neg (by simpa using he)] at hx
        simp [v0, v1, v3, nb, hgE, hi2, he, hw]
        subst hJ
        exact ⟨n, by omega, _, rfl, by omega, by simp [v0], by simp [v1], by simp, hx, by simp [nb]⟩

mutual
def alikeM : Cr → Cr → List Txt → List Txt → Bool
  | .mk a b s t k, y, e1, e2 =>
    match y with
    | .mk a' b' s' t' k' => decide (a = a') && decide (b = b') && decide (k.length = k'.length) &&
      (if a = 2 then decide (placeG e1 s e1.length = placeG e2 s' e2.length) && (!decide (placeG e1 s e1.length < 0) || decide (s = s')) else true) &&
      alikeL (.mk a 0 s t []) (.mk a' 0 s' t' []) e1 e2 0 k k'
def alikeL : Cr → Cr → List Txt → List Txt → Nat → List Cr → List Cr → Bool
  | _, _, _, _, _, [], _ => true
  | h, h', e1, e2, i, x :: r, ys =>
    match ys with
    | [] => true
    | y :: r' => alikeM x y (e1 ++ binds h i) (e2 ++ binds h' i) && alikeL h h' e1 e2 (i + 1) r r'
end

set_option maxHeartbeats 4000000 in
set_option maxRecDepth 20000 in
theorem alikeS_pv : ∀ (x y : Cr) (e1 e2 : List Txt), x.wt < 1000000000 → e1.length + 2 * x.wt < 100000000000 → e2.length + 2 * x.wt < 100000000000 →
    PV Try.prog 98 [.agg x.enc, .agg y.enc, .one (encT e1), .one (encT e2)] (.one (.bool (alikeM x y e1 e2)))
  | .mk a b s t k, .mk a' b' s' t' k', e1, e2, hw, hn1, hn2 => by
    rw [wt_mk] at hw hn1 hn2
    have ih := fun x (hx : x ∈ k) => alikeS_pv x
    have hl := wtL_len k
    generalize hr : alikeM (.mk a b s t k) (.mk a' b' s' t' k') e1 e2 = r
    rw [alikeM] at hr
    refine h98.pvq ⟨rfl, rfl, ?_⟩
    by_cases qa : a = a'
    case neg => simp [qa] at hr; simp [f98, enc_mk, encL, qa, hr]
    by_cases qb : b = b'
    case neg => simp [qa, qb] at hr; simp [f98, enc_mk, encL, qa, qb, hr]
    by_cases qk : k.length = k'.length
    case neg =>
      have qk' : ¬ ((k.length : Int) = k'.length) := by omega
      simp [qa, qb, qk] at hr; simp [f98, enc_mk, encL, qa, qb, qk', hr]
    have qk' : (k.length : Int) = k'.length := by omega
    have hpl := placeS_pv e1 (by omega) s
    have hpl' := placeS_pv e2 (by omega) s'
    generalize placeG e1 s e1.length = p at *
    generalize placeG e2 s' e2.length = p' at *
    have hgo : (a' = 2 → p = p' ∧ (p < 0 → s = s')) → alikeL (.mk a 0 s t []) (.mk a' 0 s' t' []) e1 e2 0 k k' = r := by
      intro hg
      rw [← hr]
      by_cases h2 : a' = 2
      · obtain ⟨g1, g2⟩ := hg h2
        by_cases g3 : p < 0
        · have g4 := g2 g3
          rw [g1] at g3
          simp [qa, qb, qk, h2, g1, g4]
        · rw [g1] at g3
          have g3' : 0 ≤ p' := by omega
          simp [qa, qb, qk, h2, g1, g3']
      · simp [qa, qb, qk, h2]
    by_cases h2 : a' = 2
    · simp [f98, enc_mk, encL, qa, qb, qk', h2]
      refine callP_of hpl ?_
      simp
      refine callP_of hpl' ?_
      by_cases qp : p = p'
      case neg => simp [qa, qb, qk, h2, qp] at hr; simp [qp, hr]
      by_cases qn : p' < 0
      · by_cases qs : s = s'
        case neg => simp [qa, qb, qk, h2, qp, qn, qs] at hr; simp [qp, qn, qs, hr]
        replace hgo := hgo (fun _ => ⟨qp, fun _ => qs⟩)
        simp [qp, qn, qs]
        refine w_for (fun n st => ∃ vars, st = ⟨vars, Heap.empty, 0⟩ ∧ ∃ (i : Nat), i ≤ k.length ∧ n = k.length - i ∧ vars.get 2 = some (.one (encT e1)) ∧ vars.get 3 = some (.one (encT e2)) ∧ vars.get 4 = some (.box 0 [.int .i64 a, .int .i64 b, .str s, .str t, .dv (k.map Cr.enc)]) ∧ vars.get 5 = some (.box 0 [.int .i64 a', .int .i64 b', .str s', .str t', .dv (k'.map Cr.enc)]) ∧ alikeL (.mk a 0 s t []) (.mk a' 0 s' t' []) e1 e2 i (k.drop i) (k'.drop i) = r ∧ vars.get 9 = some (.one (.int .i64 i)) ∧ NB vars [6, 13, 14]) k.length ?_ ?_
        · exact ⟨_, rfl, 0, by simp, by simp, by simp [*], by simp [*], by simp [*], by simp [*], by simpa using hgo, by simp, by simp⟩
        · rintro J hJ n _ ⟨vars, rfl, i, hi, rfl, v2, v3, v4, v5, hx, v9, nb⟩
          simp only [NB_cons, NB_nil] at nb
          by_cases hlt : i < k.length
          · have hlt' : i < k'.length := by omega
            have hw' : IntKind.i64.wrap ((i : Int) + 1) = ((i + 1 : Nat) : Int) := by rw [wrapI ⟨by omega, by omega⟩]; simp
            have hmem := List.getElem_mem hlt
            have hwx := wtL_mem hmem
            have hbl := binds_len (.mk a b s t k) i
            have hbl' := binds_len (.mk a' b' s' t' k') i
            have henv := env_pv (.mk a b s t k) i e1 (by omega)
            rw [enc_mk, encL] at henv
            have henv' := env_pv (.mk a' b' s' t' k') i e2 (by omega)
            rw [enc_mk, encL] at henv'
            rw [List.drop_eq_getElem_cons hlt, List.drop_eq_getElem_cons hlt', alikeL] at hx
            simp [v2, v3, v4, v5, v9, nb, hlt, hlt']
            refine callP_of henv ?_
            simp [v2, v3, v4, v5, v9, nb, hlt, hlt']
            refine callP_of henv' ?_
            simp [v2, v3, v4, v5, v9, nb, hlt, hlt']
            refine callP_of (ih _ hmem k'[i] (e1 ++ binds (.mk a b s t k) i) (e2 ++ binds (.mk a' b' s' t' k') i) (by omega) (by simp only [List.length_append]; omega) (by simp only [List.length_append]; omega)) ?_
            have hb1 : binds (.mk a b s t k) i = binds (.mk a 0 s t []) i := rfl
            have hb2 : binds (.mk a' b' s' t' k') i = binds (.mk a' 0 s' t' []) i := rfl
            rw [hb1, hb2]
            cases q7 : alikeM k[i] k'[i] (e1 ++ binds (.mk a 0 s t []) i) (e2 ++ binds (.mk a' 0 s' t' []) i)
            · rw [q7] at hx; simp at hx
              simp [v2, v3, v4, v5, v9, nb, hx]
            · rw [q7] at hx; simp only [Bool.true_and] at hx
              simp [v2, v3, v4, v5, v9, nb, hw']
              subst hJ
              exact ⟨k.length - (i + 1), by omega, _, rfl, i + 1, by omega, rfl, by simp [v2], by simp [v3], by simp [v4], by simp [v5], hx, by simp, by simp [nb]⟩
          · have hei : i = k.length := by omega
            subst hei
            simp [alikeL] at hx
            have hnl : ¬ k.length < k'.length := by omega
            simp [v2, v3, v4, v5, v9, nb, hx]
      · replace hgo := hgo (fun _ => ⟨qp, fun h => absurd (qp ▸ h) qn⟩)
        simp [qp, qn]
        refine w_for (fun n st => ∃ vars, st = ⟨vars, Heap.empty, 0⟩ ∧ ∃ (i : Nat), i ≤ k.length ∧ n = k.length - i ∧ vars.get 2 = some (.one (encT e1)) ∧ vars.get 3 = some (.one (encT e2)) ∧ vars.get 4 = some (.box 0 [.int .i64 a, .int .i64 b, .str s, .str t, .dv (k.map Cr.enc)]) ∧ vars.get 5 = some (.box 0 [.int .i64 a', .int .i64 b', .str s', .str t', .dv (k'.map Cr.enc)]) ∧ alikeL (.mk a 0 s t []) (.mk a' 0 s' t' []) e1 e2 i (k.drop i) (k'.drop i) = r ∧ vars.get 9 = some (.one (.int .i64 i)) ∧ NB vars [6, 13, 14]) k.length ?_ ?_
        · exact ⟨_, rfl, 0, by simp, by simp, by simp [*], by simp [*], by simp [*], by simp [*], by simpa using hgo, by simp, by simp⟩
        · rintro J hJ n _ ⟨vars, rfl, i, hi, rfl, v2, v3, v4, v5, hx, v9, nb⟩
          simp only [NB_cons, NB_nil] at nb
          by_cases hlt : i < k.length
          · have hlt' : i < k'.length := by omega
            have hw' : IntKind.i64.wrap ((i : Int) + 1) = ((i + 1 : Nat) : Int) := by rw [wrapI ⟨by omega, by omega⟩]; simp
            have hmem := List.getElem_mem hlt
            have hwx := wtL_mem hmem
            have hbl := binds_len (.mk a b s t k) i
            have hbl' := binds_len (.mk a' b' s' t' k') i
            have henv := env_pv (.mk a b s t k) i e1 (by omega)
            rw [enc_mk, encL] at henv
            have henv' := env_pv (.mk a' b' s' t' k') i e2 (by omega)
            rw [enc_mk, encL] at henv'
            rw [List.drop_eq_getElem_cons hlt, List.drop_eq_getElem_cons hlt', alikeL] at hx
            simp [v2, v3, v4, v5, v9, nb, hlt, hlt']
            refine callP_of henv ?_
            simp [v2, v3, v4, v5, v9, nb, hlt, hlt']
            refine callP_of henv' ?_
            simp [v2, v3, v4, v5, v9, nb, hlt, hlt']
            refine callP_of (ih _ hmem k'[i] (e1 ++ binds (.mk a b s t k) i) (e2 ++ binds (.mk a' b' s' t' k') i) (by omega) (by simp only [List.length_append]; omega) (by simp only [List.length_append]; omega)) ?_
            have hb1 : binds (.mk a b s t k) i = binds (.mk a 0 s t []) i := rfl
            have hb2 : binds (.mk a' b' s' t' k') i = binds (.mk a' 0 s' t' []) i := rfl
            rw [hb1, hb2]
            cases q7 : alikeM k[i] k'[i] (e1 ++ binds (.mk a 0 s t []) i) (e2 ++ binds (.mk a' 0 s' t' []) i)
            · rw [q7] at hx; simp at hx
              simp [v2, v3, v4, v5, v9, nb, hx]
            · rw [q7] at hx; simp only [Bool.true_and] at hx
              simp [v2, v3, v4, v5, v9, nb, hw']
              subst hJ
              exact ⟨k.length - (i + 1), by omega, _, rfl, i + 1, by omega, rfl, by simp [v2], by simp [v3], by simp [v4], by simp [v5], hx, by simp, by simp [nb]⟩
          · have hei : i = k.length := by omega
            subst hei
            simp [alikeL] at hx
            have hnl : ¬ k.length < k'.length := by omega
            simp [v2, v3, v4, v5, v9, nb, hx]
    · replace hgo := hgo (fun h => absurd h h2)
      simp [f98, enc_mk, encL, qa, qb, qk', h2]
      refine w_for (fun n st => ∃ vars, st = ⟨vars, Heap.empty, 0⟩ ∧ ∃ (i : Nat), i ≤ k.length ∧ n = k.length - i ∧ vars.get 2 = some (.one (encT e1)) ∧ vars.get 3 = some (.one (encT e2)) ∧ vars.get 4 = some (.box 0 [.int .i64 a, .int .i64 b, .str s, .str t, .dv (k.map Cr.enc)]) ∧ vars.get 5 = some (.box 0 [.int .i64 a', .int .i64 b', .str s', .str t', .dv (k'.map Cr.enc)]) ∧ alikeL (.mk a 0 s t []) (.mk a' 0 s' t' []) e1 e2 i (k.drop i) (k'.drop i) = r ∧ vars.get 9 = some (.one (.int .i64 i)) ∧ NB vars [6, 13, 14]) k.length ?_ ?_
      · exact ⟨_, rfl, 0, by simp, by simp, by simp [*], by simp [*], by simp [*], by simp [*], by simpa using hgo, by simp, by simp⟩
      · rintro J hJ n _ ⟨vars, rfl, i, hi, rfl, v2, v3, v4, v5, hx, v9, nb⟩
        simp only [NB_cons, NB_nil] at nb
        by_cases hlt : i < k.length
        · have hlt' : i < k'.length := by omega
          have hw' : IntKind.i64.wrap ((i : Int) + 1) = ((i + 1 : Nat) : Int) := by rw [wrapI ⟨by omega, by omega⟩]; simp
          have hmem := List.getElem_mem hlt
          have hwx := wtL_mem hmem
          have hbl := binds_len (.mk a b s t k) i
          have hbl' := binds_len (.mk a' b' s' t' k') i
          have henv := env_pv (.mk a b s t k) i e1 (by omega)
          rw [enc_mk, encL] at henv
          have henv' := env_pv (.mk a' b' s' t' k') i e2 (by omega)
          rw [enc_mk, encL] at henv'
          rw [List.drop_eq_getElem_cons hlt, List.drop_eq_getElem_cons hlt', alikeL] at hx
          simp [v2, v3, v4, v5, v9, nb, hlt, hlt']
          refine callP_of henv ?_
          simp [v2, v3, v4, v5, v9, nb, hlt, hlt']
          refine callP_of henv' ?_
          simp [v2, v3, v4, v5, v9, nb, hlt, hlt']
          refine callP_of (ih _ hmem k'[i] (e1 ++ binds (.mk a b s t k) i) (e2 ++ binds (.mk a' b' s' t' k') i) (by omega) (by simp only [List.length_append]; omega) (by simp only [List.length_append]; omega)) ?_
          have hb1 : binds (.mk a b s t k) i = binds (.mk a 0 s t []) i := rfl
          have hb2 : binds (.mk a' b' s' t' k') i = binds (.mk a' 0 s' t' []) i := rfl
          rw [hb1, hb2]
          cases q7 : alikeM k[i] k'[i] (e1 ++ binds (.mk a 0 s t []) i) (e2 ++ binds (.mk a' 0 s' t' []) i)
          · rw [q7] at hx; simp at hx
            simp [v2, v3, v4, v5, v9, nb, hx]
          · rw [q7] at hx; simp only [Bool.true_and] at hx
            simp [v2, v3, v4, v5, v9, nb, hw']
            subst hJ
            exact ⟨k.length - (i + 1), by omega, _, rfl, i + 1, by omega, rfl, by simp [v2], by simp [v3], by simp [v4], by simp [v5], hx, by simp, by simp [nb]⟩
        · have hei : i = k.length := by omega
          subst hei
          simp [alikeL] at hx
          have hnl : ¬ k.length < k'.length := by omega
          simp [v2, v3, v4, v5, v9, nb, hx]

set_option maxHeartbeats 4000000 in
set_option maxRecDepth 20000 in
theorem alike_pv : ∀ (x y : Cr) (e1 e2 : List Txt), x.wt < 1000000000 → e1.length + 2 * x.wt < 100000000000 → e2.length + 2 * x.wt < 100000000000 →
    PV Try.prog 99 [.agg x.enc, .agg y.enc, .one (encT e1), .one (encT e2)] (.one (.bool (alikeM x y e1 e2)))
  | .mk a b s t k, .mk a' b' s' t' k', e1, e2, hw, hn1, hn2 => by
    rw [wt_mk] at hw hn1 hn2
    have ih := fun x (hx : x ∈ k) => alike_pv x
    have hl := wtL_len k
    generalize hr : alikeM (.mk a b s t k) (.mk a' b' s' t' k') e1 e2 = r
    rw [alikeM] at hr
    refine h99.pvq ⟨rfl, rfl, ?_⟩
    by_cases qa : a = a'
    case neg => simp [qa] at hr; simp [f99, enc_mk, encL, qa, hr]
    by_cases qb : b = b'
    case neg => simp [qa, qb] at hr; simp [f99, enc_mk, encL, qa, qb, hr]
    by_cases qk : k.length = k'.length
    case neg =>
      have qk' : ¬ ((k.length : Int) = k'.length) := by omega
      simp [qa, qb, qk] at hr; simp [f99, enc_mk, encL, qa, qb, qk', hr]
    have qk' : (k.length : Int) = k'.length := by omega
    have hpl := place_pv e1 (by omega) s
    have hpl' := place_pv e2 (by omega) s'
    generalize placeG e1 s e1.length = p at *
    generalize placeG e2 s' e2.length = p' at *
    have hgo : (a' = 2 → p = p' ∧ (p < 0 → s = s')) → alikeL (.mk a 0 s t []) (.mk a' 0 s' t' []) e1 e2 0 k k' = r := by
      intro hg
      rw [← hr]
      by_cases h2 : a' = 2
      · obtain ⟨g1, g2⟩ := hg h2
        by_cases g3 : p < 0
        · have g4 := g2 g3
          rw [g1] at g3
          simp [qa, qb, qk, h2, g1, g4]
        · rw [g1] at g3
          have g3' : 0 ≤ p' := by omega
          simp [qa, qb, qk, h2, g1, g3']
      · simp [qa, qb, qk, h2]
    by_cases h2 : a' = 2
    · simp [f99, enc_mk, encL, qa, qb, qk', h2]
      refine callP_of hpl ?_
      simp
      refine callP_of hpl' ?_
      by_cases qp : p = p'
      case neg => simp [qa, qb, qk, h2, qp] at hr; simp [qp, hr]
      by_cases qn : p' < 0
      · by_cases qs : s = s'
        case neg => simp [qa, qb, qk, h2, qp, qn, qs] at hr; simp [qp, qn, qs, hr]
        replace hgo := hgo (fun _ => ⟨qp, fun _ => qs⟩)
        simp [qp, qn, qs]
        refine w_for (fun n st => ∃ vars, st = ⟨vars, Heap.empty, 0⟩ ∧ ∃ (i : Nat), i ≤ k.length ∧ n = k.length - i ∧ vars.get 2 = some (.one (encT e1)) ∧ vars.get 3 = some (.one (encT e2)) ∧ vars.get 4 = some (.box 0 [.int .i64 a, .int .i64 b, .str s, .str t, .dv (k.map Cr.enc)]) ∧ vars.get 5 = some (.box 0 [.int .i64 a', .int .i64 b', .str s', .str t', .dv (k'.map Cr.enc)]) ∧ alikeL (.mk a 0 s t []) (.mk a' 0 s' t' []) e1 e2 i (k.drop i) (k'.drop i) = r ∧ vars.get 13 = some (.one (.int .i64 k.length)) ∧ vars.get 14 = some (.one (.int .i64 i)) ∧ NB vars [6, 9, 15, 16]) k.length ?_ ?_
        · exact ⟨_, rfl, 0, by simp, by simp, by simp [*], by simp [*], by simp [*], by simp [*], by simpa using hgo, by simp [qk'], by simp, by simp⟩
        · rintro J hJ n _ ⟨vars, rfl, i, hi, rfl, v2, v3, v4, v5, hx, v13, v14, nb⟩
          simp only [NB_cons, NB_nil] at nb
          by_cases hlt : i < k.length
          · have hlt' : i < k'.length := by omega
            have hw' : IntKind.i64.wrap ((i : Int) + 1) = ((i + 1 : Nat) : Int) := by rw [wrapI ⟨by omega, by omega⟩]; simp
            have hmem := List.getElem_mem hlt
            have hwx := wtL_mem hmem
            have hbl := binds_len (.mk a b s t k) i
            have hbl' := binds_len (.mk a' b' s' t' k') i
            have hbn := binds_pv (.mk a b s t k) i
            rw [enc_mk, encL] at hbn
            have hcc := concat_pv [e1, binds (.mk a b s t k) i] (by simp) (by simp; omega)
            simp only [List.map_cons, List.map_nil, List.flatten_cons, List.flatten_nil, List.append_nil] at hcc
            have hbn' := binds_pv (.mk a' b' s' t' k') i
            rw [enc_mk, encL] at hbn'
            have hcc' := concat_pv [e2, binds (.mk a' b' s' t' k') i] (by simp) (by simp; omega)
            simp only [List.map_cons, List.map_nil, List.flatten_cons, List.flatten_nil, List.append_nil] at hcc'
            rw [List.drop_eq_getElem_cons hlt, List.drop_eq_getElem_cons hlt', alikeL] at hx
            simp [v2, v3, v4, v5, v13, v14, nb, hlt, hlt']
            refine callP_of hbn ?_
            simp [v2, v3, v4, v5, v13, v14, nb, hlt, hlt']
            refine callP_of hcc ?_
            simp [v2, v3, v4, v5, v13, v14, nb, hlt, hlt']
            refine callP_of hbn' ?_
            simp [v2, v3, v4, v5, v13, v14, nb, hlt, hlt']
            refine callP_of hcc' ?_
            simp [v2, v3, v4, v5, v13, v14, nb, hlt, hlt']
            refine callP_of (ih _ hmem k'[i] (e1 ++ binds (.mk a b s t k) i) (e2 ++ binds (.mk a' b' s' t' k') i) (by omega) (by simp only [List.length_append]; omega) (by simp only [List.length_append]; omega)) ?_
            have hb1 : binds (.mk a b s t k) i = binds (.mk a 0 s t []) i := rfl
            have hb2 : binds (.mk a' b' s' t' k') i = binds (.mk a' 0 s' t' []) i := rfl
            rw [hb1, hb2]
            cases q7 : alikeM k[i] k'[i] (e1 ++ binds (.mk a 0 s t []) i) (e2 ++ binds (.mk a' 0 s' t' []) i)
            · rw [q7] at hx; simp at hx
              simp [v2, v3, v4, v5, v13, v14, nb, hx]
            · rw [q7] at hx; simp only [Bool.true_and] at hx
              simp [v2, v3, v4, v5, v13, v14, nb, hw']
              subst hJ
              exact ⟨k.length - (i + 1), by omega, _, rfl, i + 1, by omega, rfl, by simp [v2], by simp [v3], by simp [v4], by simp [v5], hx, by simp [v13], by simp, by simp [nb]⟩
          · have hei : i = k.length := by omega
            subst hei
            simp [alikeL] at hx
            have hnl : ¬ k.length < k'.length := by omega
            simp [v2, v3, v4, v5, v13, v14, nb, hx]
      · replace hgo := hgo (fun _ => ⟨qp, fun h => absurd (qp ▸ h) qn⟩)
        simp [qp, qn]
        refine w_for (fun n st => ∃ vars, st = ⟨vars, Heap.empty, 0⟩ ∧ ∃ (i : Nat), i ≤ k.length ∧ n = k.length - i ∧ vars.get 2 = some (.one (encT e1)) ∧ vars.get 3 = some (.one (encT e2)) ∧ vars.get 4 = some (.box 0 [.int .i64 a, .int .i64 b, .str s, .str t, .dv (k.map Cr.enc)]) ∧ vars.get 5 = some (.box 0 [.int .i64 a', .int .i64 b', .str s', .str t', .dv (k'.map Cr.enc)]) ∧ alikeL (.mk a 0 s t []) (.mk a' 0 s' t' []) e1 e2 i (k.drop i) (k'.drop i) = r ∧ vars.get 13 = some (.one (.int .i64 k.length)) ∧ vars.get 14 = some (.one (.int .i64 i)) ∧ NB vars [6, 9, 15, 16]) k.length ?_ ?_
        · exact ⟨_, rfl, 0, by simp, by simp, by simp [*], by simp [*], by simp [*], by simp [*], by simpa using hgo, by simp [qk'], by simp, by simp⟩
        · rintro J hJ n _ ⟨vars, rfl, i, hi, rfl, v2, v3, v4, v5, hx, v13, v14, nb⟩
          simp only [NB_cons, NB_nil] at nb
          by_cases hlt : i < k.length
          · have hlt' : i < k'.length := by omega
            have hw' : IntKind.i64.wrap ((i : Int) + 1) = ((i + 1 : Nat) : Int) := by rw [wrapI ⟨by omega, by omega⟩]; simp
            have hmem := List.getElem_mem hlt
            have hwx := wtL_mem hmem
            have hbl := binds_len (.mk a b s t k) i
            have hbl' := binds_len (.mk a' b' s' t' k') i
            have hbn := binds_pv (.mk a b s t k) i
            rw [enc_mk, encL] at hbn
            have hcc := concat_pv [e1, binds (.mk a b s t k) i] (by simp) (by simp; omega)
            simp only [List.map_cons, List.map_nil, List.flatten_cons, List.flatten_nil, List.append_nil] at hcc
            have hbn' := binds_pv (.mk a' b' s' t' k') i
            rw [enc_mk, encL] at hbn'
            have hcc' := concat_pv [e2, binds (.mk a' b' s' t' k') i] (by simp) (by simp; omega)
            simp only [List.map_cons, List.map_nil, List.flatten_cons, List.flatten_nil, List.append_nil] at hcc'
            rw [List.drop_eq_getElem_cons hlt, List.drop_eq_getElem_cons hlt', alikeL] at hx
            simp [v2, v3, v4, v5, v13, v14, nb, hlt, hlt']
            refine callP_of hbn ?_
            simp [v2, v3, v4, v5, v13, v14, nb, hlt, hlt']
            refine callP_of hcc ?_
            simp [v2, v3, v4, v5, v13, v14, nb, hlt, hlt']
            refine callP_of hbn' ?_
            simp [v2, v3, v4, v5, v13, v14, nb, hlt, hlt']
            refine callP_of hcc' ?_
            simp [v2, v3, v4, v5, v13, v14, nb, hlt, hlt']
            refine callP_of (ih _ hmem k'[i] (e1 ++ binds (.mk a b s t k) i) (e2 ++ binds (.mk a' b' s' t' k') i) (by omega) (by simp only [List.length_append]; omega) (by simp only [List.length_append]; omega)) ?_
            have hb1 : binds (.mk a b s t k) i = binds (.mk a 0 s t []) i := rfl
            have hb2 : binds (.mk a' b' s' t' k') i = binds (.mk a' 0 s' t' []) i := rfl
            rw [hb1, hb2]
            cases q7 : alikeM k[i] k'[i] (e1 ++ binds (.mk a 0 s t []) i) (e2 ++ binds (.mk a' 0 s' t' []) i)
            · rw [q7] at hx; simp at hx
              simp [v2, v3, v4, v5, v13, v14, nb, hx]
            · rw [q7] at hx; simp only [Bool.true_and] at hx
              simp [v2, v3, v4, v5, v13, v14, nb, hw']
              subst hJ
              exact ⟨k.length - (i + 1), by omega, _, rfl, i + 1, by omega, rfl, by simp [v2], by simp [v3], by simp [v4], by simp [v5], hx, by simp [v13], by simp, by simp [nb]⟩
          · have hei : i = k.length := by omega
            subst hei
            simp [alikeL] at hx
            have hnl : ¬ k.length < k'.length := by omega
            simp [v2, v3, v4, v5, v13, v14, nb, hx]
    · replace hgo := hgo (fun h => absurd h h2)
      simp [f99, enc_mk, encL, qa, qb, qk', h2]
      refine w_for (fun n st => ∃ vars, st = ⟨vars, Heap.empty, 0⟩ ∧ ∃ (i : Nat), i ≤ k.length ∧ n = k.length - i ∧ vars.get 2 = some (.one (encT e1)) ∧ vars.get 3 = some (.one (encT e2)) ∧ vars.get 4 = some (.box 0 [.int .i64 a, .int .i64 b, .str s, .str t, .dv (k.map Cr.enc)]) ∧ vars.get 5 = some (.box 0 [.int .i64 a', .int .i64 b', .str s', .str t', .dv (k'.map Cr.enc)]) ∧ alikeL (.mk a 0 s t []) (.mk a' 0 s' t' []) e1 e2 i (k.drop i) (k'.drop i) = r ∧ vars.get 13 = some (.one (.int .i64 k.length)) ∧ vars.get 14 = some (.one (.int .i64 i)) ∧ NB vars [6, 9, 15, 16]) k.length ?_ ?_
      · exact ⟨_, rfl, 0, by simp, by simp, by simp [*], by simp [*], by simp [*], by simp [*], by simpa using hgo, by simp [qk'], by simp, by simp⟩
      · rintro J hJ n _ ⟨vars, rfl, i, hi, rfl, v2, v3, v4, v5, hx, v13, v14, nb⟩
        simp only [NB_cons, NB_nil] at nb
        by_cases hlt : i < k.length
        · have hlt' : i < k'.length := by omega
          have hw' : IntKind.i64.wrap ((i : Int) + 1) = ((i + 1 : Nat) : Int) := by rw [wrapI ⟨by omega, by omega⟩]; simp
          have hmem := List.getElem_mem hlt
          have hwx := wtL_mem hmem
          have hbl := binds_len (.mk a b s t k) i
          have hbl' := binds_len (.mk a' b' s' t' k') i
          have hbn := binds_pv (.mk a b s t k) i
          rw [enc_mk, encL] at hbn
          have hcc := concat_pv [e1, binds (.mk a b s t k) i] (by simp) (by simp; omega)
          simp only [List.map_cons, List.map_nil, List.flatten_cons, List.flatten_nil, List.append_nil] at hcc
          have hbn' := binds_pv (.mk a' b' s' t' k') i
          rw [enc_mk, encL] at hbn'
          have hcc' := concat_pv [e2, binds (.mk a' b' s' t' k') i] (by simp) (by simp; omega)
          simp only [List.map_cons, List.map_nil, List.flatten_cons, List.flatten_nil, List.append_nil] at hcc'
          rw [List.drop_eq_getElem_cons hlt, List.drop_eq_getElem_cons hlt', alikeL] at hx
          simp [v2, v3, v4, v5, v13, v14, nb, hlt, hlt']
          refine callP_of hbn ?_
          simp [v2, v3, v4, v5, v13, v14, nb, hlt, hlt']
          refine callP_of hcc ?_
          simp [v2, v3, v4, v5, v13, v14, nb, hlt, hlt']
          refine callP_of hbn' ?_
          simp [v2, v3, v4, v5, v13, v14, nb, hlt, hlt']
          refine callP_of hcc' ?_
          simp [v2, v3, v4, v5, v13, v14, nb, hlt, hlt']
          refine callP_of (ih _ hmem k'[i] (e1 ++ binds (.mk a b s t k) i) (e2 ++ binds (.mk a' b' s' t' k') i) (by omega) (by simp only [List.length_append]; omega) (by simp only [List.length_append]; omega)) ?_
          have hb1 : binds (.mk a b s t k) i = binds (.mk a 0 s t []) i := rfl
          have hb2 : binds (.mk a' b' s' t' k') i = binds (.mk a' 0 s' t' []) i := rfl
          rw [hb1, hb2]
          cases q7 : alikeM k[i] k'[i] (e1 ++ binds (.mk a 0 s t []) i) (e2 ++ binds (.mk a' 0 s' t' []) i)
          · rw [q7] at hx; simp at hx
            simp [v2, v3, v4, v5, v13, v14, nb, hx]
          · rw [q7] at hx; simp only [Bool.true_and] at hx
            simp [v2, v3, v4, v5, v13, v14, nb, hw']
            subst hJ
            exact ⟨k.length - (i + 1), by omega, _, rfl, i + 1, by omega, rfl, by simp [v2], by simp [v3], by simp [v4], by simp [v5], hx, by simp [v13], by simp, by simp [nb]⟩
        · have hei : i = k.length := by omega
          subst hei
          simp [alikeL] at hx
          have hnl : ¬ k.length < k'.length := by omega
          simp [v2, v3, v4, v5, v13, v14, nb, hx]

end Go.Proofs.Ytnnejoalamkkpaa

namespace Go.Proofs.Ytnnejoalamkkpaa
open Go Go.AI Go.Proofs
/-- loop.example/g00396/spec.l1Bit -/
def f57 : AFun := ⟨[0], 0,
 .seq (.region [⟨.mov (.cst (.one (.int .i64 0))), (.var 1), none, []⟩])
 (.seq (.seq (.region [⟨.mov (.var 0), (.var 2), none, []⟩])
 (.cond (.var 2) (.seq (.region [⟨.mov (.cst (.one (.int .i64 1))), (.var 1), none, []⟩])
 (.ret))
 (.skip)))
 (.seq (.region [⟨.mov (.cst (.one (.int .i64 0))), (.var 1), none, []⟩])
 (.ret))), [(.var 1, none)]⟩
def c57 : Cfg := ⟨4, [0, 2, 3], [], [], [], fun g t => [].contains g && ![].contains t⟩
theorem h57 : Has Try.prog 57 f57 := ⟨by kernel_rfl, c57, Try.f57, by kernel_rfl, by kernel_rfl⟩

/-- loop.example/g00396/impl.flag -/
def f129h : AFun := ⟨[0], 0,
 .seq (.region [⟨.mov (.cst (.one (.nilp))), (.var 1), none, []⟩])
 (.seq (.seq (.region [⟨.mov (.var 0), (.var 2), none, []⟩])
 (.cond (.var 2) (.seq (.region [⟨.call 127 [.cst (.one (.int .i64 1))] true, .loc, none, []⟩, ⟨.mov (.loc 0), (.var 1), none, []⟩])
 (.ret))
 (.skip)))
 (.seq (.region [⟨.call 127 [.cst (.one (.int .i64 0))] true, .loc, none, []⟩, ⟨.mov (.loc 0), (.var 1), none, []⟩])
 (.ret))), [(.var 1, none)]⟩
def c129h : Cfg := ⟨6, [0, 2, 3], [], [], [], fun g t => [127].contains g && ![].contains t⟩
theorem h129h : Has Try.prog 129 f129h := ⟨by kernel_rfl, c129h, Try.f129, by kernel_rfl, by kernel_rfl⟩

/-- loop.example/g00396/impl.reckoned -/
def f97h : AFun := ⟨[0, 1, 2], 0,
 .seq (.region [⟨.mov (.cst (.one (.nilp))), (.var 3), none, []⟩])
 (.seq (.seq (.region [⟨.mov (.var 0), (.var 4), none, []⟩])
 (.block 0 (.seq (.region [⟨.bin .eql .num (.var 4) (.cst (.one (.int .i64 8))), .loc, none, []⟩, ⟨.mov (.loc 0), (.var 5), none, []⟩])
 (.cond (.var 5) (.seq (.region [⟨.mov (.var 1), .loc, none, []⟩, ⟨.mov (.var 2), .loc, none, []⟩, ⟨.bin .add .num (.loc 0) (.loc 1), .loc, none, []⟩, ⟨.call 128 [.loc 2] false, .loc, none, []⟩, ⟨.call 127 [.loc 3] true, .loc, none, []⟩, ⟨.mov (.loc 4), (.var 3), none, []⟩])
 (.ret))
 (.seq (.region [⟨.bin .eql .num (.var 4) (.cst (.one (.int .i64 9))), .loc, none, []⟩, ⟨.mov (.loc 0), (.var 6), none, []⟩])
 (.cond (.var 6) (.seq (.region [⟨.mov (.var 1), .loc, none, []⟩, ⟨.mov (.var 2), .loc, none, []⟩, ⟨.bin .sub .num (.loc 0) (.loc 1), .loc, none, []⟩, ⟨.call 128 [.loc 2] false, .loc, none, []⟩, ⟨.call 127 [.loc 3] true, .loc, none, []⟩, ⟨.mov (.loc 4), (.var 3), none, []⟩])
 (.ret))
 (.seq (.region [⟨.bin .eql .num (.var 4) (.cst (.one (.int .i64 10))), .loc, none, []⟩, ⟨.mov (.loc 0), (.var 7), none, []⟩])
 (.cond (.var 7) (.seq (.region [⟨.mov (.var 1), .loc, none, []⟩, ⟨.mov (.var 2), .loc, none, []⟩, ⟨.bin .mul .num (.loc 0) (.loc 1), .loc, none, []⟩, ⟨.call 128 [.loc 2] false, .loc, none, []⟩, ⟨.call 127 [.loc 3] true, .loc, none, []⟩, ⟨.mov (.loc 4), (.var 3), none, []⟩])
 (.ret))
 (.seq (.region [⟨.bin .eql .num (.var 4) (.cst (.one (.int .i64 11))), .loc, none, []⟩, ⟨.mov (.loc 0), (.var 8), none, []⟩])
 (.cond (.var 8) (.seq (.region [⟨.mov (.var 1), .loc, none, []⟩, ⟨.mov (.var 2), .loc, none, []⟩, ⟨.bin .lss .num (.loc 0) (.loc 1), .loc, none, []⟩, ⟨.call 129 [.loc 2] true, .loc, none, []⟩, ⟨.mov (.loc 3), (.var 3), none, []⟩])
 (.ret))
 (.skip)))))))))))
 (.seq (.region [⟨.mov (.var 1), .loc, none, []⟩, ⟨.mov (.var 2), .loc, none, []⟩, ⟨.bin .eql .num (.loc 0) (.loc 1), .loc, none, []⟩, ⟨.call 129 [.loc 2] true, .loc, none, []⟩, ⟨.mov (.loc 3), (.var 3), none, []⟩])
 (.ret))), [(.var 3, none)]⟩
def c97h : Cfg := ⟨39, [0, 1, 2, 6, 7, 8, 15, 22, 29], [], [], [], fun g t => [127, 129].contains g && ![].contains t⟩
theorem h97h : Has Try.prog 97 f97h := ⟨by kernel_rfl, c97h, Try.f97, by kernel_rfl, by kernel_rfl⟩

/-- loop.example/g00396/impl.folded -/
def f64h : AFun := ⟨[0], 1,
 .seq (.region [⟨.boxV 1 28 5 (.var 0), (.var 1), none, []⟩, ⟨.boxV 2 28 5 (.cst (.agg [.int .i64 0, .int .i64 0, .str [], .str [], .nils])), (.var 2), none, []⟩])
 (.seq (.region [⟨.load (some (5)) (.var 1), .loc, none, []⟩, ⟨.boxS 0 28 5 (.cst (.agg [.int .i64 0, .int .i64 0, .str [], .str [], .nils])), (.var 3), none, []⟩, ⟨.store 5 (.var 3) (.loc 0), .no, none, []⟩])
 (.seq (.region [⟨.fieldAddr 4 (.var 3), .loc, none, []⟩, ⟨.store 1 (.loc 0) (.cst (.one (.nils))), .no, none, []⟩])
 (.seq (.seq (.region [⟨.fieldAddr 4 (.var 1), .loc, none, []⟩, ⟨.load none (.loc 0), (.var 6), none, []⟩, ⟨.len false (.var 6), (.var 7), none, []⟩, ⟨.mov (.cst (.one (.int .i64 0))), (.var 8), none, []⟩])
 (.block 0 (.loop (.seq (.region [⟨.bin .lss .num (.var 8) (.var 7), (.var 9), none, []⟩])
 (.seq (.cond (.var 9) (.skip)
 (.exit 0))
 (.seq (.block 1 (.seq (.region [⟨.indexAddr 5 (.var 6) (.var 8), .loc, none, []⟩, ⟨.load (some (5)) (.loc 0), .loc, none, []⟩, ⟨.boxV 4 28 5 (.cst (.agg [.int .i64 0, .int .i64 0, .str [], .str [], .nils])), (.var 4), none, []⟩, ⟨.store 5 (.var 4) (.loc 1), .no, none, []⟩])
 (.region [⟨.fieldAddr 4 (.var 3), .loc, none, []⟩, ⟨.load none (.loc 0), .loc, none, []⟩, ⟨.load (some (5)) (.var 4), .loc, none, [0, 1]⟩, ⟨.call 64 [.loc 2] false, .loc, none, [0, 1]⟩, ⟨.len false (.loc 1), .loc, none, [2, 3]⟩, ⟨.lit 5 1 [.int .i64 0, .int .i64 0, .str [], .str [], .nils] [(0, .cst (.agg [.int .i64 0, .int .i64 0, .str [], .str [], .nils]))], .loc, none, [0, 1, 2, 3, 4]⟩, ⟨.append 28 5 72 (.loc 1) (.loc 5), .loc, none, []⟩, ⟨.indexAddr 5 (.loc 6) (.loc 4), .loc, none, []⟩, ⟨.store 5 (.loc 7) (.loc 3), .no, none, []⟩, ⟨.fieldAddr 4 (.var 3), .loc, none, [7, 8]⟩, ⟨.store 1 (.loc 9) (.loc 6), .no, none, [7, 8]⟩])))
 (.region [⟨.bin .add .num (.var 8) (.cst (.one (.int .i64 1))), .loc, none, []⟩, ⟨.mov (.loc 0), (.var 8), none, []⟩])))))))
 (.seq (.region [⟨.mkfn 96 [.var 3], .loc, none, []⟩, ⟨.mov (.loc 0), (.var 5), none, []⟩])
 (.seq (.block 2 (.seq (.region [⟨.fieldAddr 0 (.var 1), .loc, none, []⟩, ⟨.load none (.loc 0), .loc, none, []⟩, ⟨.call 84 [.loc 1, .cst (.one (.int .i64 8)), .cst (.one (.int .i64 12))] false, .loc, none, []⟩, ⟨.mov (.loc 2), .loc, none, []⟩, ⟨.mov (.var 5), .loc, (some (.loc 3, true)), []⟩, ⟨.callV (.loc 4) [.cst (.one (.int .i64 0))], .loc, (some (.loc 3, true)), []⟩, ⟨.pick (.loc 3) (.loc 5) (.cst (.one (.bool false))), .loc, none, []⟩, ⟨.mov (.loc 6), .loc, none, []⟩, ⟨.mov (.var 5), .loc, (some (.loc 7, true)), []⟩, ⟨.callV (.loc 8) [.cst (.one (.int .i64 1))], .loc, (some (.loc 7, true)), []⟩, ⟨.pick (.loc 7) (.loc 9) (.cst (.one (.bool false))), .loc, none, []⟩, ⟨.mov (.loc 10), (.var 10), none, []⟩])
 (.cond (.var 10) (.seq (.region [⟨.fieldAddr 0 (.var 1), .loc, none, []⟩, ⟨.load none (.loc 0), .loc, none, []⟩, ⟨.fieldAddr 4 (.var 3), .loc, none, [0, 1]⟩, ⟨.load none (.loc 2), .loc, none, [0, 1]⟩, ⟨.indexAddr 5 (.loc 3) (.cst (.one (.int .i64 0))), .loc, none, [0, 1]⟩, ⟨.fieldAddr 1 (.loc 4), .loc, none, [0, 1]⟩, ⟨.load none (.loc 5), .loc, none, [0, 1]⟩, ⟨.fieldAddr 4 (.var 3), .loc, none, [0, 1, 2, 3, 4, 5, 6]⟩, ⟨.load none (.loc 7), .loc, none, [0, 1, 2, 3, 4, 5, 6]⟩, ⟨.indexAddr 5 (.loc 8) (.cst (.one (.int .i64 1))), .loc, none, [0, 1, 2, 3, 4, 5, 6]⟩, ⟨.fieldAddr 1 (.loc 9), .loc, none, [0, 1, 2, 3, 4, 5, 6]⟩, ⟨.load none (.loc 10), .loc, none, [0, 1, 2, 3, 4, 5, 6]⟩, ⟨.call 97 [.loc 1, .loc 6, .loc 11] true, .loc, none, []⟩, ⟨.nilCheck (.loc 12), .loc, none, []⟩, ⟨.fieldAddr 1 (.loc 13), .loc, none, []⟩, ⟨.load none (.loc 14), .loc, none, []⟩, ⟨.build [.int .i64 0, .int .i64 0, .str [], .str [], .nils] [(0, 1, .cst (.one (.int .i64 1))), (1, 1, .loc 15)], .loc, none, []⟩, ⟨.store 5 (.var 2) (.loc 16), .no, none, []⟩])
 (.ret))
 (.seq (.region [⟨.fieldAddr 0 (.var 1), .loc, none, []⟩, ⟨.load none (.loc 0), .loc, none, []⟩, ⟨.bin .eql .num (.loc 1) (.cst (.one (.int .i64 7))), .loc, none, []⟩, ⟨.mov (.loc 2), .loc, none, []⟩, ⟨.mov (.var 5), .loc, (some (.loc 3, true)), []⟩, ⟨.callV (.loc 4) [.cst (.one (.int .i64 0))], .loc, (some (.loc 3, true)), []⟩, ⟨.pick (.loc 3) (.loc 5) (.cst (.one (.bool false))), .loc, none, []⟩, ⟨.mov (.loc 6), (.var 11), none, []⟩])
 (.cond (.var 11) (.seq (.seq (.region [⟨.fieldAddr 4 (.var 3), .loc, none, []⟩, ⟨.load none (.loc 0), .loc, none, []⟩, ⟨.indexAddr 5 (.loc 1) (.cst (.one (.int .i64 0))), .loc, none, []⟩, ⟨.fieldAddr 1 (.loc 2), .loc, none, []⟩, ⟨.load none (.loc 3), .loc, none, []⟩, ⟨.bin .eql .num (.loc 4) (.cst (.one (.int .i64 0))), (.var 12), none, []⟩])
 (.cond (.var 12) (.seq (.region [⟨.fieldAddr 4 (.var 3), .loc, none, []⟩, ⟨.load none (.loc 0), .loc, none, []⟩, ⟨.indexAddr 5 (.loc 1) (.cst (.one (.int .i64 2))), .loc, none, []⟩, ⟨.load (some (5)) (.loc 2), .loc, none, []⟩, ⟨.store 5 (.var 2) (.loc 3), .no, none, []⟩])
 (.ret))
 (.skip)))
 (.seq (.region [⟨.fieldAddr 4 (.var 3), .loc, none, []⟩, ⟨.load none (.loc 0), .loc, none, []⟩, ⟨.indexAddr 5 (.loc 1) (.cst (.one (.int .i64 1))), .loc, none, []⟩, ⟨.load (some (5)) (.loc 2), .loc, none, []⟩, ⟨.store 5 (.var 2) (.loc 3), .no, none, []⟩])
 (.ret)))
 (.seq (.region [⟨.fieldAddr 0 (.var 1), .loc, none, []⟩, ⟨.load none (.loc 0), .loc, none, []⟩, ⟨.bin .eql .num (.loc 1) (.cst (.one (.int .i64 17))), .loc, none, []⟩, ⟨.mov (.loc 2), .loc, none, []⟩, ⟨.mov (.var 5), .loc, (some (.loc 3, true)), []⟩, ⟨.callV (.loc 4) [.cst (.one (.int .i64 0))], .loc, (some (.loc 3, true)), []⟩, ⟨.mov (.loc 5), .loc, (some (.loc 3, true)), []⟩, ⟨.fieldAddr 4 (.var 3), .loc, (some (.loc 6, false)), []⟩, ⟨.load none (.loc 7), .loc, (some (.loc 6, false)), []⟩, ⟨.indexAddr 5 (.loc 8) (.cst (.one (.int .i64 0))), .loc, (some (.loc 6, false)), []⟩, ⟨.fieldAddr 0 (.loc 9), .loc, (some (.loc 6, false)), []⟩, ⟨.load none (.loc 10), .loc, (some (.loc 6, false)), []⟩, ⟨.bin .eql .num (.loc 11) (.cst (.one (.int .i64 13))), .loc, (some (.loc 6, false)), []⟩, ⟨.pick (.loc 6) (.cst (.one (.bool true))) (.loc 12), .loc, (some (.loc 3, true)), []⟩, ⟨.pick (.loc 3) (.loc 13) (.cst (.one (.bool false))), .loc, none, []⟩, ⟨.mov (.loc 14), (.var 13), none, []⟩])
 (.cond (.var 13) (.seq (.region [⟨.build [.int .i64 0, .int .i64 0, .str [], .str [], .nils] [(0, 1, .cst (.one (.int .i64 1)))], .loc, none, []⟩, ⟨.store 5 (.var 2) (.loc 0), .no, none, []⟩])
 (.ret))
 (.skip))))))))
 (.seq (.region [⟨.load (some (5)) (.var 3), .loc, none, []⟩, ⟨.store 5 (.var 2) (.loc 0), .no, none, []⟩])
 (.ret))))))), [(.var 2, (some ((some (5)))))]⟩
def c64h : Cfg := ⟨96, [0, 1, 2, 3, 5, 6, 10, 11, 12, 13, 27, 56, 69, 78], [1, 2, 5], [3], [], fun g t => [97].contains g && ![].contains t⟩
theorem h64h : Has Try.prog 64 f64h := ⟨by kernel_rfl, c64h, Try.f64, by kernel_rfl, by kernel_rfl⟩
end Go.Proofs.Ytnnejoalamkkpaa

namespace Go.Proofs.Ytnnejoalamkkpaa
open Go Go.AI Go.Proofs
set_option linter.unusedSimpArgs false

def andM (n : Int) : Int := IntKind.i64.wrap ((((n % 2 ^ IntKind.i64.bits).toNat &&& 2147483647 % 2 ^ IntKind.i64.bits : Nat)) : Int)
def roundM (n : Int) : Int := if 1073741823 < andM n then IntKind.i64.wrap (andM n - 2147483648) else andM n
def bitM (b : Bool) : Int := if b then 1 else 0
def mathM (op a b : Int) : Int := if op = 8 then roundM (IntKind.i64.wrap (a + b)) else if op = 9 then roundM (IntKind.i64.wrap (a - b)) else if op = 10 then roundM (IntKind.i64.wrap (a * b)) else
  if op = 11 then bitM (decide (a < b)) else bitM (decide (a = b))

theorem roundS_pv (n : Int) : PV Try.prog 124 [.one (.int .i64 n)] (.one (.int .i64 (roundM n))) := by
  generalize hr : roundM n = r
  rw [roundM] at hr
  refine h124.pvq ⟨rfl, rfl, ?_⟩
  have ha : IntKind.i64.wrap ((((n % 2 ^ IntKind.i64.bits).toNat &&& 2147483647 % 2 ^ IntKind.i64.bits : Nat)) : Int) = andM n := rfl
  generalize andM n = x at *
  by_cases h1 : 1073741823 < x
  · rw [if_pos h1] at hr; simp [f124, ha, h1, hr]
  · rw [if_neg h1] at hr; subst hr; simp [f124, ha, h1]
theorem round_pv (n : Int) : PV Try.prog 128 [.one (.int .i64 n)] (.one (.int .i64 (roundM n))) := by
  generalize hr : roundM n = r
  rw [roundM] at hr
  refine h128.pvq ⟨rfl, rfl, ?_⟩
  have ha : IntKind.i64.wrap ((((n % 2 ^ IntKind.i64.bits).toNat &&& 2147483647 % 2 ^ IntKind.i64.bits : Nat)) : Int) = andM n := rfl
  generalize andM n = x at *
  by_cases h1 : 1073741823 < x
  · have h2 : 1073741824 ≤ x := by omega
    rw [if_pos h1] at hr; simp [f128, ha, h2, hr]
  · have h2 : ¬ 1073741824 ≤ x := by omega
    rw [if_neg h1] at hr; subst hr; simp [f128, ha, h2]
theorem bit_pv (b : Bool) : PV Try.prog 57 [.one (.bool b)] (.one (.int .i64 (bitM b))) := by
  refine h57.pvq ⟨rfl, rfl, ?_⟩
  cases b <;> simp [f57, bitM]
theorem math_pv (op a b : Int) : PV Try.prog 94 [.one (.int .i64 op), .one (.int .i64 a), .one (.int .i64 b)] (.one (.int .i64 (mathM op a b))) := by
  generalize hr : mathM op a b = r
  rw [mathM] at hr
  refine h94.pvq ⟨rfl, rfl, ?_⟩
  by_cases h1 : op = 8
  · rw [if_pos h1] at hr; simp [f94, h1]; refine callP_of (roundS_pv _) ?_; simp [hr]
  rw [if_neg h1] at hr
  by_cases h2 : op = 9
  · rw [if_pos h2] at hr; simp [f94, h1, h2]; refine callP_of (roundS_pv _) ?_; simp [hr]
  rw [if_neg h2] at hr
  by_cases h3 : op = 10
  · rw [if_pos h3] at hr; simp [f94, h1, h2, h3]; refine callP_of (roundS_pv _) ?_; simp [hr]
  rw [if_neg h3] at hr
  by_cases h4 : op = 11
  · rw [if_pos h4] at hr; simp [f94, h1, h2, h3, h4]; refine callP_of (bit_pv _) ?_; simp [hr]
  · rw [if_neg h4] at hr; simp [f94, h1, h2, h3, h4]; refine callP_of (bit_pv _) ?_; simp [hr]
theorem l28Math_pv (a : Int) : PV Try.prog 93 [.one (.int .i64 a)] (.one (.bool (decide (8 ≤ a ∧ a ≤ 12)))) := by
  generalize hr : decide (8 ≤ a ∧ a ≤ 12) = r
  refine h93.pvq ⟨rfl, rfl, ?_⟩
  simp [f93]
  refine callP_of (in3_pv a _ _) ?_
  simp [← hr]

def opC : Cr → Int | .mk a _ _ _ _ => a
def numV : Cr → Int | .mk _ b _ _ _ => b
def numC (n : Int) : Cr := .mk 1 n [] [] []
/-- what is folded at the top -/
def foldT (a b : Int) (s t : Txt) (R : List Cr) : Cr :=
  match R with
  | [r0, r1] => if (8 ≤ a ∧ a ≤ 12) ∧ opC r0 = 1 ∧ opC r1 = 1 then numC (mathM a (numV r0) (numV r1)) else .mk a b s t R
  | [r0, r1, r2] => if a = 7 ∧ opC r0 = 1 then (if numV r0 = 0 then r2 else r1) else .mk a b s t R
  | [r0] => if a = 17 ∧ (opC r0 = 1 ∨ opC r0 = 13) then numC 0 else .mk a b s t R
  | _ => .mk a b s t R
mutual
def foldM : Cr → Cr
  | .mk a b s t k => foldT a b s t (foldL k)
def foldL : List Cr → List Cr
  | [] => []
  | x :: r => foldM x :: foldL r
end
theorem foldL_eq : ∀ k, foldL k = k.map foldM
  | [] => rfl
  | x :: r => by simp [foldL, foldL_eq r]
mutual
def arM : Cr → Prop
  | .mk a _ _ _ k => kidsN a = k.length ∧ arL k
def arL : List Cr → Prop
  | [] => True
  | x :: r => arM x ∧ arL r
end
theorem arL_mem : ∀ {k : List Cr} {x : Cr}, arL k → x ∈ k → arM x
  | y :: r, x, h, hx => by
    simp only [arL] at h
    rcases List.mem_cons.1 hx with rfl | hx
    · exact h.1
    · exact arL_mem h.2 hx
mutual
theorem ar_right : ∀ (x : Cr) (env : List Txt), rightM x env = true → arM x
  | .mk a b s t k, env, h => by
    rw [rightM] at h
    simp only [Bool.and_eq_true, decide_eq_true_eq] at h
    exact ⟨h.1.1.1.1.1.1, ar_rightL k a s t 0 env h.2⟩
theorem ar_rightL : ∀ (k : List Cr) (a : Int) (s t : Txt) (i : Nat) (env : List Txt), rightL a s t i env k = true → arL k
  | [], a, s, t, i, env, h => by simp [arL]
  | x :: r, a, s, t, i, env, h => by
    rw [rightL, Bool.and_eq_true] at h
    exact ⟨ar_right x _ h.1, ar_rightL r a s t (i + 1) env h.2⟩
end
theorem foldT_wt (a b : Int) (s t : Txt) (R : List Cr) : (foldT a b s t R).wt ≤ 1 + s.length + t.length + wtL R := by
  unfold foldT
  split
  · split
    · simp [numC, wt_mk, wtL_nil]; omega
    · rw [wt_mk]; omega
  · split
    · split <;> simp [wtL_cons, wtL_nil] <;> omega
    · rw [wt_mk]; omega
  · split
    · simp [numC, wt_mk, wtL_nil]; omega
    · rw [wt_mk]; omega
  · rw [wt_mk]; omega
mutual
theorem fold_wt : ∀ x : Cr, (foldM x).wt ≤ x.wt
  | .mk a b s t k => by rw [foldM, wt_mk]; have := foldT_wt a b s t (foldL k); have := foldL_wt k; omega
theorem foldL_wt : ∀ k : List Cr, wtL (foldL k) ≤ wtL k
  | [] => by simp [foldL]
  | x :: r => by rw [foldL, wtL_cons, wtL_cons]; have := fold_wt x; have := foldL_wt r; omega
end
/-- what the arity tells of the kids -/
theorem kids_shape (a : Int) (k : List Cr) (h : kidsN a = k.length) : (8 ≤ a ∧ a ≤ 12 → ∃ r0 r1, k = [r0, r1]) ∧ (a = 7 → ∃ r0 r1 r2, k = [r0, r1, r2]) ∧ (a = 17 → ∃ r0, k = [r0]) := by
  refine ⟨fun h1 => ?_, fun h1 => ?_, fun h1 => ?_⟩
  · have : k.length = 2 := by
      have h2 : a = 8 ∨ a = 9 ∨ a = 10 ∨ a = 11 ∨ a = 12 := by omega
      rcases h2 with rfl | rfl | rfl | rfl | rfl <;> simp [kidsN] at h <;> omega
    match k, this with
    | [r0, r1], _ => exact ⟨r0, r1, rfl⟩
  · subst h1
    have : k.length = 3 := by simp [kidsN] at h; omega
    match k, this with
    | [r0, r1, r2], _ => exact ⟨r0, r1, r2, rfl⟩
  · subst h1
    have : k.length = 1 := by simp [kidsN] at h; omega
    match k, this with
    | [r0], _ => exact ⟨r0, rfl⟩

end Go.Proofs.Ytnnejoalamkkpaa

namespace Go.Proofs.Ytnnejoalamkkpaa
open Go Go.AI Go.Proofs
set_option linter.unusedSimpArgs false

theorem pvQ_numC {n : Int} {h : Heap} : pvQ (.agg (numC n).enc) (.agg [.int .i64 1, .int .i64 n, .str [], .str [], .nils]) h := by
  simp [pvQ, numC, enc_mk, encL]
theorem pvQ_enc {x : Cr} {h : Heap} : pvQ (.agg x.enc) (.agg x.enc) h := by simp [pvQ]

set_option maxHeartbeats 4000000 in
set_option maxRecDepth 20000 in
theorem foldS_pv : ∀ x : Cr, arM x → x.wt < 1000000000000 → PV Try.prog 62 [.agg x.enc] (.agg (foldM x).enc)
  | .mk a b s t k, har, hw => by
    rw [wt_mk] at hw
    obtain ⟨hk, hak⟩ := har
    have ih := fun x (hx : x ∈ k) => foldS_pv x (arL_mem hak hx) (by have := wtL_mem hx; omega)
    have hl := wtL_len k
    rw [foldM, foldL_eq]
    obtain ⟨s1, s2, s3⟩ := kids_shape a k hk
    generalize hR : k.map foldM = R
    have hRl : R.length = k.length := by rw [← hR]; simp
    have hRg : ∀ i (h : i < k.length) (h' : i < R.length), R[i] = foldM k[i] := by intro i h h'; subst hR; simp
    have hRs : (8 ≤ a ∧ a ≤ 12 → ∃ r0 r1, R = [r0, r1]) ∧ (a = 7 → ∃ r0 r1 r2, R = [r0, r1, r2]) ∧ (a = 17 → ∃ r0, R = [r0]) := by
      refine ⟨fun h => ?_, fun h => ?_, fun h => ?_⟩
      · obtain ⟨r0, r1, rfl⟩ := s1 h; exact ⟨_, _, hR.symm⟩
      · obtain ⟨r0, r1, r2, rfl⟩ := s2 h; exact ⟨_, _, _, hR.symm⟩
      · obtain ⟨r0, rfl⟩ := s3 h; exact ⟨_, hR.symm⟩
    generalize hQ : pvQ (.agg (foldT a b s t R).enc) = Q
    refine h62.pvq ⟨rfl, rfl, ?_⟩
    rw [hQ]
    simp [f62, enc_mk, encL]
    refine w_for (fun n st => ∃ vars h, st = ⟨vars, h, 0⟩ ∧ ∃ (i : Nat) (c : C), i ≤ k.length ∧ n = k.length - i ∧ vars.get 1 = some (.box 0 [.int .i64 a, .int .i64 b, .str s, .str t, .dv (k.map Cr.enc)]) ∧
      vars.get 2 = some (.box 0 [.int .i64 0, .int .i64 0, .str [], .str [], .nils]) ∧
      vars.get 3 = some (.box 0 [.int .i64 a, .int .i64 b, .str s, .str t, c]) ∧ vars.get 4 = some (.one (.int .i64 i)) ∧ AccD h 28 5 ((R.take i).map Cr.enc) c ∧ NB vars [5, 6, 7, 8, 9]) k.length ?_ ?_
    · exact ⟨_, _, rfl, 0, .nils, by simp, by simp, by simp, by simp, by simp, by simp, by simp [AccD], by simp⟩
    · rintro J hJ n _ ⟨vars, h, rfl, i, c, hi, rfl, v1, v2, v3, v4, hacc, nb⟩
      simp only [NB_cons, NB_nil] at nb
      by_cases hlt : i < k.length
      · have hw : IntKind.i64.wrap ((i : Int) + 1) = ((i + 1 : Nat) : Int) := by rw [wrapI ⟨by omega, by omega⟩]; simp
        have hRi : i < R.length := by omega
        obtain ⟨c', h', fp, e1, a1, hn⟩ := hacc.push (bytes := 72) (news := [R[i].enc]) (by simp) (by simp; omega)
        rw [hRg i hlt hRi] at e1
        simp [v1, v2, v3, v4, nb, hlt]
        refine callP_of (ih _ (List.getElem_mem hlt)) ?_
        simp [v1, v2, v3, v4, nb, hlt, e1, hw]
        subst hJ
        refine ⟨k.length - (i + 1), by omega, _, _, rfl, i + 1, c', by omega, rfl, by simp [v1], by simp [v2], by simp, by simp, ?_, by simp [nb]⟩
        rw [List.take_succ_eq_append_getElem hRi, List.map_append]
        exact a1
      · have hei : i = k.length := by omega
        subst hei
        rw [← hRl, List.take_length] at hacc
        simp [v1, v2, v3, v4, nb]
        refine callP_of (l28Math_pv a) ?_
        by_cases hA : 8 ≤ a ∧ a ≤ 12
        · obtain ⟨r0, r1, rfl⟩ := hRs.1 hA
          have n7 : a ≠ 7 := by omega
          have n17 : a ≠ 17 := by omega
          obtain ⟨hA1, hA2⟩ := hA
          rcases hacc with ⟨h0, _⟩ | ⟨id, g, rfl, hm, hid⟩
          · simp at h0
          obtain ⟨a0, b0, s0, t0, l0⟩ := r0
          obtain ⟨a9, b9, s9, t9, l9⟩ := r1
          have hat := Heap.at_of hm
          by_cases q0 : a0 = 1
          · by_cases q1 : a9 = 1
            · have hf : foldT a b s t [.mk a0 b0 s0 t0 l0, .mk a9 b9 s9 t9 l9] = numC (mathM a b0 b9) := by simp [foldT, opC, numV, q0, q1, hA1, hA2]
              rw [hf] at hQ
              simp [v1, v2, v3, v4, nb, hA1, hA2, hat, enc_mk, q0, q1]
              refine callP_of (math_pv a b0 b9) ?_
              simp [v1, v2, v3, v4, nb]
              rw [← hQ]; exact pvQ_numC
            · have hf : foldT a b s t [.mk a0 b0 s0 t0 l0, .mk a9 b9 s9 t9 l9] = .mk a b s t [.mk a0 b0 s0 t0 l0, .mk a9 b9 s9 t9 l9] := by simp [foldT, opC, numV, q0, q1]
              rw [hf] at hQ
              simp [v1, v2, v3, v4, nb, hA1, hA2, hat, enc_mk, q0, q1, n7, n17]
              rw [← hQ]; exact pvQ_core (.inr ⟨id, g, rfl, hm, hid⟩)
          · have hf : foldT a b s t [.mk a0 b0 s0 t0 l0, .mk a9 b9 s9 t9 l9] = .mk a b s t [.mk a0 b0 s0 t0 l0, .mk a9 b9 s9 t9 l9] := by simp [foldT, opC, numV, q0]
            rw [hf] at hQ
            simp [v1, v2, v3, v4, nb, hA1, hA2, hat, enc_mk, q0, n7, n17]
            rw [← hQ]; exact pvQ_core (.inr ⟨id, g, rfl, hm, hid⟩)
        have hA' : ¬ (8 ≤ a ∧ a ≤ 12) := hA
        by_cases hB : a = 7
        · obtain ⟨r0, r1, r2, rfl⟩ := hRs.2.1 hB
          subst hB
          rcases hacc with ⟨h0, _⟩ | ⟨id, g, rfl, hm, hid⟩
          · simp at h0
          obtain ⟨a0, b0, s0, t0, l0⟩ := r0
          have hat := Heap.at_of hm
          by_cases q0 : a0 = 1
          · by_cases q1 : b0 = 0
            · have hf : foldT 7 b s t [.mk a0 b0 s0 t0 l0, r1, r2] = r2 := by simp [foldT, opC, numV, q0, q1]
              rw [hf] at hQ
              simp [v1, v2, v3, v4, nb, hat, enc_mk, q0, q1]
              rw [← hQ]; exact pvQ_enc
            · have hf : foldT 7 b s t [.mk a0 b0 s0 t0 l0, r1, r2] = r1 := by simp [foldT, opC, numV, q0, q1]
              rw [hf] at hQ
              simp [v1, v2, v3, v4, nb, hat, enc_mk, q0, q1]
              rw [← hQ]; exact pvQ_enc
          · have hf : foldT 7 b s t [.mk a0 b0 s0 t0 l0, r1, r2] = .mk 7 b s t [.mk a0 b0 s0 t0 l0, r1, r2] := by simp [foldT, opC, numV, q0]
            rw [hf] at hQ
            simp [v1, v2, v3, v4, nb, hat, enc_mk, q0]
            rw [← hQ]; exact pvQ_core (.inr ⟨id, g, rfl, hm, hid⟩)
        by_cases hC : a = 17
        · obtain ⟨r0, rfl⟩ := hRs.2.2 hC
          subst hC
          rcases hacc with ⟨h0, _⟩ | ⟨id, g, rfl, hm, hid⟩
          · simp at h0
          obtain ⟨a0, b0, s0, t0, l0⟩ := r0
          have hat := Heap.at_of hm
          by_cases q0 : a0 = 1
          · have hf : foldT 17 b s t [.mk a0 b0 s0 t0 l0] = numC 0 := by simp [foldT, opC, numV, q0]
            rw [hf] at hQ
            simp [v1, v2, v3, v4, nb, hat, enc_mk, q0]
            rw [← hQ]; exact pvQ_numC
          · by_cases q1 : a0 = 13
            · have hf : foldT 17 b s t [.mk a0 b0 s0 t0 l0] = numC 0 := by simp [foldT, opC, numV, q1]
              rw [hf] at hQ
              simp [v1, v2, v3, v4, nb, hat, enc_mk, q1]
              rw [← hQ]; exact pvQ_numC
            · have hf : foldT 17 b s t [.mk a0 b0 s0 t0 l0] = .mk 17 b s t [.mk a0 b0 s0 t0 l0] := by simp [foldT, opC, numV, q0, q1]
              rw [hf] at hQ
              simp [v1, v2, v3, v4, nb, hat, enc_mk, q0, q1]
              rw [← hQ]; exact pvQ_core (.inr ⟨id, g, rfl, hm, hid⟩)
        · have hf : foldT a b s t R = .mk a b s t R := by
            unfold foldT
            split
            · rw [if_neg]; rintro ⟨h, _⟩; exact hA h
            · rw [if_neg]; rintro ⟨h, _⟩; exact hB h
            · rw [if_neg]; rintro ⟨h, _⟩; exact hC h
            · rfl
          rw [hf] at hQ
          simp only [hA', decide_false]
          simp [v1, v2, v3, v4, nb, hB, hC]
          rw [← hQ]; exact pvQ_core hacc

end Go.Proofs.Ytnnejoalamkkpaa

namespace Go.Proofs.Ytnnejoalamkkpaa
open Go Go.AI Go.Proofs
set_option linter.unusedSimpArgs false

/-- a new place with an int -/
def PtrQ (H : Heap) (n : Int) : V → Heap → Prop := fun r H' => ∃ g, r = .one (.ptr H.next g 0 0) ∧ H'.mem.get H.next = some ⟨g, 122, 11, true, [[.int .i64 1, .int .i64 n, .nilp, .nilp, .str [], .int .i64 0, .int .i64 0, .str [], .str [], .nils, .nilp]]⟩ ∧ Keep H.next H H'

theorem integer_hv (n : Int) (H : Heap) : HV Try.prog 127 [.one (.int .i64 n)] H (PtrQ H n) := by
  generalize hQ : PtrQ H n = Q
  refine h127.hv ⟨rfl, rfl, ?_⟩
  simp [f127, ← hQ]
  exact ⟨_, rfl, by simp [Heap.new], by simp [Heap.new], fun m hm => by simp [Heap.new, Tr.get_put_ne _ _ (by omega : m ≠ H.next)]⟩
theorem flag_hv (b : Bool) (H : Heap) : HV Try.prog 129 [.one (.bool b)] H (PtrQ H (bitM b)) := by
  generalize hQ : PtrQ H (bitM b) = Q
  refine h129h.hv ⟨rfl, rfl, ?_⟩
  cases b
  · simp [f129h]
    refine callH_of (integer_hv 0 _) (by simp) (by simp) ?_
    intro r h' hq
    obtain ⟨g, rfl, h1, h2⟩ := hq
    simp [← hQ]
    exact ⟨g, rfl, h1, h2⟩
  · simp [f129h]
    refine callH_of (integer_hv 1 _) (by simp) (by simp) ?_
    intro r h' hq
    obtain ⟨g, rfl, h1, h2⟩ := hq
    simp [← hQ]
    exact ⟨g, rfl, h1, h2⟩
theorem reckoned_hv (op a b : Int) (H : Heap) : HV Try.prog 97 [.one (.int .i64 op), .one (.int .i64 a), .one (.int .i64 b)] H (PtrQ H (mathM op a b)) := by
  generalize hr : mathM op a b = r
  rw [mathM] at hr
  generalize hQ : PtrQ H r = Q
  refine h97h.hv ⟨rfl, rfl, ?_⟩
  by_cases h1 : op = 8
  · rw [if_pos h1] at hr; simp [f97h, h1]; refine callP_of (round_pv _) ?_; simp
    refine callH_of (integer_hv _ _) (by simp) (by simp) ?_
    rintro _ h' ⟨g, rfl, q1, q2⟩
    simp [← hQ]; rw [← hr]; exact ⟨g, rfl, q1, q2⟩
  rw [if_neg h1] at hr
  by_cases h2 : op = 9
  · rw [if_pos h2] at hr; simp [f97h, h1, h2]; refine callP_of (round_pv _) ?_; simp
    refine callH_of (integer_hv _ _) (by simp) (by simp) ?_
    rintro _ h' ⟨g, rfl, q1, q2⟩
    simp [← hQ]; rw [← hr]; exact ⟨g, rfl, q1, q2⟩
  rw [if_neg h2] at hr
  by_cases h3 : op = 10
  · rw [if_pos h3] at hr; simp [f97h, h1, h2, h3]; refine callP_of (round_pv _) ?_; simp
    refine callH_of (integer_hv _ _) (by simp) (by simp) ?_
    rintro _ h' ⟨g, rfl, q1, q2⟩
    simp [← hQ]; rw [← hr]; exact ⟨g, rfl, q1, q2⟩
  rw [if_neg h3] at hr
  by_cases h4 : op = 11
  · rw [if_pos h4] at hr; simp [f97h, h1, h2, h3, h4]
    refine callH_of (flag_hv _ _) (by simp) (by simp) ?_
    rintro _ h' ⟨g, rfl, q1, q2⟩
    simp [← hQ]; rw [← hr]; exact ⟨g, rfl, q1, q2⟩
  · rw [if_neg h4] at hr; simp [f97h, h1, h2, h3, h4]
    refine callH_of (flag_hv _ _) (by simp) (by simp) ?_
    rintro _ h' ⟨g, rfl, q1, q2⟩
    simp [← hQ]; rw [← hr]; exact ⟨g, rfl, q1, q2⟩

theorem num_hv (i : Nat) (a b : Int) (s t : Txt) (id g g0 n : Nat) (els : List (List C)) (x : Cr) (H : Heap) (h0 : H.mem.get 0 = some ⟨g0, 28, 5, true, [[.int .i64 a, .int .i64 b, .str s, .str t, .sl id g 0 n]]⟩) (h1 : H.mem.get id = some ⟨g, 28, 5, true, els⟩)
    (hn : els.length = n) (hx : els[i]? = some x.enc) : HV Try.prog 96 [.one (.int .i64 i), .one (.ptr 0 g0 0 0)] H (fun r H' => r = .one (.bool (decide (opC x = 1))) ∧ H' = H) := by
  generalize hQ : (fun (r : V) (H' : Heap) => r = .one (.bool (decide (opC x = 1))) ∧ H' = H) = Q
  refine h96.hv ⟨rfl, rfl, ?_⟩
  have hi : i < els.length := (List.getElem?_eq_some_iff.1 hx).1
  have hxe : els[i] = x.enc := (List.getElem?_eq_some_iff.1 hx).2
  obtain ⟨a0, b0, s0, t0, l0⟩ := x
  rw [enc_mk] at hxe
  have e0 := Heap.at_of h0
  have e1 := Heap.at_of h1
  have hin : (i : Int) < n := by omega
  subst hn
  obtain ⟨nx, mm⟩ := H
  simp [f96, e0, e1, hi, hxe, ← hQ, opC]
  rfl

/-- the kids that lie in a slice of their own, beside what lies at 0 -/
def KA (h : Heap) (els : List (List C)) (kc : C) : Prop := (els = [] ∧ kc = .nils) ∨ ∃ id g, kc = .sl id g 0 els.length ∧ id ≠ 0 ∧ id < h.next ∧ h.mem.get id = some ⟨g, 28, 5, true, els⟩
theorem KA.len {h : Heap} {els : List (List C)} {kc : C} (k : KA h els kc) : lenOf false (.one kc) = some els.length := by
  rcases k with ⟨rfl, rfl⟩ | ⟨id, g, rfl, _⟩ <;> simp
theorem KA.push {h : Heap} {els : List (List C)} {kc : C} (k : KA h els kc) (z : List C) (hz : z.length = 5) (hb : (els.length + 1) * 72 ≤ 140737488355328) (hn : 1 ≤ h.next) :
    ∃ id g h1 fp, appendC h 28 5 72 (.one kc) [z] = some (.one (.sl id g 0 (els.length + 1)), h1, fp) ∧ h1.mem.get id = some ⟨g, 28, 5, true, els ++ [z]⟩ ∧ id ≠ 0 ∧ id < h1.next ∧ h1.mem.get 0 = h.mem.get 0 ∧ 1 ≤ h1.next := by
  rcases k with ⟨rfl, rfl⟩ | ⟨id, g, rfl, h0, h1, h2⟩
  · refine ⟨h.next, h.fresh h.next, h.new 28 5 [z], FP.fresh h.next, by simp [appendC, hz], by simp [Heap.new], by omega, by simp [Heap.new], ?_, by simp [Heap.new]⟩
    simp [Heap.new, Tr.get_put_ne _ _ (by omega : 0 ≠ h.next)]
  · refine ⟨id, g + 1, h.set id ⟨g + 1, 28, 5, true, els ++ [z]⟩, FP.write [id], ?_, by simp [Heap.set], h0, by simpa [Heap.set] using h1, ?_, by simpa [Heap.set] using hn⟩
    · simp only [appendC, List.all_cons, List.all_nil, Bool.and_true, hz, decide_true, if_true, Heap.at_of h2, List.length_cons, List.length_nil]
      rw [if_pos (by simp), if_neg (by omega), if_pos (by simp; omega)]
      simp
    · simp [Heap.set, Tr.get_put_ne _ _ (Ne.symm h0)]

set_option maxHeartbeats 4000000 in
set_option maxRecDepth 20000 in
theorem fold_pv : ∀ x : Cr, arM x → x.wt < 1000000000000 → PV Try.prog 64 [.agg x.enc] (.agg (foldM x).enc)
  | .mk a b s t k, har, hw => by
    rw [wt_mk] at hw
    obtain ⟨hk, hak⟩ := har
    have ih := fun x (hx : x ∈ k) => fold_pv x (arL_mem hak hx) (by have := wtL_mem hx; omega)
    have hl := wtL_len k
    rw [foldM, foldL_eq]
    obtain ⟨s1, s2, s3⟩ := kids_shape a k hk
    generalize hR : k.map foldM = R
    have hRl : R.length = k.length := by rw [← hR]; simp
    have hRg : ∀ i (h : i < k.length) (h' : i < R.length), R[i] = foldM k[i] := by intro i h h'; subst hR; simp
    have hRs : (8 ≤ a ∧ a ≤ 12 → ∃ r0 r1, R = [r0, r1]) ∧ (a = 7 → ∃ r0 r1 r2, R = [r0, r1, r2]) ∧ (a = 17 → ∃ r0, R = [r0]) := by
      refine ⟨fun h => ?_, fun h => ?_, fun h => ?_⟩
      · obtain ⟨r0, r1, rfl⟩ := s1 h; exact ⟨_, _, hR.symm⟩
      · obtain ⟨r0, r1, r2, rfl⟩ := s2 h; exact ⟨_, _, _, hR.symm⟩
      · obtain ⟨r0, rfl⟩ := s3 h; exact ⟨_, hR.symm⟩
    generalize hQ : pvQ (.agg (foldT a b s t R).enc) = Q
    refine h64h.pvq ⟨rfl, rfl, ?_⟩
    rw [hQ]
    have hf0 : (⟨1, .lf⟩ : Heap).fresh 0 = 0 := rfl
    simp [f64h, enc_mk, encL, hf0]
    refine w_for (fun n st => ∃ vars h, st = ⟨vars, h, 0⟩ ∧ ∃ (i : Nat) (kc : C), i ≤ k.length ∧ n = k.length - i ∧ vars.get 1 = some (.box 0 [.int .i64 a, .int .i64 b, .str s, .str t, .dv (k.map Cr.enc)]) ∧
      vars.get 2 = some (.box 0 [.int .i64 0, .int .i64 0, .str [], .str [], .nils]) ∧ vars.get 3 = some (.one (.ptr 0 0 0 0)) ∧ vars.get 6 = some (.one (.dv (k.map Cr.enc))) ∧ vars.get 7 = some (.one (.int .i64 k.length)) ∧
      vars.get 8 = some (.one (.int .i64 i)) ∧ h.mem.get 0 = some ⟨0, 28, 5, true, [[.int .i64 a, .int .i64 b, .str s, .str t, kc]]⟩ ∧ KA h ((R.take i).map Cr.enc) kc ∧ 1 ≤ h.next ∧ NB vars [5, 9, 10, 11, 12, 13]) k.length ?_ ?_
    · refine ⟨_, _, rfl, 0, .nils, by simp, by simp, by simp, by simp, by simp, by simp, by simp, by simp, ?_, .inl ⟨by simp, rfl⟩, by simp, by simp⟩
      simp [Heap.set]
    · rintro J hJ n _ ⟨vars, h, rfl, i, kc, hi, rfl, v1, v2, v3, v6, v7, v8, hm0, hka, hn1, nb⟩
      simp only [NB_cons, NB_nil] at nb
      have e0 := Heap.at_of hm0
      by_cases hlt : i < k.length
      · have hw : IntKind.i64.wrap ((i : Int) + 1) = ((i + 1 : Nat) : Int) := by rw [wrapI ⟨by omega, by omega⟩]; simp
        have hRi : i < R.length := by omega
        have hti : ((R.take i).map Cr.enc).length = i := by simp; omega
        have hkl := hka.len
        rw [hti] at hkl
        obtain ⟨id, g, h1, fp, p1, p2, p3, p4, p5, p6⟩ := hka.push [.int .i64 0, .int .i64 0, .str [], .str [], .nils] rfl (by rw [hti]; omega) hn1
        rw [hti] at p1
        have q0 := Heap.at_of p2
        have q1 := Heap.at_of (p5.trans hm0)
        have hge : ((R.take i).map Cr.enc ++ [[C.int .i64 0, .int .i64 0, .str [], .str [], .nils]])[i]? = some [.int .i64 0, .int .i64 0, .str [], .str [], .nils] := by
          rw [List.getElem?_append_right (by omega), hti, Nat.sub_self]; rfl
        generalize hL : (R.take i).map Cr.enc ++ [[C.int .i64 0, .int .i64 0, .str [], .str [], .nils]] = L at *
        have hLi : i < L.length := by rw [← hL]; simp; omega
        have hLe : L[i] = [.int .i64 0, .int .i64 0, .str [], .str [], .nils] := (List.getElem?_eq_some_iff.1 hge).2
        have q2 : (h1.set id ⟨g, 28, 5, true, L.set i (foldM k[i]).enc⟩).at 0 0 = some ⟨0, 28, 5, true, [[.int .i64 a, .int .i64 b, .str s, .str t, kc]]⟩ := by
          refine Heap.at_of ?_
          simp [Heap.set, Tr.get_put_ne _ _ (Ne.symm p3)]; exact p5.trans hm0
        simp [v1, v2, v3, v6, v7, v8, nb, hlt, e0]
        refine callP_of (ih _ (List.getElem_mem hlt)) ?_
        have hii : (i : Int) < (i : Int) + 1 := by omega
        simp [v1, v2, v3, v6, v7, v8, nb, hlt, hii, e0, hkl, p1, q0, hLi, hLe, q2, hw, p3, Ne.symm p3]
        subst hJ
        refine ⟨k.length - (i + 1), by omega, _, _, rfl, i + 1, .sl id g 0 (i + 1), by omega, rfl, by simp [v1], by simp [v2], by simp [v3], by simp [v6], by simp [v7], by simp, by simp [Heap.set], ?_, by simpa using p6, by simp [nb]⟩
        refine .inr ⟨id, g, by simp; omega, p3, by simpa using p4, ?_⟩
        have : L.set i (foldM k[i]).enc = (R.take (i + 1)).map Cr.enc := by
          rw [← hL, List.set_append_right _ _ (by omega), hti, List.take_succ_eq_append_getElem hRi, List.map_append, hRg i hlt hRi]; simp
        rw [← this]
        simp [Heap.set, Tr.get_put_ne _ _ p3]
      · have hei : i = k.length := by omega
        subst hei
        rw [← hRl, List.take_length] at hka
        simp [v1, v2, v3, v6, v7, v8, nb]
        refine callP_of (within_pv a 8 12) ?_
        by_cases hA : 8 ≤ a ∧ a ≤ 12
        · obtain ⟨r0, r1, rfl⟩ := hRs.1 hA
          have n7 : a ≠ 7 := by omega
          have n17 : a ≠ 17 := by omega
          obtain ⟨hA1, hA2⟩ := hA
          rcases hka with ⟨h0, _⟩ | ⟨id, g, rfl, hid0, hid, hm⟩
          · simp at h0
          have hat := Heap.at_of hm
          simp [v1, v2, v3, v6, v7, v8, nb, e0, hA1, hA2]
          refine callH_of (num_hv 0 a b s t id g 0 _ _ _ h hm0 hm (by simp) (by simp; rfl)) (by simp) (by simp) ?_
          rintro _ h' ⟨rfl, hh⟩; rw [hh]; clear hh
          by_cases q0 : opC r0 = 1
          · simp [v1, v2, v3, v6, v7, v8, nb, e0, hA1, hA2, q0]
            refine callH_of (num_hv 1 a b s t id g 0 _ _ _ h hm0 hm (by simp) (by simp; rfl)) (by simp) (by simp) ?_
            rintro _ h' ⟨rfl, hh⟩; rw [hh]; clear hh
            by_cases q1 : opC r1 = 1
            · have hf : foldT a b s t [r0, r1] = numC (mathM a (numV r0) (numV r1)) := by simp [foldT, q0, q1, hA1, hA2]
              rw [hf] at hQ
              obtain ⟨a0, b0, s0, t0, l0⟩ := r0
              obtain ⟨a9, b9, s9, t9, l9⟩ := r1
              simp only [numV] at hQ
              simp [v1, v2, v3, v6, v7, v8, nb, e0, hA1, hA2, hat, q0, q1, enc_mk]
              refine callH_of (reckoned_hv a b0 b9 _) (by simp) (by simp) ?_
              rintro _ h2 ⟨g2, rfl, hm2, hk2⟩
              have e2 := Heap.at_of hm2
              simp only at e2
              simp [v1, v2, v3, v6, v7, v8, nb, e0, e2]
              rw [← hQ]; exact pvQ_numC
            · have hf : foldT a b s t [r0, r1] = .mk a b s t [r0, r1] := by simp [foldT, q0, q1]
              rw [hf] at hQ
              simp [v1, v2, v3, v6, v7, v8, nb, e0, hA1, hA2, hat, q0, q1, n7, n17]
              rw [← hQ]; exact pvQ_core (.inr ⟨id, g, rfl, hm, hid⟩)
          · have hf : foldT a b s t [r0, r1] = .mk a b s t [r0, r1] := by simp [foldT, q0]
            rw [hf] at hQ
            simp [v1, v2, v3, v6, v7, v8, nb, e0, hA1, hA2, hat, q0, n7, n17]
            rw [← hQ]; exact pvQ_core (.inr ⟨id, g, rfl, hm, hid⟩)
        have hA' : decide (8 ≤ a ∧ a ≤ 12) = false := decide_eq_false hA
        rw [hA']
        by_cases hB : a = 7
        · obtain ⟨r0, r1, r2, rfl⟩ := hRs.2.1 hB
          rcases hka with ⟨h0, _⟩ | ⟨id, g, rfl, hid0, hid, hm⟩
          · simp at h0
          have hat := Heap.at_of hm
          simp [v1, v2, v3, v6, v7, v8, nb, e0, hB]
          refine callH_of (num_hv 0 a b s t id g 0 _ _ _ h hm0 hm (by simp) (by simp; rfl)) (by simp) (by simp) ?_
          rintro _ h' ⟨rfl, hh⟩; rw [hh]; clear hh
          by_cases q0 : opC r0 = 1
          · by_cases q1 : numV r0 = 0
            · have hf : foldT a b s t [r0, r1, r2] = r2 := by simp [foldT, q0, q1, hB]
              rw [hf] at hQ
              obtain ⟨a0, b0, s0, t0, l0⟩ := r0
              simp only [numV] at q1
              simp only [opC] at q0
              simp [v1, v2, v3, v6, v7, v8, nb, e0, hB, hat, q0, q1, enc_mk, opC]
              rw [← hQ]; exact pvQ_enc
            · have hf : foldT a b s t [r0, r1, r2] = r1 := by simp [foldT, q0, q1, hB]
              rw [hf] at hQ
              obtain ⟨a0, b0, s0, t0, l0⟩ := r0
              simp only [numV] at q1
              simp only [opC] at q0
              simp [v1, v2, v3, v6, v7, v8, nb, e0, hB, hat, q0, q1, enc_mk, opC]
              rw [← hQ]; exact pvQ_enc
          · have hf : foldT a b s t [r0, r1, r2] = .mk a b s t [r0, r1, r2] := by simp [foldT, q0]
            rw [hf] at hQ
            simp [v1, v2, v3, v6, v7, v8, nb, e0, hB, hat, q0]
            rw [← hQ, hB]; exact pvQ_core (.inr ⟨id, g, rfl, hm, hid⟩)
        by_cases hC : a = 17
        · obtain ⟨r0, rfl⟩ := hRs.2.2 hC
          rcases hka with ⟨h0, _⟩ | ⟨id, g, rfl, hid0, hid, hm⟩
          · simp at h0
          have hat := Heap.at_of hm
          simp [v1, v2, v3, v6, v7, v8, nb, e0, hC]
          refine callH_of (num_hv 0 a b s t id g 0 _ _ _ h hm0 hm (by simp) (by simp; rfl)) (by simp) (by simp) ?_
          rintro _ h' ⟨rfl, hh⟩; rw [hh]; clear hh
          by_cases q0 : opC r0 = 1
          · have hf : foldT a b s t [r0] = numC 0 := by simp [foldT, q0, hC]
            rw [hf] at hQ
            simp [v1, v2, v3, v6, v7, v8, nb, e0, hC, hat, q0]
            rw [← hQ]; exact pvQ_numC
          · by_cases q1 : opC r0 = 13
            · have hf : foldT a b s t [r0] = numC 0 := by simp [foldT, q1, hC]
              rw [hf] at hQ
              obtain ⟨a0, b0, s0, t0, l0⟩ := r0
              simp only [opC] at q0 q1
              simp [v1, v2, v3, v6, v7, v8, nb, e0, hC, hat, q0, q1, enc_mk, opC]
              rw [← hQ]; exact pvQ_numC
            · have hf : foldT a b s t [r0] = .mk a b s t [r0] := by simp [foldT, q0, q1]
              rw [hf] at hQ
              have hm' := hm
              obtain ⟨a0, b0, s0, t0, l0⟩ := r0
              simp only [opC] at q0 q1
              simp [v1, v2, v3, v6, v7, v8, nb, e0, hC, hat, q0, q1, enc_mk, opC]
              rw [← hQ, hC]; exact pvQ_core (.inr ⟨id, g, rfl, hm', hid⟩)
        · have hf : foldT a b s t R = .mk a b s t R := by
            unfold foldT
            split
            · rw [if_neg]; rintro ⟨h, _⟩; exact hA h
            · rw [if_neg]; rintro ⟨h, _⟩; exact hB h
            · rw [if_neg]; rintro ⟨h, _⟩; exact hC h
            · rfl
          rw [hf] at hQ
          simp [v1, v2, v3, v6, v7, v8, nb, e0, hB, hC]
          rw [← hQ]
          refine pvQ_core (ty := 28) ?_
          rcases hka with ⟨h0, rfl⟩ | ⟨id, g, rfl, hid0, hid, hm⟩
          · exact .inl ⟨h0, rfl⟩
          · exact .inr ⟨id, g, rfl, hm, hid⟩

end Go.Proofs.Ytnnejoalamkkpaa

namespace Go.Proofs.Ytnnejoalamkkpaa
open Go Go.AI Go.Proofs
set_option linter.unusedSimpArgs false

def foldCoreM (x : Cr) : Cr := if okM x = true then foldM x else x
theorem foldCore_wt (x : Cr) : (foldCoreM x).wt ≤ x.wt := by
  unfold foldCoreM; split
  · exact fold_wt x
  · exact Nat.le_refl _
theorem ok_ar {x : Cr} (h : okM x = true) : arM x := by
  rw [okM, Bool.and_eq_true] at h
  exact ar_right x [] h.2

theorem copy_pv (x : Cr) (hw : x.wt < 1000000000000) (hd : x.kd + 1 ≤ frzDepth) : PV Try.prog 37 [.agg x.enc] (.agg x.enc) := pv_of_mk hd (copy_hv x hw _ _ .deep)

theorem foldCoreS_pv (x : Cr) (hw : x.wt < 2000000) : PV Try.prog 25 [.agg x.enc] (.agg (foldCoreM x).enc) := by
  generalize hr : foldCoreM x = r
  rw [foldCoreM] at hr
  refine h25.pvq ⟨rfl, rfl, ?_⟩
  simp [f25]
  refine callP_of (okS_pv x (by omega)) ?_
  cases q : okM x
  · rw [q] at hr; simp at hr
    simp [q]
    refine callP_of (copyS_pv x (by omega)) ?_
    simp [hr, pvQ]
  · rw [q] at hr; simp at hr
    simp [q]
    refine callP_of (foldS_pv x (ok_ar q) (by omega)) ?_
    simp [hr, pvQ]
theorem foldCore_pv (x : Cr) (hw : x.wt < 2000000) : PV Try.prog 26 [.agg x.enc] (.agg (foldCoreM x).enc) := by
  have hk := kd_lt_wt x
  have hfd : frzDepth = 4194304 := frzDepth_eq
  generalize hr : foldCoreM x = r
  rw [foldCoreM] at hr
  refine h26.pvq ⟨rfl, rfl, ?_⟩
  simp [f26]
  refine callP_of (ok_pv x (by omega)) ?_
  cases q : okM x
  · rw [q] at hr; simp at hr
    simp [q]
    refine callP_of (copy_pv x (by omega) (by omega)) ?_
    simp [hr, pvQ]
  · rw [q] at hr; simp at hr
    simp [q]
    refine callP_of (fold_pv x (ok_ar q) (by omega)) ?_
    simp [hr, pvQ]

theorem AlikeS_pv (x y : Cr) (hw : x.wt < 2000000) : PV Try.prog 65 [.agg x.enc, .agg y.enc] (.one (.bool (alikeM x y [] []))) := by
  generalize hr : alikeM x y [] [] = r
  refine h65.pvq ⟨rfl, rfl, ?_⟩
  simp [f65]
  refine callP_of (alikeS_pv x y [] [] (by omega) (by simp; omega) (by simp; omega)) ?_
  simp [hr]
theorem Alike_pv (x y : Cr) (hw : x.wt < 2000000) : PV Try.prog 67 [.agg x.enc, .agg y.enc] (.one (.bool (alikeM x y [] []))) := by
  generalize hr : alikeM x y [] [] = r
  refine h67.pvq ⟨rfl, rfl, ?_⟩
  simp [f67]
  refine callP_of (alike_pv x y [] [] (by omega) (by simp; omega) (by simp; omega)) ?_
  simp [hr]

def foldableM (x : Cr) : Bool := !alikeM (foldCoreM x) x [] [] || !decide ((((foldCoreM x).cnt + 1 : Nat) : Int) = ((x.cnt + 1 : Nat) : Int))
theorem foldableS_pv (x : Cr) (hw : x.wt < 2000000) : PV Try.prog 27 [.agg x.enc] (.one (.bool (foldableM x))) := by
  generalize hr : foldableM x = r
  rw [foldableM] at hr
  have hfw := foldCore_wt x
  have p1 := foldCoreS_pv x hw
  have p2 := sizeS_pv x (by omega)
  generalize hy : foldCoreM x = y at *
  have p3 := sizeS_pv y (by omega)
  have p4 := AlikeS_pv y x (by omega)
  generalize ((x.cnt + 1 : Nat) : Int) = A at *
  generalize ((y.cnt + 1 : Nat) : Int) = B at *
  generalize alikeM y x [] [] = q at *
  refine h27.pvq ⟨rfl, rfl, ?_⟩
  simp [f27]
  refine callP_of p1 ?_
  simp
  refine callP_of p4 ?_
  cases q
  · simp at hr
    simp [hr]
  · simp at hr
    simp
    refine callP_of p3 ?_
    simp
    refine callP_of p2 ?_
    simp [hr]
theorem foldable_pv (x : Cr) (hw : x.wt < 2000000) : PV Try.prog 28 [.agg x.enc] (.one (.bool (foldableM x))) := by
  generalize hr : foldableM x = r
  rw [foldableM] at hr
  have hfw := foldCore_wt x
  have p1 := foldCore_pv x hw
  have p2 := size_pv x (by omega)
  generalize hy : foldCoreM x = y at *
  have p3 := size_pv y (by omega)
  have p4 := Alike_pv y x (by omega)
  generalize ((x.cnt + 1 : Nat) : Int) = A at *
  generalize ((y.cnt + 1 : Nat) : Int) = B at *
  generalize alikeM y x [] [] = q at *
  refine h28.pvq ⟨rfl, rfl, ?_⟩
  simp [f28]
  refine callP_of p1 ?_
  simp
  refine callP_of p4 ?_
  cases q
  · simp at hr
    simp [hr]
  · simp at hr
    simp
    refine callP_of p3 ?_
    simp
    refine callP_of p2 ?_
    simp [hr]

theorem law6_pv (c : Cr) (hc : c.lim) : PV Try.prog 7 [.agg c.enc] (.one (.bool true)) := by
  refine h7.pvq ⟨rfl, rfl, ?_⟩
  simp [f7]
  refine callP_of (sz_pv c 1048576 hc (by omega) (by omega)) ?_
  have hs1 := szM_le c 1048576 (by omega)
  have hw1 := szM_wt c 1048576
  generalize szM c 1048576 = l1 at *
  simp
  intro g1
  have hc1 := hw1 (by omega) (by omega)
  have hck := kd_lt_wt c
  have hfd : frzDepth = 4194304 := frzDepth_eq
  refine callP_of (to_pv c (by omega) (by omega)) ?_
  simp
  refine callP_of (foldableS_pv c (by omega)) ?_
  simp
  refine callP_of (to_pv c (by omega) (by omega)) ?_
  simp
  refine callP_of (foldable_pv c (by omega)) ?_
  simp
  refine callP_of (to_pv c (by omega) (by omega)) ?_
  simp
  refine callP_of (eq_pv c (by omega)) ?_
  simp

end Go.Proofs.Ytnnejoalamkkpaa

namespace Go.Proofs.Ytnnejoalamkkpaa
open Go Go.AI Go.Proofs
/-- loop.example/g00396/impl.folded -/
def f64m : AFun := ⟨[0], 1,
 .seq (.region [⟨.boxV 1 28 5 (.var 0), (.var 1), none, []⟩, ⟨.boxV 2 28 5 (.cst (.agg [.int .i64 0, .int .i64 0, .str [], .str [], .nils])), (.var 2), none, []⟩])
 (.seq (.region [⟨.load (some (5)) (.var 1), .loc, none, []⟩, ⟨.boxS 0 28 5 (.cst (.agg [.int .i64 0, .int .i64 0, .str [], .str [], .nils])), (.var 3), none, []⟩, ⟨.store 5 (.var 3) (.loc 0), .no, none, []⟩])
 (.seq (.region [⟨.fieldAddr 4 (.var 3), .loc, none, []⟩, ⟨.store 1 (.loc 0) (.cst (.one (.nils))), .no, none, []⟩])
 (.seq (.seq (.region [⟨.fieldAddr 4 (.var 1), .loc, none, []⟩, ⟨.load none (.loc 0), (.var 6), none, []⟩, ⟨.len false (.var 6), (.var 7), none, []⟩, ⟨.mov (.cst (.one (.int .i64 0))), (.var 8), none, []⟩])
 (.block 0 (.loop (.seq (.region [⟨.bin .lss .num (.var 8) (.var 7), (.var 9), none, []⟩])
 (.seq (.cond (.var 9) (.skip)
 (.exit 0))
 (.seq (.block 1 (.seq (.region [⟨.indexAddr 5 (.var 6) (.var 8), .loc, none, []⟩, ⟨.load (some (5)) (.loc 0), .loc, none, []⟩, ⟨.boxV 4 28 5 (.cst (.agg [.int .i64 0, .int .i64 0, .str [], .str [], .nils])), (.var 4), none, []⟩, ⟨.store 5 (.var 4) (.loc 1), .no, none, []⟩])
 (.region [⟨.fieldAddr 4 (.var 3), .loc, none, []⟩, ⟨.load none (.loc 0), .loc, none, []⟩, ⟨.load (some (5)) (.var 4), .loc, none, [0, 1]⟩, ⟨.call 64 [.loc 2] true, .loc, none, [0, 1]⟩, ⟨.len false (.loc 1), .loc, none, [2, 3]⟩, ⟨.lit 5 1 [.int .i64 0, .int .i64 0, .str [], .str [], .nils] [(0, .cst (.agg [.int .i64 0, .int .i64 0, .str [], .str [], .nils]))], .loc, none, [0, 1, 2, 3, 4]⟩, ⟨.append 28 5 72 (.loc 1) (.loc 5), .loc, none, []⟩, ⟨.indexAddr 5 (.loc 6) (.loc 4), .loc, none, []⟩, ⟨.store 5 (.loc 7) (.loc 3), .no, none, []⟩, ⟨.fieldAddr 4 (.var 3), .loc, none, [7, 8]⟩, ⟨.store 1 (.loc 9) (.loc 6), .no, none, [7, 8]⟩])))
 (.region [⟨.bin .add .num (.var 8) (.cst (.one (.int .i64 1))), .loc, none, []⟩, ⟨.mov (.loc 0), (.var 8), none, []⟩])))))))
 (.seq (.region [⟨.mkfn 96 [.var 3], .loc, none, []⟩, ⟨.mov (.loc 0), (.var 5), none, []⟩])
 (.seq (.block 2 (.seq (.region [⟨.fieldAddr 0 (.var 1), .loc, none, []⟩, ⟨.load none (.loc 0), .loc, none, []⟩, ⟨.call 84 [.loc 1, .cst (.one (.int .i64 8)), .cst (.one (.int .i64 12))] false, .loc, none, []⟩, ⟨.mov (.loc 2), .loc, none, []⟩, ⟨.mov (.var 5), .loc, (some (.loc 3, true)), []⟩, ⟨.callV (.loc 4) [.cst (.one (.int .i64 0))], .loc, (some (.loc 3, true)), []⟩, ⟨.pick (.loc 3) (.loc 5) (.cst (.one (.bool false))), .loc, none, []⟩, ⟨.mov (.loc 6), .loc, none, []⟩, ⟨.mov (.var 5), .loc, (some (.loc 7, true)), []⟩, ⟨.callV (.loc 8) [.cst (.one (.int .i64 1))], .loc, (some (.loc 7, true)), []⟩, ⟨.pick (.loc 7) (.loc 9) (.cst (.one (.bool false))), .loc, none, []⟩, ⟨.mov (.loc 10), (.var 10), none, []⟩])
 (.cond (.var 10) (.seq (.region [⟨.fieldAddr 0 (.var 1), .loc, none, []⟩, ⟨.load none (.loc 0), .loc, none, []⟩, ⟨.fieldAddr 4 (.var 3), .loc, none, [0, 1]⟩, ⟨.load none (.loc 2), .loc, none, [0, 1]⟩, ⟨.indexAddr 5 (.loc 3) (.cst (.one (.int .i64 0))), .loc, none, [0, 1]⟩, ⟨.fieldAddr 1 (.loc 4), .loc, none, [0, 1]⟩, ⟨.load none (.loc 5), .loc, none, [0, 1]⟩, ⟨.fieldAddr 4 (.var 3), .loc, none, [0, 1, 2, 3, 4, 5, 6]⟩, ⟨.load none (.loc 7), .loc, none, [0, 1, 2, 3, 4, 5, 6]⟩, ⟨.indexAddr 5 (.loc 8) (.cst (.one (.int .i64 1))), .loc, none, [0, 1, 2, 3, 4, 5, 6]⟩, ⟨.fieldAddr 1 (.loc 9), .loc, none, [0, 1, 2, 3, 4, 5, 6]⟩, ⟨.load none (.loc 10), .loc, none, [0, 1, 2, 3, 4, 5, 6]⟩, ⟨.call 97 [.loc 1, .loc 6, .loc 11] true, .loc, none, []⟩, ⟨.nilCheck (.loc 12), .loc, none, []⟩, ⟨.fieldAddr 1 (.loc 13), .loc, none, []⟩, ⟨.load none (.loc 14), .loc, none, []⟩, ⟨.build [.int .i64 0, .int .i64 0, .str [], .str [], .nils] [(0, 1, .cst (.one (.int .i64 1))), (1, 1, .loc 15)], .loc, none, []⟩, ⟨.store 5 (.var 2) (.loc 16), .no, none, []⟩])
 (.ret))
 (.seq (.region [⟨.fieldAddr 0 (.var 1), .loc, none, []⟩, ⟨.load none (.loc 0), .loc, none, []⟩, ⟨.bin .eql .num (.loc 1) (.cst (.one (.int .i64 7))), .loc, none, []⟩, ⟨.mov (.loc 2), .loc, none, []⟩, ⟨.mov (.var 5), .loc, (some (.loc 3, true)), []⟩, ⟨.callV (.loc 4) [.cst (.one (.int .i64 0))], .loc, (some (.loc 3, true)), []⟩, ⟨.pick (.loc 3) (.loc 5) (.cst (.one (.bool false))), .loc, none, []⟩, ⟨.mov (.loc 6), (.var 11), none, []⟩])
 (.cond (.var 11) (.seq (.seq (.region [⟨.fieldAddr 4 (.var 3), .loc, none, []⟩, ⟨.load none (.loc 0), .loc, none, []⟩, ⟨.indexAddr 5 (.loc 1) (.cst (.one (.int .i64 0))), .loc, none, []⟩, ⟨.fieldAddr 1 (.loc 2), .loc, none, []⟩, ⟨.load none (.loc 3), .loc, none, []⟩, ⟨.bin .eql .num (.loc 4) (.cst (.one (.int .i64 0))), (.var 12), none, []⟩])
 (.cond (.var 12) (.seq (.region [⟨.fieldAddr 4 (.var 3), .loc, none, []⟩, ⟨.load none (.loc 0), .loc, none, []⟩, ⟨.indexAddr 5 (.loc 1) (.cst (.one (.int .i64 2))), .loc, none, []⟩, ⟨.load (some (5)) (.loc 2), .loc, none, []⟩, ⟨.store 5 (.var 2) (.loc 3), .no, none, []⟩])
 (.ret))
 (.skip)))
 (.seq (.region [⟨.fieldAddr 4 (.var 3), .loc, none, []⟩, ⟨.load none (.loc 0), .loc, none, []⟩, ⟨.indexAddr 5 (.loc 1) (.cst (.one (.int .i64 1))), .loc, none, []⟩, ⟨.load (some (5)) (.loc 2), .loc, none, []⟩, ⟨.store 5 (.var 2) (.loc 3), .no, none, []⟩])
 (.ret)))
 (.seq (.region [⟨.fieldAddr 0 (.var 1), .loc, none, []⟩, ⟨.load none (.loc 0), .loc, none, []⟩, ⟨.bin .eql .num (.loc 1) (.cst (.one (.int .i64 17))), .loc, none, []⟩, ⟨.mov (.loc 2), .loc, none, []⟩, ⟨.mov (.var 5), .loc, (some (.loc 3, true)), []⟩, ⟨.callV (.loc 4) [.cst (.one (.int .i64 0))], .loc, (some (.loc 3, true)), []⟩, ⟨.mov (.loc 5), .loc, (some (.loc 3, true)), []⟩, ⟨.fieldAddr 4 (.var 3), .loc, (some (.loc 6, false)), []⟩, ⟨.load none (.loc 7), .loc, (some (.loc 6, false)), []⟩, ⟨.indexAddr 5 (.loc 8) (.cst (.one (.int .i64 0))), .loc, (some (.loc 6, false)), []⟩, ⟨.fieldAddr 0 (.loc 9), .loc, (some (.loc 6, false)), []⟩, ⟨.load none (.loc 10), .loc, (some (.loc 6, false)), []⟩, ⟨.bin .eql .num (.loc 11) (.cst (.one (.int .i64 13))), .loc, (some (.loc 6, false)), []⟩, ⟨.pick (.loc 6) (.cst (.one (.bool true))) (.loc 12), .loc, (some (.loc 3, true)), []⟩, ⟨.pick (.loc 3) (.loc 13) (.cst (.one (.bool false))), .loc, none, []⟩, ⟨.mov (.loc 14), (.var 13), none, []⟩])
 (.cond (.var 13) (.seq (.region [⟨.build [.int .i64 0, .int .i64 0, .str [], .str [], .nils] [(0, 1, .cst (.one (.int .i64 1)))], .loc, none, []⟩, ⟨.store 5 (.var 2) (.loc 0), .no, none, []⟩])
 (.ret))
 (.skip))))))))
 (.seq (.region [⟨.load (some (5)) (.var 3), .loc, none, []⟩, ⟨.store 5 (.var 2) (.loc 0), .no, none, []⟩])
 (.ret))))))), [(.var 2, (some ((some (5)))))]⟩
def c64m : Cfg := ⟨96, [0, 1, 2, 3, 5, 6, 10, 11, 12, 13, 27, 56, 69, 78], [1, 2, 5], [3], [], fun g t => [64, 97].contains g && ![].contains t⟩
theorem h64m : Has Try.prog 64 f64m := ⟨by kernel_rfl, c64m, Try.f64, by kernel_rfl, by kernel_rfl⟩

/-- loop.example/g00396/impl.FoldCore -/
def f26m : AFun := ⟨[0], 0,
 .seq (.region [⟨.boxV 1 28 5 (.var 0), (.var 1), none, []⟩, ⟨.boxV 2 28 5 (.cst (.agg [.int .i64 0, .int .i64 0, .str [], .str [], .nils])), (.var 2), none, []⟩])
 (.seq (.seq (.region [⟨.load (some (5)) (.var 1), .loc, none, []⟩, ⟨.call 63 [.loc 0] false, .loc, none, []⟩, ⟨.not (.loc 1), (.var 3), none, []⟩])
 (.cond (.var 3) (.seq (.region [⟨.load (some (5)) (.var 1), .loc, none, []⟩, ⟨.call 37 [.loc 0] true, .loc, none, []⟩, ⟨.store 5 (.var 2) (.loc 1), .no, none, []⟩])
 (.ret))
 (.skip)))
 (.seq (.region [⟨.load (some (5)) (.var 1), .loc, none, []⟩, ⟨.call 64 [.loc 0] true, .loc, none, []⟩, ⟨.store 5 (.var 2) (.loc 1), .no, none, []⟩])
 (.ret))), [(.var 2, (some ((some (5)))))]⟩
def c26m : Cfg := ⟨10, [0, 1, 2, 5], [1, 2], [], [], fun g t => [64, 37].contains g && ![].contains t⟩
theorem h26m : Has Try.prog 26 f26m := ⟨by kernel_rfl, c26m, Try.f26, by kernel_rfl, by kernel_rfl⟩

/-- loop.example/g00396/laws.FnExactFoldCore -/
def f6 : AFun := ⟨[0], 0,
 .seq (.region [⟨.boxV 1 24 5 (.var 0), (.var 1), none, []⟩, ⟨.mov (.cst (.one (.bool false))), (.var 2), none, []⟩])
 (.seq (.region [⟨.mov (.cst (.one (.int .i64 1048576))), (.var 3), none, []⟩])
 (.seq (.region [⟨.load (some (5)) (.var 1), .loc, none, []⟩, ⟨.mov (.var 3), .loc, none, []⟩, ⟨.call 9 [.loc 0, .loc 1] false, .loc, none, []⟩, ⟨.mov (.loc 2), (.var 3), none, []⟩])
 (.seq (.seq (.region [⟨.mov (.var 3), .loc, none, []⟩, ⟨.bin .lss .num (.loc 0) (.cst (.one (.int .i64 0))), (.var 11), none, []⟩])
 (.cond (.var 11) (.seq (.region [⟨.mov (.cst (.one (.bool true))), (.var 2), none, []⟩])
 (.ret))
 (.skip)))
 (.seq (.region [⟨.load (some (5)) (.var 1), .loc, none, []⟩, ⟨.call 11 [.loc 0] false, .loc, none, []⟩, ⟨.call 25 [.loc 1] false, .loc, none, []⟩, ⟨.boxV 4 28 5 (.cst (.agg [.int .i64 0, .int .i64 0, .str [], .str [], .nils])), (.var 4), none, []⟩, ⟨.store 5 (.var 4) (.loc 2), .no, none, []⟩])
 (.seq (.region [⟨.load (some (5)) (.var 1), .loc, none, []⟩, ⟨.call 11 [.loc 0] true, .loc, none, []⟩, ⟨.boxV 5 28 5 (.cst (.agg [.int .i64 0, .int .i64 0, .str [], .str [], .nils])), (.var 5), none, []⟩, ⟨.store 5 (.var 5) (.loc 1), .no, none, []⟩])
 (.seq (.region [⟨.load (some (5)) (.var 5), .loc, none, []⟩, ⟨.call 26 [.loc 0] true, .loc, none, []⟩, ⟨.boxV 6 28 5 (.cst (.agg [.int .i64 0, .int .i64 0, .str [], .str [], .nils])), (.var 6), none, []⟩, ⟨.store 5 (.var 6) (.loc 1), .no, none, []⟩])
 (.seq (.seq (.region [⟨.load (some (5)) (.var 6), .loc, none, []⟩, ⟨.load (some (5)) (.var 4), .loc, none, []⟩, ⟨.call 13 [.loc 0, .loc 1] false, .loc, none, []⟩, ⟨.not (.loc 2), (.var 12), none, []⟩])
 (.cond (.var 12) (.seq (.region [⟨.mov (.cst (.one (.bool false))), (.var 2), none, []⟩])
 (.ret))
 (.skip)))
 (.seq (.seq (.region [⟨.load (some (5)) (.var 5), .loc, none, []⟩, ⟨.load (some (5)) (.var 1), .loc, none, [0]⟩, ⟨.call 11 [.loc 1] false, .loc, none, [0]⟩, ⟨.call 13 [.loc 0, .loc 2] false, .loc, none, []⟩, ⟨.not (.loc 3), (.var 13), none, []⟩])
 (.cond (.var 13) (.seq (.region [⟨.mov (.cst (.one (.bool false))), (.var 2), none, []⟩])
 (.ret))
 (.skip)))
 (.seq (.region [⟨.mov (.cst (.one (.int .i64 1))), (.var 7), none, []⟩])
 (.seq (.region [⟨.load (some (5)) (.var 5), .loc, none, []⟩, ⟨.mov (.var 7), .loc, none, []⟩, ⟨.call 14 [.loc 0, .loc 1] true, .loc, none, []⟩, ⟨.mov (.loc 2), (.var 7), none, []⟩])
 (.seq (.seq (.region [⟨.mov (.var 7), .loc, none, []⟩, ⟨.bin .lss .num (.loc 0) (.cst (.one (.int .i64 0))), .loc, none, []⟩, ⟨.mov (.loc 1), .loc, none, []⟩, ⟨.load (some (5)) (.var 6), .loc, (some (.loc 2, false)), []⟩, ⟨.load (some (5)) (.var 4), .loc, (some (.loc 2, false)), []⟩, ⟨.call 13 [.loc 3, .loc 4] false, .loc, (some (.loc 2, false)), []⟩, ⟨.not (.loc 5), .loc, (some (.loc 2, false)), []⟩, ⟨.pick (.loc 2) (.cst (.one (.bool true))) (.loc 6), (.var 14), none, []⟩])
 (.cond (.var 14) (.seq (.region [⟨.mov (.cst (.one (.bool false))), (.var 2), none, []⟩])
 (.ret))
 (.skip)))
 (.seq (.region [⟨.mov (.cst (.one (.int .i64 1))), (.var 8), none, []⟩])
 (.seq (.region [⟨.load (some (5)) (.var 6), .loc, none, []⟩, ⟨.mov (.var 8), .loc, none, []⟩, ⟨.call 14 [.loc 0, .loc 1] true, .loc, none, []⟩, ⟨.mov (.loc 2), (.var 8), none, []⟩])
 (.seq (.region [⟨.mov (.cst (.one (.int .i64 1))), (.var 9), none, []⟩])
 (.seq (.region [⟨.load (some (5)) (.var 6), .loc, none, []⟩, ⟨.mov (.var 9), .loc, none, []⟩, ⟨.call 15 [.loc 0, .loc 1] false, .loc, none, []⟩, ⟨.mov (.loc 2), (.var 9), none, []⟩])
 (.seq (.seq (.region [⟨.mov (.var 9), .loc, none, []⟩, ⟨.bin .lss .num (.loc 0) (.cst (.one (.int .i64 0))), (.var 15), none, []⟩])
 (.cond (.var 15) (.seq (.region [⟨.mov (.cst (.one (.bool false))), (.var 2), none, []⟩])
 (.ret))
 (.skip)))
 (.seq (.seq (.region [⟨.mov (.var 9), .loc, none, []⟩, ⟨.mov (.var 8), .loc, none, []⟩, ⟨.bin .neq .num (.loc 0) (.loc 1), (.var 16), none, []⟩])
 (.cond (.var 16) (.seq (.region [⟨.mov (.cst (.one (.bool false))), (.var 2), none, []⟩])
 (.ret))
 (.skip)))
 (.seq (.region [⟨.load (some (5)) (.var 1), .loc, none, []⟩, ⟨.call 11 [.loc 0] false, .loc, none, []⟩, ⟨.call 26 [.loc 1] false, .loc, none, []⟩, ⟨.boxV 10 28 5 (.cst (.agg [.int .i64 0, .int .i64 0, .str [], .str [], .nils])), (.var 10), none, []⟩, ⟨.store 5 (.var 10) (.loc 2), .no, none, []⟩])
 (.seq (.seq (.region [⟨.load (some (5)) (.var 10), .loc, none, []⟩, ⟨.load (some (5)) (.var 4), .loc, none, []⟩, ⟨.call 13 [.loc 0, .loc 1] false, .loc, none, []⟩, ⟨.not (.loc 2), (.var 17), none, []⟩])
 (.cond (.var 17) (.seq (.region [⟨.mov (.cst (.one (.bool false))), (.var 2), none, []⟩])
 (.ret))
 (.skip)))
 (.seq (.region [⟨.mov (.cst (.one (.int .i64 1))), (.var 9), none, []⟩])
 (.seq (.region [⟨.load (some (5)) (.var 6), .loc, none, []⟩, ⟨.mov (.var 9), .loc, none, []⟩, ⟨.call 15 [.loc 0, .loc 1] false, .loc, none, []⟩, ⟨.mov (.loc 2), (.var 9), none, []⟩])
 (.seq (.seq (.region [⟨.mov (.var 9), .loc, none, []⟩, ⟨.bin .lss .num (.loc 0) (.cst (.one (.int .i64 0))), (.var 18), none, []⟩])
 (.cond (.var 18) (.seq (.region [⟨.mov (.cst (.one (.bool false))), (.var 2), none, []⟩])
 (.ret))
 (.skip)))
 (.seq (.seq (.region [⟨.mov (.var 9), .loc, none, []⟩, ⟨.mov (.var 8), .loc, none, []⟩, ⟨.bin .neq .num (.loc 0) (.loc 1), (.var 19), none, []⟩])
 (.cond (.var 19) (.seq (.region [⟨.mov (.cst (.one (.bool false))), (.var 2), none, []⟩])
 (.ret))
 (.skip)))
 (.seq (.region [⟨.mov (.cst (.one (.bool true))), (.var 2), none, []⟩])
 (.ret))))))))))))))))))))))))), [(.var 2, none)]⟩
def c6 : Cfg := ⟨69, [0, 1, 2, 3, 4, 5, 6, 7, 8, 9, 10, 15, 26, 31, 42, 50, 53, 60, 65, 68], [1, 4, 5, 6, 10], [], [], fun g t => [11, 14, 26].contains g && ![17, 29, 55, 56].contains t⟩
theorem h6 : Has Try.prog 6 f6 := ⟨by kernel_rfl, c6, Try.f6, by kernel_rfl, by kernel_rfl⟩
end Go.Proofs.Ytnnejoalamkkpaa

namespace Go.Proofs.Ytnnejoalamkkpaa
open Go Go.AI Go.Proofs
set_option linter.unusedSimpArgs false

/-- an element is laid in two steps: a blank one, and then what it is -/
theorem Acc.pushZ {h : Heap} {n lo m : Nat} {xs : List (List C)} {c : C} (a : Acc h 28 5 n xs c (Rng lo m)) (hm : m ≤ h.next) (hlo : lo ≤ m) {el el' z : List C}
    (h1 : el.length = 5) (h2 : el'.length = 5) (hz : z.length = 5) (hd : ∀ (j : Nat) (c c' : C), el[j]? = some c → el'[j]? = some c' → Th h n c c' (Rng m h.next))
    (hb : (xs.length + 1) * 72 ≤ 140737488355328) :
    ∃ id g h1 fp els, appendC h 28 5 72 (.one c) [z] = some (.one (.sl id g 0 (xs.length + 1)), h1, fp) ∧ h1.mem.get id = some ⟨g, 28, 5, true, els ++ [z]⟩ ∧ els.length = xs.length ∧ lo ≤ id ∧
      Acc (h1.set id ⟨g, 28, 5, true, els ++ [el']⟩) 28 5 n (xs ++ [el]) (.sl id g 0 (xs.length + 1)) (Rng lo h1.next) ∧ Keep lo h h1 ∧ id < h1.next := by
  obtain ⟨c', h'', fp'', e, ac, kp⟩ := a.push hm hlo (bytes := 72) h1 h2 hd hb
  rcases a with ⟨rfl, rfl⟩ | ⟨els, id, g, J, rfl, a1, a2, a3, a4, a5, a6, a7⟩
  · simp [appendC, h2] at e
    obtain ⟨rfl, rfl, _⟩ := e
    refine ⟨h.next, h.fresh h.next, h.new 28 5 [z], FP.fresh h.next, [], by simp [appendC, hz], by simp [Heap.new], rfl, by omega, ?_, ?_, by simp [Heap.new]⟩
    · refine (ac.mono fun k hk => hk).frame fun k _ => ?_
      by_cases hk : k = h.next
      · subst hk; simp [Heap.set, Heap.new]
      · simp [Heap.set, Heap.new, Tr.get_put_ne _ _ hk]
    · exact ⟨by simp [Heap.new], fun k hk => by simp [Heap.new, Tr.get_put_ne _ _ (by omega : k ≠ h.next)]⟩
  · have hid : id < m := a3.2
    have hid1 : lo ≤ id := a3.1
    simp only [appendC, List.all_cons, List.all_nil, Bool.and_true, h2, decide_true, if_true, Heap.at_of a1, a2, List.length_cons, List.length_nil] at e
    rw [if_pos (by simp), if_neg (by omega), if_pos (by simp; omega)] at e
    simp only [Option.some.injEq, Prod.mk.injEq, V.one.injEq] at e
    obtain ⟨rfl, rfl, _⟩ := e
    refine ⟨id, g + 1, h.set id ⟨g + 1, 28, 5, true, els ++ [z]⟩, FP.write [id], els, ?_, by simp [Heap.set], a2, hid1, ?_, ?_, by simp [Heap.set]; omega⟩
    · simp only [appendC, List.all_cons, List.all_nil, Bool.and_true, hz, decide_true, if_true, Heap.at_of a1, a2, List.length_cons, List.length_nil]
      rw [if_pos (by simp), if_neg (by omega), if_pos (by simp; omega)]
      simp [← a2]
    · refine (ac.mono fun k hk => hk).frame fun k _ => ?_
      by_cases hk : k = id
      · subst hk; simp [Heap.set, ← a2]
      · simp [Heap.set, Tr.get_put_ne _ _ hk]
    · exact ⟨by simp [Heap.set], fun k hk => by simp [Heap.set, Tr.get_put_ne _ _ (by omega : k ≠ id)]⟩

theorem numH_hv (i : Nat) (a b : Int) (s t : Txt) (B id g g0 n ty : Nat) (els : List (List C)) (cs : List C) (q : Int) (H : Heap) (h0 : H.mem.get B = some ⟨g0, 28, 5, true, [[.int .i64 a, .int .i64 b, .str s, .str t, .sl id g 0 n]]⟩) (h1 : H.mem.get id = some ⟨g, ty, 5, true, els⟩)
    (hn : els.length = n) (hx : els[i]? = some cs) (ho : cs[0]? = some (.int .i64 q)) : HV Try.prog 96 [.one (.int .i64 i), .one (.ptr B g0 0 0)] H (fun r H' => r = .one (.bool (decide (q = 1))) ∧ H' = H) := by
  generalize hQ : (fun (r : V) (H' : Heap) => r = .one (.bool (decide (q = 1))) ∧ H' = H) = Q
  refine h96.hv ⟨rfl, rfl, ?_⟩
  have hi : i < els.length := (List.getElem?_eq_some_iff.1 hx).1
  have hxe : els[i] = cs := (List.getElem?_eq_some_iff.1 hx).2
  have hc0 : 0 < cs.length := (List.getElem?_eq_some_iff.1 ho).1
  have hce : cs[0] = .int .i64 q := (List.getElem?_eq_some_iff.1 ho).2
  have e0 := Heap.at_of h0
  have e1 := Heap.at_of h1
  have hin : (i : Int) < n := by omega
  subst hn
  obtain ⟨nx, mm⟩ := H
  simp [f96, e0, e1, hi, hxe, hce, hc0, ← hQ]

theorem Th.tight : ∀ (x : Cr) (h : Heap) (n : Nat) (c : C) (I : Nat → Prop), Th h n (encL x.kids) c I → Th h (x.kd + 1) (encL x.kids) c I
  | .mk _ _ _ _ k, h, n, c, I, t => by
    have ih := fun x (hx : x ∈ k) => Th.tight x
    simp only [Cr.kids, kd_mk] at t ⊢
    rcases t.look with ⟨rfl, rfl⟩ | ⟨m, id, g, ty, sz, els, J, rfl, rfl, hm, hI, hel, h5, hsub, hdis, hd⟩
    · exact .nil _ _
    · refine Th.mk hm hI hel h5 hsub hdis fun i x el hx he => ?_
      have hx' := List.mem_of_getElem? hx
      have h9 := hd i x el hx he
      obtain ⟨a, b, s, t, kk⟩ := x
      obtain ⟨c', rfl, h9⟩ := h9
      exact ⟨c', rfl, (ih _ hx' h m c' (J i) h9).up (kdL_mem hx')⟩
theorem ThC.tight {h : Heap} {n : Nat} {x : Cr} {cs : List C} {I : Nat → Prop} (t : ThC h n x cs I) : ThC h (x.kd + 1) x cs I := by
  obtain ⟨a, b, s, t', kk⟩ := x
  obtain ⟨c, rfl, t⟩ := t
  exact ⟨c, rfl, Th.tight (.mk a b s t' kk) h n c I t⟩

theorem ThC.numC {h : Heap} {n : Nat} {m : Int} {I : Nat → Prop} : ThC h n (numC m) [.int .i64 1, .int .i64 m, .str [], .str [], .nils] I := ⟨.nils, rfl, .nil _ _⟩
theorem foldT_kd (a b : Int) (s t : Txt) (R : List Cr) : (foldT a b s t R).kd ≤ kdL R := by
  unfold foldT
  split
  · split
    · simp [_root_.Go.Proofs.Ytnnejoalamkkpaa.numC, kd_mk, kdL_nil]
    · rw [kd_mk]; exact Nat.le_refl _
  · split
    · split <;> simp only [kdL_cons, kdL_nil] <;> omega
    · rw [kd_mk]; exact Nat.le_refl _
  · split
    · simp [_root_.Go.Proofs.Ytnnejoalamkkpaa.numC, kd_mk, kdL_nil]
    · rw [kd_mk]; exact Nat.le_refl _
  · rw [kd_mk]; exact Nat.le_refl _

set_option maxHeartbeats 4000000 in
set_option maxRecDepth 20000 in
theorem fold_hv : ∀ x : Cr, arM x → x.wt < 1000000000000 → ∀ (H : Heap) (cs : List C), RdC H x cs → HV Try.prog 64 [.agg cs] H (MkQ H (foldM x))
  | .mk a b s t k, har, hw, H, cs, hr => by
    obtain ⟨c, rfl, hr⟩ := hr
    rw [wt_mk] at hw
    obtain ⟨hk, hak⟩ := har
    have ih := fun x (hx : x ∈ k) => fold_hv x (arL_mem hak hx) (by have := wtL_mem hx; omega)
    have hl := wtL_len k
    rw [foldM, foldL_eq]
    obtain ⟨s1, s2, s3⟩ := kids_shape a k hk
    generalize hR : k.map foldM = R
    have hRl : R.length = k.length := by rw [← hR]; simp
    have hRg : ∀ i (h : i < k.length) (h' : i < R.length), R[i] = foldM k[i] := by intro i h h'; subst hR; simp
    have hRs : (8 ≤ a ∧ a ≤ 12 → ∃ r0 r1, R = [r0, r1]) ∧ (a = 7 → ∃ r0 r1 r2, R = [r0, r1, r2]) ∧ (a = 17 → ∃ r0, R = [r0]) := by
      refine ⟨fun h => ?_, fun h => ?_, fun h => ?_⟩
      · obtain ⟨r0, r1, rfl⟩ := s1 h; exact ⟨_, _, hR.symm⟩
      · obtain ⟨r0, r1, r2, rfl⟩ := s2 h; exact ⟨_, _, _, hR.symm⟩
      · obtain ⟨r0, rfl⟩ := s3 h; exact ⟨_, hR.symm⟩
    generalize hQ : MkQ H (foldT a b s t R) = Q
    refine h64m.hv ⟨rfl, rfl, ?_⟩
    have hlen0 := hr.len
    generalize hg0 : H.fresh H.next = g0
    have hg0' : Heap.fresh { next := H.next + 1, mem := H.mem } H.next = g0 := by rw [← hg0]; rfl
    generalize hB : H.next = B at *
    simp [f64m, hlen0, hB, hg0']
    refine w_for (fun n st => ∃ vars h, st = ⟨vars, h, B⟩ ∧ ∃ (i : Nat) (kc : C), i ≤ k.length ∧ n = k.length - i ∧ vars.get 1 = some (.box 0 [.int .i64 a, .int .i64 b, .str s, .str t, c]) ∧
      vars.get 2 = some (.box 0 [.int .i64 0, .int .i64 0, .str [], .str [], .nils]) ∧ vars.get 3 = some (.one (.ptr B g0 0 0)) ∧ vars.get 6 = some (.one c) ∧ vars.get 7 = some (.one (.int .i64 k.length)) ∧
      vars.get 8 = some (.one (.int .i64 i)) ∧ h.mem.get B = some ⟨g0, 28, 5, true, [[.int .i64 a, .int .i64 b, .str s, .str t, kc]]⟩ ∧ Acc h 28 5 (kdL R) ((R.take i).map Cr.enc) kc (Rng (B + 1) h.next) ∧ B + 1 ≤ h.next ∧ Keep B H h ∧ NB vars [5, 9, 10, 11, 12, 13]) k.length ?_ ?_
    · refine ⟨_, _, rfl, 0, .nils, by simp, by simp, by simp, by simp, by simp, by simp, by simp, by simp, ?_, .inl ⟨by simp, rfl⟩, by simp, ?_, by simp⟩
      · simp [Heap.set]
      · exact ⟨by simp [hB], fun m hm => by simp [Heap.set, Tr.get_put_ne _ _ (by omega : m ≠ B)]⟩
    · rintro J hJ n _ ⟨vars, h, rfl, i, kc, hi, rfl, v1, v2, v3, v6, v7, v8, hm0, hacc, hn1, hkeep, nb⟩
      simp only [NB_cons, NB_nil] at nb
      have e0 := Heap.at_of hm0
      by_cases hlt : i < k.length
      · have hw : IntKind.i64.wrap ((i : Int) + 1) = ((i + 1 : Nat) : Int) := by rw [wrapI ⟨by omega, by omega⟩]; simp
        have hRi : i < R.length := by omega
        have hmem := List.getElem_mem hlt
        have hkd := kdL_mem (List.getElem_mem hRi)
        obtain ⟨p, l1, l2, cs, f1, f2, f3, f4⟩ := (hr.keep hkeep (by omega)).at hlt
        have htk : cs.take 5 = cs := List.take_of_length_le (by omega)
        have hti : ((R.take i).map Cr.enc).length = i := by simp; omega
        have hkl : lenOf false (.one kc) = some i := by
          rcases hacc with ⟨h9, rfl⟩ | ⟨els, id, g, J, rfl, _⟩
          · rw [h9] at hti; simp only [List.length_nil] at hti; rw [lenOf_nils, ← hti]
          · rw [lenOf_sl, hti]
        simp [v1, v2, v3, v6, v7, v8, nb, hlt, e0, f1, f2, f3, htk]
        have hBn : B < h.next := by omega
        refine callK_of (ih _ hmem h cs f4) (by simp) (by simp [chkK, hBn]) (fun r h' ⟨_, _, _, hk⟩ => fun m hm => hk.2 m hm) ?_
        rintro r h' ⟨cs', rfl, ht, hk'⟩
        have hl5 := ht.len
        rw [← hRg i hlt hRi] at ht
        obtain ⟨id, g, h1, fp, els, p1, p2, p3, p4, p5, p6, p7⟩ := Acc.pushZ (hacc.frame (h' := h') fun m hm => hk'.2 m hm.2) (el := R[i].enc) (el' := cs') (z := [.int .i64 0, .int .i64 0, .str [], .str [], .nils]) hk'.1 hn1 (enc_len _) hl5 rfl
          (fun j c c' hc hc' => (ht.up hkd).th j c c' hc hc') (by rw [hti]; omega)
        rw [hti] at p1 p3 p5
        have hmB : h1.mem.get B = some ⟨g0, 28, 5, true, [[.int .i64 a, .int .i64 b, .str s, .str t, kc]]⟩ := by rw [p6.2 B (by omega), hk'.2 B (by omega)]; exact hm0
        have q0 := Heap.at_of p2
        have q9 : id ≠ B := by omega
        generalize hL : els ++ [[C.int .i64 0, .int .i64 0, .str [], .str [], .nils]] = L at *
        have hLi : i < L.length := by rw [← hL]; simp; omega
        have hLe : L[i] = [.int .i64 0, .int .i64 0, .str [], .str [], .nils] := by subst hL; rw [List.getElem_append_right (by omega)]; simp
        have hLs : L.set i cs' = els ++ [cs'] := by rw [← hL, List.set_append_right _ _ (by omega), p3]; simp
        have q2 : (h1.set id ⟨g, 28, 5, true, els ++ [cs']⟩).at B g0 = some ⟨g0, 28, 5, true, [[.int .i64 a, .int .i64 b, .str s, .str t, kc]]⟩ := by
          refine Heap.at_of ?_
          simp [Heap.set, Tr.get_put_ne _ _ (Ne.symm q9)]; exact hmB
        have hii : (i : Int) < (i : Int) + 1 := by omega
        have hd5 : cs'.drop 5 = [] := List.drop_eq_nil_of_le (by omega)
        simp [v1, v2, v3, v6, v7, v8, nb, hlt, hii, e0, hkl, p1, q0, hLi, hLe, hLs, q2, hw, hl5, q9, Ne.symm q9]
        subst hJ
        refine ⟨k.length - (i + 1), by omega, _, _, rfl, i + 1, .sl id g 0 (i + 1), by omega, rfl, by simp [v1], by simp [v2], by simp [v3], by simp [v6], by simp [v7], by simp, by simp [Heap.set], ?_, ?_, ?_, by simp [nb]⟩
        · rw [List.take_succ_eq_append_getElem hRi, List.map_append]
          refine Acc.frame (p5.mono fun m hm => hm) fun m hm => ?_
          have : m ≠ B := by have := hm.1; omega
          simp [Heap.set, Tr.get_put_ne _ _ this]
        · have := p6.1; have := hk'.1; simp [Heap.set]; omega
        · refine hkeep.trans ((hk'.less (by omega)).trans ((p6.less (by omega)).trans ⟨by simp [Heap.set], fun m hm => ?_⟩))
          simp [Heap.set, Tr.get_put_ne _ _ (by omega : m ≠ B), Tr.get_put_ne _ _ (by omega : m ≠ id)]
      · have hei : i = k.length := by omega
        subst hei
        rw [← hRl, List.take_length] at hacc
        simp [v1, v2, v3, v6, v7, v8, nb]
        refine callP_of (within_pv a 8 12) ?_
        have hsame : ∀ (hf : foldT a b s t R = .mk a b s t R), Q (.agg [.int .i64 a, .int .i64 b, .str s, .str t, kc]) h := by
          intro hf
          rw [← hQ, hf]
          refine ⟨_, rfl, ⟨kc, rfl, ?_⟩, by rw [hB]; exact hkeep⟩
          rw [kd_mk, hB]
          exact hacc.th.mono fun m hm => ⟨by have := hm.1; omega, hm.2⟩
        have hnum : ∀ (v : Int) (h' : Heap) (hf : foldT a b s t R = numC v) (hk' : Keep B H h'), Q (.agg [.int .i64 1, .int .i64 v, .str [], .str [], .nils]) h' := by
          intro v h' hf hk'
          rw [← hQ, hf]
          exact ⟨_, rfl, ThC.numC, by rw [hB]; exact hk'⟩
        have hlook := (hacc.th : Th h (kdL R + 1) (encL R) kc _).look
        by_cases hA : 8 ≤ a ∧ a ≤ 12
        · obtain ⟨r0, r1, rfl⟩ := hRs.1 hA
          have n7 : a ≠ 7 := by omega
          have n17 : a ≠ 17 := by omega
          obtain ⟨hA1, hA2⟩ := hA
          rcases hlook with ⟨_, h9⟩ | ⟨m, id, g, ty, sz, els, J, hm1, rfl, hm, hI, hel, h5, hsub, hdis, hd⟩
          · cases h9
          have h5' := h5 0 (by simp)
          subst h5'
          match els, hel with
          | [w0, w1], _ =>
          have d0 := hd 0 _ _ rfl rfl
          have d1 := hd 1 _ _ rfl rfl
          obtain ⟨a0, b0, s0, t0, l0⟩ := r0
          obtain ⟨a9, b9, s9, t9, l9⟩ := r1
          obtain ⟨c0, rfl, th0⟩ := d0
          obtain ⟨c9, rfl, th9⟩ := d1
          have hat := Heap.at_of hm
          simp [v1, v2, v3, v6, v7, v8, nb, e0, hA1, hA2]
          refine callH_of (numH_hv 0 a b s t B id g g0 2 ty _ _ a0 h hm0 hm (by simp) (by simp; rfl) (by simp)) (by simp) (by simp) ?_
          rintro _ h' ⟨rfl, hh⟩; rw [hh]; clear hh
          by_cases q0 : a0 = 1
          · simp [v1, v2, v3, v6, v7, v8, nb, e0, hA1, hA2, q0]
            refine callH_of (numH_hv 1 a b s t B id g g0 2 ty _ _ a9 h hm0 hm (by simp) (by simp; rfl) (by simp)) (by simp) (by simp) ?_
            rintro _ h' ⟨rfl, hh⟩; rw [hh]; clear hh
            by_cases q1 : a9 = 1
            · have hf : foldT a b s t [.mk a0 b0 s0 t0 l0, .mk a9 b9 s9 t9 l9] = numC (mathM a b0 b9) := by simp [foldT, opC, numV, q0, q1, hA1, hA2]
              simp [v1, v2, v3, v6, v7, v8, nb, e0, hA1, hA2, hat, q0, q1]
              refine callH_of (reckoned_hv a b0 b9 _) (by simp) (by simp) ?_
              rintro _ h2 ⟨g2, rfl, hm2, hk2⟩
              have e2 := Heap.at_of hm2
              simp only at e2
              simp [v1, v2, v3, v6, v7, v8, nb, e0, e2]
              exact hnum _ _ hf (hkeep.trans (hk2.less (by simp; omega)))
            · have hf : foldT a b s t [.mk a0 b0 s0 t0 l0, .mk a9 b9 s9 t9 l9] = .mk a b s t [.mk a0 b0 s0 t0 l0, .mk a9 b9 s9 t9 l9] := by simp [foldT, opC, numV, q0, q1]
              simp [v1, v2, v3, v6, v7, v8, nb, e0, hA1, hA2, hat, q0, q1, n7, n17]
              exact hsame hf
          · have hf : foldT a b s t [.mk a0 b0 s0 t0 l0, .mk a9 b9 s9 t9 l9] = .mk a b s t [.mk a0 b0 s0 t0 l0, .mk a9 b9 s9 t9 l9] := by simp [foldT, opC, numV, q0]
            simp [v1, v2, v3, v6, v7, v8, nb, e0, hA1, hA2, hat, q0, n7, n17]
            exact hsame hf
        have hA' : decide (8 ≤ a ∧ a ≤ 12) = false := decide_eq_false hA
        rw [hA']
        by_cases hC : a = 7
        · obtain ⟨r0, r1, r2, rfl⟩ := hRs.2.1 hC
          rcases hlook with ⟨_, h9⟩ | ⟨m, id, g, ty, sz, els, J, hm1, rfl, hm, hI, hel, h5, hsub, hdis, hd⟩
          · cases h9
          have h5' := h5 0 (by simp)
          subst h5'
          match els, hel with
          | [w0, w1, w2], _ =>
          have d0 := hd 0 _ _ rfl rfl
          have d1 := hd 1 _ _ rfl rfl
          have d2 := hd 2 _ _ rfl rfl
          obtain ⟨a0, b0, s0, t0, l0⟩ := r0
          obtain ⟨c0, rfl, th0⟩ := d0
          have hat := Heap.at_of hm
          have hkid : ∀ (x : Cr) (w : List C) (i : Nat) (d : ThC h m x w (J i)) (hf : foldT a b s t [.mk a0 b0 s0 t0 l0, r1, r2] = x), Q (.agg w) h := by
            intro x w i d hf
            rw [← hQ, hf]
            refine ⟨w, rfl, ?_, by rw [hB]; exact hkeep⟩
            rw [hB]
            exact (ThC.tight d).mono fun m hm => by have := (hsub i m hm).1; exact ⟨by have := this.1; omega, this.2⟩
          have hl1 := d1.len
          have hl2 := d2.len
          have ht1 : w1.take 5 = w1 := List.take_of_length_le (by omega)
          have ht2 : w2.take 5 = w2 := List.take_of_length_le (by omega)
          simp [v1, v2, v3, v6, v7, v8, nb, e0, hC]
          refine callH_of (numH_hv 0 a b s t B id g g0 3 ty _ _ a0 h hm0 hm (by simp) (by simp; rfl) (by simp)) (by simp) (by simp) ?_
          rintro _ h' ⟨rfl, hh⟩; rw [hh]; clear hh
          by_cases q0 : a0 = 1
          · by_cases q1 : b0 = 0
            · simp [v1, v2, v3, v6, v7, v8, nb, e0, hC, hat, q0, q1, hl2, ht2]
              exact hkid r2 w2 2 d2 (by simp [foldT, opC, numV, q0, q1, hC])
            · simp [v1, v2, v3, v6, v7, v8, nb, e0, hC, hat, q0, q1, hl1, ht1]
              exact hkid r1 w1 1 d1 (by simp [foldT, opC, numV, q0, q1, hC])
          · have hf : foldT a b s t [.mk a0 b0 s0 t0 l0, r1, r2] = .mk a b s t [.mk a0 b0 s0 t0 l0, r1, r2] := by simp [foldT, opC, q0]
            have h9 := hsame hf
            rw [hC] at h9
            simp [v1, v2, v3, v6, v7, v8, nb, e0, hC, hat, q0]
            exact h9
        by_cases hD : a = 17
        · obtain ⟨r0, rfl⟩ := hRs.2.2 hD
          rcases hlook with ⟨_, h9⟩ | ⟨m, id, g, ty, sz, els, J, hm1, rfl, hm, hI, hel, h5, hsub, hdis, hd⟩
          · cases h9
          have h5' := h5 0 (by simp)
          subst h5'
          match els, hel with
          | [w0], _ =>
          have d0 := hd 0 _ _ rfl rfl
          obtain ⟨a0, b0, s0, t0, l0⟩ := r0
          obtain ⟨c0, rfl, th0⟩ := d0
          have hat := Heap.at_of hm
          simp [v1, v2, v3, v6, v7, v8, nb, e0, hD]
          refine callH_of (numH_hv 0 a b s t B id g g0 1 ty _ _ a0 h hm0 hm (by simp) (by simp; rfl) (by simp)) (by simp) (by simp) ?_
          rintro _ h' ⟨rfl, hh⟩; rw [hh]; clear hh
          by_cases q0 : a0 = 1
          · simp [v1, v2, v3, v6, v7, v8, nb, e0, hD, hat, q0]
            exact hnum 0 _ (by simp [foldT, opC, q0, hD]) hkeep
          · by_cases q1 : a0 = 13
            · simp [v1, v2, v3, v6, v7, v8, nb, e0, hD, hat, q1]
              exact hnum 0 _ (by simp [foldT, opC, q1, hD]) hkeep
            · have h9 := hsame (by simp [foldT, opC, q0, q1])
              rw [hD] at h9
              simp [v1, v2, v3, v6, v7, v8, nb, e0, hD, hat, q0, q1]
              exact h9
        · have hf : foldT a b s t R = .mk a b s t R := by
            unfold foldT
            split
            · rw [if_neg]; rintro ⟨h, _⟩; exact hA h
            · rw [if_neg]; rintro ⟨h, _⟩; exact hC h
            · rw [if_neg]; rintro ⟨h, _⟩; exact hD h
            · rfl
          simp [v1, v2, v3, v6, v7, v8, nb, e0, hC, hD]
          exact hsame hf

end Go.Proofs.Ytnnejoalamkkpaa

namespace Go.Proofs.Ytnnejoalamkkpaa
open Go Go.AI Go.Proofs
set_option linter.unusedSimpArgs false

theorem foldCore_hv (x : Cr) (hw : x.wt < 2000000) (H : Heap) (cs : List C) (hr : RdC H x cs) : HV Try.prog 26 [.agg cs] H (MkQ H (foldCoreM x)) := by
  have hl := hr.len
  have ht : cs.take 5 = cs := List.take_of_length_le (by omega)
  obtain ⟨ids, hf⟩ := hr.frz
  generalize hQ : MkQ H (foldCoreM x) = Q
  rw [foldCoreM] at hQ
  refine h26m.hv ⟨rfl, rfl, ?_⟩
  have hf' : frzCells { next := H.next, mem := H.mem } cs = some (x.enc, ids) := hf
  simp [f26m, hl, ht, hf']
  refine callP_of (ok_pv x (by omega)) ?_
  cases q : okM x
  · rw [q] at hQ; simp at hQ
    simp [q, hl, ht]
    refine callH_of (copy_hv x (by omega) _ cs (hr.keep (Keep.refl _ _) (Nat.le_refl _))) (by simp) (by simp) ?_
    rintro _ h' ⟨cs', rfl, t, k⟩
    have hl' := t.len
    have ht' : cs'.take 5 = cs' := List.take_of_length_le (by omega)
    simp [hl', ht', ← hQ]
    exact ⟨cs', rfl, t, k⟩
  · rw [q] at hQ; simp at hQ
    simp [q, hl, ht]
    refine callH_of (fold_hv x (ok_ar q) (by omega) _ cs (hr.keep (Keep.refl _ _) (Nat.le_refl _))) (by simp) (by simp) ?_
    rintro _ h' ⟨cs', rfl, t, k⟩
    have hl' := t.len
    have ht' : cs'.take 5 = cs' := List.take_of_length_le (by omega)
    simp [hl', ht', ← hQ]
    exact ⟨cs', rfl, t, k⟩

mutual
theorem fold_kd : ∀ x : Cr, (foldM x).kd ≤ x.kd
  | .mk a b s t k => by rw [foldM, kd_mk]; have := foldT_kd a b s t (foldL k); have := foldL_kd k; omega
theorem foldL_kd : ∀ k : List Cr, kdL (foldL k) ≤ kdL k
  | [] => by simp [foldL]
  | x :: r => by rw [foldL, kdL_cons, kdL_cons]; have := fold_kd x; have := foldL_kd r; omega
end
theorem foldCore_kd (x : Cr) : (foldCoreM x).kd ≤ x.kd := by
  unfold foldCoreM; split
  · exact fold_kd x
  · exact Nat.le_refl _

theorem law5_pv (c : Cr) (hc : c.lim) : PV Try.prog 6 [.agg c.enc] (.one (.bool true)) := by
  refine h6.pvq ⟨rfl, rfl, ?_⟩
  simp [f6]
  refine callP_of (sz_pv c 1048576 hc (by omega) (by omega)) ?_
  have hs1 := szM_le c 1048576 (by omega)
  have hw1 := szM_wt c 1048576
  generalize szM c 1048576 = l1 at *
  simp
  intro g1
  have hc1 := hw1 (by omega) (by omega)
  have hck := kd_lt_wt c
  have hcn := cnt_lt_wt c
  have hfd : frzDepth = 4194304 := frzDepth_eq
  have hput_pv := foldCore_pv c (by omega)
  have hput := foldCore_hv c (by omega)
  have hspec := foldCoreS_pv c (by omega)
  have hrw := foldCore_wt c
  have hrk := foldCore_kd c
  generalize hrr : foldCoreM c = r at *
  have hrn := cnt_lt_wt r
  refine callP_of (to_pv c (by omega) (by omega)) ?_
  simp
  refine callP_of hspec ?_
  simp
  refine callH_of (to_hv c (by omega) _) (by simp) (by simp) ?_
  rintro _ H1 ⟨cs0, rfl, t0, k0⟩
  have t0 : ThC H1 (c.kd + 1) c cs0 (Rng 0 H1.next) := t0
  have z0 := t0.len
  have y0 : cs0.take 5 = cs0 := List.take_of_length_le (by omega)
  simp [z0, y0]
  refine callH_of (hput H1 cs0 (t0.rd (by omega) fun m hm => hm.2)) (by simp) (by simp) ?_
  rintro _ H3 ⟨cs3, rfl, t3, k3⟩
  have t3 : ThC H3 (r.kd + 1) r cs3 (Rng H1.next H3.next) := t3
  have k3 : Keep H1.next H1 H3 := k3
  have z3 := t3.len
  have y3 : cs3.take 5 = cs3 := List.take_of_length_le (by omega)
  have t0'' := t0.frame (h' := H3) fun m hm => k3.2 m hm.2
  obtain ⟨i3, f3'⟩ := t3.frz (by omega)
  obtain ⟨i0, f0'⟩ := t0''.frz (by omega)
  simp [z0, y0, z3, y3, f3']
  refine callP_of (eq_pv r (by omega)) ?_
  simp [z0, y0, z3, y3]
  refine callP_of (to_pv c (by omega) (by omega)) ?_
  simp [z0, y0, z3, y3, f0']
  refine callP_of (eq_pv c (by omega)) ?_
  simp [z0, y0, z3, y3]
  refine callH_of (markC_hv c H3 _ cs0 _ 1 (by omega) t0'' (fun m hm => by have := hm.2; have := k3.1; omega) (by omega) (by omega)) (by simp) (by simp) ?_
  rintro _ H5 ⟨rfl, -, n5, k5⟩
  have n5 : H3.next ≤ H5.next := n5
  have k5 : ∀ m, m < H3.next → ¬ Rng 0 H1.next m → H5.mem.get m = H3.mem.get m := k5
  have t3'' := t3.frame (h' := H5) fun m hm => k5 m hm.2 fun h9 => by have := hm.1; have := h9.2; omega
  obtain ⟨i5, f5'⟩ := t3''.frz (by omega)
  have q1 : ¬ (1 + 4 * (c.cnt : Int) < 0) := by omega
  simp [z0, y0, z3, y3, q1, f5']
  refine callP_of (eq_pv r (by omega)) ?_
  simp [z0, y0, z3, y3]
  refine callH_of (markC_hv r H5 _ cs3 _ 1 (by omega) t3'' (fun m hm => by have := hm.2; omega) (by omega) (by omega)) (by simp) (by simp) ?_
  rintro _ H6 ⟨rfl, t6, n6, k6⟩
  simp [z0, y0, z3, y3]
  obtain ⟨ra, rb, rs, rt, rk⟩ := r
  have t6' := t6 ra rb rs rt rk rfl
  obtain ⟨i6, f6'⟩ := t6'.frz (by omega)
  rw [enc_mk] at f6'
  simp [f6']
  have hheld := held_pv (.mk ra rb rs rt rk) ra rb rs rt 1 (by omega) (by omega) (by omega)
  have q2 : ¬ (1 + 4 * ((Cr.mk ra rb rs rt rk).cnt : Int) < 0) := by omega
  refine callP_of hheld ?_
  simp [z0, y0, z3, y3, q2]
  refine callP_of (to_pv c (by omega) (by omega)) ?_
  simp [z0, y0, z3, y3]
  refine callP_of hput_pv ?_
  simp [z0, y0, z3, y3]
  refine callP_of (eq_pv (.mk ra rb rs rt rk) (by omega)) ?_
  simp [z0, y0, z3, y3, f6']
  refine callP_of hheld ?_
  simp [z0, y0, z3, y3, q2]

end Go.Proofs.Ytnnejoalamkkpaa
