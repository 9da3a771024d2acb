import PyProof.Rows.All
import Wide.All
import OpenK.AllK
import Wide.FinOn
import HandS.ForMost
import HandS.Evl
import HandS.IsInst
import HandS.Star
import HandS.TupAny
import HandS.Defaults
import HandS.Deep
import PyProof.ReprRoads
import HandS.Ends
import PySem.Challenge.RW_ropesays_k38_whole_which_moves_fit
import PyProof.ReprLen
set_option Elab.async false
set_option linter.all false
set_option maxRecDepth 100000
set_option maxHeartbeats 4000000

/-! The plain law of k38: what the program's moves do, what the law's own looking says, and that both agree. -/
namespace K38

inductive Wd where
  | ov | un | jn | op | tn
  deriving DecidableEq
inductive Mv where
  | undo | far | three | curl | bend
  deriving DecidableEq
abbrev Deed := Wd × Int
def isX : Wd → Bool
  | .ov => true
  | .un => true
  | _ => false
/-- the program's fits -/
def fitB (e : Int) (w : Wd) (g : Int) : Bool := match w with
  | .jn => if e = 2 then decide (g = 1) else decide (1 ≤ g) && decide (g ≤ e - 2)
  | .op => decide (g < if e > 1 then e else 1)
  | _ => decide (g < e)
def thenE (e : Int) : Wd → Int
  | .jn => e - 2
  | .op => e + 2
  | _ => e
def gapOk (g : Int) : Prop := 0 ≤ g ∧ g ≤ 23
instance (g : Int) : Decidable (gapOk g) := inferInstanceAs (Decidable (_ ∧ _))
def okD (e : Int) (d : Deed) : Prop := gapOk d.2 ∧ fitB e d.1 d.2 = true ∧ ¬ (d.1 = .op ∧ e = 24)
instance (e : Int) (d : Deed) : Decidable (okD e d) := inferInstanceAs (Decidable (_ ∧ _))
def run : Int → List Deed → Option Int
  | e, [] => some e
  | e, d :: ds => if okD e d then run (thenE e d.1) ds else none
def rings : Int → List Deed → List Int
  | _, [] => []
  | e, d :: ds => e :: rings (thenE e d.1) ds
theorem run_cons {e r : Int} {d : Deed} {ds : List Deed} (h : run e (d :: ds) = some r) : okD e d ∧ run (thenE e d.1) ds = some r := by
  unfold run at h
  by_cases c : okD e d
  · rw [if_pos c] at h
    exact ⟨c, h⟩
  · rw [if_neg c] at h
    cases h
theorem run_mk {e : Int} {d : Deed} {ds : List Deed} (c : okD e d) : run e (d :: ds) = run (thenE e d.1) ds := by
  show (if okD e d then run (thenE e d.1) ds else none) = _
  rw [if_pos c]
theorem run_append : ∀ (e r : Int) (xs ys : List Deed), run e xs = some r → run e (xs ++ ys) = run r ys
  | e, r, [], ys, h => by
    cases (Option.some.inj h)
    rfl
  | e, r, d :: xs, ys, h => by
    obtain ⟨c, h⟩ := run_cons h
    show run e (d :: (xs ++ ys)) = _
    rw [run_mk c]
    exact run_append _ r xs ys h
theorem run_split : ∀ (e r : Int) (xs ys : List Deed), run e (xs ++ ys) = some r → ∃ m, run e xs = some m ∧ run m ys = some r
  | e, r, [], ys, h => ⟨e, rfl, h⟩
  | e, r, d :: xs, ys, h => by
    obtain ⟨c, h⟩ := run_cons (show run e (d :: (xs ++ ys)) = some r from h)
    obtain ⟨m, h1, h2⟩ := run_split _ r xs ys h
    exact ⟨m, by rw [run_mk c]; exact h1, h2⟩
theorem rings_length : ∀ (e : Int) (ds : List Deed), (rings e ds).length = ds.length
  | _, [] => rfl
  | e, d :: ds => congrArg Nat.succ (rings_length _ ds)
theorem rings_get : ∀ (e r : Int) (ds : List Deed) (i : Nat), run e ds = some r → i < ds.length → ∃ m, (rings e ds)[i]? = some m ∧ run e (ds.take i) = some m ∧ run m (ds.drop i) = some r
  | e, r, [], i, h, hi => absurd hi (Nat.not_lt_zero _)
  | e, r, d :: ds, 0, h, hi => ⟨e, rfl, rfl, h⟩
  | e, r, d :: ds, i + 1, h, hi => by
    obtain ⟨c, h⟩ := run_cons h
    obtain ⟨m, h1, h2, h3⟩ := rings_get _ r ds i h (Nat.lt_of_succ_lt_succ hi)
    exact ⟨m, h1, by show run e (d :: ds.take i) = _; rw [run_mk c]; exact h2, h3⟩
/-- every deed that stands in a run has a small gap -/
theorem run_gaps : ∀ (e r : Int) (ds : List Deed), run e ds = some r → ∀ d ∈ ds, gapOk d.2
  | _, _, [], _, d, hd => by cases hd
  | e, r, x :: ds, h, d, hd => by
    obtain ⟨c, h⟩ := run_cons h
    rcases List.mem_cons.mp hd with q | q
    · rw [q]; exact c.1
    · exact run_gaps _ r ds h d q

/-! ### the program's moves -/
def nb (a b e : Int) : Bool := !decide (a = b) && (decide ((a - b) % e = 1) || decide ((a - b) % e = e - 1))
def byUndo : List Deed → Int → Option (List Deed)
  | d1 :: d2 :: r, _ => if isX d1.1 = true ∧ isX d2.1 = true ∧ d1.2 = d2.2 ∧ d1.1 ≠ d2.1 then some r else none
  | _, _ => none
def byFar : List Deed → Int → Option (List Deed)
  | d1 :: d2 :: r, e => if isX d1.1 = true ∧ isX d2.1 = true ∧ d1.2 ≠ d2.2 ∧ nb d1.2 d2.2 e = false then some (d2 :: d1 :: r) else none
  | _, _ => none
def byThree : List Deed → Int → Option (List Deed)
  | d1 :: d2 :: d3 :: r, e => if 4 ≤ e ∧ isX d1.1 = true ∧ isX d2.1 = true ∧ isX d3.1 = true ∧ d1 = d3 ∧ d1.1 = d2.1 ∧ nb d1.2 d2.2 e = true then some (d2 :: d1 :: d2 :: r) else none
  | _, _ => none
def byCurl : List Deed → Int → Option (List Deed)
  | d1 :: d2 :: r, _ => if isX d1.1 = true ∧ d2 = (Wd.jn, d1.2) then some (d2 :: r) else none
  | _, _ => none
def byBend : List Deed → Int → Option (List Deed)
  | d1 :: d2 :: r, e => if d1.1 = .op ∧ e ≠ 0 ∧ (d2 = (Wd.jn, d1.2) ∨ d2 = (Wd.jn, d1.2 + 2)) then some r else none
  | _, _ => none
def behind : Mv → List Deed → Int → Option (List Deed)
  | .undo => byUndo
  | .far => byFar
  | .three => byThree
  | .curl => byCurl
  | .bend => byBend

/-! ### the law's own looking -/
def lfUndo (apart : Int) (w1 w2 : Wd) : Bool := decide (apart = 0) && !decide (w1 = w2)
def lawFits : Mv → Int → List Deed → Bool
  | .bend, e, d1 :: d2 :: _ => decide (d1.1 = .op) && decide (d2.1 = .jn) && (decide (0 < e) && (decide (d2.2 - d1.2 = 0) || decide (d2.2 - d1.2 = 2)))
  | .curl, _, d1 :: d2 :: _ => isX d1.1 && (decide (d2.1 = .jn) && decide (d1.2 = d2.2))
  | .undo, e, d1 :: d2 :: _ => isX d1.1 && isX d2.1 && (decide ((d1.2 - d2.2) % e = 0) && !decide (d1.1 = d2.1))
  | .far, e, d1 :: d2 :: _ => isX d1.1 && isX d2.1 && !(decide ((d1.2 - d2.2) % e = 0) || (decide ((d1.2 - d2.2) % e = 1) || decide ((d1.2 - d2.2) % e = e - 1)))
  | .three, e, d1 :: d2 :: d3 :: _ => isX d1.1 && isX d2.1 && (isX d3.1 && ((decide (d1.1 = d2.1) && decide (d2.1 = d3.1)) && (decide (d1.2 = d3.2) && (decide (3 < e) && (decide ((d1.2 - d2.2) % e = 1) || decide ((d1.2 - d2.2) % e = e - 1))))))
  | _, _, _ => false
def lawBehind : Mv → List Deed → List Deed
  | .undo, ds => ds.drop 2
  | .bend, ds => ds.drop 2
  | .curl, ds => ds.drop 1
  | .far, d1 :: d2 :: r => d2 :: d1 :: r
  | .three, d1 :: d2 :: r => d2 :: d1 :: d2 :: r.drop 1
  | _, ds => ds

theorem okX {e : Int} {d : Deed} (h : okD e d) (x : isX d.1 = true) : 0 ≤ d.2 ∧ d.2 < e := by
  obtain ⟨h1, h2, _⟩ := h
  obtain ⟨w, g⟩ := d
  cases w <;> first | (cases x; done) | exact ⟨h1.1, of_decide_eq_true h2⟩
theorem thenX {e : Int} {d : Deed} (x : isX d.1 = true) : thenE e d.1 = e := by
  obtain ⟨w, g⟩ := d
  cases w <;> first | (cases x; done) | rfl
theorem mod0 {a b e : Int} (h1 : 0 ≤ a) (h2 : a < e) (h3 : 0 ≤ b) (h4 : b < e) : (a - b) % e = 0 ↔ a = b := by
  constructor
  · intro h
    have := Int.emod_def (a - b) e
    have h5 : e ∣ (a - b) := Int.dvd_of_emod_eq_zero h
    obtain ⟨k, hk⟩ := h5
    have hk0 : k = 0 := by
      rcases Int.lt_trichotomy k 0 with q | q | q
      · have : e * k ≤ e * (-1) := Int.mul_le_mul_of_nonneg_left (by omega) (by omega)
        omega
      · exact q
      · have : e * 1 ≤ e * k := Int.mul_le_mul_of_nonneg_left (by omega) (by omega)
        omega
    rw [hk0] at hk
    omega
  · intro h
    rw [h, Int.sub_self]
    exact Int.zero_emod _
/-- run over crossings that stand on a ring does not hang on their order -/
theorem okD_X {e : Int} {d : Deed} (h : okD e d) (x : isX d.1 = true) {ds : List Deed} : run e (d :: ds) = run e ds := by
  rw [run_mk h, thenX x]

theorem agree {m : Mv} {e r : Int} {ds : List Deed} (h : run e ds = some r) (he : 0 ≤ e) : lawFits m e ds = (behind m ds e).isSome := by
  cases ds with
  | nil => cases m <;> rfl
  | cons d1 ds =>
    obtain ⟨c1, h1⟩ := run_cons h
    cases ds with
    | nil => cases m <;> rfl
    | cons d2 ds =>
      obtain ⟨c2, h2⟩ := run_cons h1
      have two : isX d1.1 = true → isX d2.1 = true → (0 ≤ d1.2 ∧ d1.2 < e) ∧ (0 ≤ d2.2 ∧ d2.2 < e) := fun x1 x2 => by
        rw [thenX x1] at c2
        exact ⟨okX c1 x1, okX c2 x2⟩
      obtain ⟨w1, g1⟩ := d1
      obtain ⟨w2, g2⟩ := d2
      dsimp only at two
      cases m with
      | undo =>
        by_cases x1 : isX w1 = true
        · by_cases x2 : isX w2 = true
          · obtain ⟨⟨a1, a2⟩, a3, a4⟩ := two x1 x2
            have q := mod0 a1 a2 a3 a4
            simp only [lawFits, behind, byUndo, x1, x2, true_and, Bool.true_and, q]
            by_cases k : g1 = g2 <;> by_cases k2 : w1 = w2 <;> simp [k, k2]
          · simp [lawFits, behind, byUndo, x2]
        · simp [lawFits, behind, byUndo, x1]
      | far =>
        by_cases x1 : isX w1 = true
        · by_cases x2 : isX w2 = true
          · obtain ⟨⟨a1, a2⟩, a3, a4⟩ := two x1 x2
            have q := mod0 a1 a2 a3 a4
            simp only [lawFits, behind, byFar, x1, x2, true_and, Bool.true_and, q, nb]
            by_cases k : g1 = g2 <;> by_cases k2 : (g1 - g2) % e = 1 <;> by_cases k3 : (g1 - g2) % e = e - 1 <;> simp [k, k2, k3]
          · simp [lawFits, behind, byFar, x2]
        · simp [lawFits, behind, byFar, x1]
      | curl =>
        by_cases x1 : isX w1 = true
        · simp only [lawFits, behind, byCurl, x1, true_and, Bool.true_and, Prod.mk.injEq]
          by_cases k : w2 = .jn <;> by_cases k2 : g1 = g2
          · simp [k, k2]
          · have k3 : ¬ g2 = g1 := fun z => k2 z.symm
            simp [k, k2, k3]
          · simp [k]
          · simp [k]
        · simp [lawFits, behind, byCurl, x1]
      | bend =>
        simp only [lawFits, behind, byBend, Prod.mk.injEq]
        by_cases k : w1 = .op <;> by_cases k2 : w2 = .jn <;> simp only [k, k2, true_and, false_and, or_self, and_false, decide_true, decide_false, Bool.true_and, Bool.false_and] <;> try rfl
        by_cases k3 : e = 0
        · subst k3
          simp
        · have k4 : 0 < e := by omega
          by_cases k5 : g2 = g1
          · have : g2 - g1 = 0 := by omega
            simp [k3, k4, k5]
          · have n1 : ¬ g2 - g1 = 0 := by omega
            by_cases k6 : g2 = g1 + 2
            · have : g2 - g1 = 2 := by omega
              simp only [k4, k5, n1, this]
              simp [k6, k3]
            · have : ¬ g2 - g1 = 2 := by omega
              simp [k3, k4, k5, n1, this, k6]
        all_goals simp
      | three =>
        cases ds with
        | nil => rfl
        | cons d3 ds =>
          obtain ⟨w3, g3⟩ := d3
          by_cases x1 : isX w1 = true
          · by_cases x2 : isX w2 = true
            · by_cases x3 : isX w3 = true
              · obtain ⟨⟨a1, a2⟩, a3, a4⟩ := two x1 x2
                have q := mod0 a1 a2 a3 a4
                simp only [lawFits, behind, byThree, x1, x2, x3, true_and, Bool.true_and, nb, Prod.mk.injEq]
                by_cases k1 : w1 = w2
                · subst k1
                  by_cases k2 : w1 = w3
                  · subst k2
                    by_cases k3 : g1 = g3
                    · subst k3
                      by_cases k4 : 3 < e
                      · have k5 : 4 ≤ e := by omega
                        by_cases k6 : g1 = g2
                        · have q0 := q.mpr k6
                          have n2 : ¬ (0 : Int) = e - 1 := by omega
                          have n3 : ¬ (0 : Int) = 1 := by omega
                          subst k6
                          simp only [q0, k4, k5, n2]
                          simp
                        · simp [k4, k5, k6]
                          by_cases k7 : (g1 - g2) % e = 1 <;> by_cases k8 : (g1 - g2) % e = e - 1 <;> simp [k7, k8]
                      · have k5 : ¬ 4 ≤ e := by omega
                        simp [k4, k5]
                    · simp [k3]
                  · simp [k2]
                · simp [k1]
              · simp [lawFits, behind, byThree, x3]
            · simp [lawFits, behind, byThree, x2]
          · simp [lawFits, behind, byThree, x1]

/-- what a move that fits leaves: what the law expects, and a run to the same end -/
theorem moved_ok {m : Mv} {e r : Int} {ds bs : List Deed} (h : run e ds = some r) (hb : behind m ds e = some bs) : bs = lawBehind m ds ∧ run e bs = some r := by
  cases ds with
  | nil => cases m <;> cases hb
  | cons d1 ds =>
    obtain ⟨c1, h1⟩ := run_cons h
    cases ds with
    | nil => cases m <;> cases hb
    | cons d2 ds =>
      obtain ⟨c2, h2⟩ := run_cons h1
      cases m with
      | undo =>
        simp only [behind, byUndo] at hb
        split at hb
        · rename_i k
          cases hb
          obtain ⟨x1, x2, _⟩ := k
          rw [thenX x1, thenX x2] at h2
          exact ⟨rfl, h2⟩
        · cases hb
      | far =>
        simp only [behind, byFar] at hb
        split at hb
        · rename_i k
          cases hb
          obtain ⟨x1, x2, _⟩ := k
          rw [thenX x1] at c2
          rw [thenX x1, thenX x2] at h2
          exact ⟨rfl, by rw [okD_X c2 x2, okD_X c1 x1]; exact h2⟩
        · cases hb
      | curl =>
        simp only [behind, byCurl] at hb
        split at hb
        · rename_i k
          cases hb
          obtain ⟨x1, k2⟩ := k
          rw [thenX x1] at h1
          exact ⟨rfl, h1⟩
        · cases hb
      | bend =>
        simp only [behind, byBend] at hb
        split at hb
        · rename_i k
          cases hb
          obtain ⟨k1, k2, k3⟩ := k
          refine ⟨rfl, ?_⟩
          have w2 : d2.1 = .jn := by rcases k3 with q | q <;> rw [q]
          rw [k1, w2] at h2
          have : thenE (thenE e Wd.op) Wd.jn = e := by
            show e + 2 - 2 = e
            omega
          rw [this] at h2
          exact h2
        · cases hb
      | three =>
        cases ds with
        | nil => cases hb
        | cons d3 ds =>
          simp only [behind, byThree] at hb
          split at hb
          · rename_i k
            cases hb
            obtain ⟨_, x1, x2, x3, k1, _⟩ := k
            obtain ⟨c3, h3⟩ := run_cons h2
            rw [thenX x1] at c2 c3
            rw [thenX x2] at c3
            rw [thenX x1, thenX x2, thenX x3] at h3
            exact ⟨rfl, by rw [okD_X c2 x2, okD_X c1 x1, okD_X c2 x2]; exact h3⟩
          · cases hb
/-- the whole list behind a move -/
theorem whole_ok {m : Mv} {e r mid : Int} {ds bs : List Deed} {i : Nat} (h1 : run e (ds.take i) = some mid) (h2 : run mid (ds.drop i) = some r) (hb : behind m (ds.drop i) mid = some bs) : run e (ds.take i ++ bs) = some r := by
  rw [run_append e mid _ _ h1]
  exact (moved_ok h2 hb).2
/-- no ring is negative -/
theorem run_nonneg : ∀ (e r : Int) (ds : List Deed), 0 ≤ e → run e ds = some r → 0 ≤ r
  | e, r, [], he, h => by
    cases (Option.some.inj h)
    exact he
  | e, r, d :: ds, he, h => by
    obtain ⟨c, h⟩ := run_cons h
    refine run_nonneg _ r ds ?_ h
    obtain ⟨w, g⟩ := d
    cases w <;> first | exact he | skip
    · obtain ⟨_, c2, _⟩ := c
      show 0 ≤ e - 2
      have c2 : (if e = 2 then decide (g = 1) else decide (1 ≤ g) && decide (g ≤ e - 2)) = true := c2
      by_cases q : e = 2
      · omega
      · rw [if_neg q] at c2
        simp at c2
        omega
    · show 0 ≤ e + 2
      omega
end K38

/-! Rules that the layer lacks: repr of data, != by an own ==, a call by keywords alone, the law's end where the guards are known. -/
namespace K38
open PySem PySem.Spec PyProof.Rows L2 Evl

/-! ### repr -/
def rRepr (K : PySem.W.Frag) : List V → Hp → VK → Prop := fun xs H Q =>
  ∃ (a : Addr) (d : PyData), xs = [.ref a] ∧ Dp K H (.ref a) d ∧ d.showable = true ∧ d.hasDict = false ∧ d.depth ≤ 50 ∧ d.shown.length ≤ sizeLine ∧ Q (.str d.shown) H
theorem call_reprD {X : Cx} (hg : X.A.guards = some []) (hu : X.A.units + 64 < cLine) : CallR X (.builtin "repr") (rRepr X.K) := by
  intro pins s σ H xs us Q I r ⟨a, d, e, hd, hs, hn, hdp, hz, q⟩
  subst e
  obtain ⟨u, e, r1⟩ := vals1 r
  subst e
  obtain ⟨as, rd⟩ := Dp.reads I d _ u hd r1
  cases r1
  exact PySem.repr_of_reads' rd hs (fun z => Bool.noConfusion (hn.symm.trans z)) hg (by omega) (fun _ _ e => e)
    (fun h' u tk k => ⟨.str d.shown, H, I.kept k, ⟨_, rfl⟩, q⟩) hz

/-! ### x != y where the class has == of its own and no != -/
def rNeOwn (C : Addr) (sp : Sp) (E : XK) : R2 := fun x y H Q =>
  ∃ a b dx dy fs gs, x = .ref a ∧ y = .ref b ∧ H a = some (.ins C dx fs) ∧ H b = some (.ins C dy gs) ∧ sp [x, y] H (fun v H' => ∃ k, v = .bl k ∧ Q (.bl (!k)) H') E
section
variable {X : Cx} {CX : CXT} {n : Nat} {f C : Addr} {fd : FuncData} {ps : List Str} {sp : Sp} {E : XK}
theorem op_neOwn (F : FnOk X.prog X.w X.K X.mg X.base CX n f fd ps sp) (hr : Room (n + 2) X.A)
    (h1 : PySem.W.findIn X.K (.ref C) "__ne__" = some (some (.builtin "object.__ne__"))) (h2 : PySem.W.findIn X.K (.ref C) "__eq__" = some (some (.ref f)))
    (h3 : PySem.W.isFn X.K (.ref f) = true) (h4 : PySem.W.subIn X.K (.ref C) (.type "object") = some true) (hb : Binds X.K fd ps []) (hx : Passes CX X E) :
    OpR X (compareOp .NotEq) (rNeOwn C sp E) := by
  intro pins s σ H x y v u Q I rx ry ⟨a, b, dx, dy, fs, gs, ex, ey, ha, hb', hsp⟩
  subst ex ey
  cases rx
  cases ry
  obtain ⟨mA, J, _⟩ := ins_get I.hok ha
  obtain ⟨mB, J', _⟩ := ins_get I.hok hb'
  obtain ⟨od, J, _⟩ := J.look
  obtain ⟨od', J', _⟩ := J'.look
  show wpAny (model X.prog X.w) X.A (richCompare .NotEq (.ref a) (.ref b)) (EP X pins σ Q) X.xe s
  have hu0 : X.A.units < cLine := hr.units0
  have hu1 : X.A.in1.units < cLine := (hr.mono (Nat.le_refl _)).in1.units0
  -- the own ==, called within
  have call_eq : ∀ (P : Value → Shared → Prop), (∀ k H' s', Inv X pins σ H' s' → Q (.bl (!k)) H' → P (.bool k) s') →
      wpAny (model X.prog X.w) X.A.in1 (call (.ref f) [.ref a, .ref b]) P X.xe s := by
    intro P hP
    have e0 := I.env0.in1
    have hl := F.len _ _ _ _ hsp
    have r2 : Vals [V.ref a, V.ref b] [Value.ref a, Value.ref b] := .cons rfl (.cons rfl .nil)
    have hbd := hb s [.ref a, .ref b] I.kIn (by simpa using hl)
    refine wpAny_call (codeAny_mono (F.run X.A.in1 X.stack s H ⟨[.ref a, .ref b], []⟩ _ _ _ E ((hr.mono (Nat.le_succ _)).in1) e0 (by simpa using hbd) r2 hsp) fun r s' hq => ?_)
    cases r with
    | error e => exact hx pins σ H s e s' I hq
    | ok fl =>
      cases fl with
      | ret z =>
        obtain ⟨zv, H', I', rz, k, ek, qk⟩ := I.after hq
        subst ek
        cases rz
        exact hP k H' s' I' qk
      | next => exact False.elim hq
      | brk => exact False.elim hq
      | cont => exact False.elim hq
  -- != asks the built-in one
  have call_ne : wpAny (model X.prog X.w) X.A (call (.builtin "object.__ne__") [.ref a, .ref b]) (fun v s' => ∃ k, v = .bool k ∧ ∃ H', Inv X pins σ H' s' ∧ Q (.bl k) H') X.xe s := by
    refine wpAny_call (codeAny_call_builtin PySem.F.cmp_object.ne.plain PySem.F.cmpEntry_ne ?_)
    simp only [checkBuiltinCall, PySem.F.cmpKind_ne, PySem.F.cmpSplit_ne]
    refine wpAny_bind ?_
    unfold isInstance
    refine wpAny_bind (J.type.here ((PySem.W.looks_subIn I.kIn h4).here ?_))
    rw [if_neg (show ¬ ((!true) = true) from fun z => Bool.noConfusion z)]
    have args_ok : wpAny (model X.prog X.w) X.A.in1 (match Manifest.signature? "object.__ne__" with
        | some sig => Bind.checkArgs "object.__ne__" sig { pos := [Value.ref a, Value.ref b] }
        | _ => pure ()) (fun _ s1 => s1 = s) (fun e s' => X.xe e s') s := by
      have q := PySem.F.cmpArgs_ne (.ref a) (.ref b)
      cases hsig : Manifest.signature? "object.__ne__" with
      | none => exact wpAny_pure rfl
      | some sig =>
        simp only [argsOk, hsig] at q
        show wpAny _ _ (Bind.checkArgs "object.__ne__" sig ⟨[.ref a, .ref b], []⟩) _ _ _
        rw [show Bind.checkArgs "object.__ne__" sig ⟨[.ref a, .ref b], []⟩ = pure () from q]
        exact wpAny_pure rfl
    refine thn args_ok fun _ s1 es => ?_
    subst es
    unfold Builtin.«object.__ne__»
    repeat (first
      | with_reducible refine wpAny_cRoomFor hu1 ?_
      | (refine wpAny_bind (m := callSpecialIfBound? (.ref a) (Str.ofString "__eq__") [.ref b]) (PySem.W.ifBound_K I.kIn J h2 h3 (call_eq _ fun k H' s' I' q => ?_))
         refine wpAny_bind (m := truthy (.bool k)) (wpAny_truthy_bool (wpAny_pure ?_))
         exact ⟨!k, rfl, H', I', q⟩)
      | wp_step)
  -- the comparison's own road
  unfold richCompare
  simp only [oneThing_ref, cmpInfo_NotEq]
  refine wpAny_holding (wpAny_bind (wpAny_cRoomFor hu0 ?_))
  refine wpAny_bind (J.type.here (wpAny_bind (J'.type.here ?_)))
  rw [if_neg (show ¬ ((Value.ref C != Value.ref C) = true) by simp)]
  refine wpAny_bind (wpAny_pure ?_)
  simp only [Bool.false_eq_true, if_false]
  have one : wpAny (model X.prog X.w) X.A (tryCompare (.ref a) "__ne__" (.ref b)) (fun r s' => ∃ k, r = some (.bool k) ∧ ∃ H', Inv X pins σ H' s' ∧ Q (.bl k) H') X.xe s := by
    simp only [tryCompare, callSpecialIfBound?, bindSpecialIfBound?]
    refine wpAny_bind (wpAny_holding (wpAny_bind (wpAny_bind (wpAny_bind (J.type.here ((PySem.W.looks_findIn I.kIn h1).here ?_))))))
    simp only [PySem.F.cmp_object.ne.bind]
    refine wpAny_bind (wpAny_askSetting (wpAny_ite ?_))
    have fin : wpAny (model X.prog X.w) X.A (call (.builtin "object.__ne__") ([.ref a] ++ [.ref b]) >>= fun v => pure (some v)) (fun r s' => wpAny (model X.prog X.w) X.A
              (match r with
              | some Value.notImplemented => pure none
              | none => pure none
              | some z => pure (some z)) (fun r s' => ∃ k, r = some (.bool k) ∧ ∃ H', Inv X pins σ H' s' ∧ Q (.bl k) H') X.xe s') X.xe s :=
      wpAny_bind (thn call_ne fun v s' ⟨k, ev, H', I', q⟩ => by
        subst ev
        exact wpAny_pure (wpAny_pure ⟨k, rfl, H', I', q⟩))
    split
    · exact wpAny_bind (wpAny_pure (wpAny_pure (by exact fin)))
    · exact wpAny_tryCatch (wpAny_bind (wpAny_pure (wpAny_pure (by exact fin))))
  refine wpAny_bind (thn one fun r s' ⟨k, er, H', I', q⟩ => ?_)
  subst er
  exact wpAny_pure ⟨.bl k, H', I', rfl, q⟩
end
end K38

/-! The law's end at the caller's own around (so that the guards are known to be none), and a call by keywords alone. -/
namespace K38
open PySem PySem.Spec PyProof.Rows L2 Evl

/-! ### f(k = v, ..) -/
section
variable {X : Cx} {CX : CXT} {k : Nat} {f : Addr} {fd : FuncData} {ps ks : List Str} {sp : Sp} {E : XK} {x : Str} {p pos : Pos} {kws : List Keyword} {tk : TA} {g : List Value → List Value → List Value} {gV : List V → List V → List V}
theorem pe_kwOnly (F : FnOk X.prog X.w X.K X.mg X.base CX k f fd ps sp) (hr : Room k X.A) (hg : Gl X x) (hm : X.mg x = some (.ref f))
    (hk : PySem.W.keepIn X.K (.ref f) = true) (hb : KBinds X.K fd ps ks g gV) (hx : Passes CX X E) (hkw : PK X kws tk)
    (h1 : (backToKw pos (keywordEach kws X.env)).all (·.1.isSome) = true := by rfl) (h2 : (backToKw pos (keywordEach kws X.env)).filterMap (·.1) = ks := by rfl)
    (h3 : (x == ("__debug__" : Str)) = false := by decide)
    (h4 : ((backTo pos (starEach [] X.env)).any (·.1) || (backToKw pos (keywordEach kws X.env)).any (·.1.isNone)) = false := by rfl) :
    PE X (.Call (.Name x p) [] kws pos) (tCallK sp gV E tNil tk) :=
  ⟨fun pins s σ H Q I h => wpAny_Call_Name_kw (ld_glob I hg hm
    (PySem.W.callWith_KW0 (h₀ := X.base) I.ok.mod.kin hk h1 (thn (hkw.run pos pins s σ H _ I h) fun ws s2 ⟨zs, H2, I2, rz, q⟩ => ⟨I2.kIn, by
      rw [h2]
      exact run_fnk (us := []) (vs := []) F hr hb hx I2 .nil rz q⟩) h4) h3)⟩
end

/-! ### the law's own def, run by the caller -/
/-- what is to be shown of the law's body: its context stands right under the caller -/
def LawBody (P : Program) (w : World) (K : PySem.W.Frag) (mg : Str → Option Value) (base : Heap) (N : List Str) (qual : Str) (st : Stmt) (f : Addr) (sp : Sp) : Prop :=
  ∀ (cdv : Value) (s : Shared) (H : Hp) (vs : List V) (Q : VK), sp vs H Q E0 →
    ∃ t, PSs (cxOf CX0 P w K mg base N qual (defScope st) f cdv callerA [] s H E0).nox (defBody st) t ∧ t { nx := fun _ H' => Q .non H', rt := Q } (start N vs) H
theorem law_run {P : Program} {w : World} {K : PySem.W.Frag} {mg : Str → Option Value} {base : Heap} {N : List Str} {qual x y : Str} {st : Stmt} {f : Addr} {fd : FuncData} {sp : Sp} (F : Fun K y qual st f fd) (S : FnScope N [x] (defScope st))
    (len : ∀ vs H Q E, sp vs H Q E → vs.length = 1) (B : LawBody P w K mg base N qual st f sp) (hbind : ∀ (s : Shared) (u : Value), BindsTo s fd ⟨[u], []⟩ [(x, u)])
    {s : Shared} {H : Hp} {u : Value} {v : V} {Q : VK} (e0 : Env0 P w K mg base callerA [] s H) (r : RelV v u) (h : sp [v] H Q E0) :
    codeAny (model P w) callerA (.call (.ref f) ⟨[u], []⟩) (CR CX0 [] P w H s Q E0) s := by
  obtain ⟨oc, od, kV, doc, pm, an, cdv, ct, osl, efd, lk, hcd⟩ := F.ex
  subst efd
  have hroom : Room 20 callerA := ⟨rfl, by decide, by decide⟩
  have KX : K.In s.heap := e0.mod.kin.keeps fun b o e => (e0.bs b o e).1
  have lim : s.heap.NoLimit := e0.mod.nolimit.keeps fun b o e => (e0.bs b o e).1
  have hkinds : ∀ z ∈ [(x, u)], (defScope st).names.lookup z.1 = some .local ∨ ((defScope st).names.lookup z.1 = some .cell ∧ ((cellsFrom (s.heap.objs.size + 1) (defScope st).names []).lookup z.1).isSome = true) := by
    intro z hz
    cases List.mem_singleton.mp hz
    exact (S.par x (List.mem_singleton.mpr rfl)).imp id fun q => ⟨q, PySem.W.cellsFrom_some _ _ _ (.inl q)⟩
  refine codeAny_call_function hroom.depth (KX _ _ lk) rfl S.co S.gen rfl (PySem.W.codeRec_of KX hcd) (hbind s u _ _ _ _ ?_)
  refine wpAny_newFunctionEnv_cells S.kind hkinds fun env he s1 z => ?_
  subst he
  refine ⟨lim.keeps z.toInCall.keep, codeAny_func ?_⟩
  obtain ⟨t, ht, hq⟩ := B cdv s H [v] Q h
  have I : Inv (cxOf CX0 P w K mg base N qual (defScope st) f cdv callerA [] s H E0) [] (start N [v]) H s1 := inv_start (us := [u]) S hroom.hd e0 rfl (.cons r .nil) z
  refine wpAny_mono (ht.nox.run [] s1 (start N [v]) H _ I hq) (fun fl s' hs => ?_) fun e s' hs => hs
  match fl, hs with
  | .ret u', ⟨v', _, H', J, rv, q⟩ => exact ⟨v', H', J.os, J.bare, J.base, J.hok, rv, q⟩
  | .next, ⟨_, H', J, q⟩ => exact ⟨.non, H', J.os, J.bare, J.base, J.hok, rfl, q⟩
  | .brk, ⟨_, _, _, q⟩ => exact q.elim
  | .cont, ⟨_, _, _, q⟩ => exact q.elim

/-! ### the state at the law's call -/
theorem fst_one {a : Addr} {o o' : HO} {H : Hp} (h : ∀ b u, H b = some u → b = a ∧ u = o) {b : Addr} (q : H b ≠ none) : b = a := by
  cases e : H b with
  | none => exact absurd e q
  | some u => exact (h b u e).1
section
variable {P : Program} {w : World} {K : PySem.W.Frag} {mg mb : Str → Option Value} {a : Addr} {s₁ : Shared} {vs : List Value} {ns : List Int}
/-- an abstract heap with the script alone, or with nothing -/
structure Start (P : Program) (w : World) (K : PySem.W.Frag) (a : Addr) (s₁ : Shared) (ob : Obj) (u : HO) (H : Hp) : Prop where
  at_ : s₁.heap.get? a = some ob
  one : ∀ b v, H b = some v → b = a ∧ v = .frz ob u
  ok : HOk P w H s₁.heap
  notK : H a ≠ none → K.lookup a = none
theorem Start.free {ob : Obj} {u : HO} {H : Hp} (S : Start P w K a s₁ ob u H) {b : Addr} {o : Obj} (e : s₁.heap.get? b = some o) (d : o ≠ ob) : H b = none := by
  cases q : H b with
  | none => rfl
  | some v =>
    have e' := (S.one b v q).1
    rw [e', S.at_] at e
    exact absurd (Option.some.inj e).symm d
theorem Start.env {ob : Obj} {u : HO} {H : Hp} (S : Start P w K a s₁ ob u H) (nd : ∀ es ep, ob.data ≠ .dict es ep) (KX : K.In s₁.heap) (hns : s₁.heap.Ns mainGlobals mg) (hb : s₁.heap.Ns builtinsNs mb)
    (hbb : ∀ x : Str, x ≠ "__name__" → mb x = bootBuiltins x) (hlim : s₁.heap.NoLimit) (hg : s₁.gens = #[]) :
    K.In (hidT s₁.heap H) ∧ (hidT s₁.heap H).Ns mainGlobals mg ∧ Env0 P w K mg (hidT s₁.heap H) callerA [] s₁ H := by
  have ns : ∀ {b : Addr} {m : Str → Option Value}, s₁.heap.Ns b m → (hidT s₁.heap H).Ns b m := fun {b m} h => by
    obtain ⟨o, es, ep, e, d, r⟩ := h
    exact ⟨o, es, ep, hidT_get e (S.free e fun z => nd es ep (z ▸ d)), d, r⟩
  have kin : K.In (hidT s₁.heap H) := fun b o e => hidT_get (KX b o e) (by
    cases q : H b with
    | none => rfl
    | some v =>
      have e' := (S.one b v q).1
      rw [e'] at e q
      rw [S.notK (by rw [q]; exact fun z => nomatch z)] at e
      cases e)
  obtain ⟨mc, l1, l2⟩ := hlim
  refine ⟨kin, ns hns, ⟨rfl, ⟨kin, ns hns, ⟨mb, ns hb, hbb⟩, ⟨mc, ns l1, l2⟩⟩, fun b o e => of_hidT e, Nat.le_of_eq (hidT_size _ _), trivial, (fun b z => by cases z), S.ok, .of_eq hg⟩⟩
/-- what stood stands -/
theorem Start.old {ob : Obj} {u : HO} {H : Hp} (S : Start P w K a s₁ ob u H) {r : Result} {s' : Shared} (h : CR CX0 [] P w H s₁ (fun v _ => v = .bl true) E0 r s') :
    r = .ok (.ret (.bool true)) ∧ OldK s₁.heap s'.heap ∧ s'.os = s₁.os ∧ AllBare s'.gens := by
  match r, h with
  | .ok (.ret z), ⟨v, H', os, bare, un, hok', rz, ev⟩ =>
    subst ev
    cases rz
    refine ⟨rfl, OldK.of_keep fun b o e => ?_, os, bare⟩
    by_cases q : H b = none
    · exact un.keep b o e q (fun z => nomatch z) (fun z => nomatch z)
    · obtain ⟨v, hv⟩ := Option.ne_none_iff_exists'.mp q
      obtain ⟨eb, ev⟩ := S.one b v hv
      rw [ev] at hv
      have k2 := un.frzs b ob u hv
      have g1 : s₁.heap.get? b = some ob := (S.ok b _ hv).1
      have g2 : s'.heap.get? b = some ob := (hok' b _ k2).1
      rw [g1] at e
      rw [g2, ← e]
/-- the law's call, from the run of its def -/
theorem law_at {fa : Addr} (KX : K.In s₁.heap) (hns : s₁.heap.Ns mainGlobals mg) (hb : s₁.heap.Ns builtinsNs mb) (hbb : ∀ x : Str, x ≠ "__name__" → mb x = bootBuiltins x) (hlim : s₁.heap.NoLimit) (hg : s₁.gens = #[])
    (ha : s₁.heap.get? a = some { cls := .type "list", data := .seq vs.toArray }) (hi : IntsAre vs ns) (hl : ns.length ≤ sizeLine)
    (F : ∀ (base : Heap) (H : Hp), K.In base → base.Ns mainGlobals mg → Env0 P w K mg base callerA [] s₁ H → SqL K H a (ns.map V.int) →
      codeAny (model P w) callerA (.call (.ref fa) ⟨[.ref a], []⟩) (CR CX0 [] P w H s₁ (fun v _ => v = .bl true) E0) s₁) :
    codeAny (model P w) callerA (.call (.ref fa) ⟨[.ref a], []⟩) (fun r s' => r = .ok (.ret (.bool true)) ∧ OldK s₁.heap s'.heap ∧ s'.os = s₁.os ∧ AllBare s'.gens) s₁ := by
  have rv := vals_ints hi
  have go : ∀ H : Hp, Start P w K a s₁ { cls := .type "list", data := .seq vs.toArray } (.lst (ns.map V.int)) H → SqL K H a (ns.map V.int) →
      codeAny (model P w) callerA (.call (.ref fa) ⟨[.ref a], []⟩) (fun r s' => r = .ok (.ret (.bool true)) ∧ OldK s₁.heap s'.heap ∧ s'.os = s₁.os ∧ AllBare s'.gens) s₁ := fun H S hS => by
    obtain ⟨k1, k2, k3⟩ := S.env (fun _ _ z => by cases (show Data.seq _ _ = Data.dict _ _ from z)) KX hns hb hbb hlim hg
    exact codeAny_mono (F _ H k1 k2 k3 hS) fun r s' h => S.old h
  by_cases hk : K.lookup a = none
  · refine go (fun b => if b = a then some (.frz { cls := .type "list", data := .seq vs.toArray } (.lst (ns.map V.int))) else none) ⟨ha, fun b v e => ?_, fun b v e => ?_, fun _ => hk⟩ (.inl (.inr ⟨_, if_pos rfl⟩))
    · by_cases q : b = a
      · exact ⟨q, (Option.some.inj ((if_pos q).symm.trans e)).symm⟩
      · exact nomatch (if_neg q).symm.trans e
    · by_cases q : b = a
      · subst q
        cases (if_pos rfl).symm.trans e
        exact ⟨ha, by rw [List.length_map]; exact hl, vs, _, rv, ha⟩
      · exact nomatch (if_neg q).symm.trans e
  · obtain ⟨o, ho⟩ := Option.ne_none_iff_exists'.mp hk
    have e := KX a o ho
    rw [ha] at e
    cases e
    refine go (fun _ => none) ⟨ha, fun b v e => (by cases (show (none : Option HO) = some v from e)), fun b v e => (by cases (show (none : Option HO) = some v from e)), fun z => absurd rfl z⟩ (.inr ⟨_, vs.toArray, _, ho, rfl, rfl, rfl, ?_, by simpa using rv⟩)
    rw [List.size_toArray, hi.length]
    exact hl
end
/-- what k_head leaves, from the body of the law's def -/
theorem law_walk {l : PySem.W.OpenLaw} {n : Nat} {q : Program} {loose : List Str} {XP : (Str → Option Value) → Heap → Prop} {YP : World → Heap → Prop} {d : DefRec} {K : Params → PySem.W.Frag} {N : List Str} {qual x y : Str} {st : Stmt} {sp : Params → Sp}
    (hn : l.most = some n) (hn2 : n ≤ sizeLine) (hdf : d.params.defaults = []) (hY : ∀ (w : World) (h : Heap), YP w h → (K w.params).In h)
    (S : FnScope N [x] (defScope st)) (len : ∀ p vs H Q E, sp p vs H Q E → vs.length = 1)
    (F : ∀ (w : World) (mg : Str → Option Value) (fa : Addr) (h : Heap), (K w.params).In h → h.Ns mainGlobals mg → mg d.name = some (.ref fa) →
      ∃ fd : FuncData, Fun (K w.params) y qual st fa fd ∧ (∀ (s : Shared) (u : Value), BindsTo s fd ⟨[u], []⟩ [(x, u)]) ∧
        ∀ base : Heap, (K w.params).In base → base.Ns mainGlobals mg → LawBody l.prog w (K w.params) mg base N qual st fa (sp w.params))
    (hsp : ∀ (p : Params) (H : Hp) (a : Addr) (ns : List Int), ns.length ≤ n → SqL (K p) H a (ns.map V.int) → sp p [.ref a] H (fun v _ => v = .bl true) E0) :
    PySem.W.WalkO q loose XP YP l.row.toRowW d [] (fun f vs => PySem.call f vs) := by
  refine Att.attach_call hn hdf fun w s₀ s₁ mg mb fa o pm cd doc a vs ns G Y ho hd hcd hmg hobj hints hlen hg => ?_
  have KX := hY w _ Y
  obtain ⟨fd, hF, hb, hB⟩ := F w mg fa _ KX G.T.g hmg
  exact law_at KX G.T.g G.T.b G.T.builtins G.T.nolimit hg hobj hints (Nat.le_trans hlen hn2) fun base H k1 k2 k3 hS =>
    law_run (v := V.ref a) hF S (len w.params) (hB base k1 k2) hb k3 (show RelV (V.ref a) (Value.ref a) from rfl) (hsp w.params H a ns hlen hS)
end K38

/-! The kit of this proof: words and deeds as values, what reads what, calls by promise, the facts of the top. -/
namespace K38
open PySem PySem.Spec PyProof.Rows L2 Evl

def topS (i : Nat) : Stmt := PySem.Challenge.pw_ropesays_k38_whole_which_moves_fit.main.body.getD i (.Pass ⟨0, 0, 0, 0⟩)

/-! ### words -/
def wS : Wd → Str
  | .ov => "over"
  | .un => "under"
  | .jn => "join"
  | .op => "open"
  | .tn => "turn"
def mS : Mv → Str
  | .undo => "undo"
  | .far => "far"
  | .three => "three"
  | .curl => "curl"
  | .bend => "bend"
def wAll : List Wd := [.ov, .un, .jn, .op, .tn]
def mAll : List Mv := [.undo, .far, .three, .curl, .bend]
theorem wS_inj : ∀ {a b : Wd}, wS a = wS b → a = b := by
  intro a b
  cases a <;> cases b <;> first | (intro _; rfl) | (intro h; exact absurd h (by decide +kernel))
theorem mS_inj : ∀ {a b : Mv}, mS a = mS b → a = b := by
  intro a b
  cases a <;> cases b <;> first | (intro _; rfl) | (intro h; exact absurd h (by decide +kernel))
theorem wV_eq (a b : Wd) : decide (V.str (wS a) = V.str (wS b)) = decide (a = b) := by
  by_cases h : a = b
  · rw [h]
    simp
  · rw [decide_eq_false h, decide_eq_false (fun q => h (wS_inj (V.str.inj q)))]
theorem mV_eq (a b : Mv) : decide (V.str (mS a) = V.str (mS b)) = decide (a = b) := by
  by_cases h : a = b
  · rw [h]
    simp
  · rw [decide_eq_false h, decide_eq_false (fun q => h (mS_inj (V.str.inj q)))]
theorem iV_eq (a b : Int) : decide (V.int a = V.int b) = decide (a = b) := by
  by_cases h : a = b
  · rw [h]
    simp
  · rw [decide_eq_false h, decide_eq_false (fun q => h (V.int.inj q))]

/-! ### deeds as values -/
def dV (d : Deed) : List V := [.str (wS d.1), .int d.2]
/-- the value v is the deed d -/
def DAt (K : PySem.W.Frag) (H : Hp) (v : V) (d : Deed) : Prop := ∃ p, v = .ref p ∧ SqT K H p (dV d)
abbrev DsAt (K : PySem.W.Frag) (H : Hp) : List V → List Deed → Prop := Paired (DAt K H)
/-- a tuple, a list of deeds -/
def TD (K : PySem.W.Frag) (H : Hp) (t : Addr) (ds : List Deed) : Prop := ∃ vs, SqT K H t vs ∧ DsAt K H vs ds
def LD (K : PySem.W.Frag) (H : Hp) (t : Addr) (ds : List Deed) : Prop := ∃ vs, SqL K H t vs ∧ DsAt K H vs ds
section
variable {K : PySem.W.Frag} {H H' : Hp} {v : V} {vs us : List V} {d : Deed} {ds es : List Deed} {t : Addr}
theorem DAt.mono (e : Ex H H') (h : DAt K H v d) : DAt K H' v d := let ⟨p, q, r⟩ := h; ⟨p, q, ex_t e r⟩
theorem DsAt.mono (e : Ex H H') (h : DsAt K H vs ds) : DsAt K H' vs ds := Paired.mapP h fun _ _ q => q.mono e
theorem TD.mono (e : Ex H H') (h : TD K H t ds) : TD K H' t ds := let ⟨vs, a, b⟩ := h; ⟨vs, ex_t e a, DsAt.mono e b⟩
theorem LD.mono (e : Ex H H') (h : LD K H t ds) : LD K H' t ds := let ⟨vs, a, b⟩ := h; ⟨vs, ex_l e a, DsAt.mono e b⟩
theorem DsAt.len (h : DsAt K H vs ds) : vs.length = ds.length := Paired.length h
theorem DsAt.append : ∀ {vs us : List V} {ds es : List Deed}, DsAt K H vs ds → DsAt K H us es → DsAt K H (vs ++ us) (ds ++ es)
  | _, _, _, _, .nil, q => q
  | _, _, _, _, .cons a r, q => .cons a (DsAt.append r q)
theorem DsAt.take : ∀ (n : Nat) {vs : List V} {ds : List Deed}, DsAt K H vs ds → DsAt K H (vs.take n) (ds.take n)
  | 0, _, _, _ => .nil
  | _ + 1, _, _, .nil => .nil
  | n + 1, _, _, .cons a r => .cons a (DsAt.take n r)
theorem DsAt.drop : ∀ (n : Nat) {vs : List V} {ds : List Deed}, DsAt K H vs ds → DsAt K H (vs.drop n) (ds.drop n)
  | 0, _, _, h => h
  | _ + 1, _, _, .nil => .nil
  | n + 1, _, _, .cons _ r => DsAt.drop n r
theorem DsAt.get : ∀ {vs : List V} {ds : List Deed} {i : Nat} {v : V}, DsAt K H vs ds → vs[i]? = some v → ∃ d, ds[i]? = some d ∧ DAt K H v d
  | _, _, _, _, .nil, e => by simp at e
  | _, _, 0, _, .cons a _, e => by
    simp at e
    subst e
    exact ⟨_, rfl, a⟩
  | _, _, i + 1, v, .cons _ r, e => by
    obtain ⟨d, h1, h2⟩ := DsAt.get (i := i) (v := v) r (by simpa using e)
    exact ⟨d, by simpa using h1, h2⟩
/-- the data of deeds -/
def dD (d : Deed) : PyData := .tuple [.str (wS d.1), .int d.2]
theorem DAt.dp (h : DAt K H v d) : Dp K H v (dD d) := by
  obtain ⟨p, e, r⟩ := h
  subst e
  exact .tup r (.cons (.str _) (.cons (.int _) .nil))
theorem DsAt.dp : ∀ {vs : List V} {ds : List Deed}, DsAt K H vs ds → DpAll K H vs (ds.map dD)
  | _, _, .nil => .nil
  | _, _, .cons a r => .cons a.dp (DsAt.dp r)
theorem TD.dp (h : TD K H t ds) : Dp K H (.ref t) (.tuple (ds.map dD)) := let ⟨_, a, b⟩ := h; .tup a b.dp
theorem LD.dp (h : LD K H t ds) : Dp K H (.ref t) (.list (ds.map dD)) := let ⟨_, a, b⟩ := h; .lst a b.dp
end

/-! ### what evaluates to what: any value that has a property -/
def EvP (te : TE) (σ : L2.St) (H : Hp) (P : V → Hp → Prop) : Prop := ∀ H1, Ex H H1 → ∀ Q : VK, (∀ v H2, Ex H1 H2 → P v H2 → Q v H2) → te σ H1 Q
def RetP (P : V → Hp → Prop) (H : Hp) (Q : VK) : Prop := ∀ v H2, Ex H H2 → P v H2 → Q v H2
section
variable {K : PySem.W.Frag} {σ : L2.St} {H H' : Hp} {ta tb te : TE} {t u : TT} {v w : V} {P R : V → Hp → Prop} {D : Ends} {tz tu tw : TS}
theorem RetP.go {Q : VK} (k : RetP P H Q) (e : Ex H H') : RetP P H' Q := fun v H2 a p => k v H2 (e.trans a) p
theorem EvP.mono (e : Ex H H') (h : EvP te σ H P) : EvP te σ H' P := fun H1 a Q q => h H1 (e.trans a) Q q
theorem EvP.imp (h : EvP te σ H P) (k : ∀ v H2, Ex H H2 → P v H2 → R v H2) : EvP te σ H R := fun H1 e Q q => h H1 e Q fun v H2 e2 p => q v H2 e2 (k v H2 (e.trans e2) p)
theorem evp_ev (h : Ev te σ H v) (k : ∀ H2, Ex H H2 → P v H2) : EvP te σ H P := fun H1 e Q q => h H1 e Q fun H2 e2 => q v H2 e2 (k H2 (e.trans e2))
theorem ev_evp (h : EvP te σ H fun x _ => x = v) : Ev te σ H v := fun H1 e Q q => h H1 e Q fun x H2 e2 p => by
  subst p
  exact q H2 e2
theorem evp_eu {xs : List V} (h : EvU te σ H xs) (k : ∀ p H2, Ex H H2 → H2 p = some (.tup xs) → P (.ref p) H2) : EvP te σ H P := fun H1 e Q q => h H1 e Q fun p H2 _ e2 hp => q _ H2 e2 (k p H2 (e.trans e2) hp)
theorem evp_el {xs : List V} (h : EvL te σ H xs) (k : ∀ p H2, Ex H H2 → H2 p = some (.lst xs) → P (.ref p) H2) : EvP te σ H P := fun H1 e Q q => h H1 e Q fun p H2 _ e2 hp => q _ H2 e2 (k p H2 (e.trans e2) hp)
theorem evp_call {sp : Sp} {dvs vs : List V} {E : XK} {ta : TA} (h : EvA ta σ H vs) (hs : ∀ H1, Ex H H1 → ∀ Q : VK, RetP P H1 Q → sp (vs ++ dvs) H1 Q E) : EvP (tCall sp dvs E ta) σ H P := fun H1 e Q q =>
  h H1 e _ fun H2 e2 => hs H2 (e.trans e2) Q fun v H3 e3 p => q v H3 (e2.trans e3) p
theorem evp_if {b : Bool} (h : EvT t σ H b) (h1 : b = true → EvP ta σ H P) (h2 : b = false → EvP tb σ H P) : EvP (tIf t ta tb) σ H P := fun H1 e Q q => h H1 e _ fun H2 e2 => by
  cases b with
  | true => exact h1 rfl H2 (e.trans e2) Q fun v H3 e3 p => q v H3 (e2.trans e3) p
  | false => exact h2 rfl H2 (e.trans e2) Q fun v H3 e3 p => q v H3 (e2.trans e3) p
theorem s_retP (h : EvP te σ H P) (k : RetP P H D.rt) : tRet te D σ H := h H (Ex.refl H) _ k
theorem s_retV (h : Ev te σ H v) (k : RetV v H D.rt) : tRet te D σ H := h H (Ex.refl H) _ k
theorem s_asgP {i : Nat} (h : EvP te σ H P) (k : ∀ v H1, Ex H H1 → P v H1 → D.nx (σ.set i (some v)) H1) : tAsg te (gName i) D σ H := h H (Ex.refl H) _ k
theorem q_asgP {i : Nat} (h : EvP te σ H P) (k : ∀ v H1, Ex H H1 → P v H1 → tz D (σ.set i (some v)) H1) : tSeq (tAsg te (gName i)) tz D σ H := h H (Ex.refl H) _ k
theorem q_dropP (h : EvP te σ H P) (k : ∀ v H1, Ex H H1 → P v H1 → tz D σ H1) : tSeq (tDrop te) tz D σ H := h H (Ex.refl H) _ k
/-- a test that is never met: what stands under it raises -/
theorem q_never (h : EvT t σ H false) (k : ∀ H1, Ex H H1 → tz D σ H1) : tSeq (tIfS t tNever tNext) tz D σ H := q_when (tu := tNever) (b := false) h (fun z => by cases z) fun _ => k
theorem s_never (h : EvT t σ H false) (k : ∀ H1, Ex H H1 → D.nx σ H1) : tIfS t tNever tNext D σ H := s_when (tu := tNever) (b := false) h (fun z => by cases z) fun _ => k
/-- an item of a deed that stands in a slot's tuple -/
theorem Ev.at {r : R2} {z x y : V} (h : Ev ta σ H x) (hb : Ev tb σ H y) (hr : RV r x y H z) : Ev (tOp r ta tb) σ H z := ev_op h hb hr
end

/-! ### indices and slices -/
theorem at0 {α : Type} {x : α} {xs : List α} : atI (x :: xs) 0 = some x := atI_nat (j := 0) rfl
theorem at1 {α : Type} {x y : α} {xs : List α} : atI (x :: y :: xs) 1 = some y := atI_nat (j := 1) rfl
theorem at2 {α : Type} {x y z : α} {xs : List α} : atI (x :: y :: z :: xs) 2 = some z := atI_nat (j := 2) rfl
theorem cut_from (xs : List V) (n : Nat) : cutV xs (some (n : Int)) none = xs.drop n := by
  unfold cutV
  rw [HT.sIx_nat, HT.sIx_none]
  by_cases h : n ≤ xs.length
  · rw [Nat.min_eq_left h]
    exact List.take_of_length_le (by rw [List.length_drop]; exact Nat.le_refl _)
  · have h' : xs.length ≤ n := by omega
    rw [Nat.min_eq_right h', Nat.sub_self, List.take_zero, List.drop_of_length_le h']
theorem cut_to (xs : List V) (n : Nat) : cutV xs none (some (n : Int)) = xs.take n := by
  unfold cutV
  rw [HT.sIx_nat, HT.sIx_none, List.drop_zero, Nat.sub_zero]
  by_cases h : n ≤ xs.length
  · rw [Nat.min_eq_left h]
  · have h' : xs.length ≤ n := by omega
    rw [Nat.min_eq_right h', List.take_of_length_le (Nat.le_refl _), List.take_of_length_le h']
theorem cut_mid (xs : List V) (a b : Nat) : cutV xs (some (a : Int)) (some (b : Int)) = (xs.drop a).take (b - a) := by
  unfold cutV
  rw [HT.sIx_nat, HT.sIx_nat]
  by_cases ha : a ≤ xs.length
  · rw [Nat.min_eq_left ha]
    by_cases hb : b ≤ xs.length
    · rw [Nat.min_eq_left hb]
    · have hb' : xs.length ≤ b := by omega
      rw [Nat.min_eq_right hb', List.take_of_length_le (by rw [List.length_drop]; omega), List.take_of_length_le (by rw [List.length_drop]; omega)]
  · have ha' : xs.length ≤ a := by omega
    rw [Nat.min_eq_right ha', List.drop_of_length_le (Nat.le_refl _), List.drop_of_length_le ha', List.take_nil, List.take_nil]
section
variable {K : PySem.W.Frag} {σ : L2.St} {H H' : Hp} {te : TE} {tl th : TO} {P : V → Hp → Prop} {a : Addr} {xs : List V} {lo hi : Option Int}
/-- a slice of a tuple: a new one, or the whole one itself -/
theorem evp_slT (h : Ev te σ H (.ref a)) (h1 : EvO tl σ H lo) (h2 : EvO th σ H hi) (hs : SqT K H a xs) (k : ∀ p H2, Ex H H2 → SqT K H2 p (cutV xs lo hi) → P (.ref p) H2) : EvP (tSl (rSlA K) te tl th) σ H P := fun H1 e Q q =>
  h H1 e _ fun H2 e2 => h1 H2 (e.trans e2) _ fun H3 e3 => h2 H3 ((e.trans e2).trans e3) _ fun H4 e4 => by
    have eb := (e2.trans e3).trans e4
    refine ⟨a, xs, rfl, ex_t (e.trans eb) hs, fun w => q _ H4 eb (k a H4 (e.trans eb) ?_), fun _ p hp => q _ _ (eb.trans (Ex.new hp)) (k p _ ((e.trans eb).trans (Ex.new hp)) (st_of upd_same))⟩
    have ec : cutV xs lo hi = xs := by
      unfold cutV
      rw [w.1, w.2, List.drop_zero, Nat.sub_zero]
      exact List.take_of_length_le (Nat.le_refl _)
    rw [ec]
    exact ex_t (e.trans eb) hs
end

/-! ### calls of defs by their promises -/
structure Cal (P : Program) (w : World) (K : PySem.W.Frag) (mg : Str → Option Value) (base : Heap) (x : Str) (ps : List Str) (k : Nat) (sp : Sp) : Prop where
  ex : ∃ f fd, FnOk P w K mg base CX0 k f fd ps sp ∧ mg x = some (.ref f) ∧ PySem.W.keepIn K (.ref f) = true ∧ Binds K fd ps []
section
variable {X : Cx} {x : Str} {ps : List Str} {k : Nat} {sp : Sp} {e : Expr} {es : List Expr} {t : TA} {p pos : Pos}
theorem pe_cal (c : Cal X.prog X.w X.K X.mg X.base x ps k sp) (hr : Room k X.A) (hg : Gl X x) (ha : PA X (e :: es) t) (hdb : (x == ("__debug__" : Str)) = false := by decide)
    (he : starEach (e :: es) X.env = (false, eval e X.env) :: starEach es X.env := by rfl) (hpl : (backTo pos (starEach es X.env)).any (·.1) = false := by rfl) : PE X (.Call (.Name x p) (e :: es) [] pos) (tCall sp [] E0 t) := by
  obtain ⟨f, fd, F, hm, hk, hb⟩ := c.ex
  exact pe_call F hr hg hm hk hb .nil pass0 ha hdb he hpl
theorem pe_cal0 (c : Cal X.prog X.w X.K X.mg X.base x ps k sp) (hr : Room k X.A) (hg : Gl X x) (hdb : (x == ("__debug__" : Str)) = false := by decide) : PE X (.Call (.Name x p) [] [] pos) (tCall sp [] E0 tNil) := by
  obtain ⟨f, fd, F, hm, hk, hb⟩ := c.ex
  exact pe_call0 F hr hg hm hk hb .nil pass0 hdb
end
/-- a def of the top as it stands -/
structure DefAt (K : PySem.W.Frag) (mg : Str → Option Value) (x : Str) (st : Stmt) (ps : List Str) : Prop where
  ex : ∃ f fd, Fun K x x st f fd ∧ mg x = some (.ref f) ∧ Binds K fd ps []
theorem DefAt.cal {P : Program} {w : World} {K : PySem.W.Frag} {mg : Str → Option Value} {base : Heap} {x : Str} {st : Stmt} {N ps : List Str} {k : Nat} {sp : Sp} (D : DefAt K mg x st ps) (S : FnScope N ps (defScope st)) (len : ∀ vs H Q E, sp vs H Q E → vs.length = ps.length)
    (h : ∀ (f : Addr) (cdv : Value) (A : Around) (outer : List Env) (s : Shared) (H : Hp) (vs : List V) (Q : VK) (E : XK), Room k (A.deeper (envOfC x (defScope st) s.heap.objs.size f cdv)) → sp vs H Q E →
      ∃ t, PSs (cxOf CX0 P w K mg base N x (defScope st) f cdv A outer s H E).nox (defBody st) t ∧ t { nx := fun _ H' => Q .non H', rt := Q } (start N vs) H) : Cal P w K mg base x ps (k + 1) sp := by
  obtain ⟨f, fd, F, hm, hb⟩ := D.ex
  exact ⟨f, fd, F.ok S len (h f), hm, F.kp, hb⟩

/-! ### what the top holds -/
def GlV (mg : Str → Option Value) (x : Str) (v : V) : Prop := ∃ u, mg x = some u ∧ RelV v u
theorem pe_globV {X : Cx} {x : Str} {v : V} {pos : Pos} (hg : Gl X x) (h : GlV X.mg x v) (hd : (x == ("__debug__" : Str)) = false := by decide) : PE X (.Name x pos) (tC v) := by
  obtain ⟨u, hm, r⟩ := h
  exact pe_glob hg hm r hd
/-- a tuple of the top -/
def KTup (K : PySem.W.Frag) (p : Addr) (xs : List V) : Prop := ∀ H, SqT K H p xs
structure Txt (K : PySem.W.Frag) (mg : Str → Option Value) (pT pC pM C : Addr) : Prop where
  b_isinstance : mg "isinstance" = none
  b_int : mg "int" = none
  b_bool : mg "bool" = none
  b_list : mg "list" = none
  b_tuple : mg "tuple" = none
  b_str : mg "str" = none
  b_len : mg "len" = none
  b_all : mg "all" = none
  b_max : mg "max" = none
  b_abs : mg "abs" = none
  b_repr : mg "repr" = none
  b_range : mg "range" = none
  b_enumerate : mg "enumerate" = none
  g_MOST_RIM : GlV mg "MOST_RIM" (.int 16)
  g_MOST_RING : GlV mg "MOST_RING" (.int 24)
  g_MOST_DEEDS : GlV mg "MOST_DEEDS" (.int 4000)
  g_JOIN_tangles : GlV mg "JOIN_tangles" (.str (wS .jn))
  g_OPEN_tangles : GlV mg "OPEN_tangles" (.str (wS .op))
  g_JOIN_moves : GlV mg "JOIN_moves" (.str (wS .jn))
  g_OPEN_moves : GlV mg "OPEN_moves" (.str (wS .op))
  g_WORDS_tangles : GlV mg "WORDS_tangles" (.ref pT)
  g_CROSSINGS_moves : GlV mg "CROSSINGS_moves" (.ref pC)
  g_WORDS_moves : GlV mg "WORDS_moves" (.ref pM)
  g_Tangle : GlV mg "Tangle" (.ref C)
  t_T : KTup K pT (wAll.map fun w => .str (wS w))
  t_C : KTup K pC [.str (wS .ov), .str (wS .un)]
  t_M : KTup K pM (mAll.map fun m => .str (mS m))
  cl : Cls K C
  nE : NoAttr K C "ends"
  nD : NoAttr K C "deeds"
  aC : PySem.W.findIn K (.ref C) "__class__" = some (some (.builtin "object.__class__"))
  aG : PySem.W.specialIn K (.builtin "object.__class__") "__get__" = some (some (.builtin "getset_descriptor.__get__"))
  aT : PySem.W.takesIn K (.builtin "object.__class__") = some true
  aM : PySem.W.mroIn K C (.type "object") = some true
  kC : PySem.W.kitOne K (.ref C) (.ref C) = some true
  neC : PySem.W.findIn K (.ref C) "__ne__" = some (some (.builtin "object.__ne__"))
  sub : PySem.W.subIn K (.ref C) (.type "object") = some true
end K38

/-! The program's small defs: numbers within bounds, deeds that fit. -/
namespace K38
open PySem PySem.Spec PyProof.Rows L2 Evl

/-! ### more on what evaluates -/
section
variable {K : PySem.W.Frag} {σ : L2.St} {H : Hp} {x c : V} {t u : Value} {b : Bool}
theorem ty_list {xs : List V} {a : Addr} (h : SqL K H a xs) : TyX K H (.ref a) (.type "list") := by
  rcases h with (h | ⟨o, h⟩) | ⟨o, its, n, h, hc, _⟩
  · exact .base (.lst h)
  · exact .base (.frz h)
  · exact .kList h hc
theorem ty_tuple {xs : List V} {a : Addr} (h : SqT K H a xs) : TyX K H (.ref a) (.type "tuple") := by
  rcases h with (h | ⟨o, h⟩) | ⟨o, its, n, h, hc, _⟩
  · exact .base (.tup h)
  · exact .fTuple h
  · exact .kTuple h hc
theorem rc_isi (ty : ∀ H1, Ex H H1 → TyX K H1 x t) (cv : ClsV c u) (k : PySem.W.kitOne K t u = some b) : RC (rIsi K) [x, c] H (.bl b) :=
  fun H1 e Q q => ⟨x, c, t, u, b, rfl, cv, ty H1 e, k, q H1 (Ex.refl H1)⟩
/-- isinstance(x, (list, tuple)) -/
theorem ev_isLT {a : Addr} {te : TE} {n : String} (h : Ev te σ H (.ref a)) (ty : ∀ H1, Ex H H1 → TyX K H1 (.ref a) (.type n)) (k : PySem.W.kitAny K (.type n) [.type "list", .type "tuple"] = some b) :
    Ev (tCB (rIsiT K) (tCons te (tCons (tTup (tCons (tC (.ty "list")) (tCons (tC (.ty "tuple")) tNil))) tNil))) σ H (.bl b) := fun H1 e Q q =>
  h H1 e _ fun H2 e2 => ⟨by show 2 ≤ sizeLine; decide, fun p hp => ⟨.ref a, p, _, .type n, _, b, rfl, upd_same, .cons (.ty "list") (.cons (.ty "tuple") .nil), ty _ ((e.trans e2).trans (Ex.new hp)), k, q _ (e2.trans (Ex.new hp))⟩⟩
theorem ev_lenT {p : Addr} {xs : List V} {ta : TE} (ha : Ev ta σ H (.ref p)) (h : SqT K H p xs) : Ev (tCB (rLenS K) (tCons ta tNil)) σ H (.int (xs.length : Int)) := fun H1 e Q q =>
  ha H1 e _ fun H2 e2 => ⟨p, xs, rfl, Or.inr (ex_t (e.trans e2) h), q H2 e2⟩
theorem rv_lt {i j : Int} : RV (rI0 fun i j => .bl (decide (i < j))) (.int i) (.int j) H (.bl (decide (i < j))) := rv_I0
theorem rv_isNon {y : V} : RV (fun x y H Q => y = .non ∧ Q (.bl (decide (x = .non))) H) x .non H (.bl (decide (x = .non))) := fun H1 _ _ q => ⟨rfl, q H1 (Ex.refl H1)⟩
theorem ev_chain {r r' : R2} {ta tb tc : TE} {x y z : V} {b1 b2 : Bool} (ha : Ev ta σ H x) (hb : Ev tb σ H y) (hr : RV r x y H (.bl b1)) (hc : b1 = true → Ev tc σ H z) (hr' : b1 = true → RV r' y z H (.bl b2)) :
    Ev (tChain r r' ta tb tc) σ H (.bl (b1 && b2)) := fun H1 e Q q =>
  ha H1 e _ fun H2 e2 => hb H2 (e.trans e2) _ fun H3 e3 => hr H3 ((e.trans e2).trans e3) _ fun H4 e4 => ⟨b1, rfl, by
    have e24 := (e2.trans e3).trans e4
    cases b1 with
    | true =>
      rw [if_pos rfl]
      exact hc rfl H4 (e.trans e24) _ fun H5 e5 => hr' rfl H5 ((e.trans e24).trans e5) Q fun H6 e6 => q H6 ((e24.trans e5).trans e6)
    | false =>
      rw [if_neg Bool.false_ne_true]
      exact q H4 e24⟩
end

section
variable {P : Program} {w : World} {K : PySem.W.Frag} {mg : Str → Option Value} {base : Heap} {pT pC pM C : Addr}

/-! ### is_integer -/
abbrev spIsInt : Sp := fun vs H Q _ => ∃ i : Int, vs = [.int i] ∧ RetV (.bl true) H Q
theorem sc10 : FnScope ["value"] ["value"] (defScope (topS 10)) := ⟨rfl, rfl, rfl, by decide +kernel, rfl, by decide +kernel, by decide +kernel⟩
theorem ok_is_integer (D : DefAt K mg "is_integer" (topS 10) ["value"]) (T : Txt K mg pT pC pM C) : Cal P w K mg base "is_integer" ["value"] 1 spIsInt := by
  refine D.cal sc10 (fun vs H Q E ⟨i, e, _⟩ => by rw [e]; rfl) fun f cdv A outer s H vs Q E hr ⟨i, ev, k⟩ => ?_
  subst ev
  refine ⟨_, (pss_one (ps_ret (pe_and (pe_callB call_isi (by rfl) T.b_isinstance (by decide +kernel) (pa_cons (pv 0) (pa_cons (pe_bltn (v := .ty "int") (by rfl) T.b_int (by decide +kernel) rfl) pa_nil))) (pe_one (pe_not (pe_callB call_isi (by rfl) T.b_isinstance (by decide +kernel) (pa_cons (pv 0) (pa_cons (pe_bltn (v := .ty "bool") (by rfl) T.b_bool (by decide +kernel) rfl) pa_nil)))))))), ?_⟩
  refine s_retV (ev_is (ev_andV (ev_cb (ea_cons (ev_var rfl) (ea_cons ev_c ea_nil)) (rc_isi (fun _ _ => .base (.int i)) (.ty "int") (kit_ty (r := true) (by decide +kernel))))
    fun _ => ev_notV (ev_cb (ea_cons (ev_var rfl) (ea_cons ev_c ea_nil)) (rc_isi (fun _ _ => .base (.int i)) (.ty "bool") (kit_ty (r := false) (by decide +kernel))))) rfl) k

/-! ### is_within -/
abbrev spWithin : Sp := fun vs H Q _ => ∃ v l m : Int, vs = [.int v, .int l, .int m] ∧ RetV (.bl (decide (l ≤ v) && decide (v ≤ m))) H Q
theorem sc11 : FnScope ["value", "least", "most"] ["value", "least", "most"] (defScope (topS 11)) := ⟨rfl, rfl, rfl, by decide +kernel, rfl, by decide +kernel, by decide +kernel⟩
theorem ok_is_within (D : DefAt K mg "is_within" (topS 11) ["value", "least", "most"]) (T : Txt K mg pT pC pM C) (c_is_integer : Cal P w K mg base "is_integer" ["value"] 1 spIsInt) :
    Cal P w K mg base "is_within" ["value", "least", "most"] 2 spWithin := by
  refine D.cal sc11 (fun vs H Q E ⟨v, l, m, e, _⟩ => by rw [e]; rfl) fun f cdv A outer s H vs Q E hr ⟨v, l, m, ev, k⟩ => ?_
  subst ev
  refine ⟨_, (pss_cons (ps_if (pt_not (pt_val (pe_cal c_is_integer (hr.mono (by decide)) (by rfl) (pa_cons (pv 0) pa_nil))))
    (pss_one (ps_ret pe_bl))
    pss_nil)
    (pss_one (ps_ret (pe_and (pe_or (pe_cmpR op_isN (pv 1) pe_non (nomark _)) (pe_one (pe_cmpR op_le (pv 1) (pv 0) (nomark _)))) (pe_one (pe_or (pe_cmpR op_isN (pv 2) pe_non (nomark _)) (pe_one (pe_cmpR op_le (pv 0) (pv 2) (nomark _))))))))), ?_⟩
  refine q_when (b := false) (et_not (a := true) (et_B (ev_call (ea_cons (ev_var rfl) ea_nil) fun H1 e Q q E => ⟨v, rfl, q⟩))) (fun z => by cases z) fun _ H1 e => ?_
  refine s_retV (ev_is (ev_andV (ev_orV (a := false) (b := decide (l ≤ v)) (ev_op (ev_var rfl) ev_c (rv_isNon (y := .non))) fun _ => ev_op (ev_var rfl) (ev_var rfl) rv_I0)
    fun _ => ev_orV (a := false) (b := decide (v ≤ m)) (ev_op (ev_var rfl) ev_c (rv_isNon (y := .non))) fun _ => ev_op (ev_var rfl) (ev_var rfl) rv_I0) (by simp)) fun H2 e2 => k H2 (e.trans e2)
end
end K38

/-! Comprehensions over a tuple or a list, each item by what it has; what stays when a list is changed. -/
namespace K38
open PySem PySem.Spec PyProof.Rows L2 Evl

/-- all but the lists stands -/
def Nl (H H' : Hp) : Prop := ∀ a o, (∀ xs, o ≠ HO.lst xs) → H a = some o → H' a = some o
section
variable {K : PySem.W.Frag} {H H' H2 : Hp} {v : V} {vs : List V} {d : Deed} {ds : List Deed} {t : Addr}
theorem Nl.refl (H : Hp) : Nl H H := fun _ _ _ h => h
theorem Nl.of (e : Ex H H') : Nl H H' := fun a o _ h => e a o h
theorem Nl.trans (e : Nl H H') (k : Nl H' H2) : Nl H H2 := fun a o n h => k a o n (e a o n h)
theorem Nl.upd {D : Addr} {xs ys : List V} (h : H D = some (.lst xs)) : Nl H (upd H D (.lst ys)) := fun a o n e => by
  have q : a ≠ D := fun z => by
    rw [z, h] at e
    exact n xs (Option.some.inj e).symm
  rw [upd_ne q]
  exact e
theorem SqT.nl {p : Addr} {xs : List V} (e : Nl H H') (h : SqT K H p xs) : SqT K H' p xs := by
  rcases h with (h | ⟨o, h⟩) | h
  · exact .inl (.inl (e _ _ (fun _ z => nomatch z) h))
  · exact .inl (.inr ⟨o, e _ _ (fun _ z => nomatch z) h⟩)
  · exact .inr h
theorem DAt.nl (e : Nl H H') (h : DAt K H v d) : DAt K H' v d := let ⟨p, q, r⟩ := h; ⟨p, q, SqT.nl e r⟩
theorem DsAt.nl (e : Nl H H') (h : DsAt K H vs ds) : DsAt K H' vs ds := Paired.mapP h fun _ _ q => q.nl e
theorem TD.nl (e : Nl H H') (h : TD K H t ds) : TD K H' t ds := let ⟨vs, a, b⟩ := h; ⟨vs, SqT.nl e a, DsAt.nl e b⟩
end
theorem eq_map_of {α : Type} {φ : α → V} : ∀ {ys : List V} {ds : List α}, ys.length = ds.length → (∀ (i : Nat) y d, ys[i]? = some y → ds[i]? = some d → y = φ d) → ys = ds.map φ
  | [], [], _, _ => rfl
  | y :: ys, d :: ds, hl, h => by
    have e := h 0 y d rfl rfl
    rw [e, List.map_cons, eq_map_of (ys := ys) (ds := ds) (Nat.succ.inj hl) fun i y d h1 h2 => h (i + 1) y d h1 h2]
theorem dsAt_of {K : PySem.W.Frag} {H : Hp} : ∀ {ys : List V} {ds : List Deed}, ys.length = ds.length → (∀ (i : Nat) y d, ys[i]? = some y → ds[i]? = some d → DAt K H y d) → DsAt K H ys ds
  | [], [], _, _ => .nil
  | y :: ys, d :: ds, hl, h => .cons (h 0 y d rfl rfl) (dsAt_of (Nat.succ.inj hl) fun i y d h1 h2 => h (i + 1) y d h1 h2)

/-! ### what is walked: a tuple or a list -/
def SqK (b : Bool) (K : PySem.W.Frag) (H : Hp) (a : Addr) (xs : List V) : Prop := match b with
  | true => SqT K H a xs
  | false => SqL K H a xs
def iK (b : Bool) (K : PySem.W.Frag) (tl : TE) : TI := match b with
  | true => iTup K tl
  | false => iList K tl
theorem SqK.mono {b : Bool} {K : PySem.W.Frag} {H H' : Hp} {a : Addr} {xs : List V} (e : Ex H H') (h : SqK b K H a xs) : SqK b K H' a xs := by
  cases b with
  | true => exact ex_t e h
  | false => exact ex_l e h
section
variable {b : Bool} {K : PySem.W.Frag} {σ : L2.St} {H : Hp} {a : Addr} {xs : List V} {tl te : TE} {tt : TT} {g : TG} {vs : List Nat}
/-- the value is such a thing -/
abbrev IsSq (b : Bool) (K : PySem.W.Frag) (xs : List V) : V → Hp → Prop := fun v H2 => ∃ a, v = .ref a ∧ SqK b K H2 a xs
theorem isq_T {tl : TE} (h : Ev tl σ H (.ref a)) (hs : SqT K H a xs) : EvP tl σ H (IsSq true K xs) := evp_ev h fun H2 e => ⟨a, rfl, ex_t e hs⟩
theorem isq_L {tl : TE} (h : Ev tl σ H (.ref a)) (hs : SqL K H a xs) : EvP tl σ H (IsSq false K xs) := evp_ev h fun H2 e => ⟨a, rfl, ex_l e hs⟩
theorem isq_K {tl : TE} (h : Ev tl σ H (.ref a)) (hs : SqK b K H a xs) : EvP tl σ H (IsSq b K xs) := evp_ev h fun H2 e => ⟨a, rfl, hs.mono e⟩
/-- the list so far -/
def Cp (H1 : Hp) (D : Addr) (R : Nat → List V → Hp → Prop) (i : Nat) (H' : Hp) : Prop := H1 D = none ∧ Ex H1 H' ∧ ∃ ys, H' D = some (.lst ys) ∧ ys.length ≤ i ∧ R i ys H'
/-- [te for g in xs if tt], by a word R of the turn, the list so far, the heap -/
theorem evp_lc (h : EvP tl σ H (IsSq b K xs)) (hz : xs.length ≤ 40000) (R : Nat → List V → Hp → Prop) (h0 : ∀ H1, Ex H H1 → R 0 [] H1)
    (hR : ∀ i ys H1 H2, Nl H1 H2 → R i ys H1 → R i ys H2)
    (turn : ∀ i x ys H1, Ex H H1 → xs[i]? = some x → R i ys H1 → ∀ (Qy : VK) (Qn : Hp → Prop), (∀ y H2, Ex H1 H2 → R (i + 1) (ys ++ [y]) H2 → Qy y H2) → (∀ H2, Ex H1 H2 → R (i + 1) ys H2 → Qn H2) →
      g x (wipe σ vs) H1 fun σ2 H2 => wipe σ2 vs = wipe σ vs ∧ tt σ2 H2 fun b H3 => if b = true then te σ2 H3 Qy else Qn H3) :
    EvP (tLc (iK b K tl) g tt te vs) σ H fun v H2 => ∃ p ys, v = .ref p ∧ H2 p = some (.lst ys) ∧ R xs.length ys H2 := by
  have step : ∀ (H1 : Hp) (D : Addr) (i : Nat) (x : V) (H' : Hp), Ex H H1 → xs[i]? = some x → Cp H1 D R i H' → g x (wipe σ vs) H' fun σ2 H2 => wipe σ2 vs = wipe σ vs ∧ tt σ2 H2 fun b H3 =>
      if b = true then te σ2 H3 fun y H4 => ∃ acc, H4 D = some (.lst acc) ∧ acc.length < sizeLine ∧ Cp H1 D R (i + 1) (upd H4 D (.lst (acc ++ [y]))) else Cp H1 D R (i + 1) H3 := by
    intro H1 D i x H' e hx ⟨c1, c2, ys, c3, c4, c5⟩
    have hi : i < xs.length := (List.getElem?_eq_some_iff.mp hx).1
    refine turn i x ys H' (e.trans c2) hx c5 _ _ (fun y H2 e2 r => ?_) fun H2 e2 r => ⟨c1, c2.trans e2, ys, e2 _ _ c3, Nat.le_succ_of_le c4, r⟩
    have d2 := e2 _ _ c3
    refine ⟨ys, d2, sz_lt (by omega), c1, Ex.mut (c2.trans e2) c1, ys ++ [y], upd_same, ?_, hR _ _ _ _ (Nl.upd d2) r⟩
    rw [List.length_append, List.length_singleton]
    omega
  intro H0 e Q q
  cases b with
  | true =>
    refine h H0 e _ fun v H1 e1 ⟨a, ev, hs⟩ => ⟨a, ev, ⟨xs, hs⟩, fun D hD => ?_⟩
    refine lc_tup (xs := xs) (Cp H1 D R) ⟨hD, Ex.new hD, [], upd_same, Nat.zero_le _, h0 _ ((e.trans e1).trans (Ex.new hD))⟩ (fun i H' _ c => ex_t c.2.1 hs) (fun i x H' hx c => step H1 D i x H' (e.trans e1) hx c) fun H' c => ?_
    obtain ⟨_, c2, ys, c3, _, c5⟩ := c
    exact q _ H' (e1.trans c2) ⟨D, ys, rfl, c3, c5⟩
  | false =>
    refine h H0 e _ fun v H1 e1 ⟨a, ev, hs⟩ => ⟨a, ev, ⟨xs, hs⟩, fun D hD => ?_⟩
    refine lc_list (xs := xs) (Cp H1 D R) ⟨hD, Ex.new hD, [], upd_same, Nat.zero_le _, h0 _ ((e.trans e1).trans (Ex.new hD))⟩ (fun i H' _ c => ex_l c.2.1 hs) (fun i x H' hx c => step H1 D i x H' (e.trans e1) hx c) fun H' c => ?_
    obtain ⟨_, c2, ys, c3, _, c5⟩ := c
    exact q _ H' (e1.trans c2) ⟨D, ys, rfl, c3, c5⟩
/-- every item gives one -/
theorem evp_lcAll (h : EvP tl σ H (IsSq b K xs)) (hz : xs.length ≤ 40000) (R : Nat → V → Hp → Prop) (hR : ∀ i y H1 H2, Nl H1 H2 → R i y H1 → R i y H2)
    (turn : ∀ i x H1, Ex H H1 → xs[i]? = some x → ∀ Qy : VK, (∀ y H2, Ex H1 H2 → R i y H2 → Qy y H2) → g x (wipe σ vs) H1 fun σ2 H2 => wipe σ2 vs = wipe σ vs ∧ te σ2 H2 Qy) :
    EvP (tLc (iK b K tl) g tYes te vs) σ H fun v H2 => ∃ p ys, v = .ref p ∧ H2 p = some (.lst ys) ∧ ys.length = xs.length ∧ ∀ (i : Nat) y, ys[i]? = some y → R i y H2 := by
  refine (evp_lc h hz (fun i ys H' => ys.length = i ∧ ∀ (j : Nat) y, ys[j]? = some y → R j y H') (fun _ _ => ⟨rfl, fun j y z => by simp at z⟩) (fun i ys H1 H2 e ⟨l, r⟩ => ⟨l, fun j y z => hR j y _ _ e (r j y z)⟩)
    fun i x ys H1 e hx ⟨l, r⟩ Qy Qn qy _ => ?_).imp fun v H2 _ ⟨p, ys, e1, e2, e3, e4⟩ => ⟨p, ys, e1, e2, e3, e4⟩
  refine turn i x H1 e hx Qy fun y H2 e2 ry => qy y H2 e2 ⟨by rw [List.length_append, List.length_singleton, l], fun j z hz' => ?_⟩
  by_cases hj : j < ys.length
  · rw [List.getElem?_append_left hj] at hz'
    exact hR j z _ _ (Nl.of e2) (r j z hz')
  · rw [List.getElem?_append_right (by omega)] at hz'
    by_cases hj2 : j = ys.length
    · subst hj2
      rw [Nat.sub_self] at hz'
      cases (Option.some.inj hz')
      rw [l]
      exact ry
    · rw [List.getElem?_eq_none (by simp; omega)] at hz'
      cases hz'
/-- [x for x in xs if ..] -/
theorem el_lcKeep {j : Nat} {f : V → Bool} (h : EvP tl σ H (IsSq b K xs)) (hz : xs.length ≤ 40000) (hw : ∀ x, wipe ((wipe σ vs).set j (some x)) vs = wipe σ vs)
    (ht : ∀ (x : V) H1, Ex H H1 → x ∈ xs → EvT tt ((wipe σ vs).set j (some x)) H1 (f x)) (hj : ∀ x, ((wipe σ vs).set j (some x))[j]? = some (some x)) :
    EvP (tLc (iK b K tl) (gName j) tt (tVar j) vs) σ H fun v H2 => ∃ p, v = .ref p ∧ H2 p = some (.lst (xs.filter f)) := by
  refine (evp_lc h hz (fun i ys _ => ys = (xs.take i).filter f) (fun _ _ => by simp) (fun _ _ _ _ _ r => r) fun i x ys H1 e hx r Qy Qn qy qn => ?_).imp fun v H2 _ ⟨p, ys, e1, e2, e3⟩ => ⟨p, e1, by rw [e2, e3, List.take_of_length_le (Nat.le_refl _)]⟩
  have et : xs.take (i + 1) = xs.take i ++ [x] := by rw [List.take_add_one, hx]; rfl
  refine ⟨hw x, ht x H1 e (List.mem_of_getElem? hx) H1 (Ex.refl H1) _ fun H2 e2 => ?_⟩
  cases hf : f x with
  | true =>
    rw [if_pos rfl]
    refine ⟨x, hj x, qy x H2 e2 ?_⟩
    rw [et, List.filter_append, List.filter_cons, if_pos hf, r]
    rfl
  | false =>
    rw [if_neg Bool.false_ne_true]
    refine qn H2 e2 ?_
    rw [et, List.filter_append, List.filter_cons, hf, r]
    simp
end
end K38

/-! The program's defs: need_number, is_deed, fits, ends_then, told_deeds, ends_behind. -/
namespace K38
open PySem PySem.Spec PyProof.Rows L2 Evl
theorem et_op {r : R2} {ta tb : TE} {σ : L2.St} {H : Hp} {x y : V} {b : Bool} (ha : Ev ta σ H x) (hb : Ev tb σ H y) (hr : RV r x y H (.bl b)) : EvT (tTest (tOp r ta tb)) σ H b := et_test (ev_op ha hb hr)
/-- word == word, int == int -/
theorem rv_eqW {H : Hp} {a b : Wd} : RV rEq (.str (wS a)) (.str (wS b)) H (.bl (decide (a = b))) := by
  rw [← wV_eq]
  exact rv_eq rfl
theorem rv_neW {H : Hp} {a b : Wd} : RV rNe (.str (wS a)) (.str (wS b)) H (.bl (!decide (a = b))) := by
  rw [← wV_eq]
  exact rv_ne rfl
theorem rv_eqI {H : Hp} {a b : Int} : RV rEq (.int a) (.int b) H (.bl (decide (a = b))) := by
  rw [← iV_eq]
  exact rv_eq rfl
theorem rv_neI {H : Hp} {a b : Int} : RV rNe (.int a) (.int b) H (.bl (!decide (a = b))) := by
  rw [← iV_eq]
  exact rv_ne rfl
theorem rv_eqM {H : Hp} {a b : Mv} : RV rEq (.str (mS a)) (.str (mS b)) H (.bl (decide (a = b))) := by
  rw [← mV_eq]
  exact rv_eq rfl

theorem kit_lst {K : PySem.W.Frag} : PySem.W.kitAny K (.type "list") [.type "list", .type "tuple"] = some true :=
  kitAny_cons (b := true) (kit_ty (by decide +kernel)) (fun z => nomatch z) fun _ => rfl
theorem kit_tup {K : PySem.W.Frag} : PySem.W.kitAny K (.type "tuple") [.type "list", .type "tuple"] = some true :=
  kitAny_cons (b := false) (kit_ty (by decide +kernel)) (fun _ => kitAny_cons (b := true) (kit_ty (by decide +kernel)) (fun z => nomatch z) fun _ => rfl) fun z => nomatch z

section
variable {P : Program} {w : World} {K : PySem.W.Frag} {mg : Str → Option Value} {base : Heap} {pT pC pM C : Addr}

/-! ### need_number -/
abbrev spNeedN : Sp := fun vs H Q _ => ∃ (v l m : Int) (x : V), vs = [.int v, x, .int l, .int m] ∧ l ≤ v ∧ v ≤ m ∧ RetV .non H Q
theorem sc12 : FnScope ["value", "part", "least", "most"] ["value", "part", "least", "most"] (defScope (topS 12)) := ⟨rfl, rfl, rfl, by decide +kernel, rfl, by decide +kernel, by decide +kernel⟩
theorem ok_need_number (D : DefAt K mg "need_number" (topS 12) ["value", "part", "least", "most"]) (c_is_within : Cal P w K mg base "is_within" ["value", "least", "most"] 2 spWithin) :
    Cal P w K mg base "need_number" ["value", "part", "least", "most"] 3 spNeedN := by
  refine D.cal sc12 (fun vs H Q E ⟨v, l, m, x, e, _⟩ => by rw [e]; rfl) fun f cdv A outer s H vs Q E hr ⟨v, l, m, x, ev, h1, h2, k⟩ => ?_
  subst ev
  refine ⟨_, (pss_one (ps_if (pt_not (pt_val (pe_cal c_is_within (hr.mono (by decide)) (by rfl) (pa_cons (pv 0) (pa_cons (pv 2) (pa_cons (pv 3) pa_nil))))))
    (pss_one ps_never)
    pss_nil)), ?_⟩
  refine s_never (et_is (et_not (et_B (ev_call (ea_cons (ev_var rfl) (ea_cons (ev_var rfl) (ea_cons (ev_var rfl) ea_nil))) fun H1 e Q q E => ⟨v, l, m, rfl, q⟩))) (by simp [h1, h2])) fun H1 e => k H1 e

/-! ### is_deed -/
abbrev spIsDeed (K : PySem.W.Frag) : Sp := fun vs H Q _ => ∃ (x : V) (d : Deed), vs = [x] ∧ DAt K H x d ∧ gapOk d.2 ∧ RetV (.bl true) H Q
theorem sc29 : FnScope ["value"] ["value"] (defScope (topS 29)) := ⟨rfl, rfl, rfl, by decide +kernel, rfl, by decide +kernel, by decide +kernel⟩
theorem ok_is_deed (D : DefAt K mg "is_deed" (topS 29) ["value"]) (T : Txt K mg pT pC pM C) (c_is_within : Cal P w K mg base "is_within" ["value", "least", "most"] 2 spWithin) :
    Cal P w K mg base "is_deed" ["value"] 3 (spIsDeed K) := by
  refine D.cal sc29 (fun vs H Q E ⟨x, d, e, _⟩ => by rw [e]; rfl) fun f cdv A outer s H vs Q E hr ⟨x, d, ev, hd, hg, k⟩ => ?_
  subst ev
  obtain ⟨p, ex, hS⟩ := hd
  subst ex
  refine ⟨_, (pss_cons (ps_if (PW.pt (pw_or (pt_not (pt_val (pe_callB call_isiT (by rfl) T.b_isinstance (by decide +kernel) (pa_cons (pv 0) (pa_cons (pe_tup (pa_cons (pe_bltn (v := .ty "list") (by rfl) T.b_list (by decide +kernel) rfl) (pa_cons (pe_bltn (v := .ty "tuple") (by rfl) T.b_tuple (by decide +kernel) rfl) pa_nil))) pa_nil))))) (pw_or (pt_cmpR op_ne (pe_callB call_len_seq (by rfl) T.b_len (by decide +kernel) (pa_cons (pv 0) pa_nil)) pe_int (nomark _)) (pw_or1 (pt_not (pt_val (pe_callB call_isi (by rfl) T.b_isinstance (by decide +kernel) (pa_cons (pe_ix ix_tup (pv 0) pe_int (fun _ _ => rfl)) (pa_cons (pe_bltn (v := .ty "str") (by rfl) T.b_str (by decide +kernel) rfl) pa_nil)))))))))
    (pss_one (ps_ret pe_bl))
    pss_nil)
    (pss_one (ps_ret (pe_and (pe_cmpR op_in_seq (pe_ix ix_tup (pv 0) pe_int (fun _ _ => rfl)) (pe_globV rfl T.g_WORDS_tangles) (by rfl)) (pe_one (pe_cal c_is_within (hr.mono (by decide)) (by rfl) (pa_cons (pe_ix ix_tup (pv 0) pe_int (fun _ _ => rfl)) (pa_cons pe_int (pa_cons (pe_op op_sub (pe_globV rfl T.g_MOST_RING) pe_int) pa_nil))))))))), ?_⟩
  refine q_when (b := false) (et_is (et_or (et_not (et_B (ev_isLT (b := true) (ev_var rfl) (fun H1 e => ty_tuple (ex_t e hS)) kit_tup)))
    fun _ => et_or (et_op (ev_lenT (ev_var rfl) hS) ev_c rv_neI) fun _ => et_not (et_B (ev_cb (ea_cons (ev_op (ev_var rfl) ev_c (rv_ixT hS at0)) (ea_cons ev_c ea_nil)) (rc_isi (b := true) (fun _ _ => .base (.str _)) (.ty "str") (kit_ty (by decide +kernel)))))) rfl) (fun z => by cases z) fun _ H1 e => ?_
  have hS1 := ex_t e hS
  refine s_retV (ev_is (ev_andV (ev_op (ev_op (ev_var rfl) ev_c (rv_ixT hS1 at0)) ev_c (rv_isT (T.t_T H1) rfl (by decide +kernel)))
    fun _ => ev_call (ea_cons (ev_op (ev_var rfl) ev_c (rv_ixT hS1 at1)) (ea_cons ev_c (ea_cons (ev_op ev_c ev_c rv_I0) ea_nil))) fun H2 e2 Q q E => ⟨d.2, 0, 24 - 1, rfl, q⟩) ?_) fun H2 e2 => k H2 (e.trans e2)
  obtain ⟨g1, g2⟩ := hg
  have e1 : inV (.str (wS d.1)) (wAll.map fun w => .str (wS w)) = true := by
    cases d.1 <;> decide +kernel
  rw [e1]
  have g3 : d.2 ≤ 24 - 1 := by omega
  simp [g1, g2]

/-! ### fits -/
abbrev spFits : Sp := fun vs H Q _ => ∃ (e g : Int) (a : Wd), vs = [.int e, .str (wS a), .int g] ∧ RetV (.bl (fitB e a g)) H Q
theorem sc30 : FnScope ["ends", "word", "gap"] ["ends", "word", "gap"] (defScope (topS 30)) := ⟨rfl, rfl, rfl, by decide +kernel, rfl, by decide +kernel, by decide +kernel⟩
theorem ok_fits (D : DefAt K mg "fits" (topS 30) ["ends", "word", "gap"]) (T : Txt K mg pT pC pM C) : Cal P w K mg base "fits" ["ends", "word", "gap"] 1 spFits := by
  refine D.cal sc30 (fun vs H Q E ⟨e, g, a, h, _⟩ => by rw [h]; rfl) fun f cdv A outer s H vs Q E hr ⟨n, g, a, ev, k⟩ => ?_
  subst ev
  refine ⟨_, (pss_cons (ps_if (pt_cmpR op_eq (pv 1) (pe_globV rfl T.g_JOIN_tangles) (nomark _))
    (pss_one (ps_ret (pe_ifExp (pt_cmpR op_eq (pv 0) pe_int (nomark _)) (pe_cmpR op_eq (pv 2) pe_int (nomark _)) (pe_chain op_le op_le pe_int (pv 2) (pe_op op_sub (pv 0) pe_int)))))
    pss_nil)
    (pss_one (ps_ret (pe_cmpR op_lt (pv 2) (pe_ifExp (pt_cmpR op_eq (pv 1) (pe_globV rfl T.g_OPEN_tangles) (nomark _)) (pe_callB (call_max2 rfl) (by rfl) T.b_max (by decide +kernel) (pa_cons pe_int (pa_cons (pv 0) pa_nil))) (pv 0)) (nomark _))))), ?_⟩
  refine q_when (et_op (ev_var rfl) ev_c rv_eqW) (fun h H1 e => ?_) fun h H1 e => ?_
  · have ea := of_decide_eq_true h
    subst ea
    refine s_retV (ev_if (et_op (ev_var rfl) ev_c rv_eqI) (fun h2 => ev_is (ev_op (ev_var rfl) ev_c rv_eqI) ?_) fun h2 => ev_is (ev_chain ev_c (ev_var rfl) rv_I0 (fun _ => ev_op (ev_var rfl) ev_c rv_I0) fun _ => rv_I0) ?_) fun H2 e2 => k H2 (e.trans e2)
    · rw [show fitB n .jn g = decide (g = 1) from if_pos (of_decide_eq_true h2)]
    · rw [show fitB n .jn g = (decide (1 ≤ g) && decide (g ≤ n - 2)) from if_neg (of_decide_eq_false h2)]
  · have ea := of_decide_eq_false h
    refine s_retV (ev_is (ev_op (y := .int (if a = .op then (if n > 1 then n else 1) else n)) (ev_var rfl) (ev_if (et_op (ev_var rfl) ev_c rv_eqW) (fun h2 => ev_is (ev_max2 ev_c (ev_var rfl)) ?_) fun h2 => ev_is (ev_var rfl) ?_) rv_I0) ?_) fun H2 e2 => k H2 (e.trans e2)
    · rw [if_pos (of_decide_eq_true h2)]
    · rw [if_neg (of_decide_eq_false h2)]
    · cases a <;> first | (exact absurd rfl ea) | rfl

/-! ### ends_then -/
abbrev spThen : Sp := fun vs H Q _ => ∃ (e : Int) (a : Wd), vs = [.int e, .str (wS a)] ∧ RetV (.int (thenE e a)) H Q
theorem sc31 : FnScope ["ends", "word"] ["ends", "word"] (defScope (topS 31)) := ⟨rfl, rfl, rfl, by decide +kernel, rfl, by decide +kernel, by decide +kernel⟩
theorem ok_ends_then (D : DefAt K mg "ends_then" (topS 31) ["ends", "word"]) (T : Txt K mg pT pC pM C) : Cal P w K mg base "ends_then" ["ends", "word"] 1 spThen := by
  refine D.cal sc31 (fun vs H Q E ⟨e, a, h, _⟩ => by rw [h]; rfl) fun f cdv A outer s H vs Q E hr ⟨n, a, ev, k⟩ => ?_
  subst ev
  refine ⟨_, (pss_cons (ps_if (pt_cmpR op_eq (pv 1) (pe_globV rfl T.g_JOIN_tangles) (nomark _))
    (pss_one (ps_ret (pe_op op_sub (pv 0) pe_int)))
    pss_nil)
    (pss_one (ps_ret (pe_ifExp (pt_cmpR op_eq (pv 1) (pe_globV rfl T.g_OPEN_tangles) (nomark _)) (pe_op op_add (pv 0) pe_int) (pv 0))))), ?_⟩
  refine q_when (et_op (ev_var rfl) ev_c rv_eqW) (fun h H1 e => ?_) fun h H1 e => ?_
  · have ea := of_decide_eq_true h
    subst ea
    exact s_retV (ev_op (ev_var rfl) ev_c rv_I0) fun H2 e2 => k H2 (e.trans e2)
  · have ea := of_decide_eq_false h
    refine s_retV (ev_if (et_op (ev_var rfl) ev_c rv_eqW) (fun h2 => ev_is (ev_op (ev_var rfl) ev_c rv_I0) ?_) fun h2 => ev_is (ev_var rfl) ?_) fun H2 e2 => k H2 (e.trans e2)
    · rw [of_decide_eq_true h2]
      rfl
    · have eb := of_decide_eq_false h2
      cases a <;> first | (exact absurd rfl ea) | (exact absurd rfl eb) | rfl
end
end K38

/-! The program's defs: told_deeds, ends_behind, ends_ahead, are_crossings, are_neighbours. -/
namespace K38
open PySem PySem.Spec PyProof.Rows L2 Evl
section
variable {K : PySem.W.Frag} {σ : L2.St} {H H' : Hp} {a : Addr} {xs : List V} {tl te : TE}
theorem ev_lenK {b : Bool} {ta : TE} (ha : Ev ta σ H (.ref a)) (h : SqK b K H a xs) : Ev (tCB (rLenS K) (tCons ta tNil)) σ H (.int (xs.length : Int)) := by
  cases b with
  | true => exact ev_lenT ha h
  | false => exact ev_len ha h
theorem ev_all {bs : List Bool} (h : EvP te σ H fun v H2 => ∃ p, v = .ref p ∧ H2 p = some (.lst (bs.map V.bl))) : Ev (tCB (rAll K) (tCons te tNil)) σ H (.bl (bs.all id)) := fun H1 e Q q =>
  h H1 e _ fun v H2 e2 ⟨p, ev, hp⟩ => ⟨p, bs, by rw [ev], sq_of hp, q H2 e2⟩
def rTupOf (K : PySem.W.Frag) : List V → Hp → VK → Prop := fun xs H Q => ∃ p ys, xs = [.ref p] ∧ ((SqL K H p ys ∧ ∀ l, H l = none → Q (.ref l) (upd H l (.tup ys))) ∨ (SqT K H p ys ∧ Q (.ref p) H))
theorem evp_tupOf {S : List V → Hp → Prop} {P : V → Hp → Prop} (h : EvP te σ H fun v H2 => ∃ p ys, v = .ref p ∧ H2 p = some (.lst ys) ∧ S ys H2) (k : ∀ q ys H2 H3, Ex H H2 → S ys H2 → Ex H2 H3 → H3 q = some (.tup ys) → P (.ref q) H3) :
    EvP (tCB (rTupOf K) (tCons te tNil)) σ H P := fun H1 e Q q =>
  h H1 e _ fun v H2 e2 ⟨p, ys, ev, hp, hs⟩ => ⟨p, ys, by rw [ev], .inl ⟨sq_of hp, fun l hl => q _ _ (e2.trans (Ex.new hl)) (k l ys H2 _ (e.trans e2) hs (Ex.new hl) upd_same)⟩⟩
end
/-- (word, gap) of a deed, taken apart into two slots -/
theorem g_deed {K : PySem.W.Frag} {σ : L2.St} {H : Hp} {v : V} {d : Deed} {i j : Nat} {Q : L2.St → Hp → Prop} (h : DAt K H v d) (k : Q ((σ.set i (some (.str (wS d.1)))).set j (some (.int d.2))) H) : gTup K 2 (gCons (gName i) (gCons (gName j) gNil)) v σ H Q := by
  obtain ⟨p, ev, hS⟩ := h
  exact ⟨p, dV d, ev, hS, rfl, _, _, rfl, _, _, rfl, rfl, k⟩

section
variable {P : Program} {w : World} {K : PySem.W.Frag} {mg : Str → Option Value} {base : Heap} {pT pC pM C : Addr}

/-! ### told_deeds -/
abbrev spTold (K : PySem.W.Frag) : Sp := fun vs H Q _ => ∃ (a : Addr) (ds : List Deed), vs = [.ref a] ∧ (TD K H a ds ∨ LD K H a ds) ∧ ds.length ≤ 4000 ∧ (∀ d ∈ ds, gapOk d.2) ∧ RetP (fun v H2 => ∃ t, v = .ref t ∧ TD K H2 t ds) H Q
abbrev N32 : List Str := ["value", "word", "gap", "deed"]
theorem sc32 : FnScope N32 ["value"] (defScope (topS 32)) := ⟨rfl, rfl, rfl, by decide +kernel, rfl, by decide +kernel, by decide +kernel⟩
/-- the reading, whatever is walked -/
theorem told_read {σ : L2.St} {H : Hp} {a : Addr} {vs : List V} {ds : List Deed} {b : Bool} {n : String} {D : Ends} (eσ : σ = [some (.ref a), none, none, none]) (S : SqK b K H a vs) (hd : DsAt K H vs ds) (hl : ds.length ≤ 4000) (hg : ∀ d ∈ ds, gapOk d.2)
    (ty : ∀ H1, Ex H H1 → TyX K H1 (.ref a) (.type n)) (kt : PySem.W.kitAny K (.type n) [.type "list", .type "tuple"] = some true) (k : RetP (fun v H2 => ∃ t, v = .ref t ∧ TD K H2 t ds) H D.rt) :
    tSeq (tIfS (tOr (tNot (tB (tCB (rIsiT K) (tCons (tVar 0) (tCons (tTup (tCons (tC (.ty "list")) (tCons (tC (.ty "tuple")) tNil))) tNil)))))
        (tOr (tTest (tOp (rI0 fun i j => .bl (decide (j < i))) (tCB (rLenS K) (tCons (tVar 0) tNil)) (tC (.int 4000))))
          (tNot (tB (tCB (rAll K) (tCons (tLc (iK b K (tVar 0)) (gName 3) tYes (tCall (spIsDeed K) [] E0 (tCons (tVar 3) tNil)) [3]) tNil)))))) tNever tNext)
      (tRet (tCB (rTupOf K) (tCons (tLc (iK b K (tVar 0)) (gTup K 2 (gCons (gName 1) (gCons (gName 2) gNil))) tYes (tTup (tCons (tVar 1) (tCons (tVar 2) tNil))) [1, 2]) tNil))) D σ H := by
  subst eσ
  have hlv : vs.length = ds.length := hd.len
  have item : ∀ {i : Nat} {x : V} {H1 : Hp}, Ex H H1 → vs[i]? = some x → ∃ d, ds[i]? = some d ∧ DAt K H1 x d := fun {i x H1} e hx => (hd.mono e).get hx
  refine q_never (et_is (et_or (et_not (et_B (ev_isLT (ev_var rfl) ty kt))) fun _ => et_or (et_op (ev_lenK (ev_var rfl) S) ev_c rv_I0) fun _ => et_not (et_B (ev_all (bs := ds.map fun _ => true) ?_))) ?_) fun H1 e => ?_
  · refine (evp_lcAll (isq_K (ev_var rfl) S) (by omega) (fun _ y _ => y = .bl true) (fun _ _ _ _ _ r => r) fun i x H1 e hx Qy qy => ⟨rfl, ?turn⟩).imp fun v H2 _ ⟨p, ys, e1, e2, e3, e4⟩ => ⟨p, e1, ?out⟩
    case turn =>
      obtain ⟨d, hd1, hd2⟩ := item e hx
      exact (ev_call (ea_cons (ev_var rfl) ea_nil) fun H2 e2 Q q E => ⟨x, d, rfl, hd2.mono e2, hg d (List.mem_of_getElem? hd1), q⟩) H1 (Ex.refl H1) Qy fun H2 e2 => qy _ H2 e2 rfl
    case out =>
      rw [e2, List.map_map, eq_map_of (φ := fun _ : Deed => V.bl true) (e3.trans hlv) fun i y d h1 _ => e4 i y h1]
      rfl
  · have h1 : (ds.map fun _ => true).all id = true := by simp
    have h2 : ¬ (4000 : Int) < (vs.length : Int) := by omega
    rw [h1, decide_eq_false h2]
    rfl
  · refine s_retP (evp_tupOf (S := fun ys H2 => DsAt K H2 ys ds) ((evp_lcAll (isq_K (ev_var rfl) (S.mono e)) (by omega) (fun i y H2 => ∃ d, ds[i]? = some d ∧ DAt K H2 y d) (fun _ _ _ _ nl ⟨d, h1, h2⟩ => ⟨d, h1, h2.nl nl⟩) fun i x H2 e2 hx Qy qy => ?turn).imp
      fun v H2 _ ⟨p, ys, e1, e2, e3, e4⟩ => ⟨p, ys, e1, e2, dsAt_of (e3.trans hlv) fun i y d h1 h2 => ?out⟩) fun q ys H2 H3 _ hs e3 hq => ⟨q, rfl, ys, st_of hq, hs.mono e3⟩) fun v H2 e2 p => k v H2 (e.trans e2) p
    case turn =>
      obtain ⟨d, hd1, hd2⟩ := item (e.trans e2) hx
      refine g_deed hd2 ⟨rfl, ?_⟩
      exact eu_tup (ea_cons (ev_var rfl) (ea_cons (ev_var rfl) ea_nil)) (by show 2 ≤ 100000; decide) H2 (Ex.refl H2) Qy fun p H3 _ e3 hp => qy _ H3 e3 ⟨d, hd1, p, rfl, st_of hp⟩
    case out =>
      obtain ⟨d', h3, h4⟩ := e4 i y h1
      rw [h2] at h3
      cases h3
      exact h4
theorem ok_told_deeds (D : DefAt K mg "told_deeds" (topS 32) ["value"]) (T : Txt K mg pT pC pM C) (c_is_deed : Cal P w K mg base "is_deed" ["value"] 3 (spIsDeed K)) : Cal P w K mg base "told_deeds" ["value"] 4 (spTold K) := by
  refine D.cal sc32 (fun vs H Q E ⟨a, ds, e, _⟩ => by rw [e]; rfl) fun f cdv A outer s H vs Q E hr ⟨a, ds, ev, hd, hl, hg, k⟩ => ?_
  subst ev
  rcases hd with ⟨us, hS, hd⟩ | ⟨us, hS, hd⟩
  · refine ⟨_, (pss_cons (ps_if (PW.pt (pw_or (pt_not (pt_val (pe_callB call_isiT (by rfl) T.b_isinstance (by decide +kernel) (pa_cons (pv 0) (pa_cons (pe_tup (pa_cons (pe_bltn (v := .ty "list") (by rfl) T.b_list (by decide +kernel) rfl) (pa_cons (pe_bltn (v := .ty "tuple") (by rfl) T.b_tuple (by decide +kernel) rfl) pa_nil))) pa_nil))))) (pw_or (pt_cmpR op_gt (pe_callB call_len_seq (by rfl) T.b_len (by decide +kernel) (pa_cons (pv 0) pa_nil)) (pe_globV rfl T.g_MOST_DEEDS) (nomark _)) (pw_or1 (pt_not (pt_val (pe_callB (cr_all rfl) (by rfl) T.b_all (by decide +kernel) (pa_cons (pe_lc (own := [("deed", 3)]) rfl sc32.nd (pi_tup (pv 0)) (blkOk_by (N := N32) (sc := defScope (topS 32)) (by decide +kernel)) (fun _ _ _ _ _ => (pg_name (i := 3) sc32.nd rfl (.inl rfl))) (fun _ _ _ _ _ => pts_nil) (fun _ _ _ _ _ => (pe_cal c_is_deed (hr.mono (by decide)) (by rfl) (pa_cons (pv 3) pa_nil)))) pa_nil))))))))
      (pss_one ps_never)
      pss_nil)
      (pss_one (ps_ret (pe_callTy call_tuple_of (by rfl) T.b_tuple (by decide +kernel) (pa_cons (pe_lc (own := [("word", 1), ("gap", 2)]) (g := gTup K 2 (gCons (gName 1) (gCons (gName 2) gNil))) rfl sc32.nd (pi_tup (pv 0)) (blkOk_by (N := N32) (sc := defScope (topS 32)) (by decide +kernel)) (fun _ _ _ _ _ => (pg_tup rfl (pgs_cons (pg_name (i := 1) sc32.nd rfl (.inl rfl) (.inr rfl)) (pgs_cons (pg_name (i := 2) sc32.nd rfl (.inl rfl) (.inr rfl)) pgs_nil)))) (fun _ _ _ _ _ => pts_nil) (fun _ _ _ _ _ => (pe_tup (pa_cons (pv 1) (pa_cons (pv 2) pa_nil))))) pa_nil))))), ?_⟩
    exact told_read (b := true) rfl hS hd hl hg (fun H1 e => ty_tuple (ex_t e hS)) kit_tup k
  · refine ⟨_, (pss_cons (ps_if (PW.pt (pw_or (pt_not (pt_val (pe_callB call_isiT (by rfl) T.b_isinstance (by decide +kernel) (pa_cons (pv 0) (pa_cons (pe_tup (pa_cons (pe_bltn (v := .ty "list") (by rfl) T.b_list (by decide +kernel) rfl) (pa_cons (pe_bltn (v := .ty "tuple") (by rfl) T.b_tuple (by decide +kernel) rfl) pa_nil))) pa_nil))))) (pw_or (pt_cmpR op_gt (pe_callB call_len_seq (by rfl) T.b_len (by decide +kernel) (pa_cons (pv 0) pa_nil)) (pe_globV rfl T.g_MOST_DEEDS) (nomark _)) (pw_or1 (pt_not (pt_val (pe_callB (cr_all rfl) (by rfl) T.b_all (by decide +kernel) (pa_cons (pe_lc (own := [("deed", 3)]) rfl sc32.nd (pi_list (pv 0)) (blkOk_by (N := N32) (sc := defScope (topS 32)) (by decide +kernel)) (fun _ _ _ _ _ => (pg_name (i := 3) sc32.nd rfl (.inl rfl))) (fun _ _ _ _ _ => pts_nil) (fun _ _ _ _ _ => (pe_cal c_is_deed (hr.mono (by decide)) (by rfl) (pa_cons (pv 3) pa_nil)))) pa_nil))))))))
      (pss_one ps_never)
      pss_nil)
      (pss_one (ps_ret (pe_callTy call_tuple_of (by rfl) T.b_tuple (by decide +kernel) (pa_cons (pe_lc (own := [("word", 1), ("gap", 2)]) (g := gTup K 2 (gCons (gName 1) (gCons (gName 2) gNil))) rfl sc32.nd (pi_list (pv 0)) (blkOk_by (N := N32) (sc := defScope (topS 32)) (by decide +kernel)) (fun _ _ _ _ _ => (pg_tup rfl (pgs_cons (pg_name (i := 1) sc32.nd rfl (.inl rfl) (.inr rfl)) (pgs_cons (pg_name (i := 2) sc32.nd rfl (.inl rfl) (.inr rfl)) pgs_nil)))) (fun _ _ _ _ _ => pts_nil) (fun _ _ _ _ _ => (pe_tup (pa_cons (pv 1) (pa_cons (pv 2) pa_nil))))) pa_nil))))), ?_⟩
    exact told_read (b := false) rfl hS hd hl hg (fun H1 e => ty_list (ex_l e hS)) kit_lst k
end
end K38

/-! The program's defs: ends_behind, ends_ahead, are_crossings, are_neighbours. -/
namespace K38
open PySem PySem.Spec PyProof.Rows L2 Evl

/-! ### a Tangle as it stands -/
/-- its attributes, in the order in which they are stored -/
def tF (e : Int) (t : Addr) : List (Str × V) := putF "deeds" (.ref t) (putF "ends" (.int e) [])
theorem ed : ¬ (("ends" : Str) = "deeds") := by decide +kernel
theorem tF_ends (e : Int) (t : Addr) : (tF e t).lookup ("ends" : Str) = some (.int e) := by
  unfold tF
  rw [lookup_putF, if_neg ed, lookup_putF, if_pos rfl]
theorem tF_deeds (e : Int) (t : Addr) : (tF e t).lookup ("deeds" : Str) = some (.ref t) := by
  unfold tF
  rw [lookup_putF, if_pos rfl]
def Tg (K : PySem.W.Frag) (C : Addr) (H : Hp) (x : Addr) (e : Int) (ds : List Deed) : Prop := ∃ dx t, H x = some (.ins C dx (tF e t)) ∧ TD K H t ds
theorem Tg.mono {K : PySem.W.Frag} {C x : Addr} {H H' : Hp} {e : Int} {ds : List Deed} (k : Ex H H') (h : Tg K C H x e ds) : Tg K C H' x e ds := let ⟨dx, t, a, b⟩ := h; ⟨dx, t, k _ _ a, b.mono k⟩
theorem Tg.nl {K : PySem.W.Frag} {C x : Addr} {H H' : Hp} {e : Int} {ds : List Deed} (k : Nl H H') (h : Tg K C H x e ds) : Tg K C H' x e ds := let ⟨dx, t, a, b⟩ := h; ⟨dx, t, k _ _ (fun _ z => nomatch z) a, b.nl k⟩

section
variable {K : PySem.W.Frag} {σ : L2.St} {H : Hp} {te : TE} {C x dx : Addr} {fs : List (Str × V)} {f : Str} {v : V}
theorem ev_fld (h : Ev te σ H (.ref x)) (hx : H x = some (.ins C dx fs)) (cl : Cls K C) (n : NoAttr K C f) (hl : fs.lookup f = some v) : Ev (tFld K te f) σ H v := fun H1 e Q q =>
  h H1 e _ fun H2 e2 => ⟨x, C, dx, fs, v, rfl, (e.trans e2) _ _ hx, cl, n, hl, q H2 e2⟩
theorem ev_ends {e : Int} {t : Addr} {mg : Str → Option Value} {pT pC pM : Addr} (T : Txt K mg pT pC pM C) (h : Ev te σ H (.ref x)) (hx : H x = some (.ins C dx (tF e t))) : Ev (tFld K te "ends") σ H (.int e) := ev_fld h hx T.cl T.nE (tF_ends e t)
theorem ev_deeds {e : Int} {t : Addr} {mg : Str → Option Value} {pT pC pM : Addr} (T : Txt K mg pT pC pM C) (h : Ev te σ H (.ref x)) (hx : H x = some (.ins C dx (tF e t))) : Ev (tFld K te "deeds") σ H (.ref t) := ev_fld h hx T.cl T.nD (tF_deeds e t)
end

section
variable {P : Program} {w : World} {K : PySem.W.Frag} {mg : Str → Option Value} {base : Heap} {pT pC pM C : Addr}

/-! ### ends_behind -/
abbrev spEndsB (K : PySem.W.Frag) : Sp := fun vs H Q _ => ∃ (e r : Int) (t : Addr) (ds : List Deed), vs = [.int e, .ref t] ∧ TD K H t ds ∧ run e ds = some r ∧ RetV (.int r) H Q
theorem sc33 : FnScope ["ends", "deeds", "word", "gap"] ["ends", "deeds"] (defScope (topS 33)) := ⟨rfl, rfl, rfl, by decide +kernel, rfl, by decide +kernel, by decide +kernel⟩
theorem ok_ends_behind (D : DefAt K mg "ends_behind" (topS 33) ["ends", "deeds"]) (T : Txt K mg pT pC pM C) (c_fits : Cal P w K mg base "fits" ["ends", "word", "gap"] 1 spFits) (c_ends_then : Cal P w K mg base "ends_then" ["ends", "word"] 1 spThen) :
    Cal P w K mg base "ends_behind" ["ends", "deeds"] 2 (spEndsB K) := by
  refine D.cal sc33 (fun vs H Q E ⟨e, r, t, ds, h, _⟩ => by rw [h]; rfl) fun f cdv A outer s H vs Q E hr ⟨e, r, t, ds, ev, ⟨us, hS, hd⟩, hrun, k⟩ => ?_
  subst ev
  refine ⟨_, (pss_cons (ps_for PassesOwn.never rfl (pi_tup (pv 1)) (pg_tup rfl (pgs_cons (pg_name (i := 2) sc33.nd rfl (.inl rfl)) (pgs_cons (pg_name (i := 3) sc33.nd rfl (.inl rfl)) pgs_nil)))
    (pss_cons (ps_if (pt_not (pt_val (pe_cal c_fits (hr.mono (by decide)) (by rfl) (pa_cons (pv 0) (pa_cons (pv 2) (pa_cons (pv 3) pa_nil))))))
    (pss_one ps_never)
    pss_nil)
    (pss_cons (ps_if (PW.pt (pw_and (pt_cmpR op_eq (pv 2) (pe_globV rfl T.g_OPEN_tangles) (nomark _)) (pw_and1 (pt_cmpR op_eq (pv 0) (pe_globV rfl T.g_MOST_RING) (nomark _)))))
    (pss_one ps_never)
    pss_nil)
    (pss_one (ps_set (i := 0) sc33.nd rfl (.inl rfl) (pe_cal c_ends_then (hr.mono (by decide)) (by rfl) (pa_cons (pv 0) (pa_cons (pv 2) pa_nil))))))))
    (pss_one (ps_ret (pv 0)))), ?_⟩
  refine q_forT (ev_var rfl) hS (fun i σ H' => ∃ m y2 y3, σ = [some (.int m), some (.ref t), y2, y3] ∧ run m (ds.drop i) = some r ∧ Ex H H') (fun H1 e1 => ⟨e, none, none, rfl, hrun, e1⟩) (fun i σ H' _ ⟨m, y2, y3, _, _, e1⟩ => ex_t e1 hS) ?_ ?_
  · rintro i x σ H' hx ⟨m, y2, y3, eσ, hm, e1⟩
    subst eσ
    obtain ⟨d, hd1, hd2⟩ := (hd.mono e1).get hx
    obtain ⟨hi, rfl⟩ := List.getElem?_eq_some_iff.mp hd1
    have hdr : ds.drop i = ds[i] :: ds.drop (i + 1) := List.drop_eq_getElem_cons hi
    rw [hdr] at hm
    obtain ⟨⟨_, o2, o3⟩, hm2⟩ := run_cons hm
    refine g_deed hd2 ?_
    refine q_never (et_is (et_not (et_B (b := fitB m ds[i].1 ds[i].2) (ev_call (ea_cons (ev_var rfl) (ea_cons (ev_var rfl) (ea_cons (ev_var rfl) ea_nil))) fun H1 e Q q E => ⟨m, ds[i].2, ds[i].1, rfl, q⟩))) (by rw [o2]; rfl)) fun H1 e2 => ?_
    refine q_never (et_is (et_and (et_op (ev_var rfl) ev_c rv_eqW) fun _ => et_op (ev_var rfl) ev_c rv_eqI) ?_) fun H2 e3 => ?_
    · by_cases z : ds[i].1 = .op
      · rw [decide_eq_false (fun z2 => o3 ⟨z, z2⟩)]
        simp
      · rw [decide_eq_false z]
        rfl
    · refine s_asg (v := .int (thenE m ds[i].1)) (ev_call (ea_cons (ev_var rfl) (ea_cons (ev_var rfl) ea_nil)) fun H1 e Q q E => ⟨m, ds[i].1, rfl, q⟩) fun H3 e4 => ⟨_, _, _, rfl, hm2, ((e1.trans e2).trans e3).trans e4⟩
  · rintro σ H' ⟨m, y2, y3, eσ, hm, e1⟩
    subst eσ
    rw [List.drop_of_length_le (by rw [hd.len]; exact Nat.le_refl _)] at hm
    cases (Option.some.inj (show some m = some r from hm))
    exact s_retV (ev_var rfl) fun H2 e2 => k H2 (e1.trans e2)

/-! ### ends_ahead -/
abbrev spAhead (K : PySem.W.Frag) (C : Addr) : Sp := fun vs H Q _ => ∃ (x : Addr) (e : Int) (ds : List Deed), vs = [.ref x] ∧ Tg K C H x e ds ∧ ds.length ≤ 4000 ∧ RetP (fun v H2 => ∃ a, v = .ref a ∧ H2 a = some (.lst ((rings e ds).map V.int))) H Q
theorem sc44 : FnScope ["tangle", "found", "ends", "word", "_"] ["tangle"] (defScope (topS 44)) := ⟨rfl, rfl, rfl, by decide +kernel, rfl, by decide +kernel, by decide +kernel⟩
/-- the ring behind i deeds, errors aside -/
def ringAt (e : Int) : List Deed → Int
  | [] => e
  | d :: ds => ringAt (thenE e d.1) ds
theorem rings_snoc : ∀ (e : Int) (ds : List Deed) (d : Deed), rings e (ds ++ [d]) = rings e ds ++ [ringAt e ds]
  | _, [], _ => rfl
  | e, x :: ds, d => congrArg (e :: ·) (rings_snoc _ ds d)
theorem ringAt_snoc : ∀ (e : Int) (ds : List Deed) (d : Deed), ringAt e (ds ++ [d]) = thenE (ringAt e ds) d.1
  | _, [], _ => rfl
  | _, x :: ds, d => ringAt_snoc _ ds d
theorem ok_ends_ahead (D : DefAt K mg "ends_ahead" (topS 44) ["tangle"]) (T : Txt K mg pT pC pM C) : Cal P w K mg base "ends_ahead" ["tangle"] 1 (spAhead K C) := by
  refine D.cal sc44 (fun vs H Q E ⟨x, e, ds, h, _⟩ => by rw [h]; rfl) fun f cdv A outer s H vs Q E hr ⟨x, e, ds, ev, ⟨dx, t, hx, us, hS, hd⟩, hz, k⟩ => ?_
  subst ev
  refine ⟨_, (pss_cons (ps_par (by rfl) sc44.nd (i := 1) (j := 2) rfl rfl (by decide) rfl rfl (pa_cons (pe_lst pa_nil) (pa_cons (pe_fld (pv 0) rfl) pa_nil)) (by rfl))
    (pss_cons (ps_for PassesOwn.never rfl (pi_tup (pe_fld (pv 0) rfl)) (pg_tup rfl (pgs_cons (pg_name (i := 3) sc44.nd rfl (.inl rfl)) (pgs_cons (pg_name (i := 4) sc44.nd rfl (.inl rfl)) pgs_nil)))
    (pss_cons (ps_expr (pe_bm PySem.F.plainAttrs_list PySem.F.slot_list_append PySem.F.type_list_append mt_append (pv 1) (pa_cons (pv 2) pa_nil)))
    (pss_one (ps_set (i := 2) sc44.nd rfl (.inl rfl) (pe_ifExp (pt_cmpR op_eq (pv 3) (pe_globV rfl T.g_OPEN_moves) (nomark _)) (pe_op op_add (pv 2) pe_int) (pe_ifExp (pt_cmpR op_eq (pv 3) (pe_globV rfl T.g_JOIN_moves) (nomark _)) (pe_op op_sub (pv 2) pe_int) (pv 2)))))))
    (pss_one (ps_ret (pv 1))))), ?_⟩
  -- found, ends = [], tangle.ends
  refine ⟨Nat.zero_le _, fun D hD => ?_⟩
  have e0 : Ex H (upd H D (.lst [])) := Ex.new hD
  have hx0 := e0 _ _ hx
  refine (ev_ends T (σ := [some (.ref x), none, none, none, none]) (ev_var rfl) hx0) _ (Ex.refl _) _ fun H1 e1 => ⟨_, _, rfl, ?_⟩
  have hD1 := e1 _ _ (upd_same (H := H) (a := D) (o := .lst []))
  have e01 := e0.trans e1
  refine q_forT (D := { nx := fun _ H' => Q .non H', rt := Q }) (ev_deeds T (ev_var rfl) (e01 _ _ hx)) (ex_t e01 hS) (fun i σ H' => ∃ y3 y4, σ = [some (.ref x), some (.ref D), some (.int (ringAt e (ds.take i))), y3, y4] ∧ Ex H H' ∧ H' D = some (.lst ((rings e (ds.take i)).map V.int)))
    (fun H2 e2 => ⟨none, none, rfl, e01.trans e2, e2 _ _ hD1⟩) (fun i σ H' _ ⟨_, _, _, e2, _⟩ => ex_t e2 hS) ?_ ?_
  · rintro i y σ H' hy ⟨y3, y4, eσ, e2, hl⟩
    subst eσ
    obtain ⟨d, hd1, hd2⟩ := (hd.mono e2).get hy
    have hi : i < ds.length := (List.getElem?_eq_some_iff.mp hd1).1
    have et : ds.take (i + 1) = ds.take i ++ [d] := by rw [List.take_add_one, hd1]; rfl
    refine g_deed hd2 ?_
    refine q_app hl (ev_var rfl) (ev_var rfl) (by rw [List.length_map, rings_length, List.length_take]; omega) fun H2 e3 => ?_
    refine s_asg (v := .int (thenE (ringAt e (ds.take i)) d.1)) (ev_if (et_op (ev_var rfl) ev_c rv_eqW) (fun h => ev_is (ev_op (ev_var rfl) ev_c rv_I0) ?_) fun h => ev_if (et_op (ev_var rfl) ev_c rv_eqW) (fun h2 => ev_is (ev_op (ev_var rfl) ev_c rv_I0) ?_) fun h2 => ev_is (ev_var rfl) ?_) fun H3 e4 => ⟨some (.str (wS d.1)), some (.int d.2), ?_, ?_, ?_⟩
    · rw [of_decide_eq_true h]
      rfl
    · rw [of_decide_eq_true h2]
      rfl
    · have h1 := of_decide_eq_false h
      have h2 := of_decide_eq_false h2
      obtain ⟨a, g⟩ := d
      cases a <;> first | (exact absurd rfl h1) | (exact absurd rfl h2) | rfl
    · rw [et, ringAt_snoc]
      rfl
    · exact (Ex.mut (e2.trans e3) hD).trans e4
    · refine e4 _ _ ?_
      rw [upd_same, et, rings_snoc, List.map_append]
      rfl
  · rintro σ H' ⟨y3, y4, eσ, e2, hl⟩
    subst eσ
    rw [List.take_of_length_le (by rw [hd.len]; exact Nat.le_refl _)] at hl
    exact s_retP (evp_ev (ev_var rfl) fun H2 e3 => ⟨D, rfl, e3 _ _ hl⟩) fun v H2 e3 p => k v H2 (e2.trans e3) p

/-! ### are_crossings -/
abbrev spCross (K : PySem.W.Frag) : Sp := fun vs H Q _ => ∃ (t : Addr) (n : Nat) (ds : List Deed), vs = [.ref t, .int (n : Int)] ∧ TD K H t ds ∧ ds.length ≤ 4000 ∧ RetV (.bl (decide (n ≤ ds.length) && (ds.take n).all fun d => isX d.1)) H Q
abbrev N45 : List Str := ["deeds", "many", "word", "_"]
theorem sc45 : FnScope N45 ["deeds", "many"] (defScope (topS 45)) := ⟨rfl, rfl, rfl, by decide +kernel, rfl, by decide +kernel, by decide +kernel⟩
theorem inC (a : Wd) : inV (.str (wS a)) [.str (wS .ov), .str (wS .un)] = isX a := by cases a <;> decide +kernel
theorem ok_are_crossings (D : DefAt K mg "are_crossings" (topS 45) ["deeds", "many"]) (T : Txt K mg pT pC pM C) : Cal P w K mg base "are_crossings" ["deeds", "many"] 1 (spCross K) := by
  refine D.cal sc45 (fun vs H Q E ⟨t, n, ds, h, _⟩ => by rw [h]; rfl) fun f cdv A outer s H vs Q E hr ⟨t, n, ds, ev, ⟨us, hS, hd⟩, hz, k⟩ => ?_
  subst ev
  refine ⟨_, (pss_one (ps_ret (pe_and (pe_cmpR op_ge (pe_callB call_len_seq (by rfl) T.b_len (by decide +kernel) (pa_cons (pv 0) pa_nil)) (pv 1) (nomark _)) (pe_one (pe_callB (cr_all rfl) (by rfl) T.b_all (by decide +kernel) (pa_cons (pe_lc (own := [("word", 2), ("_", 3)]) (g := gTup K 2 (gCons (gName 2) (gCons (gName 3) gNil))) (te := tOp (rIn K false) (tVar 2) (tC (.ref pC))) rfl sc45.nd (pi_tup (pe_slice sl_tupA (pv 0) po_none (po_some (pv 1)))) (blkOk_by (N := N45) (sc := defScope (topS 45)) (by decide +kernel)) (fun _ _ _ _ _ => (pg_tup rfl (pgs_cons (pg_name (i := 2) sc45.nd rfl (.inl rfl) (.inr rfl)) (pgs_cons (pg_name (i := 3) sc45.nd rfl (.inl rfl) (.inr rfl)) pgs_nil)))) (fun _ _ _ _ _ => pts_nil) (fun _ _ _ _ _ => (pe_cmpR op_in_seq (pv 2) (pe_globV rfl T.g_CROSSINGS_moves) (by rfl)))) pa_nil)))))), ?_⟩
  refine s_retV (ev_is (ev_andV (ev_op (ev_lenT (ev_var rfl) hS) (ev_var rfl) rv_I0) fun _ => ev_all (bs := (ds.take n).map fun d => isX d.1) ?_) ?_) k
  · refine (evp_lcAll (b := true) (xs := us.take n) (evp_slT (ev_var rfl) eo_none (eo_some (ev_var rfl)) hS fun p H2 e hp => ⟨p, rfl, by rw [cut_to] at hp; exact hp⟩) (by rw [List.length_take, hd.len]; omega)
      (fun i y _ => ∃ d, (ds.take n)[i]? = some d ∧ y = .bl (isX d.1)) (fun _ _ _ _ _ r => r) fun i x H1 e hx Qy qy => ?turn).imp fun v H2 _ ⟨p, ys, e1, e2, e3, e4⟩ => ⟨p, e1, ?out⟩
    case turn =>
      obtain ⟨d, h1, h2⟩ := ((hd.take n).mono e).get hx
      refine g_deed h2 ⟨rfl, ?_⟩
      exact (ev_op (ev_var rfl) ev_c (rv_isT (T.t_C H1) rfl (by decide +kernel))) H1 (Ex.refl H1) Qy fun H2 e2 => qy _ H2 e2 ⟨d, h1, by rw [inC]⟩
    case out =>
      rw [e2, List.map_map, eq_map_of (φ := fun d : Deed => V.bl (isX d.1)) (e3.trans (hd.take n).len) fun i y d h1 h2 => ?_]
      · rfl
      · obtain ⟨d', h3, h4⟩ := e4 i y h1
        rw [h2] at h3
        cases h3
        exact h4
  · rw [hd.len, List.all_map]
    have q : decide ((n : Int) ≤ (ds.length : Int)) = decide (n ≤ ds.length) := by
      by_cases z : n ≤ ds.length
      · rw [decide_eq_true z, decide_eq_true (by omega)]
      · rw [decide_eq_false z, decide_eq_false (by omega)]
    rw [q]
    rfl

/-! ### are_neighbours -/
abbrev spNb : Sp := fun vs H Q _ => ∃ a b e : Int, vs = [.int a, .int b, .int e] ∧ (a ≠ b → 0 < e) ∧ RetV (.bl (nb a b e)) H Q
theorem sc46 : FnScope ["one", "other", "ends"] ["one", "other", "ends"] (defScope (topS 46)) := ⟨rfl, rfl, rfl, by decide +kernel, rfl, by decide +kernel, by decide +kernel⟩
theorem inI (x a b : Int) : inV (.int x) [.int a, .int b] = (decide (x = a) || decide (x = b)) := by
  by_cases h1 : x = a
  · subst h1
    simp [inV, eqV]
  · by_cases h2 : x = b
    · subst h2
      simp [inV, eqV]
    · have h1' : ¬ a = x := fun z => h1 z.symm
      have h2' : ¬ b = x := fun z => h2 z.symm
      simp [inV, eqV, h1, h2, h1', h2']
theorem ok_are_neighbours (D : DefAt K mg "are_neighbours" (topS 46) ["one", "other", "ends"]) : Cal P w K mg base "are_neighbours" ["one", "other", "ends"] 1 spNb := by
  refine D.cal sc46 (fun vs H Q E ⟨a, b, e, h, _⟩ => by rw [h]; rfl) fun f cdv A outer s H vs Q E hr ⟨a, b, e, ev, he, k⟩ => ?_
  subst ev
  refine ⟨_, (pss_one (ps_ret (pe_and (pe_cmpR op_ne (pv 0) (pv 1) (nomark _)) (pe_one (pe_cmpR op_in_seq (pe_op op_mod (pe_op op_sub (pv 0) (pv 1)) (pv 2)) (pe_tup (pa_cons pe_int (pa_cons (pe_op op_sub (pv 2) pe_int) pa_nil))) (by rfl)))))), ?_⟩
  refine s_retV (ev_is (ev_andV (ev_op (ev_var rfl) (ev_var rfl) rv_neI) fun h => ev_inU (ev_op (ev_op (ev_var rfl) (ev_var rfl) rv_I0) (ev_var rfl) (rv_I (show 0 < e from he (by simpa using h)))) (eu_tup (ea_cons ev_c (ea_cons (ev_op (ev_var rfl) ev_c rv_I0) ea_nil)) (by show 2 ≤ 100000; decide)) rfl (by rfl)) ?_) k
  rw [inI]
  rfl
end
end K38

/-! What evaluates to data; == and in over data; need_tangle, Tangle's own defs. -/
namespace K38
open PySem PySem.Spec PyProof.Rows L2 Evl

/-! ### data as it stands -/
mutual
theorem Dp.mono {K : PySem.W.Frag} {H H' : Hp} (e : Ex H H') : ∀ (d : PyData) {v : V}, Dp K H v d → Dp K H' v d
  | .none, _, h => by cases h; exact .non
  | .bool b, _, h => by cases h; exact .bl b
  | .int i, _, h => by cases h; exact .int i
  | .str x, _, h => by cases h; exact .str x
  | .list ds, _, h => by
    cases h with
    | lst hs ha => exact .lst (ex_l e hs) (DpAll.mono e ds ha)
  | .tuple ds, _, h => by
    cases h with
    | tup hs ha => exact .tup (ex_t e hs) (DpAll.mono e ds ha)
  | .dict _, _, h => by cases h
theorem DpAll.mono {K : PySem.W.Frag} {H H' : Hp} (e : Ex H H') : ∀ (ds : List PyData) {vs : List V}, DpAll K H vs ds → DpAll K H' vs ds
  | [], _, h => by cases h; exact .nil
  | d :: ds, _, h => by
    cases h with
    | cons a r => exact .cons (Dp.mono e d a) (DpAll.mono e ds r)
end
theorem dD_lay (d : Deed) : (dD d).canLay0 = true := by
  obtain ⟨a, g⟩ := d
  simp only [dD, PyData.canLay0, PyData.canLayAll0, Bool.and_true]
  cases a <;> decide +kernel
theorem dDs_lay : ∀ ds : List Deed, PyData.canLayAll0 (ds.map dD) = true
  | [] => rfl
  | d :: ds => by
    show ((dD d).canLay0 && PyData.canLayAll0 (ds.map dD)) = true
    rw [dD_lay d, dDs_lay ds]
    rfl
theorem dDs_depth : ∀ ds : List Deed, PyData.depthAll (ds.map dD) ≤ 1
  | [] => Nat.zero_le _
  | d :: ds => by
    show max (dD d).depth (PyData.depthAll (ds.map dD)) ≤ 1
    have h := dDs_depth ds
    have h2 : (dD d).depth = 1 := rfl
    omega
theorem shT (ds : List Deed) : SeqAt.shaped (.tuple (ds.map dD)) = true := by
  have h := dDs_depth ds
  have h2 : PyData.depth (.tuple (ds.map dD)) ≤ 64 := by
    show PyData.depthAll (ds.map dD) + 1 ≤ 64
    omega
  show (PyData.canLayAll0 (ds.map dD) && decide (PyData.depth (.tuple (ds.map dD)) ≤ 64)) = true
  rw [dDs_lay, decide_eq_true h2]
  rfl
theorem shD (d : Deed) : SeqAt.shaped (dD d) = true := by
  show ((dD d).canLay0 && decide ((dD d).depth ≤ 64)) = true
  rw [dD_lay]
  rfl
theorem eqD (a b : Deed) : PyData.eqv (dD a) (dD b) = decide (a = b) := by
  obtain ⟨w1, g1⟩ := a
  obtain ⟨w2, g2⟩ := b
  have e : PyData.eqv (dD (w1, g1)) (dD (w2, g2)) = ((wS w1 == wS w2) && ((g1 == g2) && true)) := by simp only [dD, PyData.eqv, PyData.eqvAll]
  rw [e, Bool.and_true]
  by_cases h : w1 = w2
  · subst h
    by_cases h2 : g1 = g2
    · subst h2
      simp
    · have q : (g1 == g2) = false := beq_eq_false_iff_ne.mpr h2
      rw [q, Bool.and_false, decide_eq_false (fun z => h2 (Prod.mk.inj z).2)]
  · have q : (wS w1 == wS w2) = false := beq_eq_false_iff_ne.mpr fun z => h (wS_inj z)
    rw [q, Bool.false_and, decide_eq_false (fun z => h (Prod.mk.inj z).1)]
theorem eqDs : ∀ xs ys : List Deed, PyData.eqvAll (xs.map dD) (ys.map dD) = decide (xs = ys)
  | [], [] => rfl
  | [], _ :: _ => rfl
  | _ :: _, [] => rfl
  | x :: xs, y :: ys => by
    show (PyData.eqv (dD x) (dD y) && PyData.eqvAll (xs.map dD) (ys.map dD)) = _
    rw [eqD, eqDs xs ys]
    by_cases h : x = y
    · subst h
      by_cases h2 : xs = ys
      · subst h2
        simp
      · rw [decide_eq_false h2, Bool.and_false, decide_eq_false (fun z => h2 (List.cons.inj z).2)]
    · rw [decide_eq_false h, Bool.false_and, decide_eq_false (fun z => h (List.cons.inj z).1)]

/-! ### what evaluates to data -/
section
variable {K : PySem.W.Frag} {σ : L2.St} {H H' : Hp} {ta tb te : TE} {d : PyData} {ds : List PyData} {v : V}
abbrev EvDt (K : PySem.W.Frag) (te : TE) (σ : L2.St) (H : Hp) (d : PyData) : Prop := EvP te σ H fun v H2 => Dp K H2 v d
def EvDA (K : PySem.W.Frag) (ta : TA) (σ : L2.St) (H : Hp) (ds : List PyData) : Prop := ∀ H1, Ex H H1 → ∀ Q : List V → Hp → Prop, (∀ vs H2, Ex H1 H2 → DpAll K H2 vs ds → Q vs H2) → ta σ H1 Q
theorem evd (h : Ev te σ H v) (hd : ∀ H2, Ex H H2 → Dp K H2 v d) : EvDt K te σ H d := evp_ev h hd
theorem evd_nil : EvDA K tNil σ H [] := fun H1 _ _ q => q [] H1 (Ex.refl H1) .nil
theorem evd_cons {tr : TA} (h : EvDt K te σ H d) (hr : EvDA K tr σ H ds) : EvDA K (tCons te tr) σ H (d :: ds) := fun H1 e Q q =>
  h H1 e _ fun v H2 e2 p => hr H2 (e.trans e2) _ fun vs H3 e3 ps => q _ H3 (e2.trans e3) (.cons (Dp.mono e3 d p) ps)
theorem DpAll.len : ∀ {vs : List V} {ds : List PyData}, DpAll K H vs ds → vs.length = ds.length
  | _, _, .nil => rfl
  | _, _, .cons _ r => congrArg Nat.succ (DpAll.len r)
theorem evd_tup {ta : TA} (h : EvDA K ta σ H ds) (hl : ds.length ≤ 100000) : EvDt K (tTup ta) σ H (.tuple ds) := fun H1 e Q q =>
  h H1 e _ fun vs H2 e2 ps => ⟨sz_of (by rw [DpAll.len ps]; exact hl), fun p hp => q _ _ (e2.trans (Ex.new hp)) (.tup (st_of upd_same) (DpAll.mono (Ex.new hp) ds ps))⟩
theorem evd_lst {ta : TA} (h : EvDA K ta σ H ds) (hl : ds.length ≤ 100000) : EvDt K (tLst ta) σ H (.list ds) := fun H1 e Q q =>
  h H1 e _ fun vs H2 e2 ps => ⟨sz_of (by rw [DpAll.len ps]; exact hl), fun p hp => q _ _ (e2.trans (Ex.new hp)) (.lst (sq_of upd_same) (DpAll.mono (Ex.new hp) ds ps))⟩
theorem ev_eqD {e : PyData} (ha : EvDt K ta σ H d) (hb : EvDt K tb σ H e) (s1 : SeqAt.shaped d = true) (s2 : SeqAt.shaped e = true) : Ev (tOp (rEqD K) ta tb) σ H (.bl (PyData.eqv d e)) := fun H1 k Q q =>
  ha H1 k _ fun v H2 e2 p => hb H2 (k.trans e2) _ fun u H3 e3 r => ⟨d, e, Dp.mono e3 d p, r, s1, s2, q H3 (e2.trans e3)⟩
theorem ev_neD {e : PyData} (ha : EvDt K ta σ H d) (hb : EvDt K tb σ H e) (s1 : SeqAt.shaped d = true) (s2 : SeqAt.shaped e = true) : Ev (tOp (rNeD K) ta tb) σ H (.bl (!PyData.eqv d e)) := fun H1 k Q q =>
  ha H1 k _ fun v H2 e2 p => hb H2 (k.trans e2) _ fun u H3 e3 r => ⟨d, e, Dp.mono e3 d p, r, s1, s2, q H3 (e2.trans e3)⟩
/-- x not in a tuple of data -/
def rNiT (K : PySem.W.Frag) : R2 := fun x y H Q => ∃ d ds, Dp K H x d ∧ Dp K H y (.tuple ds) ∧ SeqAt.shaped d = true ∧ SeqAt.shaped (.tuple ds) = true ∧ Q (.bl (!ds.any fun z => PyData.eqv z d)) H
theorem op_niT {X : Cx} (hu : X.A.units + 65 < cLine) : OpR X (compareOp .NotIn) (rNiT X.K) := by
  intro pins s σ H x y v u Q I rx ry ⟨d, ds, hd, he, sd, se, q⟩
  obtain ⟨as, r1⟩ := Dp.reads I d x v hd rx
  obtain ⟨bs, r2⟩ := Dp.reads I (.tuple ds) y u he ry
  exact SeqAt.notIn_tuple_reads r2 r1 (SeqAt.canLay_of_shaped se) (SeqAt.canLay_of_shaped sd) (room_in_shaped sd hu) ⟨.bl _, H, I, rfl, q⟩
theorem ev_niT (ha : EvDt K ta σ H d) (hb : EvDt K tb σ H (.tuple ds)) (s1 : SeqAt.shaped d = true) (s2 : SeqAt.shaped (.tuple ds) = true) : Ev (tOp (rNiT K) ta tb) σ H (.bl (!ds.any fun z => PyData.eqv z d)) := fun H1 k Q q =>
  ha H1 k _ fun v H2 e2 p => hb H2 (k.trans e2) _ fun u H3 e3 r => ⟨d, ds, Dp.mono e3 d p, r, s1, s2, q H3 (e2.trans e3)⟩
end

/-! ### a tuple stays where an instance is written -/
section
variable {K : PySem.W.Frag} {H : Hp} {x C dx : Addr} {fs : List (Str × V)} {o : HO}
theorem SqT.ins {p : Addr} {xs : List V} (hx : H x = some (.ins C dx fs)) (h : SqT K H p xs) : SqT K (upd H x o) p xs := by
  have ne : ∀ u, H p = some u → u ≠ .ins C dx fs → p ≠ x := fun u e n z => by
    rw [z, hx] at e
    exact n (Option.some.inj e).symm
  rcases h with (h | ⟨ob, h⟩) | h
  · exact .inl (.inl (by rw [upd_ne (ne _ h fun z => nomatch z)]; exact h))
  · exact .inl (.inr ⟨ob, by rw [upd_ne (ne _ h fun z => nomatch z)]; exact h⟩)
  · exact .inr h
theorem TD.ins {t : Addr} {ds : List Deed} (hx : H x = some (.ins C dx fs)) (h : TD K H t ds) : TD K (upd H x o) t ds :=
  let ⟨vs, a, b⟩ := h
  ⟨vs, SqT.ins hx a, Paired.mapP b fun _ _ ⟨p, q, r⟩ => ⟨p, q, SqT.ins hx r⟩⟩
/-- x.f = e -/
theorem q_fld {σ : L2.St} {tv ta : TE} {tz : TS} {D : Ends} {f : Str} {P : V → Hp → Prop} (hv : EvP tv σ H P) (ha : Ev ta σ H (.ref x)) (hx : H x = some (.ins C dx fs)) (cl : Cls K C) (n : NoAttr K C f) (hl : fs.length < 1000)
    (k : ∀ y H1 H2, Ex H H1 → P y H1 → Ex H1 H2 → tz D σ (upd H2 x (.ins C dx (putF f y fs)))) : tSeq (sFld K ta tv f) tz D σ H :=
  hv H (Ex.refl H) _ fun y H1 e1 p => ha H1 e1 _ fun H2 e2 => ⟨x, C, dx, fs, rfl, e2 _ _ (e1 _ _ hx), cl, n, hl, k y H1 H2 e1 p e2⟩
end

/-! ### a class that is made -/
structure CalC (P : Program) (w : World) (K : PySem.W.Frag) (mg : Str → Option Value) (base : Heap) (x : Str) (C : Addr) (ps : List Str) (k : Nat) (sp : Sp) : Prop where
  ex : ∃ f fd, Mk K C f ∧ FnOk P w K mg base CX0 k f fd ps sp ∧ mg x = some (.ref C) ∧ Binds K fd ps []
theorem pe_mk {X : Cx} {x : Str} {C : Addr} {ps : List Str} {k : Nat} {sp : Sp} {e : Expr} {es : List Expr} {t : TA} {p pos : Pos} (c : CalC X.prog X.w X.K X.mg X.base x C ps k sp) (hr : Room (k + 1) X.A) (hg : Gl X x) (ha : PA X (e :: es) t)
    (hdb : (x == ("__debug__" : Str)) = false := by decide) (he : starEach (e :: es) X.env = (false, eval e X.env) :: starEach es X.env := by rfl) (hpl : (backTo pos (starEach es X.env)).any (·.1) = false := by rfl) :
    PE X (.Call (.Name x p) (e :: es) [] pos) (tMake C sp [] E0 t) := by
  obtain ⟨f, fd, M, F, hm, hb⟩ := c.ex
  exact pe_make M F hr hg hm hb .nil pass0 ha hdb he hpl
/-- a method of the class as it stands -/
structure MethAt (K : PySem.W.Frag) (C : Addr) (m qual : Str) (st : Stmt) (ps : List Str) (f : Addr) (fd : FuncData) : Prop where
  fn : Fun K m qual st f fd
  is : PySem.W.findIn K (.ref C) m = some (some (.ref f))
  isF : PySem.W.isFn K (.ref f) = true
  b : Binds K fd ps []

section
variable {P : Program} {w : World} {K : PySem.W.Frag} {mg : Str → Option Value} {base : Heap} {pT pC pM C : Addr}
/-! ### Tangle.__init__ -/
abbrev psInit : List Str := ["self", "ends", "deeds"]
structure Good (e : Int) (ds : List Deed) : Prop where
  lo : 0 ≤ e
  hi : e ≤ 16
  even : e % 2 = 0
  len : ds.length ≤ 4000
  run : run e ds = some 0
abbrev spInit (K : PySem.W.Frag) (C : Addr) : Sp := fun vs H Q _ => ∃ (H0 : Hp) (x dx a : Addr) (e : Int) (ds : List Deed), vs = [.ref x, .int e, .ref a] ∧ Ex H0 H ∧ H0 x = none ∧ H x = some (.ins C dx []) ∧ (TD K H0 a ds ∨ LD K H0 a ds) ∧ Good e ds ∧
  ∀ H2, Ex H0 H2 → Tg K C H2 x e ds → Q .non H2
abbrev sInit : Stmt := inClass (topS 37) 0
theorem scInit : FnScope psInit psInit (defScope sInit) := ⟨rfl, rfl, rfl, by decide +kernel, rfl, by decide +kernel, by decide +kernel⟩
theorem tfl {e : Int} : (putF "ends" (.int e) ([] : List (Str × V))).length < 1000 := by show 1 < 1000; decide
theorem ok_init {f : Addr} {fd : FuncData} (M : MethAt K C "__init__" "Tangle.__init__" sInit psInit f fd) (T : Txt K mg pT pC pM C) (c_is_within : Cal P w K mg base "is_within" ["value", "least", "most"] 2 spWithin) (c_told_deeds : Cal P w K mg base "told_deeds" ["value"] 4 (spTold K))
    (c_ends_behind : Cal P w K mg base "ends_behind" ["ends", "deeds"] 2 (spEndsB K)) : FnOk P w K mg base CX0 5 f fd psInit (spInit K C) := by
  refine M.fn.ok scInit (fun vs H Q E ⟨_, x, dx, a, e, ds, h, _⟩ => by rw [h]; rfl) fun cdv A outer s H vs Q E hr ⟨H0, x, dx, a, e, ds, ev, e0, hx0, hx, hd, g, k⟩ => ?_
  subst ev
  refine ⟨_, (pss_cons (ps_if (PW.pt (pw_or (pt_not (pt_val (pe_cal c_is_within (hr.mono (by decide)) (by rfl) (pa_cons (pv 1) (pa_cons pe_int (pa_cons (pe_globV rfl T.g_MOST_RIM) pa_nil)))))) (pw_or1 (pt_cmpR op_eq (pe_op op_mod (pv 1) pe_int) pe_int (nomark _)))))
    (pss_one ps_never)
    pss_nil)
    (pss_cons (ps_fld (pv 0) (pv 1) rfl)
    (pss_cons (ps_fld (pv 0) (pe_cal c_told_deeds (hr.mono (by decide)) (by rfl) (pa_cons (pv 2) pa_nil)) rfl)
    (pss_one (ps_if (pt_cmpR op_gt (pe_cal c_ends_behind (hr.mono (by decide)) (by rfl) (pa_cons (pv 1) (pa_cons (pe_fld (pv 0) rfl) pa_nil))) pe_int (nomark _))
    (pss_one ps_never)
    pss_nil))))), ?_⟩
  refine q_never (et_is (et_or (et_not (et_B (b := decide (0 ≤ e) && decide (e ≤ 16)) (ev_call (ea_cons (ev_var rfl) (ea_cons ev_c (ea_cons ev_c ea_nil))) fun H1 e1 Q q E => ⟨e, 0, 16, rfl, q⟩)))
    fun _ => et_op (ev_op (ev_var rfl) ev_c (rv_I (show (0 : Int) < 2 by decide))) ev_c rv_eqI) (by simp [g.lo, g.hi, g.even])) fun H1 e1 => ?_
  -- self.ends = ends
  refine q_fld (P := fun y _ => y = .int e) (evp_ev (ev_var rfl) fun _ _ => rfl) (ev_var rfl) (e1 _ _ hx) T.cl T.nE (by show 0 < 1000; decide) fun y H2 H3 e2 ey e3 => ?_
  subst ey
  have e03 : Ex H0 H3 := ((e0.trans e1).trans e2).trans e3
  have eA := Ex.mut (o := .ins C dx (putF "ends" (.int e) [])) e03 hx0
  -- self.deeds = told_deeds(deeds)
  refine q_fld (K := K) (C := C) (dx := dx) (fs := putF "ends" (.int e) []) (evp_call (P := fun v H2 => ∃ t, v = .ref t ∧ TD K H2 t ds) (ea_cons (ev_var rfl) ea_nil) fun H4 e4 Q q => ⟨a, ds, rfl, ?_, g.len, fun d hm => run_gaps _ _ _ g.run d hm, q⟩) (ev_var rfl) upd_same T.cl T.nD tfl fun y H4 H5 e4 hy e5 => ?_
  · exact hd.imp (fun h => h.mono (eA.trans e4)) fun h => h.mono (eA.trans e4)
  · obtain ⟨t, ey, ht⟩ := hy
    subst ey
    have hx5 := (e4.trans e5) _ _ (upd_same (H := H3) (a := x) (o := .ins C dx (putF "ends" (.int e) [])))
    have ht6 : TD K (upd H5 x (.ins C dx (tF e t))) t ds := TD.ins hx5 (ht.mono e5)
    have eB : Ex H0 (upd H5 x (.ins C dx (tF e t))) := Ex.mut ((eA.trans e4).trans e5) hx0
    refine s_never (et_is (et_op (ev_call (z := .int 0) (ea_cons (ev_var rfl) (ea_cons (ev_deeds T (ev_var rfl) upd_same) ea_nil)) fun H6 e6 Q q E => ⟨e, 0, t, ds, rfl, ht6.mono e6, g.run, q⟩) ev_c rv_I0) rfl) fun H6 e6 => ?_
    exact k H6 (eB.trans e6) ⟨dx, t, e6 _ _ upd_same, ht6.mono e6⟩
/-- Tangle(ends, deeds) -/
theorem evp_mk {σ : L2.St} {H : Hp} {ta : TA} {e : Int} {a : Addr} {ds : List Deed} (h : EvA ta σ H [.int e, .ref a]) (hd : TD K H a ds ∨ LD K H a ds) (g : Good e ds) : EvP (tMake C (spInit K C) [] E0 ta) σ H fun v H2 => ∃ x, v = .ref x ∧ Tg K C H2 x e ds := fun H1 e1 Q q =>
  h H1 e1 _ fun H2 e2 x dx hx hdx ne => by
    have s : Ex H2 (upd (upd H2 dx (.own x)) x (.ins C dx [])) := fun b o eb => by
      rw [upd_ne (ne_of_none eb hx), upd_ne (ne_of_none eb hdx)]
      exact eb
    exact ⟨H2, x, dx, a, e, ds, rfl, s, hx, upd_same, hd.imp (fun h => h.mono (e1.trans e2)) (fun h => h.mono (e1.trans e2)), g, fun H3 e3 t => ⟨rfl, q _ H3 (e2.trans e3) ⟨x, rfl, t⟩⟩⟩

/-! ### Tangle.__eq__ -/
abbrev psEq : List Str := ["self", "other"]
abbrev spEqT (K : PySem.W.Frag) (C : Addr) : Sp := fun vs H Q _ => ∃ (x y : Addr) (e : Int) (ds : List Deed), vs = [.ref x, .ref y] ∧ Tg K C H x e ds ∧ Tg K C H y e ds ∧ RetV (.bl true) H Q
abbrev sEq : Stmt := inClass (topS 37) 1
theorem scEq : FnScope psEq psEq (defScope sEq) := ⟨rfl, rfl, rfl, by decide +kernel, rfl, by decide +kernel, by decide +kernel⟩
theorem ok_eq {f : Addr} {fd : FuncData} (M : MethAt K C "__eq__" "Tangle.__eq__" sEq psEq f fd) (T : Txt K mg pT pC pM C) : FnOk P w K mg base CX0 1 f fd psEq (spEqT K C) := by
  refine M.fn.ok scEq (fun vs H Q E ⟨x, y, e, ds, h, _⟩ => by rw [h]; rfl) fun cdv A outer s H vs Q E hr ⟨x, y, e, ds, ev, ⟨dx, t, hx, ht⟩, ⟨dy, u, hy, hu⟩, k⟩ => ?_
  subst ev
  refine ⟨_, (pss_one (ps_ret (pe_and (pe_callB call_isi (by rfl) T.b_isinstance (by decide +kernel) (pa_cons (pv 1) (pa_cons (pe_globV rfl T.g_Tangle) pa_nil))) (pe_and (pe_cmpR op_eq (pe_fld (pv 0) rfl) (pe_fld (pv 1) rfl) (nomark _)) (pe_one (pe_cmpR (op_eqD hr.units) (pe_fld (pv 0) rfl) (pe_fld (pv 1) rfl) (nomark _))))))), ?_⟩
  refine s_retV (ev_is (ev_andV (ev_cb (ea_cons (ev_var rfl) (ea_cons ev_c ea_nil)) (rc_isi (b := true) (fun H1 e1 => .base (.ins (e1 _ _ hy) T.cl T.aC T.aG T.aT T.aM)) (.own C) T.kC))
    fun _ => ev_andV (ev_op (ev_ends T (ev_var rfl) hx) (ev_ends T (ev_var rfl) hy) rv_eqI)
    fun _ => ev_eqD (evd (ev_deeds T (ev_var rfl) hx) fun H2 e2 => (ht.mono e2).dp) (evd (ev_deeds T (ev_var rfl) hy) fun H2 e2 => (hu.mono e2).dp) (shT ds) (shT ds)) ?_) k
  have q : PyData.eqv (.tuple (ds.map dD)) (.tuple (ds.map dD)) = true := by
    show PyData.eqvAll (ds.map dD) (ds.map dD) = true
    rw [eqDs]
    simp
  rw [q]
  simp

/-! ### need_tangle -/
structure CalD (P : Program) (w : World) (K : PySem.W.Frag) (mg : Str → Option Value) (base : Heap) (x : Str) (ps : List Str) (dvs : List V) (k : Nat) (sp : Sp) : Prop where
  ex : ∃ f fd ds, FnOk P w K mg base CX0 k f fd ps sp ∧ mg x = some (.ref f) ∧ PySem.W.keepIn K (.ref f) = true ∧ Vals dvs ds ∧ Binds K fd ps ds
theorem pe_calD {X : Cx} {x : Str} {ps : List Str} {dvs : List V} {k : Nat} {sp : Sp} {e : Expr} {es : List Expr} {t : TA} {p pos : Pos} (c : CalD X.prog X.w X.K X.mg X.base x ps dvs k sp) (hr : Room k X.A) (hg : Gl X x) (ha : PA X (e :: es) t) (hdb : (x == ("__debug__" : Str)) = false := by decide)
    (he : starEach (e :: es) X.env = (false, eval e X.env) :: starEach es X.env := by rfl) (hpl : (backTo pos (starEach es X.env)).any (·.1) = false := by rfl) : PE X (.Call (.Name x p) (e :: es) [] pos) (tCall sp dvs E0 t) := by
  obtain ⟨f, fd, ds, F, hm, hk, hv, hb⟩ := c.ex
  exact pe_call F hr hg hm hk hb hv pass0 ha hdb he hpl
abbrev spNeedT (K : PySem.W.Frag) (C : Addr) : Sp := fun vs H Q _ => ∃ (x dx : Addr) (fs : List (Str × V)) (p : V), vs = [.ref x, p] ∧ H x = some (.ins C dx fs) ∧ RetV .non H Q
theorem sc38 : FnScope ["value", "part"] ["value", "part"] (defScope (topS 38)) := ⟨rfl, rfl, rfl, by decide +kernel, rfl, by decide +kernel, by decide +kernel⟩
theorem ok_need_tangle {f : Addr} {fd : FuncData} (F : FunD K "need_tangle" "need_tangle" (defArgs (topS 38)) (defBody (topS 38)) (defScope (topS 38)) [.str "tangle"] [] f fd) (hm : mg "need_tangle" = some (.ref f)) (T : Txt K mg pT pC pM C) :
    CalD P w K mg base "need_tangle" ["value", "part"] [.str "tangle"] 1 (spNeedT K C) := by
  obtain ⟨ds, hv, hb⟩ := F.binds1 (ps := ["value", "part"]) 1 0 (by simp) rfl fun T kV doc pm an cdv ct us its h1 h2 => by
    match us, its, h1, h2 with
    | [_], [_], _, _ => exact ⟨_, rfl, rfl⟩
  refine ⟨f, fd, ds, F.ok sc38 (fun vs H Q E ⟨x, dx, fs, p, h, _⟩ => by rw [h]; rfl) (fun cdv A outer s H vs Q E hr ⟨x, dx, fs, p, ev, hx, k⟩ => ?_), hm, F.kp, hv, hb⟩
  subst ev
  refine ⟨_, (PSs.nox (pss_one (ps_if (pt_not (pt_val (pe_callB call_isi (by rfl) T.b_isinstance (by decide +kernel) (pa_cons (pv 0) (pa_cons (pe_globV rfl T.g_Tangle) pa_nil)))))
    (pss_one ps_never)
    pss_nil))), ?_⟩
  exact s_never (et_is (et_not (et_B (ev_cb (ea_cons (ev_var rfl) (ea_cons ev_c ea_nil)) (rc_isi (b := true) (fun H1 e1 => .base (.ins (e1 _ _ hx) T.cl T.aC T.aG T.aT T.aM)) (.own C) T.kC)))) rfl) k
end
end K38

/-! The program's moves: by_undo, by_far, by_three, by_curl, by_bend, behind_move. -/
namespace K38
open PySem PySem.Spec PyProof.Rows L2 Evl StX

def OptAt (K : PySem.W.Frag) (r : Option (List Deed)) : V → Hp → Prop := fun v H => match r with
  | none => v = .non
  | some ds => ∃ t, v = .ref t ∧ TD K H t ds
section
variable {K : PySem.W.Frag} {σ : L2.St} {H H' : Hp} {ta tb te : TE} {v y z : V} {P : V → Hp → Prop} {xs ys : List V}
/-- arguments with a star -/
theorem ea_star {tr : TA} (h : EvP te σ H fun v H2 => ∃ p, v = .ref p ∧ SqT K H2 p xs) (hr : EvA tr σ H ys) : EvA (tStar K te tr) σ H (xs ++ ys) := fun H1 e Q q =>
  h H1 e _ fun v H2 e2 ⟨p, ev, hs⟩ => ⟨p, xs, ev, .inl hs, hr H2 (e.trans e2) _ fun H3 e3 => q H3 (e2.trans e3)⟩
/-- arguments that have a property together -/
def EvAP (ta : TA) (σ : L2.St) (H : Hp) (S : List V → Hp → Prop) : Prop := ∀ H1, Ex H H1 → ∀ Q : List V → Hp → Prop, (∀ vs H2, Ex H1 H2 → S vs H2 → Q vs H2) → ta σ H1 Q
theorem eap_nil {S : List V → Hp → Prop} (h : ∀ H1, Ex H H1 → S [] H1) : EvAP tNil σ H S := fun H1 e Q q => q [] H1 (Ex.refl H1) (h H1 e)
theorem eap_cons {S : List V → Hp → Prop} {tr : TA} (h : EvP te σ H P) (hr : ∀ v H1, Ex H H1 → P v H1 → EvAP tr σ H1 fun vr H2 => S (v :: vr) H2) : EvAP (tCons te tr) σ H S := fun H1 e Q q =>
  h H1 e _ fun v H2 e2 p => hr v H2 (e.trans e2) p H2 (Ex.refl H2) _ fun vr H3 e3 s => q _ H3 (e2.trans e3) s
theorem eap_v {S : List V → Hp → Prop} {tr : TA} (h : Ev te σ H v) (hr : ∀ H1, Ex H H1 → EvAP tr σ H1 fun vr H2 => S (v :: vr) H2) : EvAP (tCons te tr) σ H S := fun H1 e Q q =>
  h H1 e _ fun H2 e2 => hr H2 (e.trans e2) H2 (Ex.refl H2) _ fun vr H3 e3 s => q _ H3 (e2.trans e3) s
theorem evp_callA {S : List V → Hp → Prop} {sp : Sp} {dvs : List V} {E : XK} {ta : TA} (h : EvAP ta σ H S) (hs : ∀ vs H1, Ex H H1 → S vs H1 → ∀ Q : VK, RetP P H1 Q → sp (vs ++ dvs) H1 Q E) : EvP (tCall sp dvs E ta) σ H P := fun H1 e Q q =>
  h H1 e _ fun vs H2 e2 s => hs vs H2 (e.trans e2) s Q fun v H3 e3 p => q v H3 (e2.trans e3) p
theorem ev_opP {r : R2} (ha : EvP ta σ H P) (hb : ∀ v H2, Ex H H2 → P v H2 → Ev tb σ H2 y) (hr : ∀ v H2, Ex H H2 → P v H2 → ∀ H3, Ex H2 H3 → RV r v y H3 z) : Ev (tOp r ta tb) σ H z := fun H1 e Q q =>
  ha H1 e _ fun v H2 e2 p => hb v H2 (e.trans e2) p H2 (Ex.refl H2) _ fun H3 e3 => hr v H2 (e.trans e2) p H3 e3 H3 (Ex.refl H3) Q fun H4 e4 => q H4 ((e2.trans e3).trans e4)
end
theorem Room.u65 {k : Nat} {A : Around} (r : Room k A) : A.units + 65 < cLine := by
  have := r.un
  omega
/-- a tuple's tail -/
theorem TD.drop {K : PySem.W.Frag} {H : Hp} {p : Addr} {us : List V} {ds : List Deed} {n : Nat} (h : SqT K H p (us.drop n)) (hd : DsAt K H us ds) : TD K H p (ds.drop n) := ⟨_, h, hd.drop n⟩

section
variable {K : PySem.W.Frag} {H : Hp} {t : Addr} {d1 d2 d3 : Deed} {r : List Deed}
theorem TD.one (h : TD K H t (d1 :: r)) : ∃ p1 us, SqT K H t (.ref p1 :: us) ∧ SqT K H p1 (dV d1) ∧ DsAt K H us r := by
  obtain ⟨us, hS, hd⟩ := h
  cases hd with
  | cons a hd =>
    obtain ⟨p1, e, h1⟩ := a
    subst e
    exact ⟨p1, _, hS, h1, hd⟩
theorem TD.two (h : TD K H t (d1 :: d2 :: r)) : ∃ p1 p2 us, SqT K H t (.ref p1 :: .ref p2 :: us) ∧ SqT K H p1 (dV d1) ∧ SqT K H p2 (dV d2) ∧ DsAt K H us r := by
  obtain ⟨p1, us, hS, h1, hd⟩ := h.one
  cases hd with
  | cons a hd =>
    obtain ⟨p2, e, h2⟩ := a
    subst e
    exact ⟨p1, p2, _, hS, h1, h2, hd⟩
theorem TD.three (h : TD K H t (d1 :: d2 :: d3 :: r)) : ∃ p1 p2 p3 us, SqT K H t (.ref p1 :: .ref p2 :: .ref p3 :: us) ∧ SqT K H p1 (dV d1) ∧ SqT K H p2 (dV d2) ∧ SqT K H p3 (dV d3) ∧ DsAt K H us r := by
  obtain ⟨p1, p2, us, hS, h1, h2, hd⟩ := h.two
  cases hd with
  | cons a hd =>
    obtain ⟨p3, e, h3⟩ := a
    subst e
    exact ⟨p1, p2, p3, _, hS, h1, h2, h3, hd⟩
end

section
variable {P : Program} {w : World} {K : PySem.W.Frag} {mg : Str → Option Value} {base : Heap} {pT pC pM C : Addr}
/-- what each of the five asks and promises -/
abbrev spBy (K : PySem.W.Frag) (f : List Deed → Int → Option (List Deed)) : Sp := fun vs H Q _ => ∃ (t : Addr) (e : Int) (d : Deed) (ds : List Deed), vs = [.ref t, .int e] ∧ TD K H t (d :: ds) ∧ (d :: ds).length ≤ 4000 ∧ (isX d.1 = true → 0 < e) ∧ RetP (OptAt K (f (d :: ds) e)) H Q
theorem two_X (d1 d2 : Deed) (r : List Deed) : (decide (2 ≤ (d1 :: d2 :: r).length) && ((d1 :: d2 :: r).take 2).all fun d => isX d.1) = (isX d1.1 && isX d2.1) := by
  simp
theorem three_X (d1 d2 d3 : Deed) (r : List Deed) : (decide (3 ≤ (d1 :: d2 :: d3 :: r).length) && ((d1 :: d2 :: d3 :: r).take 3).all fun d => isX d.1) = (isX d1.1 && (isX d2.1 && isX d3.1)) := by
  simp
/-- the value of are_crossings at the deeds in slot 0 -/
theorem ev_cross {σ : L2.St} {H : Hp} {t : Addr} {ds : List Deed} {b : Bool} (n : Nat) (h0 : σ[0]? = some (some (.ref t))) (hd : TD K H t ds) (hl : ds.length ≤ 4000) (hb : (decide (n ≤ ds.length) && (ds.take n).all fun d => isX d.1) = b) :
    Ev (tCall (spCross K) [] E0 (tCons (tVar 0) (tCons (tC (.int (n : Int))) tNil))) σ H (.bl b) :=
  ev_call (ea_cons (ev_var h0) (ea_cons ev_c ea_nil)) fun H1 e Q q E => ⟨t, n, ds, rfl, hd.mono e, hl, by rw [hb]; exact q⟩

/-! ### by_undo -/
theorem sc47 : FnScope ["deeds", "ends"] ["deeds", "ends"] (defScope (topS 47)) := ⟨rfl, rfl, rfl, by decide +kernel, rfl, by decide +kernel, by decide +kernel⟩
theorem undo_eq (d1 d2 : Deed) (r : List Deed) (e : Int) : byUndo (d1 :: d2 :: r) e = if ((!(isX d1.1 && isX d2.1)) || ((!decide (d1.2 = d2.2)) || decide (d1.1 = d2.1))) = true then none else some r := by
  show (if isX d1.1 = true ∧ isX d2.1 = true ∧ d1.2 = d2.2 ∧ d1.1 ≠ d2.1 then some r else none) = _
  cases isX d1.1 <;> cases isX d2.1 <;> by_cases h : d1.2 = d2.2 <;> by_cases h2 : d1.1 = d2.1 <;> simp [h, h2]
theorem ok_by_undo (D : DefAt K mg "by_undo" (topS 47) ["deeds", "ends"]) (c_are_crossings : Cal P w K mg base "are_crossings" ["deeds", "many"] 1 (spCross K)) : Cal P w K mg base "by_undo" ["deeds", "ends"] 2 (spBy K byUndo) := by
  refine D.cal sc47 (fun vs H Q E ⟨t, e, d, ds, h, _⟩ => by rw [h]; rfl) fun f cdv A outer s H vs Q E hr ⟨t, e, d1, ds, ev, hT, hl, _, k⟩ => ?_
  subst ev
  refine ⟨_, (pss_cons (ps_if (PW.pt (pw_or (pt_not (pt_val (pe_cal c_are_crossings (hr.mono (by decide)) (by rfl) (pa_cons (pv 0) (pa_cons pe_int pa_nil))))) (pw_or (pt_cmpR op_ne (pe_ix ix_tup (pe_ix ix_tup (pv 0) pe_int (fun _ _ => rfl)) pe_int (fun _ _ => rfl)) (pe_ix ix_tup (pe_ix ix_tup (pv 0) pe_int (fun _ _ => rfl)) pe_int (fun _ _ => rfl)) (nomark _)) (pw_or1 (pt_cmpR op_eq (pe_ix ix_tup (pe_ix ix_tup (pv 0) pe_int (fun _ _ => rfl)) pe_int (fun _ _ => rfl)) (pe_ix ix_tup (pe_ix ix_tup (pv 0) pe_int (fun _ _ => rfl)) pe_int (fun _ _ => rfl)) (nomark _))))))
    (pss_one (ps_ret pe_non))
    pss_nil)
    (pss_one (ps_ret (pe_slice sl_tupA (pv 0) (po_some pe_int) po_none)))), ?_⟩
  cases ds with
  | nil => exact q_when (b := true) (et_or (a := true) (b := false) (et_not (et_B (ev_cross (b := false) 2 rfl hT hl rfl))) fun z => nomatch z) (fun _ H1 e1 => s_retP (evp_ev ev_c fun _ _ => rfl) (k.go e1)) fun z => nomatch z
  | cons d2 r =>
    obtain ⟨p1, p2, us, hS, h1, h2, hd⟩ := hT.two
    rw [undo_eq] at k
    refine q_when (et_or (et_not (et_B (ev_cross 2 rfl hT hl (two_X d1 d2 r)))) fun _ => et_or (et_op (ev_op (ev_op (ev_var rfl) ev_c (rv_ixT hS at0)) ev_c (rv_ixT h1 at1)) (ev_op (ev_op (ev_var rfl) ev_c (rv_ixT hS at1)) ev_c (rv_ixT h2 at1)) rv_neI)
      fun _ => et_op (ev_op (ev_op (ev_var rfl) ev_c (rv_ixT hS at0)) ev_c (rv_ixT h1 at0)) (ev_op (ev_op (ev_var rfl) ev_c (rv_ixT hS at1)) ev_c (rv_ixT h2 at0)) rv_eqW) (fun h H1 e1 => ?_) fun h H1 e1 => ?_
    · rw [if_pos h] at k
      exact s_retP (evp_ev ev_c fun _ _ => rfl) (k.go e1)
    · rw [if_neg (by rw [h]; exact Bool.false_ne_true)] at k
      refine s_retP (evp_slT (ev_var rfl) (eo_some ev_c) eo_none (ex_t e1 hS) fun p H2 e2 hp => ⟨p, rfl, ?_⟩) (k.go e1)
      exact ⟨_, hp, by rw [show cutV (.ref p1 :: .ref p2 :: _) (some 2) none = _ from cut_from _ 2]; exact hd.mono (e1.trans e2)⟩
end
end K38

/-! by_far, by_three, by_curl, by_bend, behind_move. -/
namespace K38
open PySem PySem.Spec PyProof.Rows L2 Evl StX
section
variable {P : Program} {w : World} {K : PySem.W.Frag} {mg : Str → Option Value} {base : Heap} {pT pC pM C : Addr}
/-- the deeds from the n-th on, of a tuple in slot 0 -/
theorem sl_from {σ : L2.St} {H : Hp} {t : Addr} {us : List V} (n : Nat) (h0 : σ[0]? = some (some (.ref t))) (hS : SqT K H t us) : EvP (tSl (rSlA K) (tVar 0) (tPart (tC (.int (n : Int)))) tNoPart) σ H fun v H2 => ∃ p, v = .ref p ∧ SqT K H2 p (us.drop n) :=
  evp_slT (ev_var h0) (eo_some ev_c) eo_none hS fun p H2 e hp => ⟨p, rfl, by rw [← cut_from us n]; exact hp⟩
/-- the deed behind the first one, as a tuple of none or one -/
theorem sl_next {σ : L2.St} {H : Hp} {t : Addr} {ds : List Deed} (h0 : σ[0]? = some (some (.ref t))) (hT : TD K H t ds) : EvDt K (tSl (rSlA K) (tVar 0) (tPart (tC (.int ((1 : Nat) : Int)))) (tPart (tC (.int ((2 : Nat) : Int))))) σ H (.tuple (((ds.drop 1).take 1).map dD)) := by
  obtain ⟨us, hS, hd⟩ := hT
  refine evp_slT (ev_var h0) (eo_some ev_c) (eo_some ev_c) hS fun p H2 e hp => ?_
  rw [cut_mid] at hp
  exact TD.dp ⟨_, hp, ((hd.mono e).drop 1).take 1⟩

/-! ### by_far -/
theorem sc48 : FnScope ["deeds", "ends"] ["deeds", "ends"] (defScope (topS 48)) := ⟨rfl, rfl, rfl, by decide +kernel, rfl, by decide +kernel, by decide +kernel⟩
theorem far_eq (d1 d2 : Deed) (r : List Deed) (e : Int) : byFar (d1 :: d2 :: r) e = if ((!(isX d1.1 && isX d2.1)) || (decide (d1.2 = d2.2) || nb d1.2 d2.2 e)) = true then none else some (d2 :: d1 :: r) := by
  show (if isX d1.1 = true ∧ isX d2.1 = true ∧ d1.2 ≠ d2.2 ∧ nb d1.2 d2.2 e = false then some (d2 :: d1 :: r) else none) = _
  cases isX d1.1 <;> cases isX d2.1 <;> by_cases h : d1.2 = d2.2 <;> cases nb d1.2 d2.2 e <;> simp [h]
theorem ok_by_far (D : DefAt K mg "by_far" (topS 48) ["deeds", "ends"]) (c_are_crossings : Cal P w K mg base "are_crossings" ["deeds", "many"] 1 (spCross K)) (c_are_neighbours : Cal P w K mg base "are_neighbours" ["one", "other", "ends"] 1 spNb) :
    Cal P w K mg base "by_far" ["deeds", "ends"] 2 (spBy K byFar) := by
  refine D.cal sc48 (fun vs H Q E ⟨t, e, d, ds, h, _⟩ => by rw [h]; rfl) fun f cdv A outer s H vs Q E hr ⟨t, e, d1, ds, ev, hT, hl, hX, k⟩ => ?_
  subst ev
  refine ⟨_, (pss_cons (ps_if (PW.pt (pw_or (pt_not (pt_val (pe_cal c_are_crossings (hr.mono (by decide)) (by rfl) (pa_cons (pv 0) (pa_cons pe_int pa_nil))))) (pw_or (pt_cmpR op_eq (pe_ix ix_tup (pe_ix ix_tup (pv 0) pe_int (fun _ _ => rfl)) pe_int (fun _ _ => rfl)) (pe_ix ix_tup (pe_ix ix_tup (pv 0) pe_int (fun _ _ => rfl)) pe_int (fun _ _ => rfl)) (nomark _)) (pw_or1 (pt_val (pe_cal c_are_neighbours (hr.mono (by decide)) (by rfl) (pa_cons (pe_ix ix_tup (pe_ix ix_tup (pv 0) pe_int (fun _ _ => rfl)) pe_int (fun _ _ => rfl)) (pa_cons (pe_ix ix_tup (pe_ix ix_tup (pv 0) pe_int (fun _ _ => rfl)) pe_int (fun _ _ => rfl)) (pa_cons (pv 1) pa_nil)))))))))
    (pss_one (ps_ret pe_non))
    pss_nil)
    (pss_one (ps_ret (pe_tup (pa_cons (pe_ix ix_tup (pv 0) pe_int (fun _ _ => rfl)) (pa_cons (pe_ix ix_tup (pv 0) pe_int (fun _ _ => rfl)) (pa_star (pe_slice sl_tupA (pv 0) (po_some pe_int) po_none) pa_nil))))))), ?_⟩
  cases ds with
  | nil => exact q_when (b := true) (et_or (a := true) (b := false) (et_not (et_B (ev_cross (b := false) 2 rfl hT hl rfl))) fun z => nomatch z) (fun _ H1 e1 => s_retP (evp_ev ev_c fun _ _ => rfl) (k.go e1)) fun z => nomatch z
  | cons d2 r =>
    obtain ⟨p1, p2, us, hS, h1, h2, hd⟩ := hT.two
    rw [far_eq] at k
    refine q_when (et_or (et_not (et_B (ev_cross 2 rfl hT hl (two_X d1 d2 r)))) fun hA => et_or (et_op (ev_op (ev_op (ev_var rfl) ev_c (rv_ixT hS at0)) ev_c (rv_ixT h1 at1)) (ev_op (ev_op (ev_var rfl) ev_c (rv_ixT hS at1)) ev_c (rv_ixT h2 at1)) rv_eqI)
      fun _ => et_B (b := nb d1.2 d2.2 e) (ev_call (ea_cons (ev_op (ev_op (ev_var rfl) ev_c (rv_ixT hS at0)) ev_c (rv_ixT h1 at1)) (ea_cons (ev_op (ev_op (ev_var rfl) ev_c (rv_ixT hS at1)) ev_c (rv_ixT h2 at1)) (ea_cons (ev_var rfl) ea_nil)))
        fun H1 e1 Q q E => ⟨d1.2, d2.2, e, rfl, fun _ => hX (by simp at hA; exact hA.1), q⟩)) (fun h H1 e1 => ?_) fun h H1 e1 => ?_
    · rw [if_pos h] at k
      exact s_retP (evp_ev ev_c fun _ _ => rfl) (k.go e1)
    · rw [if_neg (by rw [h]; exact Bool.false_ne_true)] at k
      have hS1 := ex_t e1 hS
      refine s_retP (evp_eu (eu_tup (ea_cons (ev_op (ev_var rfl) ev_c (rv_ixT hS1 at1)) (ea_cons (ev_op (ev_var rfl) ev_c (rv_ixT hS1 at0)) (ea_star (sl_from 2 rfl hS1) ea_nil))) (by have := hd.len; simp at hl ⊢; omega)) fun p H2 e2 hp => ⟨p, rfl, ?_⟩) (k.go e1)
      refine ⟨_, st_of hp, .cons ⟨p2, rfl, ex_t (e1.trans e2) h2⟩ (.cons ⟨p1, rfl, ex_t (e1.trans e2) h1⟩ ?_)⟩
      rw [List.append_nil]
      exact hd.mono (e1.trans e2)

/-! ### by_three -/
theorem sc49 : FnScope ["deeds", "ends"] ["deeds", "ends"] (defScope (topS 49)) := ⟨rfl, rfl, rfl, by decide +kernel, rfl, by decide +kernel, by decide +kernel⟩
theorem three_eq (d1 d2 d3 : Deed) (r : List Deed) (e : Int) : byThree (d1 :: d2 :: d3 :: r) e = if (decide (e < 4) || ((!(isX d1.1 && (isX d2.1 && isX d3.1))) || ((!decide (d1 = d3)) || !decide (d1.1 = d2.1)))) = true then none else if (!nb d1.2 d2.2 e) = true then none else some (d2 :: d1 :: d2 :: r) := by
  show (if 4 ≤ e ∧ isX d1.1 = true ∧ isX d2.1 = true ∧ isX d3.1 = true ∧ d1 = d3 ∧ d1.1 = d2.1 ∧ nb d1.2 d2.2 e = true then some (d2 :: d1 :: d2 :: r) else none) = _
  by_cases h0 : e < 4
  · have h0' : ¬ 4 ≤ e := by omega
    simp [h0, h0']
  · have h0' : 4 ≤ e := by omega
    cases isX d1.1 <;> cases isX d2.1 <;> cases isX d3.1 <;> by_cases h : d1 = d3 <;> by_cases h2 : d1.1 = d2.1 <;> cases nb d1.2 d2.2 e <;> simp [h0, h0', h, h2]
theorem ok_by_three (D : DefAt K mg "by_three" (topS 49) ["deeds", "ends"]) (c_are_crossings : Cal P w K mg base "are_crossings" ["deeds", "many"] 1 (spCross K)) (c_are_neighbours : Cal P w K mg base "are_neighbours" ["one", "other", "ends"] 1 spNb) :
    Cal P w K mg base "by_three" ["deeds", "ends"] 2 (spBy K byThree) := by
  refine D.cal sc49 (fun vs H Q E ⟨t, e, d, ds, h, _⟩ => by rw [h]; rfl) fun f cdv A outer s H vs Q E hr ⟨t, e, d1, ds, ev, hT, hl, hX, k⟩ => ?_
  subst ev
  refine ⟨_, (pss_cons (ps_if (PW.pt (pw_or (pt_cmpR op_lt (pv 1) pe_int (nomark _)) (pw_or (pt_not (pt_val (pe_cal c_are_crossings (hr.mono (by decide)) (by rfl) (pa_cons (pv 0) (pa_cons pe_int pa_nil))))) (pw_or (pt_cmpR (op_neD hr.units) (pe_ix ix_tup (pv 0) pe_int (fun _ _ => rfl)) (pe_ix ix_tup (pv 0) pe_int (fun _ _ => rfl)) (nomark _)) (pw_or1 (pt_cmpR op_ne (pe_ix ix_tup (pe_ix ix_tup (pv 0) pe_int (fun _ _ => rfl)) pe_int (fun _ _ => rfl)) (pe_ix ix_tup (pe_ix ix_tup (pv 0) pe_int (fun _ _ => rfl)) pe_int (fun _ _ => rfl)) (nomark _)))))))
    (pss_one (ps_ret pe_non))
    pss_nil)
    (pss_cons (ps_if (pt_not (pt_val (pe_cal c_are_neighbours (hr.mono (by decide)) (by rfl) (pa_cons (pe_ix ix_tup (pe_ix ix_tup (pv 0) pe_int (fun _ _ => rfl)) pe_int (fun _ _ => rfl)) (pa_cons (pe_ix ix_tup (pe_ix ix_tup (pv 0) pe_int (fun _ _ => rfl)) pe_int (fun _ _ => rfl)) (pa_cons (pv 1) pa_nil))))))
    (pss_one (ps_ret pe_non))
    pss_nil)
    (pss_one (ps_ret (pe_tup (pa_cons (pe_ix ix_tup (pv 0) pe_int (fun _ _ => rfl)) (pa_cons (pe_ix ix_tup (pv 0) pe_int (fun _ _ => rfl)) (pa_cons (pe_ix ix_tup (pv 0) pe_int (fun _ _ => rfl)) (pa_star (pe_slice sl_tupA (pv 0) (po_some pe_int) po_none) pa_nil))))))))), ?_⟩
  cases ds with
  | nil => exact q_when (b := true) (et_is (et_or (a := decide (e < 4)) (b := true) (et_op (ev_var rfl) ev_c rv_I0) fun _ => et_or (a := true) (b := false) (et_not (et_B (ev_cross (b := false) 3 rfl hT hl rfl))) fun z => nomatch z) (Bool.or_true _)) (fun _ H1 e1 => s_retP (evp_ev (P := OptAt K none) ev_c fun _ _ => rfl) (k.go e1)) fun z => nomatch z
  | cons d2 ds =>
    cases ds with
    | nil => exact q_when (b := true) (et_is (et_or (a := decide (e < 4)) (b := true) (et_op (ev_var rfl) ev_c rv_I0) fun _ => et_or (a := true) (b := false) (et_not (et_B (ev_cross (b := false) 3 rfl hT hl rfl))) fun z => nomatch z) (Bool.or_true _)) (fun _ H1 e1 => s_retP (evp_ev (P := OptAt K none) ev_c fun _ _ => rfl) (k.go e1)) fun z => nomatch z
    | cons d3 r =>
      obtain ⟨p1, p2, p3, us, hS, h1, h2, h3, hd⟩ := hT.three
      rw [three_eq] at k
      refine q_when (et_or (et_op (ev_var rfl) ev_c rv_I0) fun _ => et_or (et_not (et_B (ev_cross 3 rfl hT hl (three_X d1 d2 d3 r)))) fun hA => et_or
          (b := !decide (d1.1 = d2.1)) (et_test (ev_is (ev_neD (evd (d := dD d1) (ev_op (ev_var rfl) ev_c (rv_ixT hS at0)) fun H2 e2 => DAt.dp ⟨p1, rfl, ex_t e2 h1⟩) (evd (d := dD d3) (ev_op (ev_var rfl) ev_c (rv_ixT hS at2)) fun H2 e2 => DAt.dp ⟨p3, rfl, ex_t e2 h3⟩) (shD d1) (shD d3)) (by rw [eqD])))
        fun _ => et_op (ev_op (ev_op (ev_var rfl) ev_c (rv_ixT hS at0)) ev_c (rv_ixT h1 at0)) (ev_op (ev_op (ev_var rfl) ev_c (rv_ixT hS at1)) ev_c (rv_ixT h2 at0)) rv_neW) (fun h H1 e1 => ?_) fun h H1 e1 => ?_
      · rw [if_pos h] at k
        exact s_retP (evp_ev ev_c fun _ _ => rfl) (k.go e1)
      · rw [if_neg (by rw [h]; exact Bool.false_ne_true)] at k
        have e4 : ¬ e < 4 := by
          simp at h
          omega
        have hS1 := ex_t e1 hS
        refine q_when (et_not (et_B (b := nb d1.2 d2.2 e) (ev_call (ea_cons (ev_op (ev_op (ev_var rfl) ev_c (rv_ixT hS1 at0)) ev_c (rv_ixT (ex_t e1 h1) at1)) (ea_cons (ev_op (ev_op (ev_var rfl) ev_c (rv_ixT hS1 at1)) ev_c (rv_ixT (ex_t e1 h2) at1)) (ea_cons (ev_var rfl) ea_nil)))
          fun H1 e1 Q q E => ⟨d1.2, d2.2, e, rfl, fun _ => by omega, q⟩))) (fun h H2 e2 => ?_) fun h H2 e2 => ?_
        · rw [if_pos h] at k
          exact s_retP (evp_ev ev_c fun _ _ => rfl) (k.go (e1.trans e2))
        · rw [if_neg (by rw [h]; exact Bool.false_ne_true)] at k
          have e12 := e1.trans e2
          have hS2 := ex_t e12 hS
          refine s_retP (evp_eu (eu_tup (ea_cons (ev_op (ev_var rfl) ev_c (rv_ixT hS2 at1)) (ea_cons (ev_op (ev_var rfl) ev_c (rv_ixT hS2 at0)) (ea_cons (ev_op (ev_var rfl) ev_c (rv_ixT hS2 at1)) (ea_star (sl_from 3 rfl hS2) ea_nil)))) (by have := hd.len; simp at hl ⊢; omega)) fun p H3 e3 hp => ⟨p, rfl, ?_⟩) (k.go e12)
          have e13 := e12.trans e3
          refine ⟨_, st_of hp, .cons ⟨p2, rfl, ex_t e13 h2⟩ (.cons ⟨p1, rfl, ex_t e13 h1⟩ (.cons ⟨p2, rfl, ex_t e13 h2⟩ ?_))⟩
          rw [List.append_nil]
          exact hd.mono e13

/-! ### by_curl -/
theorem sc50 : FnScope ["deeds", "ends"] ["deeds", "ends"] (defScope (topS 50)) := ⟨rfl, rfl, rfl, by decide +kernel, rfl, by decide +kernel, by decide +kernel⟩
theorem curl_eq (d1 : Deed) (ds : List Deed) (e : Int) : byCurl (d1 :: ds) e = if ((!isX d1.1) || !decide (((d1 :: ds).drop 1).take 1 = [((.jn, d1.2) : Deed)])) = true then none else some ds := by
  cases ds with
  | nil =>
    show none = _
    simp
  | cons d2 r =>
    show (if isX d1.1 = true ∧ d2 = (Wd.jn, d1.2) then some (d2 :: r) else none) = _
    cases isX d1.1 <;> by_cases h : d2 = (Wd.jn, d1.2) <;> simp [h]
theorem one_X (d1 : Deed) (r : List Deed) : (decide (1 ≤ (d1 :: r).length) && ((d1 :: r).take 1).all fun d => isX d.1) = isX d1.1 := by
  simp
theorem ok_by_curl (D : DefAt K mg "by_curl" (topS 50) ["deeds", "ends"]) (T : Txt K mg pT pC pM C) (c_are_crossings : Cal P w K mg base "are_crossings" ["deeds", "many"] 1 (spCross K)) : Cal P w K mg base "by_curl" ["deeds", "ends"] 2 (spBy K byCurl) := by
  refine D.cal sc50 (fun vs H Q E ⟨t, e, d, ds, h, _⟩ => by rw [h]; rfl) fun f cdv A outer s H vs Q E hr ⟨t, e, d1, ds, ev, hT, hl, hX, k⟩ => ?_
  subst ev
  refine ⟨_, (pss_cons (ps_if (PW.pt (pw_or (pt_not (pt_val (pe_cal c_are_crossings (hr.mono (by decide)) (by rfl) (pa_cons (pv 0) (pa_cons pe_int pa_nil))))) (pw_or1 (pt_cmpR (op_neD hr.units) (pe_slice sl_tupA (pv 0) (po_some pe_int) (po_some pe_int)) (pe_tup (pa_cons (pe_tup (pa_cons (pe_globV rfl T.g_JOIN_moves) (pa_cons (pe_ix ix_tup (pe_ix ix_tup (pv 0) pe_int (fun _ _ => rfl)) pe_int (fun _ _ => rfl)) pa_nil))) pa_nil)) (nomark _)))))
    (pss_one (ps_ret pe_non))
    pss_nil)
    (pss_one (ps_ret (pe_slice sl_tupA (pv 0) (po_some pe_int) po_none)))), ?_⟩
  obtain ⟨p1, us, hS, h1, hd⟩ := hT.one
  rw [curl_eq] at k
  refine q_when (et_or (et_not (et_B (ev_cross 1 rfl hT hl (one_X d1 ds)))) fun _ => et_test (ev_is (ev_neD (sl_next rfl hT) (evd_tup (ds := [dD (.jn, d1.2)]) (evd_cons (evd_tup (ds := [.str (wS .jn), .int d1.2]) (evd_cons (evd ev_c fun _ _ => .str _) (evd_cons (evd (ev_op (ev_op (ev_var rfl) ev_c (rv_ixT hS at0)) ev_c (rv_ixT h1 at1)) fun _ _ => .int _) evd_nil)) (by show 2 ≤ 100000; decide)) evd_nil) (by show 1 ≤ 100000; decide)) (shT _) (shT [(.jn, d1.2)]))
    (congrArg (fun b => V.bl (!b)) (eqDs (((d1 :: ds).drop 1).take 1) [(.jn, d1.2)])))) (fun h H1 e1 => ?_) fun h H1 e1 => ?_
  · rw [if_pos h] at k
    exact s_retP (evp_ev ev_c fun _ _ => rfl) (k.go e1)
  · rw [if_neg (by rw [h]; exact Bool.false_ne_true)] at k
    exact s_retP ((sl_from 1 rfl (ex_t e1 hS)).imp fun v H2 e2 ⟨p, ev, hp⟩ => ⟨p, ev, _, hp, hd.mono (e1.trans e2)⟩) (k.go e1)

/-! ### by_bend -/
theorem sc51 : FnScope ["deeds", "ends", "word", "gap"] ["deeds", "ends"] (defScope (topS 51)) := ⟨rfl, rfl, rfl, by decide +kernel, rfl, by decide +kernel, by decide +kernel⟩
theorem bend_eq (d1 : Deed) (ds : List Deed) (e : Int) : byBend (d1 :: ds) e = if ((!decide (d1.1 = .op)) || (decide (e = 0) || !(decide ([((.jn, d1.2) : Deed)] = ((d1 :: ds).drop 1).take 1) || decide ([((.jn, d1.2 + 2) : Deed)] = ((d1 :: ds).drop 1).take 1)))) = true then none else some (ds.drop 1) := by
  cases ds with
  | nil =>
    show none = _
    simp
  | cons d2 r =>
    show (if d1.1 = .op ∧ e ≠ 0 ∧ (d2 = (Wd.jn, d1.2) ∨ d2 = (Wd.jn, d1.2 + 2)) then some r else none) = _
    have s1 : ((Wd.jn, d1.2) = d2) = (d2 = (Wd.jn, d1.2)) := propext ⟨Eq.symm, Eq.symm⟩
    have s2 : ((Wd.jn, d1.2 + 2) = d2) = (d2 = (Wd.jn, d1.2 + 2)) := propext ⟨Eq.symm, Eq.symm⟩
    by_cases h1 : d1.1 = .op <;> by_cases h2 : e = 0 <;> by_cases h3 : d2 = (Wd.jn, d1.2) <;> by_cases h4 : d2 = (Wd.jn, d1.2 + 2) <;> simp [h1, h2, h3, h4, s1, s2]
theorem sh2 (a b : Deed) : SeqAt.shaped (.tuple [.tuple [dD a], .tuple [dD b]]) = true := by
  have e1 : PyData.canLay0 (.tuple [.tuple [dD a], .tuple [dD b]]) = true := by
    simp only [PyData.canLay0, PyData.canLayAll0, dD_lay a, dD_lay b]
    rfl
  have e2 : PyData.depth (.tuple [.tuple [dD a], .tuple [dD b]]) ≤ 64 := by
    simp only [PyData.depth, PyData.depthAll, dD]
    decide
  show (PyData.canLay0 (.tuple [.tuple [dD a], .tuple [dD b]]) && decide (PyData.depth (.tuple [.tuple [dD a], .tuple [dD b]]) ≤ 64)) = true
  rw [e1, decide_eq_true e2]
  rfl
theorem ok_by_bend (D : DefAt K mg "by_bend" (topS 51) ["deeds", "ends"]) (T : Txt K mg pT pC pM C) : Cal P w K mg base "by_bend" ["deeds", "ends"] 2 (spBy K byBend) := by
  refine D.cal sc51 (fun vs H Q E ⟨t, e, d, ds, h, _⟩ => by rw [h]; rfl) fun f cdv A outer s H vs Q E hr ⟨t, e, d1, ds, ev, hT, hl, hX, k⟩ => ?_
  subst ev
  refine ⟨_, (pss_cons (ps_asg (pe_ix ix_tup (pv 0) pe_int (fun _ _ => rfl)) (pg_tup rfl (pgs_cons (pg_name (i := 2) sc51.nd rfl (.inl rfl)) (pgs_cons (pg_name (i := 3) sc51.nd rfl (.inl rfl)) pgs_nil))))
    (pss_cons (ps_if (PW.pt (pw_or (pt_cmpR op_ne (pv 2) (pe_globV rfl T.g_OPEN_moves) (nomark _)) (pw_or (pt_cmpR op_eq (pv 1) pe_int (nomark _)) (pw_or1 (pt_cmpR (op_niT (Room.u65 hr)) (pe_slice sl_tupA (pv 0) (po_some pe_int) (po_some pe_int)) (pe_tup (pa_cons (pe_tup (pa_cons (pe_tup (pa_cons (pe_globV rfl T.g_JOIN_moves) (pa_cons (pv 3) pa_nil))) pa_nil)) (pa_cons (pe_tup (pa_cons (pe_tup (pa_cons (pe_globV rfl T.g_JOIN_moves) (pa_cons (pe_op op_add (pv 3) pe_int) pa_nil))) pa_nil)) pa_nil))) (by rfl))))))
    (pss_one (ps_ret pe_non))
    pss_nil)
    (pss_one (ps_ret (pe_slice sl_tupA (pv 0) (po_some pe_int) po_none))))), ?_⟩
  obtain ⟨p1, us, hS, h1, hd⟩ := hT.one
  rw [bend_eq] at k
  refine (ev_op (ev_var rfl) ev_c (rv_ixT hS at0)) H (Ex.refl H) _ fun H1 e1 => ?_
  refine g_deed ⟨p1, rfl, ex_t e1 h1⟩ ?_
  have hT1 := hT.mono e1
  have l1 : 1 ≤ 100000 := by decide
  have l2 : 2 ≤ 100000 := by decide
  refine q_when (et_or (et_op (ev_var rfl) ev_c rv_neW) fun _ => et_or (et_op (ev_var rfl) ev_c rv_eqI) (b := !(decide ([((.jn, d1.2) : Deed)] = ((d1 :: ds).drop 1).take 1) || decide ([((.jn, d1.2 + 2) : Deed)] = ((d1 :: ds).drop 1).take 1))) fun _ => et_test (ev_is (ev_niT (sl_next rfl hT1)
      (evd_tup (ds := [.tuple [dD (.jn, d1.2)], .tuple [dD (.jn, d1.2 + 2)]]) (evd_cons (evd_tup (ds := [dD (.jn, d1.2)]) (evd_cons (evd_tup (ds := [.str (wS .jn), .int d1.2]) (evd_cons (evd ev_c fun _ _ => .str _) (evd_cons (evd (ev_var rfl) fun _ _ => .int _) evd_nil)) l2) evd_nil) l1)
        (evd_cons (evd_tup (ds := [dD (.jn, d1.2 + 2)]) (evd_cons (evd_tup (ds := [.str (wS .jn), .int (d1.2 + 2)]) (evd_cons (evd ev_c fun _ _ => .str _) (evd_cons (evd (ev_op (ev_var rfl) ev_c rv_I0) fun _ _ => .int _) evd_nil)) l2) evd_nil) l1) evd_nil)) l2) (shT _) (sh2 _ _)) ?_)) (fun h H2 e2 => ?_) fun h H2 e2 => ?_
  · refine congrArg (fun b => V.bl (!b)) ?_
    show (PyData.eqvAll ([((.jn, d1.2) : Deed)].map dD) ((((d1 :: ds).drop 1).take 1).map dD) || (PyData.eqvAll ([((.jn, d1.2 + 2) : Deed)].map dD) ((((d1 :: ds).drop 1).take 1).map dD) || false)) = _
    rw [eqDs, eqDs, Bool.or_false]
  · rw [if_pos h] at k
    exact s_retP (evp_ev ev_c fun _ _ => rfl) (k.go (e1.trans e2))
  · rw [if_neg (by rw [h]; exact Bool.false_ne_true)] at k
    have e12 := e1.trans e2
    exact s_retP ((sl_from 2 rfl (ex_t e12 hS)).imp fun v H3 e3 ⟨p, ev, hp⟩ => ⟨p, ev, _, hp, (hd.mono (e12.trans e3)).drop 1⟩) (k.go e12)

/-! ### behind_move -/
abbrev spBehind (K : PySem.W.Frag) : Sp := fun vs H Q _ => ∃ (m : Mv) (t : Addr) (e : Int) (d : Deed) (ds : List Deed), vs = [.str (mS m), .ref t, .int e] ∧ TD K H t (d :: ds) ∧ (d :: ds).length ≤ 4000 ∧ (isX d.1 = true → 0 < e) ∧ RetP (OptAt K (behind m (d :: ds) e)) H Q
theorem sc52 : FnScope ["word", "deeds", "ends"] ["word", "deeds", "ends"] (defScope (topS 52)) := ⟨rfl, rfl, rfl, by decide +kernel, rfl, by decide +kernel, by decide +kernel⟩
theorem ok_behind_move (D : DefAt K mg "behind_move" (topS 52) ["word", "deeds", "ends"]) (c_by_undo : Cal P w K mg base "by_undo" ["deeds", "ends"] 2 (spBy K byUndo)) (c_by_far : Cal P w K mg base "by_far" ["deeds", "ends"] 2 (spBy K byFar)) (c_by_three : Cal P w K mg base "by_three" ["deeds", "ends"] 2 (spBy K byThree))
    (c_by_curl : Cal P w K mg base "by_curl" ["deeds", "ends"] 2 (spBy K byCurl)) (c_by_bend : Cal P w K mg base "by_bend" ["deeds", "ends"] 2 (spBy K byBend)) : Cal P w K mg base "behind_move" ["word", "deeds", "ends"] 3 (spBehind K) := by
  refine D.cal sc52 (fun vs H Q E ⟨m, t, e, d, ds, h, _⟩ => by rw [h]; rfl) fun f cdv A outer s H vs Q E hr ⟨m, t, e, d, ds, ev, hT, hl, hX, k⟩ => ?_
  subst ev
  refine ⟨_, (pss_cons (ps_if (pt_cmpR op_eq (pv 0) pe_str (nomark _))
    (pss_one (ps_ret (pe_cal c_by_undo (hr.mono (by decide)) (by rfl) (pa_cons (pv 1) (pa_cons (pv 2) pa_nil)))))
    pss_nil)
    (pss_cons (ps_if (pt_cmpR op_eq (pv 0) pe_str (nomark _))
    (pss_one (ps_ret (pe_cal c_by_far (hr.mono (by decide)) (by rfl) (pa_cons (pv 1) (pa_cons (pv 2) pa_nil)))))
    pss_nil)
    (pss_cons (ps_if (pt_cmpR op_eq (pv 0) pe_str (nomark _))
    (pss_one (ps_ret (pe_cal c_by_three (hr.mono (by decide)) (by rfl) (pa_cons (pv 1) (pa_cons (pv 2) pa_nil)))))
    pss_nil)
    (pss_one (ps_ret (pe_ifExp (pt_cmpR op_eq (pv 0) pe_str (nomark _)) (pe_cal c_by_curl (hr.mono (by decide)) (by rfl) (pa_cons (pv 1) (pa_cons (pv 2) pa_nil))) (pe_cal c_by_bend (hr.mono (by decide)) (by rfl) (pa_cons (pv 1) (pa_cons (pv 2) pa_nil))))))))), ?_⟩
  have arg : ∀ {H1 : Hp}, EvA (tCons (tVar 1) (tCons (tVar 2) tNil)) [some (.str (mS m)), some (.ref t), some (.int e)] H1 [.ref t, .int e] := ea_cons (ev_var rfl) (ea_cons (ev_var rfl) ea_nil)
  have test : ∀ (m' : Mv) {H1 : Hp}, EvT (tTest (tOp rEq (tVar 0) (tC (.str (mS m'))))) [some (.str (mS m)), some (.ref t), some (.int e)] H1 (decide (m = m')) := fun m' {H1} => et_op (ev_var rfl) ev_c rv_eqM
  refine q_when (test .undo) (fun h H1 e1 => ?_) fun n1 H1 e1 => ?_
  · have em := of_decide_eq_true h
    subst em
    exact s_retP (evp_call arg fun H2 e2 Q q => ⟨t, e, d, ds, rfl, hT.mono (e1.trans e2), hl, hX, q⟩) (k.go e1)
  refine q_when (test .far) (fun h H2 e2 => ?_) fun n2 H2 e2 => ?_
  · have em := of_decide_eq_true h
    subst em
    exact s_retP (evp_call arg fun H3 e3 Q q => ⟨t, e, d, ds, rfl, hT.mono ((e1.trans e2).trans e3), hl, hX, q⟩) (k.go (e1.trans e2))
  refine q_when (test .three) (fun h H3 e3 => ?_) fun n3 H3 e3 => ?_
  · have em := of_decide_eq_true h
    subst em
    exact s_retP (evp_call arg fun H4 e4 Q q => ⟨t, e, d, ds, rfl, hT.mono (((e1.trans e2).trans e3).trans e4), hl, hX, q⟩) (k.go ((e1.trans e2).trans e3))
  have e13 := (e1.trans e2).trans e3
  have n1 := of_decide_eq_false n1
  have n2 := of_decide_eq_false n2
  have n3 := of_decide_eq_false n3
  refine s_retP (evp_if (test .curl) (fun h => ?_) fun h => ?_) (k.go e13)
  · have em := of_decide_eq_true h
    subst em
    exact evp_call arg fun H4 e4 Q q => ⟨t, e, d, ds, rfl, hT.mono (e13.trans e4), hl, hX, q⟩
  · have n4 := of_decide_eq_false h
    have em : m = .bend := by cases m <;> first | rfl | (exact absurd rfl n1) | (exact absurd rfl n2) | (exact absurd rfl n3) | (exact absurd rfl n4)
    subst em
    exact evp_call arg fun H4 e4 Q q => ⟨t, e, d, ds, rfl, hT.mono (e13.trans e4), hl, hX, q⟩
end
end K38

/-! move_words, moves_at, moved. -/
namespace K38
open PySem PySem.Spec PyProof.Rows L2 Evl StX
/-! ### calls by keywords alone -/
def swap2 {α : Type} : List α → List α → List α
  | [], [a, b] => [b, a]
  | _, _ => []
def turn3 {α : Type} : List α → List α → List α
  | [], [a, b, c] => [c, b, a]
  | _, _ => []
theorem vals_swap2 {vs : List V} {us : List Value} {zs : List V} {ws : List Value} (r : Vals vs us) (q : Vals zs ws) : Vals (swap2 vs zs) (swap2 us ws) := by
  cases r with
  | cons _ _ => exact .nil
  | nil =>
    cases q with
    | nil => exact .nil
    | cons a q =>
      cases q with
      | nil => exact .nil
      | cons b q =>
        cases q with
        | nil => exact .cons b (.cons a .nil)
        | cons _ _ => exact .nil
theorem vals_turn3 {vs : List V} {us : List Value} {zs : List V} {ws : List Value} (r : Vals vs us) (q : Vals zs ws) : Vals (turn3 vs zs) (turn3 us ws) := by
  cases r with
  | cons _ _ => exact .nil
  | nil =>
    cases q with
    | nil => exact .nil
    | cons a q =>
      cases q with
      | nil => exact .nil
      | cons b q =>
        cases q with
        | nil => exact .nil
        | cons c q =>
          cases q with
          | nil => exact .cons c (.cons b (.cons a .nil))
          | cons _ _ => exact .nil
section
variable {K : PySem.W.Frag}
theorem kb_moves_at {f : Addr} {fd : FuncData} (F : Fun K "moves_at" "moves_at" (topS 54) f fd) : KBinds K fd ["tangle", "at"] ["at", "tangle"] swap2 swap2 := by
  obtain ⟨oc, od, kV, doc, pm, an, cdv, ct, osl, rfl, lk, hcd⟩ := F.ex
  refine ⟨fun s us ws _ hl => ?_, vals_swap2⟩
  match us, ws, hl with
  | [], [a, b], _ => exact .of_eq rfl
  | [], [], h => cases h
  | [], [_], h => cases h
  | [], _ :: _ :: _ :: _, h => cases h
  | _ :: _, _, h => cases h
theorem kb_moved {f : Addr} {fd : FuncData} (F : Fun K "moved" "moved" (topS 55) f fd) : KBinds K fd ["tangle", "at", "word"] ["word", "at", "tangle"] turn3 turn3 := by
  obtain ⟨oc, od, kV, doc, pm, an, cdv, ct, osl, rfl, lk, hcd⟩ := F.ex
  refine ⟨fun s us ws _ hl => ?_, vals_turn3⟩
  match us, ws, hl with
  | [], [a, b, c], _ => exact .of_eq rfl
  | [], [], h => cases h
  | [], [_], h => cases h
  | [], [_, _], h => cases h
  | [], _ :: _ :: _ :: _ :: _, h => cases h
  | _ :: _, _, h => cases h
end
structure CalK (P : Program) (w : World) (K : PySem.W.Frag) (mg : Str → Option Value) (base : Heap) (x : Str) (ps ks : List Str) (gV : List V → List V → List V) (k : Nat) (sp : Sp) : Prop where
  ex : ∃ f fd g, FnOk P w K mg base CX0 k f fd ps sp ∧ mg x = some (.ref f) ∧ PySem.W.keepIn K (.ref f) = true ∧ KBinds K fd ps ks g gV
theorem pe_kwO {X : Cx} {x : Str} {ps ks : List Str} {gV : List V → List V → List V} {k : Nat} {sp : Sp} {kws : List Keyword} {tk : TA} {p pos : Pos} (c : CalK X.prog X.w X.K X.mg X.base x ps ks gV k sp) (hr : Room k X.A) (hg : Gl X x) (hkw : PK X kws tk)
    (h1 : (backToKw pos (keywordEach kws X.env)).all (·.1.isSome) = true := by rfl) (h2 : (backToKw pos (keywordEach kws X.env)).filterMap (·.1) = ks := by rfl)
    (h3 : (x == ("__debug__" : Str)) = false := by decide)
    (h4 : ((backTo pos (starEach [] X.env)).any (·.1) || (backToKw pos (keywordEach kws X.env)).any (·.1.isNone)) = false := by rfl) :
    PE X (.Call (.Name x p) [] kws pos) (tCallK sp gV E0 tNil tk) := by
  obtain ⟨f, fd, g, F, hm, hk, hb⟩ := c.ex
  exact pe_kwOnly F hr hg hm hk hb pass0 hkw h1 h2 h3 h4
theorem DefAt.cal2 {P : Program} {w : World} {K : PySem.W.Frag} {mg : Str → Option Value} {base : Heap} {x : Str} {st : Stmt} {N ps ks : List Str} {gV : List V → List V → List V} {k : Nat} {sp : Sp} (D : DefAt K mg x st ps) (kb : ∀ f fd, Fun K x x st f fd → ∃ g, KBinds K fd ps ks g gV) (S : FnScope N ps (defScope st)) (len : ∀ vs H Q E, sp vs H Q E → vs.length = ps.length)
    (h : ∀ (f : Addr) (cdv : Value) (A : Around) (outer : List Env) (s : Shared) (H : Hp) (vs : List V) (Q : VK) (E : XK), Room k (A.deeper (envOfC x (defScope st) s.heap.objs.size f cdv)) → sp vs H Q E →
      ∃ t, PSs (cxOf CX0 P w K mg base N x (defScope st) f cdv A outer s H E).nox (defBody st) t ∧ t { nx := fun _ H' => Q .non H', rt := Q } (start N vs) H) : Cal P w K mg base x ps (k + 1) sp ∧ CalK P w K mg base x ps ks gV (k + 1) sp := by
  obtain ⟨f, fd, F, hm, hb⟩ := D.ex
  obtain ⟨g, hg⟩ := kb f fd F
  exact ⟨⟨f, fd, F.ok S len (h f), hm, F.kp, hb⟩, ⟨f, fd, g, F.ok S len (h f), hm, F.kp, hg⟩⟩
section
variable {P : Program} {w : World} {K : PySem.W.Frag} {mg : Str → Option Value} {base : Heap} {pT pC pM C : Addr}
/-! ### move_words -/
abbrev spWords (pM : Addr) : Sp := fun vs H Q _ => vs = [] ∧ RetV (.ref pM) H Q
theorem sc53 : FnScope [] [] (defScope (topS 53)) := ⟨rfl, rfl, rfl, by decide +kernel, rfl, by decide +kernel, by decide +kernel⟩
theorem ok_move_words (D : DefAt K mg "move_words" (topS 53) []) (T : Txt K mg pT pC pM C) : Cal P w K mg base "move_words" [] 1 (spWords pM) := by
  refine D.cal sc53 (fun vs H Q E ⟨h, _⟩ => by rw [h]; rfl) fun f cdv A outer s H vs Q E hr ⟨ev, k⟩ => ?_
  subst ev
  exact ⟨_, pss_one (ps_ret (pe_globV rfl T.g_WORDS_moves)), s_retV ev_c k⟩

/-- what stands at a place of a tangle: the ring there, the deeds from there on -/
structure Here (e r mid : Int) (ds : List Deed) (i : Nat) (d : Deed) (rest : List Deed) : Prop where
  split : ds.drop i = d :: rest
  at_ : (rings e ds)[i]? = some mid
  front : run e (ds.take i) = some mid
  back : run mid (d :: rest) = some r
  lt : i < ds.length
theorem here_of {e r : Int} {ds : List Deed} {i : Nat} (h : run e ds = some r) (hi : i < ds.length) : ∃ mid d rest, Here e r mid ds i d rest := by
  obtain ⟨mid, h1, h2, h3⟩ := rings_get e r ds i h hi
  have e1 : ds.drop i = ds[i] :: ds.drop (i + 1) := List.drop_eq_getElem_cons hi
  exact ⟨mid, ds[i], ds.drop (i + 1), e1, h1, h2, e1 ▸ h3, hi⟩
theorem Here.pos {e r mid : Int} {ds : List Deed} {i : Nat} {d : Deed} {rest : List Deed} (h : Here e r mid ds i d rest) (x : isX d.1 = true) : 0 < mid := by
  have := okX (run_cons h.back).1 x
  omega
/-- tangle.deeds[at:], the tangle in slot 0, at in slot 1 -/
theorem sl_at {σ : L2.St} {H : Hp} {x : Addr} {e : Int} {ds : List Deed} {i : Nat} (T : Txt K mg pT pC pM C) (h0 : σ[0]? = some (some (.ref x))) (h1 : σ[1]? = some (some (.int (i : Int)))) (hx : Tg K C H x e ds) :
    EvP (tSl (rSlA K) (tFld K (tVar 0) "deeds") (tPart (tVar 1)) tNoPart) σ H fun v H2 => ∃ p, v = .ref p ∧ TD K H2 p (ds.drop i) := by
  obtain ⟨dx, t, hx, us, hS, hd⟩ := hx
  refine evp_slT (ev_deeds T (ev_var h0) hx) (eo_some (ev_var h1)) eo_none hS fun p H2 e hp => ⟨p, rfl, _, hp, ?_⟩
  rw [cut_from]
  exact (hd.mono e).drop i
/-- len(tangle.deeds) - 1 -/
theorem ev_last {σ : L2.St} {H : Hp} {x : Addr} {e : Int} {ds : List Deed} (T : Txt K mg pT pC pM C) (h0 : σ[0]? = some (some (.ref x))) (hx : Tg K C H x e ds) :
    Ev (tOp (rI0 fun i j => .int (i - j)) (tCB (rLenS K) (tCons (tFld K (tVar 0) "deeds") tNil)) (tC (.int 1))) σ H (.int ((ds.length : Int) - 1)) := by
  obtain ⟨dx, t, hx, us, hS, hd⟩ := hx
  rw [← hd.len]
  exact ev_op (ev_lenT (ev_deeds T (ev_var h0) hx) hS) ev_c rv_I0
/-- need_tangle(tangle), need_number(at, "at", 0, len(tangle.deeds) - 1) -/
theorem ev_needT {σ : L2.St} {H : Hp} {x : Addr} {e : Int} {ds : List Deed} (h0 : σ[0]? = some (some (.ref x))) (hx : Tg K C H x e ds) : Ev (tCall (spNeedT K C) [.str "tangle"] E0 (tCons (tVar 0) tNil)) σ H .non := by
  obtain ⟨dx, t, hx, _⟩ := hx
  exact ev_call (ea_cons (ev_var h0) ea_nil) fun H1 e Q q E => ⟨x, dx, _, _, rfl, e _ _ hx, q⟩
theorem ev_needN {σ : L2.St} {H : Hp} {x : Addr} {e : Int} {ds : List Deed} {i : Nat} (T : Txt K mg pT pC pM C) (h0 : σ[0]? = some (some (.ref x))) (h1 : σ[1]? = some (some (.int (i : Int)))) (hx : Tg K C H x e ds) (hi : i < ds.length) :
    Ev (tCall spNeedN [] E0 (tCons (tVar 1) (tCons (tC (.str "at")) (tCons (tC (.int 0)) (tCons (tOp (rI0 fun i j => .int (i - j)) (tCB (rLenS K) (tCons (tFld K (tVar 0) "deeds") tNil)) (tC (.int 1))) tNil))))) σ H .non :=
  ev_call (ea_cons (ev_var h1) (ea_cons ev_c (ea_cons ev_c (ea_cons (ev_last T h0 hx) ea_nil)))) fun H1 e Q q E => ⟨(i : Int), 0, (ds.length : Int) - 1, .str "at", rfl, by omega, by omega, q⟩
/-- ends_ahead(tangle)[at] -/
theorem ev_ring {σ : L2.St} {H : Hp} {x : Addr} {e r mid : Int} {ds rest : List Deed} {i : Nat} {d : Deed} (h0 : σ[0]? = some (some (.ref x))) (h1 : σ[1]? = some (some (.int (i : Int)))) (hx : Tg K C H x e ds) (hl : ds.length ≤ 4000) (hh : Here e r mid ds i d rest) :
    Ev (tOp (rIxL K) (tCall (spAhead K C) [] E0 (tCons (tVar 0) tNil)) (tVar 1)) σ H (.int mid) :=
  ev_opP (P := fun v H2 => ∃ a, v = .ref a ∧ H2 a = some (.lst ((rings e ds).map V.int))) (evp_call (ea_cons (ev_var h0) ea_nil) fun H1 e1 Q q => ⟨x, e, ds, rfl, hx.mono e1, hl, q⟩) (fun _ _ _ _ => ev_var h1) fun v H2 e2 ⟨a, ev, ha⟩ H3 e3 => by
    subst ev
    refine rv_ixL (sq_of (e3 _ _ ha)) (atI_nat ?_)
    rw [List.getElem?_map, hh.at_]
    rfl
/-- behind_move(word, tangle.deeds[at:], ..): the word at j, the last argument of any form -/
theorem evp_behind {σ : L2.St} {H : Hp} {x : Addr} {e r mid : Int} {ds rest : List Deed} {i j : Nat} {d : Deed} {m : Mv} {tr : TE} (T : Txt K mg pT pC pM C) (h0 : σ[0]? = some (some (.ref x))) (h1 : σ[1]? = some (some (.int (i : Int)))) (hj : σ[j]? = some (some (.str (mS m)))) (hx : Tg K C H x e ds) (hl : ds.length ≤ 4000) (hh : Here e r mid ds i d rest)
    (hr : ∀ H1, Ex H H1 → Ev tr σ H1 (.int mid)) : EvP (tCall (spBehind K) [] E0 (tCons (tVar j) (tCons (tSl (rSlA K) (tFld K (tVar 0) "deeds") (tPart (tVar 1)) tNoPart) (tCons tr tNil)))) σ H (OptAt K (behind m (d :: rest) mid)) := by
  refine evp_callA (S := fun vs H2 => ∃ t, vs = [.str (mS m), .ref t, .int mid] ∧ TD K H2 t (d :: rest)) (eap_v (ev_var hj) fun H1 e1 => eap_cons (sl_at T h0 h1 (hx.mono e1)) fun v H2 e2 ⟨t, ev, ht⟩ => eap_v (hr H2 (e1.trans e2)) fun H3 e3 => eap_nil fun H4 e4 => ⟨t, by rw [ev], by rw [← hh.split]; exact ht.mono (e3.trans e4)⟩) fun vs H1 e1 ⟨t, ev, ht⟩ Q q => ?_
  refine ⟨m, t, mid, d, rest, (by rw [ev]; rfl), ht, ?_, hh.pos, q⟩
  rw [← hh.split, List.length_drop]
  omega

/-! ### moves_at -/
abbrev psAt : List Str := ["tangle", "at"]
abbrev spAt (K : PySem.W.Frag) (C : Addr) : Sp := fun vs H Q _ => ∃ (x : Addr) (i : Nat) (e r mid : Int) (d : Deed) (ds rest : List Deed), vs = [.ref x, .int (i : Int)] ∧ Tg K C H x e ds ∧ ds.length ≤ 4000 ∧ Here e r mid ds i d rest ∧
  RetP (fun v H2 => ∃ t, v = .ref t ∧ H2 t = some (.tup ((mAll.filter fun m => (behind m (d :: rest) mid).isSome).map fun m => .str (mS m)))) H Q
abbrev N54 : List Str := ["tangle", "at", "ends", "word"]
theorem sc54 : FnScope N54 psAt (defScope (topS 54)) := ⟨rfl, rfl, rfl, by decide +kernel, rfl, by decide +kernel, by decide +kernel⟩
def rNotNone : R2 := fun x y H Q => y = .non ∧ Q (.bl (!decide (x = .non))) H
theorem rv_opt {v : V} {H H2 : Hp} {r : Option (List Deed)} (h : OptAt K r v H) : RV rNotNone v .non H2 (.bl r.isSome) := fun H1 _ Q q => ⟨rfl, by
  have e : (!decide (v = V.non)) = r.isSome := by
    cases r with
    | none =>
      have ev : v = .non := h
      rw [ev]
      rfl
    | some ds =>
      obtain ⟨t, ev, _⟩ := h
      rw [ev]
      rfl
  rw [e]
  exact q H1 (Ex.refl H1)⟩
/-- the words of the list, told apart by a test on the move -/
def keepM (f : Mv → Bool) : V → Bool := fun v => mAll.any fun m => decide (v = .str (mS m)) && f m
theorem keepM_at (f : Mv → Bool) (m : Mv) : keepM f (.str (mS m)) = f m := by
  unfold keepM mAll
  simp only [List.any_cons, List.any_nil, mV_eq]
  cases m <;> simp
theorem keepM_all (f : Mv → Bool) : (mAll.map fun m => V.str (mS m)).filter (keepM f) = (mAll.filter f).map fun m => .str (mS m) := by
  rw [List.filter_map]
  congr 1
  exact List.filter_congr fun m _ => keepM_at f m
theorem ok_moves_at (D : DefAt K mg "moves_at" (topS 54) psAt) (T : Txt K mg pT pC pM C) (c_need_tangle : CalD P w K mg base "need_tangle" ["value", "part"] [.str "tangle"] 1 (spNeedT K C)) (c_need_number : Cal P w K mg base "need_number" ["value", "part", "least", "most"] 3 spNeedN)
    (c_ends_ahead : Cal P w K mg base "ends_ahead" ["tangle"] 1 (spAhead K C)) (c_behind_move : Cal P w K mg base "behind_move" ["word", "deeds", "ends"] 3 (spBehind K)) : Cal P w K mg base "moves_at" psAt 4 (spAt K C) ∧ CalK P w K mg base "moves_at" psAt ["at", "tangle"] swap2 4 (spAt K C) := by
  refine D.cal2 (fun f fd F => ⟨_, kb_moves_at F⟩) sc54 (fun vs H Q E ⟨x, i, e, r, mid, d, ds, rest, h, _⟩ => by rw [h]; rfl) fun f cdv A outer s H vs Q E hr ⟨x, i, e, r, mid, d, ds, rest, ev, hx, hl, hh, k⟩ => ?_
  subst ev
  refine ⟨_, (pss_cons (ps_expr (pe_calD c_need_tangle (hr.mono (by decide)) (by rfl) (pa_cons (pv 0) pa_nil)))
    (pss_cons (ps_expr (pe_cal c_need_number (hr.mono (by decide)) (by rfl) (pa_cons (pv 1) (pa_cons pe_str (pa_cons pe_int (pa_cons (pe_op op_sub (pe_callB call_len_seq (by rfl) T.b_len (by decide +kernel) (pa_cons (pe_fld (pv 0) rfl) pa_nil)) pe_int) pa_nil))))))
    (pss_cons (ps_set (i := 2) sc54.nd rfl (.inr rfl) (pe_ix ix_list (pe_cal c_ends_ahead (hr.mono (by decide)) (by rfl) (pa_cons (pv 0) pa_nil)) (pv 1) (fun _ _ => rfl)))
    (pss_one (ps_ret (pe_callTy call_tuple_of (by rfl) T.b_tuple (by decide +kernel) (pa_cons (pe_lc (own := [("word", 3)]) (g := gName 3) (tt := tTest (tOp rNotNone (tCall (spBehind K) [] E0 (tCons (tVar 3) (tCons (tSl (rSlA K) (tFld K (tVar 0) "deeds") (tPart (tVar 1)) tNoPart) (tCons (tVar 2) tNil)))) (tC .non))) (te := tVar 3) rfl sc54.nd (pi_tup (pe_globV rfl T.g_WORDS_moves)) (blkOk_by (N := N54) (sc := defScope (topS 54)) (by decide +kernel)) (fun _ _ _ _ _ => (pg_name (i := 3) sc54.nd rfl (.inl rfl) (.inr rfl))) (fun _ _ _ _ _ => (pts_one (pt_cmpR op_notN (pe_cal c_behind_move (hr.mono (by decide)) (by rfl) (pa_cons (pv 3) (pa_cons (pe_slice sl_tupA (pe_fld (pv 0) rfl) (po_some (pv 1)) po_none) (pa_cons (pv 2) pa_nil)))) pe_non (nomark _)))) (fun _ _ _ _ _ => (pv 3))) pa_nil))))))), ?_⟩
  refine q_drop (ev_needT rfl hx) fun H1 e1 => ?_
  refine q_drop (ev_needN T rfl rfl (hx.mono e1) hh.lt) fun H2 e2 => ?_
  have e12 := e1.trans e2
  refine q_asg (ev_ring rfl rfl (hx.mono e12) hl hh) fun H3 e3 => ?_
  have e13 := e12.trans e3
  refine s_retP (evp_tupOf (S := fun ys _ => ys = (mAll.filter fun m => (behind m (d :: rest) mid).isSome).map fun m => .str (mS m)) ((el_lcKeep (b := true) (xs := mAll.map fun m => .str (mS m)) (f := keepM fun m => (behind m (d :: rest) mid).isSome) (isq_T ev_c (T.t_M H3)) (by decide) (fun _ => rfl) (fun y H4 e4 hy => ?_) fun _ => rfl).imp
    fun v H4 _ ⟨p, ev, hp⟩ => ⟨p, _, ev, hp, keepM_all _⟩) fun q ys H4 H5 _ hs _ hq => ⟨q, rfl, by rw [hq, hs]⟩) (k.go e13)
  obtain ⟨m, _, ey⟩ := List.mem_map.mp hy
  subst ey
  rw [keepM_at]
  exact et_test (ev_opP (evp_behind T rfl rfl rfl (hx.mono (e13.trans e4)) hl hh fun _ _ => ev_var rfl) (fun _ _ _ _ => ev_c) fun v H5 _ p H6 _ => rv_opt p)

/-! ### moved -/
abbrev psMoved : List Str := ["tangle", "at", "word"]
abbrev spMoved (K : PySem.W.Frag) (C : Addr) : Sp := fun vs H Q _ => ∃ (x : Addr) (i : Nat) (m : Mv) (e r mid : Int) (d : Deed) (ds rest bs : List Deed), vs = [.ref x, .int (i : Int), .str (mS m)] ∧ Tg K C H x e ds ∧ ds.length ≤ 4000 ∧ Here e r mid ds i d rest ∧
  behind m (d :: rest) mid = some bs ∧ Good e (ds.take i ++ bs) ∧ RetP (fun v H2 => ∃ y, v = .ref y ∧ Tg K C H2 y e (ds.take i ++ bs)) H Q
abbrev N55 : List Str := ["tangle", "at", "word", "found"]
theorem sc55 : FnScope N55 psMoved (defScope (topS 55)) := ⟨rfl, rfl, rfl, by decide +kernel, rfl, by decide +kernel, by decide +kernel⟩
theorem evp_mkP {σ : L2.St} {H : Hp} {ta : TA} {e : Int} {ds : List Deed} (h : EvAP ta σ H fun vs H2 => ∃ a, vs = [.int e, .ref a] ∧ (TD K H2 a ds ∨ LD K H2 a ds)) (g : Good e ds) : EvP (tMake C (spInit K C) [] E0 ta) σ H fun v H2 => ∃ x, v = .ref x ∧ Tg K C H2 x e ds := fun H1 e1 Q q =>
  h H1 e1 _ fun vs H2 e2 ⟨a, ev, hd⟩ x dx hx hdx ne => by
    have s : Ex H2 (upd (upd H2 dx (.own x)) x (.ins C dx [])) := fun b o eb => by
      rw [upd_ne (ne_of_none eb hx), upd_ne (ne_of_none eb hdx)]
      exact eb
    exact ⟨H2, x, dx, a, e, ds, by rw [ev]; rfl, s, hx, upd_same, hd, g, fun H3 e3 t => ⟨rfl, q _ H3 (e2.trans e3) ⟨x, rfl, t⟩⟩⟩
theorem inM (m : Mv) : inV (.str (mS m)) (mAll.map fun m => .str (mS m)) = true := by cases m <;> decide +kernel
theorem ok_moved (D : DefAt K mg "moved" (topS 55) psMoved) (T : Txt K mg pT pC pM C) (c_need_tangle : CalD P w K mg base "need_tangle" ["value", "part"] [.str "tangle"] 1 (spNeedT K C)) (c_need_number : Cal P w K mg base "need_number" ["value", "part", "least", "most"] 3 spNeedN)
    (c_ends_ahead : Cal P w K mg base "ends_ahead" ["tangle"] 1 (spAhead K C)) (c_behind_move : Cal P w K mg base "behind_move" ["word", "deeds", "ends"] 3 (spBehind K)) (c_Tangle : CalC P w K mg base "Tangle" C psInit 5 (spInit K C)) : Cal P w K mg base "moved" psMoved 7 (spMoved K C) ∧ CalK P w K mg base "moved" psMoved ["word", "at", "tangle"] turn3 7 (spMoved K C) := by
  refine D.cal2 (fun f fd F => ⟨_, kb_moved F⟩) sc55 (fun vs H Q E ⟨x, i, m, e, r, mid, d, ds, rest, bs, h, _⟩ => by rw [h]; rfl) fun f cdv A outer s H vs Q E hr ⟨x, i, m, e, r, mid, d, ds, rest, bs, ev, hx, hl, hh, hb, hg, k⟩ => ?_
  subst ev
  refine ⟨_, (pss_cons (ps_expr (pe_calD c_need_tangle (hr.mono (by decide)) (by rfl) (pa_cons (pv 0) pa_nil)))
    (pss_cons (ps_expr (pe_cal c_need_number (hr.mono (by decide)) (by rfl) (pa_cons (pv 1) (pa_cons pe_str (pa_cons pe_int (pa_cons (pe_op op_sub (pe_callB call_len_seq (by rfl) T.b_len (by decide +kernel) (pa_cons (pe_fld (pv 0) rfl) pa_nil)) pe_int) pa_nil))))))
    (pss_cons (ps_if (PW.pt (pw_or (pt_not (pt_val (pe_callB call_isi (by rfl) T.b_isinstance (by decide +kernel) (pa_cons (pv 2) (pa_cons (pe_bltn (v := .ty "str") (by rfl) T.b_str (by decide +kernel) rfl) pa_nil))))) (pw_or1 (pt_cmpR op_notIn_seq (pv 2) (pe_globV rfl T.g_WORDS_moves) (by rfl)))))
    (pss_one ps_never)
    pss_nil)
    (pss_cons (ps_set (i := 3) sc55.nd rfl (.inl rfl) (pe_cal c_behind_move (hr.mono (by decide)) (by rfl) (pa_cons (pv 2) (pa_cons (pe_slice sl_tupA (pe_fld (pv 0) rfl) (po_some (pv 1)) po_none) (pa_cons (pe_ix ix_list (pe_cal c_ends_ahead (hr.mono (by decide)) (by rfl) (pa_cons (pv 0) pa_nil)) (pv 1) (fun _ _ => rfl)) pa_nil)))))
    (pss_cons (ps_if (pt_cmpR op_isN (pv 3) pe_non (nomark _))
    (pss_one ps_never)
    pss_nil)
    (pss_one (ps_ret (pe_mk c_Tangle (hr.mono (by decide)) (by rfl) (pa_cons (pe_fld (pv 0) rfl) (pa_cons (pe_tup (pa_star (pe_slice sl_tupA (pe_fld (pv 0) rfl) po_none (po_some (pv 1))) (pa_star (pv 3) pa_nil))) pa_nil)))))))))), ?_⟩
  refine q_drop (ev_needT rfl hx) fun H1 e1 => ?_
  refine q_drop (ev_needN T rfl rfl (hx.mono e1) hh.lt) fun H2 e2 => ?_
  have e12 := e1.trans e2
  refine q_never (et_is (et_or (et_not (et_B (ev_cb (ea_cons (ev_var rfl) (ea_cons ev_c ea_nil)) (rc_isi (b := true) (fun _ _ => .base (.str _)) (.ty "str") (kit_ty (by decide +kernel)))))) fun _ => et_op (ev_var rfl) ev_c (rv_niT (T.t_M H2) rfl (by decide +kernel))) (by rw [inM]; rfl)) fun H3 e3 => ?_
  have e13 := e12.trans e3
  refine q_asgP (evp_behind T rfl rfl rfl (hx.mono e13) hl hh fun H4 e4 => ev_ring rfl rfl (hx.mono (e13.trans e4)) hl hh) fun v H4 e4 p => ?_
  rw [hb] at p
  obtain ⟨t, ev, us, hS, hd⟩ := p
  subst ev
  have e14 := e13.trans e4
  refine q_never (et_is (et_op (ev_var rfl) ev_c (rv_isNon (y := .non))) rfl) fun H5 e5 => ?_
  have e15 := e14.trans e5
  obtain ⟨dx, u, hx5, us0, hS0, hd0⟩ := hx.mono e15
  refine s_retP (evp_mkP (eap_v (ev_ends T (ev_var rfl) hx5) fun H6 e6 => eap_cons (P := fun v H2 => ∃ a, v = .ref a ∧ TD K H2 a (ds.take i ++ bs)) (evp_eu (eu_tup (ea_star (xs := us0.take i) (evp_slT (ev_deeds T (ev_var rfl) (e6 _ _ hx5)) eo_none (eo_some (ev_var rfl)) (ex_t e6 hS0) fun p H7 e7 hp => ⟨p, rfl, by rw [← cut_to]; exact hp⟩) (ea_star (xs := us) (evp_ev (ev_var rfl) fun H7 e7 => ⟨t, rfl, ex_t ((e5.trans e6).trans e7) hS⟩) ea_nil)) ?_) fun p H7 e7 hp => ⟨p, rfl, _, st_of hp, ?_⟩) fun v H7 e7 ⟨a, ev, ht⟩ => eap_nil fun H8 e8 => ⟨a, by rw [ev], .inl (ht.mono e8)⟩) hg) (k.go e15)
  · have l1 := hd0.len
    have l2 := hd.len
    have l3 := hg.len
    simp at l3 ⊢
    omega
  · rw [List.append_nil]
    exact DsAt.append ((hd0.mono (e6.trans e7)).take i) (hd.mono ((e5.trans e6).trans e7))
end
end K38

/-! The law's own looking: _law_rings, _law_fits, _law_behind. -/
namespace K38
open PySem PySem.Spec PyProof.Rows L2 Evl StX

/-! ### comprehensions that give one value an item -/
section
variable {K : PySem.W.Frag} {σ : L2.St} {H : Hp} {b : Bool} {xs : List V} {tl te : TE} {vs : List Nat} {j : Nat}
theorem evp_lcMap {α : Type} (as : List α) (φ : α → V) (h : EvP tl σ H (IsSq b K xs)) (hl : xs.length = as.length) (hz : as.length ≤ 40000) (hw : ∀ x, wipe ((wipe σ vs).set j (some x)) vs = wipe σ vs)
    (turn : ∀ (i : Nat) x a H1, Ex H H1 → xs[i]? = some x → as[i]? = some a → Ev te ((wipe σ vs).set j (some x)) H1 (φ a)) :
    EvP (tLc (iK b K tl) (gName j) tYes te vs) σ H fun v H2 => ∃ p, v = .ref p ∧ H2 p = some (.lst (as.map φ)) := by
  refine (evp_lcAll h (by omega) (fun i y _ => ∃ a, as[i]? = some a ∧ y = φ a) (fun _ _ _ _ _ r => r) fun i x H1 e hx Qy qy => ⟨hw x, ?turn⟩).imp fun v H2 _ ⟨p, ys, e1, e2, e3, e4⟩ => ⟨p, e1, ?out⟩
  case turn =>
    have hi : i < as.length := by
      rw [← hl]
      exact (List.getElem?_eq_some_iff.mp hx).1
    have ha : as[i]? = some as[i] := List.getElem?_eq_getElem hi
    exact turn i x as[i] H1 e hx ha H1 (Ex.refl H1) Qy fun H2 e2 => qy _ H2 e2 ⟨as[i], ha, rfl⟩
  case out =>
    rw [e2, eq_map_of (φ := φ) (e3.trans hl) fun i y a h1 h2 => ?_]
    obtain ⟨a', h3, h4⟩ := e4 i y h1
    rw [h2] at h3
    cases h3
    exact h4
end
section
variable {P : Program} {w : World} {K : PySem.W.Frag} {mg : Str → Option Value} {base : Heap} {pT pC pM C : Addr}

/-! ### _law_rings -/
abbrev psRings : List Str := ["_law_ends", "_law_deeds_here"]
abbrev spRings (K : PySem.W.Frag) : Sp := fun vs H Q _ => ∃ (e : Int) (a : Addr) (ds : List Deed), vs = [.int e, .ref a] ∧ LD K H a ds ∧ ds.length ≤ 4000 ∧ RetP (fun v H2 => ∃ p, v = .ref p ∧ H2 p = some (.lst ((rings e ds).map V.int))) H Q
theorem sc64 : FnScope ["_law_ends", "_law_deeds_here", "_law_found", "_law_word", "_law_gap"] psRings (defScope (topS 64)) := ⟨rfl, rfl, rfl, by decide +kernel, rfl, by decide +kernel, by decide +kernel⟩
def stepE : Wd → Int
  | .op => 2
  | .jn => -2
  | _ => 0
theorem stepE_eq (n : Int) (a : Wd) : n + stepE a = thenE n a := by
  cases a <;> first | rfl | exact Int.add_zero n
abbrev stepD : List (Key × V) := [(Sum.inr "open", .int 2), (Sum.inr "join", .int (-2))]
theorem stepD_at (a : Wd) : (valV (mergeK [] stepD) (Sum.inr (wS a))).getD (.int 0) = .int (stepE a) := by
  cases a <;> decide +kernel
/-- {"open": 2, "join": -2}.get(word, 0) -/
theorem ev_step {σ : L2.St} {H : Hp} {i : Nat} {a : Wd} (h : σ[i]? = some (some (.str (wS a)))) : Ev (tDGet2 (tDisp [(tC (.str "open"), tC (.int 2)), (tC (.str "join"), tUn (rU fun i => .int (-i)) (tC (.int 2)))]) (tVar i) (tC (.int 0))) σ H (.int (stepE a)) := fun H1 e Q q p hp =>
  ⟨2, rfl, upd_same, stepD, rfl, by decide, p, rfl, .inl ⟨_, .inl upd_same⟩, .str (wS a), h, _, DGet.k (k := Sum.inr (wS a)) upd_same, by
    rw [stepD_at]
    refine q _ ?_
    rw [upd_upd]
    exact Ex.new hp⟩
theorem ok_rings (D : DefAt K mg "_law_rings" (topS 64) psRings) : Cal P w K mg base "_law_rings" psRings 1 (spRings K) := by
  refine D.cal sc64 (fun vs H Q E ⟨e, a, ds, h, _⟩ => by rw [h]; rfl) fun f cdv A outer s H vs Q E hr ⟨e, a, ds, ev, ⟨us, hS, hd⟩, hz, k⟩ => ?_
  subst ev
  refine ⟨_, (pss_cons (ps_set (i := 2) sc64.nd rfl (.inl rfl) (pe_lst pa_nil))
    (pss_cons (ps_for PassesOwn.never rfl (pi_list (pv 1)) (pg_tup rfl (pgs_cons (pg_name (i := 3) sc64.nd rfl (.inl rfl)) (pgs_cons (pg_name (i := 4) sc64.nd rfl (.inl rfl)) pgs_nil)))
    (pss_cons (ps_expr (pe_bm PySem.F.plainAttrs_list PySem.F.slot_list_append PySem.F.type_list_append mt_append (pv 2) (pa_cons (pv 0) pa_nil)))
    (pss_one (ps_set (i := 0) sc64.nd rfl (.inl rfl) (pe_op op_add (pv 0) (pe_dget2 (hu_of hr) (pe_disp (pps_cons pe_str pe_int (pps_cons pe_str (pe_un un_neg pe_int) pps_nil)) (by rfl) (by rfl) (fun z => by cases z) (by decide)) (pv 3) pe_int ⟨by rfl, by rfl, by rfl, by rfl⟩))))))
    (pss_one (ps_ret (pv 2))))), ?_⟩
  refine q_asgL (el_lst ea_nil (Nat.zero_le _)) fun D H0 hD e0 hD0 => ?_
  refine q_forL (ev_var rfl) (ex_l e0 hS) (fun i σ H' => ∃ y3 y4, σ = [some (.int (ringAt e (ds.take i))), some (.ref a), some (.ref D), y3, y4] ∧ Ex H H' ∧ H' D = some (.lst ((rings e (ds.take i)).map V.int)))
    (fun H2 e2 => ⟨none, none, rfl, e0.trans e2, e2 _ _ hD0⟩) (fun i σ H' _ ⟨_, _, _, e2, _⟩ => ex_l e2 hS) ?_ ?_
  · rintro i y σ H' hy ⟨y3, y4, eσ, e2, hl⟩
    subst eσ
    obtain ⟨d, hd1, hd2⟩ := (hd.mono e2).get hy
    have hi : i < ds.length := (List.getElem?_eq_some_iff.mp hd1).1
    have et : ds.take (i + 1) = ds.take i ++ [d] := by rw [List.take_add_one, hd1]; rfl
    refine g_deed hd2 ?_
    refine q_app hl (ev_var rfl) (ev_var rfl) (by rw [List.length_map, rings_length, List.length_take]; omega) fun H2 e3 => ?_
    refine s_asg (v := .int (thenE (ringAt e (ds.take i)) d.1)) (ev_is (ev_op (ev_var rfl) (ev_step (a := d.1) rfl) rv_I0) (by rw [stepE_eq])) fun H3 e4 => ⟨some (.str (wS d.1)), some (.int d.2), ?_, (Ex.mut (e2.trans e3) hD).trans e4, e4 _ _ ?_⟩
    · rw [et, ringAt_snoc]
      rfl
    · rw [upd_same, et, rings_snoc, List.map_append]
      rfl
  · rintro σ H' ⟨y3, y4, eσ, e2, hl⟩
    subst eσ
    rw [List.take_of_length_le (by rw [hd.len]; exact Nat.le_refl _)] at hl
    exact s_retP (evp_ev (ev_var rfl) fun H2 e3 => ⟨D, rfl, e3 _ _ hl⟩) fun v H2 e3 p => k v H2 (e2.trans e3) p

/-! ### _law_behind -/
abbrev psLB : List Str := ["_law_word", "_law_some"]
/-- a new list of deeds -/
def NL (K : PySem.W.Frag) (ds : List Deed) : V → Hp → Prop := fun v H => ∃ a vs, v = .ref a ∧ H a = some (.lst vs) ∧ DsAt K H vs ds
abbrev spLB (K : PySem.W.Frag) : Sp := fun vs H Q _ => ∃ (m : Mv) (a : Addr) (d1 d2 : Deed) (r : List Deed), vs = [.str (mS m), .ref a] ∧ LD K H a (d1 :: d2 :: r) ∧ r.length ≤ 4000 ∧ RetP (NL K (lawBehind m (d1 :: d2 :: r))) H Q
theorem sc66 : FnScope psLB psLB (defScope (topS 66)) := ⟨rfl, rfl, rfl, by decide +kernel, rfl, by decide +kernel, by decide +kernel⟩
/-- deeds[n:] of a list in a slot -/
theorem sl_fromL {σ : L2.St} {H : Hp} {i : Nat} {a : Addr} {us : List V} (n : Nat) (h0 : σ[i]? = some (some (.ref a))) (hS : SqL K H a us) : EvL (tSl (rSlL K) (tVar i) (tPart (tC (.int (n : Int)))) tNoPart) σ H (us.drop n) := by
  rw [← cut_from]
  exact el_sl (ev_var h0) (eo_some ev_c) eo_none hS
theorem el_cat {σ : L2.St} {H : Hp} {ta tb : TE} {xs ys : List V} (ha : EvL ta σ H xs) (hb : EvL tb σ H ys) (hz : xs.length + ys.length ≤ 100000) : EvL (tOp rCat ta tb) σ H (xs ++ ys) := fun H1 e Q q =>
  ha H1 e _ fun p H2 hp e2 h2 => hb H2 (e.trans e2) _ fun r H3 hr e3 h3 => ⟨p, r, xs, ys, rfl, rfl, e3 _ _ h2, h3, sz_of hz, fun l hl => q l _ (fresh_back (e2.trans e3) hl) ((e2.trans e3).trans (Ex.new hl)) upd_same⟩
theorem el_if {σ : L2.St} {H : Hp} {t : TT} {ta tb : TE} {b : Bool} {xs : List V} (h : EvT t σ H b) (h1 : b = true → EvL ta σ H xs) (h2 : b = false → EvL tb σ H xs) : EvL (tIf t ta tb) σ H xs := fun H1 e Q q => h H1 e _ fun H2 e2 => by
  cases b with
  | true => exact h1 rfl H2 (e.trans e2) Q fun p H3 hp e3 h3 => q p H3 (fresh_back e2 hp) (e2.trans e3) h3
  | false => exact h2 rfl H2 (e.trans e2) Q fun p H3 hp e3 h3 => q p H3 (fresh_back e2 hp) (e2.trans e3) h3
theorem inM2 (m : Mv) : inV (.str (mS m)) [.str (mS .undo), .str (mS .bend)] = (decide (m = .undo) || decide (m = .bend)) := by cases m <;> decide +kernel
theorem LD.two {H : Hp} {a : Addr} {d1 d2 : Deed} {r : List Deed} (h : LD K H a (d1 :: d2 :: r)) : ∃ v1 v2 vr, SqL K H a (v1 :: v2 :: vr) ∧ DAt K H v1 d1 ∧ DAt K H v2 d2 ∧ DsAt K H vr r := by
  obtain ⟨us, hS, hd⟩ := h
  cases hd with
  | cons a1 hd =>
    cases hd with
    | cons a2 hd => exact ⟨_, _, _, hS, a1, a2, hd⟩
theorem ok_lawBehind (D : DefAt K mg "_law_behind" (topS 66) psLB) : Cal P w K mg base "_law_behind" psLB 1 (spLB K) := by
  refine D.cal sc66 (fun vs H Q E ⟨m, a, d1, d2, r, h, _⟩ => by rw [h]; rfl) fun f cdv A outer s H vs Q E hr ⟨m, a, d1, d2, r, ev, hL, hz, k⟩ => ?_
  subst ev
  refine ⟨_, (pss_cons (ps_if (pt_cmpR op_in_seq (pv 0) (pe_tup (pa_cons pe_str (pa_cons pe_str pa_nil))) (by rfl))
    (pss_one (ps_ret (pe_slice sl_list (pv 1) (po_some pe_int) po_none)))
    pss_nil)
    (pss_cons (ps_if (pt_cmpR op_eq (pv 0) pe_str (nomark _))
    (pss_one (ps_ret (pe_slice sl_list (pv 1) (po_some pe_int) po_none)))
    pss_nil)
    (pss_one (ps_ret (pe_op op_cat (pe_lst (pa_cons (pe_ix ix_list (pv 1) pe_int (fun _ _ => rfl)) (pa_cons (pe_ix ix_list (pv 1) pe_int (fun _ _ => rfl)) pa_nil))) (pe_ifExp (pt_cmpR op_eq (pv 0) pe_str (nomark _)) (pe_op op_cat (pe_lst (pa_cons (pe_ix ix_list (pv 1) pe_int (fun _ _ => rfl)) pa_nil)) (pe_slice sl_list (pv 1) (po_some pe_int) po_none)) (pe_slice sl_list (pv 1) (po_some pe_int) po_none))))))), ?_⟩
  obtain ⟨v1, v2, vr, hS, a1, a2, hr0⟩ := hL.two
  have hd : DsAt K H (v1 :: v2 :: vr) (d1 :: d2 :: r) := .cons a1 (.cons a2 hr0)
  have l2 : 2 ≤ 100000 := by decide
  refine q_when (et_is (et_test (ev_inU (ev_var rfl) (eu_tup (ea_cons ev_c (ea_cons ev_c ea_nil)) l2) rfl (by rfl))) (inM2 m)) (fun h H1 e1 => ?_) fun h H1 e1 => ?_
  · refine s_retP (evp_el (sl_fromL 2 rfl (ex_l e1 hS)) fun p H2 e2 hp => ⟨p, _, rfl, hp, ?_⟩) (k.go e1)
    have hb : lawBehind m (d1 :: d2 :: r) = (d1 :: d2 :: r).drop 2 := by
      rcases Bool.or_eq_true_iff.mp h with q | q <;> rw [of_decide_eq_true q] <;> rfl
    rw [hb]
    exact (hd.mono (e1.trans e2)).drop 2
  refine q_when (et_op (ev_var rfl) ev_c (rv_eqM (b := .curl))) (fun h2 H2 e2 => ?_) fun h2 H2 e2 => ?_
  · have em := of_decide_eq_true h2
    subst em
    exact s_retP (evp_el (sl_fromL 1 rfl (ex_l (e1.trans e2) hS)) fun p H3 e3 hp => ⟨p, _, rfl, hp, (hd.mono ((e1.trans e2).trans e3)).drop 1⟩) (k.go (e1.trans e2))
  have e12 := e1.trans e2
  have hS2 := ex_l e12 hS
  have l1 : 1 ≤ 100000 := by decide
  have hlr := Paired.length hr0
  refine s_retP (evp_el (el_cat (xs := [v2, v1]) (ys := if m = .three then v2 :: vr.drop 1 else vr) (el_lst (ea_cons (ev_op (ev_var rfl) ev_c (rv_ixL hS2 at1)) (ea_cons (ev_op (ev_var rfl) ev_c (rv_ixL hS2 at0)) ea_nil)) l2)
    (el_if (et_op (ev_var rfl) ev_c (rv_eqM (b := .three))) (fun h3 => ?_) fun h3 => ?_) ?_) fun p H3 e3 hp => ⟨p, _, rfl, hp, ?_⟩) (k.go e12)
  · rw [if_pos (of_decide_eq_true h3)]
    exact el_cat (xs := [v2]) (ys := vr.drop 1) (el_lst (ea_cons (ev_op (ev_var rfl) ev_c (rv_ixL hS2 at1)) ea_nil) l1) (sl_fromL 3 rfl hS2) (by rw [List.length_drop, List.length_singleton]; omega)
  · rw [if_neg (of_decide_eq_false h3)]
    exact sl_fromL 2 rfl hS2
  · by_cases q : m = .three
    · rw [if_pos q]
      simp only [List.length_cons, List.length_nil, List.length_drop]
      omega
    · rw [if_neg q]
      simp only [List.length_cons, List.length_nil]
      omega
  · have e13 := e12.trans e3
    have n2 := of_decide_eq_false h2
    simp at h
    have em : m = .far ∨ m = .three := by
      obtain ⟨h5, h6⟩ := h
      cases m <;> first | exact .inl rfl | exact .inr rfl | (exact absurd rfl n2) | (exact absurd rfl h5) | (exact absurd rfl h6)
    rcases em with em | em
    · subst em
      exact .cons (a2.mono e13) (.cons (a1.mono e13) (DsAt.mono e13 hr0))
    · subst em
      exact .cons (a2.mono e13) (.cons (a1.mono e13) (.cons (a2.mono e13) ((DsAt.mono e13 hr0).drop 1)))
end
end K38

/-! The law's own looking: _law_fits. -/
namespace K38
open PySem PySem.Spec PyProof.Rows L2 Evl StX

/-! ### lists of words, of truths -/
theorem wS_beq (a b : Wd) : (wS a == wS b) = decide (a = b) := by
  by_cases h : a = b
  · subst h
    simp
  · rw [decide_eq_false h]
    exact beq_eq_false_iff_ne.mpr fun z => h (wS_inj z)
def wP (d : Deed) : PyData := .str (wS d.1)
def xP (d : Deed) : PyData := .bool (isX d.1)
theorem lay_w (a : Wd) : PyData.canLay0 (.str (wS a)) = true := by
  simp only [PyData.canLay0]
  cases a <;> decide +kernel
theorem lay_wl : ∀ ds : List Deed, PyData.canLayAll0 (ds.map wP) = true
  | [] => rfl
  | d :: ds => by
    show (PyData.canLay0 (.str (wS d.1)) && PyData.canLayAll0 (ds.map wP)) = true
    rw [lay_w, lay_wl ds]
    rfl
theorem lay_xl : ∀ ds : List Deed, PyData.canLayAll0 (ds.map xP) = true
  | [] => rfl
  | d :: ds => by
    show (PyData.canLay0 (.bool (isX d.1)) && PyData.canLayAll0 (ds.map xP)) = true
    rw [lay_xl ds]
    simp [PyData.canLay0]
theorem dep_wl : ∀ ds : List Deed, PyData.depthAll (ds.map wP) = 0
  | [] => rfl
  | d :: ds => by
    show max (PyData.depth (.str (wS d.1))) (PyData.depthAll (ds.map wP)) = 0
    rw [dep_wl ds]
    rfl
theorem dep_xl : ∀ ds : List Deed, PyData.depthAll (ds.map xP) = 0
  | [] => rfl
  | d :: ds => by
    show max (PyData.depth (.bool (isX d.1))) (PyData.depthAll (ds.map xP)) = 0
    rw [dep_xl ds]
    rfl
theorem sh_l {xs : List PyData} (h1 : PyData.canLayAll0 xs = true) (h2 : PyData.depthAll xs = 0) : SeqAt.shaped (.list xs) = true := by
  have h3 : PyData.depth (.list xs) ≤ 64 := by
    show PyData.depthAll xs + 1 ≤ 64
    omega
  show (PyData.canLayAll0 xs && decide (PyData.depth (.list xs) ≤ 64)) = true
  rw [h1, decide_eq_true h3]
  rfl
theorem shW (ds : List Deed) : SeqAt.shaped (.list (ds.map wP)) = true := sh_l (lay_wl ds) (dep_wl ds)
theorem shX (ds : List Deed) : SeqAt.shaped (.list (ds.map xP)) = true := sh_l (lay_xl ds) (dep_xl ds)
section
variable {K : PySem.W.Frag} {σ : L2.St} {H : Hp} {te : TE} {a : Addr} {ds : List Deed} {φ : Deed → V} {ψ : Deed → PyData}
theorem dp_all (h : ∀ d H, Dp K H (φ d) (ψ d)) : ∀ ds : List Deed, DpAll K H (ds.map φ) (ds.map ψ)
  | [] => .nil
  | d :: ds => .cons (h d H) (dp_all h ds)
/-- xs[:n], xs[n:m] as data -/
theorem dt_to (h : ∀ d H, Dp K H (φ d) (ψ d)) (n : Nat) (ha : Ev te σ H (.ref a)) (hs : H a = some (.lst (ds.map φ))) : EvDt K (tSl (rSlL K) te tNoPart (tPart (tC (.int (n : Int))))) σ H (.list ((ds.take n).map ψ)) :=
  evp_el (el_sl ha eo_none (eo_some ev_c) (sq_of hs)) fun p H2 e hp => .lst (sq_of hp) (by
    rw [cut_to, ← List.map_take]
    exact dp_all h _)
theorem dt_mid (h : ∀ d H, Dp K H (φ d) (ψ d)) (n m : Nat) (ha : Ev te σ H (.ref a)) (hs : H a = some (.lst (ds.map φ))) : EvDt K (tSl (rSlL K) te (tPart (tC (.int (n : Int)))) (tPart (tC (.int (m : Int))))) σ H (.list (((ds.drop n).take (m - n)).map ψ)) :=
  evp_el (el_sl ha (eo_some ev_c) (eo_some ev_c) (sq_of hs)) fun p H2 e hp => .lst (sq_of hp) (by
    rw [cut_mid, ← List.map_drop, ← List.map_take]
    exact dp_all h _)
theorem wDp (d : Deed) (H : Hp) : Dp K H (.str (wS d.1)) (wP d) := .str _
theorem xDp (d : Deed) (H : Hp) : Dp K H (.bl (isX d.1)) (xP d) := .bl _
theorem rc_int {i : Int} : RC (fun xs H Q => (∃ i, xs = [.int i] ∧ Q (.int i) H) ∨ ∃ k, xs = [.bl k] ∧ Q (.int (if k then 1 else 0)) H) [.int i] H (.int i) := fun H1 _ _ q => .inl ⟨i, rfl, q H1 (Ex.refl H1)⟩
end
/-- a, b = x, y -/
theorem q_par {σ : L2.St} {H : Hp} {ta tb : TE} {i j : Nat} {tz : TS} {D : Ends} {P1 : V → Hp → Prop} {P2 : V → V → Hp → Prop} (h1 : EvP ta σ H P1) (h2 : ∀ v H1, Ex H H1 → P1 v H1 → EvP tb σ H1 (P2 v)) (k : ∀ v w H2, Ex H H2 → P2 v w H2 → tz D ((σ.set i (some v)).set j (some w)) H2) :
    tSeq (tPar i j (tCons ta (tCons tb tNil))) tz D σ H := h1 H (Ex.refl H) _ fun v H1 e1 p => h2 v H1 e1 p H1 (Ex.refl H1) _ fun w' H2 e2 q => ⟨v, w', rfl, k v w' H2 (e1.trans e2) q⟩
theorem inI3 (x a b c : Int) : inV (.int x) [.int a, .int b, .int c] = (decide (x = a) || (decide (x = b) || decide (x = c))) := by
  have h := inI x b c
  unfold inV at h ⊢
  rw [List.any_cons, h]
  congr 1
  by_cases q : x = a
  · subst q
    simp [eqV]
  · have q' : ¬ a = x := fun z => q z.symm
    simp [eqV, q, q']

section
variable {P : Program} {w : World} {K : PySem.W.Frag} {mg : Str → Option Value} {base : Heap} {pT pC pM C : Addr}
abbrev psLF : List Str := ["_law_word", "_law_ring", "_law_some"]
abbrev spLF (K : PySem.W.Frag) : Sp := fun vs H Q _ => ∃ (m : Mv) (e : Int) (a : Addr) (d : Deed) (r : List Deed), vs = [.str (mS m), .int e, .ref a] ∧ LD K H a (d :: r) ∧ r.length ≤ 4000 ∧ (isX d.1 = true → 0 < e) ∧ RetV (.bl (lawFits m e (d :: r))) H Q
abbrev N65 : List Str := ["_law_word", "_law_ring", "_law_some", "_law_crosses", "_law_apart", "_law_words", "_law_gaps", "_law_each", "_law_deed"]
theorem sc65 : FnScope N65 psLF (defScope (topS 65)) := ⟨rfl, rfl, rfl, by decide +kernel, rfl, by decide +kernel, by decide +kernel⟩
theorem ok_lawFits (D : DefAt K mg "_law_fits" (topS 65) psLF) (T : Txt K mg pT pC pM C) : Cal P w K mg base "_law_fits" psLF 1 (spLF K) := by
  refine D.cal sc65 (fun vs H Q E ⟨m, e, a, d, r, h, _⟩ => by rw [h]; rfl) fun f cdv A outer s H vs Q E hr ⟨m, e, a, d1, r, ev, hL, hz, hX, k⟩ => ?_
  subst ev
  refine ⟨_, (pss_cons (ps_par (by rfl) sc65.nd (i := 5) (j := 6) rfl rfl (by decide) rfl rfl (pa_cons (pe_lc (own := [("_law_deed", 8)]) (g := gName 8) (te := tOp (rIxT K) (tVar 8) (tC (.int 0))) rfl sc65.nd (pi_list (pv 2)) (blkOk_by (N := N65) (sc := defScope (topS 65)) (by decide +kernel)) (fun _ _ _ _ _ => (pg_name (i := 8) sc65.nd rfl (.inl rfl) (.inr rfl))) (fun _ _ _ _ _ => pts_nil) (fun _ _ _ _ _ => (pe_ix ix_tup (pv 8) pe_int (fun _ _ => rfl)))) (pa_cons (pe_lc (own := [("_law_deed", 8)]) (g := gName 8) (te := tOp (rIxT K) (tVar 8) (tC (.int 1))) rfl sc65.nd (pi_list (pv 2)) (blkOk_by (N := N65) (sc := defScope (topS 65)) (by decide +kernel)) (fun _ _ _ _ _ => (pg_name (i := 8) sc65.nd rfl (.inl rfl) (.inr rfl))) (fun _ _ _ _ _ => pts_nil) (fun _ _ _ _ _ => (pe_ix ix_tup (pv 8) pe_int (fun _ _ => rfl)))) pa_nil)) (by rfl))
    (pss_cons (ps_setLc (i := 3) (g := gName 7) (te := tOp (rIn K false) (tVar 7) (tTup (tCons (tC (.str "over")) (tCons (tC (.str "under")) tNil)))) rfl sc65.nd rfl rfl (sw_true rfl rfl rfl (by decide +kernel)) (own := [("_law_each", 7)]) (pi_list (pv 5)) (blkOk_by (N := N65) (sc := defScope (topS 65)) (by decide +kernel)) (fun _ _ _ _ _ => (pg_name (i := 7) sc65.nd rfl (.inl rfl) (.inr rfl))) (fun _ _ _ _ _ => pts_nil) (fun _ _ _ _ _ => (pe_cmpR op_in_seq (pv 7) (pe_tup (pa_cons pe_str (pa_cons pe_str pa_nil))) (by rfl))))
    (pss_cons (ps_if (pt_cmpR op_eq (pv 0) pe_str (nomark _))
    (pss_one (ps_ret (pe_and (pe_cmpR (op_eqD hr.units) (pe_slice sl_list (pv 5) po_none (po_some pe_int)) (pe_lst (pa_cons pe_str (pa_cons pe_str pa_nil))) (nomark _)) (pe_and (pe_cmpR op_gt (pv 1) pe_int (nomark _)) (pe_one (pe_cmpR op_in_seq (pe_op op_sub (pe_ix ix_list (pv 6) pe_int (fun _ _ => rfl)) (pe_ix ix_list (pv 6) pe_int (fun _ _ => rfl))) (pe_tup (pa_cons pe_int (pa_cons pe_int pa_nil))) (by rfl)))))))
    pss_nil)
    (pss_cons (ps_if (pt_cmpR op_eq (pv 0) pe_str (nomark _))
    (pss_one (ps_ret (pe_and (pe_cmpR (op_eqD hr.units) (pe_slice sl_list (pv 3) po_none (po_some pe_int)) (pe_lst (pa_cons pe_bl pa_nil)) (nomark _)) (pe_and (pe_cmpR (op_eqD hr.units) (pe_slice sl_list (pv 5) (po_some pe_int) (po_some pe_int)) (pe_lst (pa_cons pe_str pa_nil)) (nomark _)) (pe_one (pe_cmpR op_eq (pe_ix ix_list (pv 6) pe_int (fun _ _ => rfl)) (pe_ix ix_list (pv 6) pe_int (fun _ _ => rfl)) (nomark _)))))))
    pss_nil)
    (pss_cons (ps_if (pt_cmpR (op_neD hr.units) (pe_slice sl_list (pv 3) po_none (po_some pe_int)) (pe_lst (pa_cons pe_bl (pa_cons pe_bl pa_nil))) (nomark _))
    (pss_one (ps_ret pe_bl))
    pss_nil)
    (pss_cons (ps_set (i := 4) sc65.nd rfl (.inl rfl) (pe_op op_mod (pe_callTy call_int1 (by rfl) T.b_int (by decide +kernel) (pa_cons (pe_op op_sub (pe_ix ix_list (pv 6) pe_int (fun _ _ => rfl)) (pe_ix ix_list (pv 6) pe_int (fun _ _ => rfl))) pa_nil)) (pv 1)))
    (pss_cons (ps_if (pt_cmpR op_eq (pv 0) pe_str (nomark _))
    (pss_one (ps_ret (pe_and (pe_cmpR op_eq (pv 4) pe_int (nomark _)) (pe_one (pe_cmpR op_ne (pe_ix ix_list (pv 5) pe_int (fun _ _ => rfl)) (pe_ix ix_list (pv 5) pe_int (fun _ _ => rfl)) (nomark _))))))
    pss_nil)
    (pss_cons (ps_if (pt_cmpR op_eq (pv 0) pe_str (nomark _))
    (pss_one (ps_ret (pe_cmpR op_notIn_seq (pv 4) (pe_tup (pa_cons pe_int (pa_cons pe_int (pa_cons (pe_op op_sub (pv 1) pe_int) pa_nil)))) (by rfl))))
    pss_nil)
    (pss_one (ps_ret (pe_and (pe_cmpR (op_eqD hr.units) (pe_slice sl_list (pv 3) (po_some pe_int) (po_some pe_int)) (pe_lst (pa_cons pe_bl pa_nil)) (nomark _)) (pe_and (pe_chain op_eq op_eq (pe_ix ix_list (pv 5) pe_int (fun _ _ => rfl)) (pe_ix ix_list (pv 5) pe_int (fun _ _ => rfl)) (pe_ix ix_list (pv 5) pe_int (fun _ _ => rfl))) (pe_and (pe_cmpR op_eq (pe_ix ix_list (pv 6) pe_int (fun _ _ => rfl)) (pe_ix ix_list (pv 6) pe_int (fun _ _ => rfl)) (nomark _)) (pe_and (pe_cmpR op_gt (pv 1) pe_int (nomark _)) (pe_one (pe_cmpR op_in_seq (pv 4) (pe_tup (pa_cons pe_int (pa_cons (pe_op op_sub (pv 1) pe_int) pa_nil))) (by rfl))))))))))))))))), ?_⟩
  obtain ⟨us, hS, hd⟩ := hL
  have l1 : 1 ≤ 100000 := by decide
  have l2 : 2 ≤ 100000 := by decide
  have l3 : 3 ≤ 100000 := by decide
  have lz : (d1 :: r).length ≤ 40000 := by
    rw [List.length_cons]
    omega
  -- the three lists
  refine q_par (P1 := fun v H1 => ∃ pw, v = .ref pw ∧ H1 pw = some (.lst ((d1 :: r).map fun d => .str (wS d.1)))) (P2 := fun v u H2 => ∃ pw pg, v = .ref pw ∧ u = .ref pg ∧ H2 pw = some (.lst ((d1 :: r).map fun d => .str (wS d.1))) ∧ H2 pg = some (.lst ((d1 :: r).map fun d => .int d.2)))
    (evp_lcMap (b := false) (d1 :: r) (fun d => .str (wS d.1)) (isq_L (ev_var rfl) hS) hd.len lz (fun _ => rfl) fun i x d H1 e1 hx hdd => ?_)
    (fun v H1 e1 ⟨pw, ev, hw⟩ => (evp_lcMap (b := false) (d1 :: r) (fun d => .int d.2) (isq_L (ev_var rfl) (ex_l e1 hS)) hd.len lz (fun _ => rfl) fun i x d H2 e2 hx hdd => ?_).imp fun u H2 e2 ⟨pg, eu, hg⟩ => ⟨pw, pg, ev, eu, e2 _ _ hw, hg⟩) fun v u H2 e12 ⟨pw, pg, ev, eu, hw2, hg⟩ => ?_
  · obtain ⟨d', h1, p, ep, h2⟩ := (hd.mono e1).get hx
    rw [hdd] at h1
    cases h1
    subst ep
    exact ev_op (ev_var rfl) ev_c (rv_ixT h2 at0)
  · obtain ⟨d', h1, p, ep, h2⟩ := (hd.mono (e1.trans e2)).get hx
    rw [hdd] at h1
    cases h1
    subst ep
    exact ev_op (ev_var rfl) ev_c (rv_ixT h2 at1)
  subst ev
  subst eu
  refine q_asgP (evp_lcMap (b := false) (d1 :: r) (fun d => .bl (isX d.1)) (isq_L (ev_var rfl) (sq_of hw2)) (List.length_map _) lz (fun _ => rfl) fun i x d H3 e3 hx hdd => ?_) fun v H3 e3 ⟨pc, ev, hc⟩ => ?_
  · rw [List.getElem?_map, hdd] at hx
    cases hx
    exact ev_is (ev_inU (ev_var rfl) (eu_tup (ea_cons ev_c (ea_cons ev_c ea_nil)) l2) rfl (by rfl)) (congrArg V.bl (inC d.1))
  subst ev
  have hw3 := e3 _ _ hw2
  have hg3 := e3 _ _ hg
  have e03 := e12.trans e3
  have kk : ∀ {H4 : Hp}, Ex H3 H4 → RetV (.bl (lawFits m e (d1 :: r))) H4 Q := fun e4 H5 e5 => k H5 ((e03.trans e4).trans e5)
  have two1 : ∀ {σ : L2.St} {H4 : Hp}, EvDt K (tLst (tCons (tC (.bl true)) tNil)) σ H4 (.list [.bool true]) := evd_lst (ds := [.bool true]) (evd_cons (evd ev_c fun _ _ => .bl true) evd_nil) l1
  have two2 : ∀ {σ : L2.St} {H4 : Hp}, EvDt K (tLst (tCons (tC (.bl true)) (tCons (tC (.bl true)) tNil))) σ H4 (.list [.bool true, .bool true]) := evd_lst (ds := [.bool true, .bool true]) (evd_cons (evd ev_c fun _ _ => .bl true) (evd_cons (evd ev_c fun _ _ => .bl true) evd_nil)) l2
  have s1 : SeqAt.shaped (.list [.bool true]) = true := shX [(.ov, 0)]
  have s2 : SeqAt.shaped (.list [.bool true, .bool true]) = true := shX [(.ov, 0), (.ov, 0)]
  have sJ : SeqAt.shaped (.list [.str (wS .jn)]) = true := shW [(.jn, 0)]
  have sOJ : SeqAt.shaped (.list [.str (wS .op), .str (wS .jn)]) = true := shW [(.op, 0), (.jn, 0)]
  -- bend
  refine q_when (et_op (ev_var rfl) ev_c (rv_eqM (b := .bend))) (fun h H4 e4 => ?_) fun n1 H4 e4 => ?_
  · have em := of_decide_eq_true h
    subst em
    have W := e4 _ _ hw3
    have Gp := e4 _ _ hg3
    have first := ev_eqD (K := K) (dt_to (σ := [some (.str (mS .bend)), some (.int e), some (.ref a), some (.ref pc), none, some (.ref pw), some (.ref pg), none, none]) wDp 2 (ev_var (i := 5) rfl) W) (evd_lst (ds := [.str (wS .op), .str (wS .jn)]) (evd_cons (evd ev_c fun _ _ => .str _) (evd_cons (evd ev_c fun _ _ => .str _) evd_nil)) l2) (shW _) sOJ
    cases r with
    | nil =>
      refine s_retV (ev_is (ev_andV (a := false) (b := false) (ev_is first ?_) fun z => nomatch z) rfl) (kk e4)
      show V.bl ((wS d1.1 == wS .op) && false) = _
      rw [Bool.and_false]
    | cons d2 r =>
      refine s_retV (ev_is (ev_andV first fun _ => ev_andV (ev_op (ev_var rfl) ev_c rv_I0) fun _ => ev_inU (ev_op (ev_op (ev_var rfl) ev_c (rv_ixL (sq_of Gp) at1)) (ev_op (ev_var rfl) ev_c (rv_ixL (sq_of Gp) at0)) rv_I0) (eu_tup (ea_cons ev_c (ea_cons ev_c ea_nil)) l2) rfl (by rfl)) ?_) (kk e4)
      rw [inI]
      show V.bl (((wS d1.1 == wS .op) && ((wS d2.1 == wS .jn) && true)) && _) = V.bl _
      rw [wS_beq, wS_beq, Bool.and_true]
      rfl
  -- curl
  refine q_when (et_op (ev_var rfl) ev_c (rv_eqM (b := .curl))) (fun h H5 e5 => ?_) fun n2 H5 e5 => ?_
  · have em := of_decide_eq_true h
    subst em
    have e45 := e4.trans e5
    have W := e45 _ _ hw3
    have Gp := e45 _ _ hg3
    have Cp' := e45 _ _ hc
    have first := ev_eqD (K := K) (dt_to (σ := [some (.str (mS .curl)), some (.int e), some (.ref a), some (.ref pc), none, some (.ref pw), some (.ref pg), none, none]) xDp 1 (ev_var (i := 3) rfl) Cp') two1 (shX _) s1
    have secnd := ev_eqD (K := K) (dt_mid (σ := [some (.str (mS .curl)), some (.int e), some (.ref a), some (.ref pc), none, some (.ref pw), some (.ref pg), none, none]) wDp 1 2 (ev_var (i := 5) rfl) W) (evd_lst (ds := [.str (wS .jn)]) (evd_cons (evd ev_c fun _ _ => .str _) evd_nil) l1) (shW _) sJ
    cases r with
    | nil =>
      refine s_retV (ev_is (ev_andV first fun _ => ev_andV (a := false) (b := false) (ev_is secnd rfl) fun z => nomatch z) ?_) (kk e45)
      show V.bl (_ && false) = _
      rw [Bool.and_false]
      rfl
    | cons d2 r =>
      refine s_retV (ev_is (ev_andV first fun _ => ev_andV secnd fun _ => ev_op (ev_op (ev_var rfl) ev_c (rv_ixL (sq_of Gp) at0)) (ev_op (ev_var rfl) ev_c (rv_ixL (sq_of Gp) at1)) rv_eqI) ?_) (kk e45)
      show V.bl (((isX d1.1 == true) && true) && (((wS d2.1 == wS .jn) && true) && _)) = V.bl _
      rw [wS_beq, Bool.and_true, Bool.and_true]
      show V.bl ((isX d1.1 == true) && _) = V.bl (isX d1.1 && _)
      cases isX d1.1 <;> rfl
  have e45 := e4.trans e5
  have W := e45 _ _ hw3
  have Gp := e45 _ _ hg3
  have Cp' := e45 _ _ hc
  have n1 := of_decide_eq_false n1
  have n2 := of_decide_eq_false n2
  have third := ev_neD (K := K) (dt_to (σ := [some (.str (mS m)), some (.int e), some (.ref a), some (.ref pc), none, some (.ref pw), some (.ref pg), none, none]) xDp 2 (ev_var (i := 3) rfl) Cp') two2 (shX _) s2
  cases r with
  | nil =>
    have q0 : (V.bl (!PyData.eqv (.list (([d1].take 2).map xP)) (.list [.bool true, .bool true]))) = .bl true := by
      show V.bl (!((isX d1.1 == true) && false)) = _
      rw [Bool.and_false]
      rfl
    refine q_when (b := true) (et_test (ev_is third q0)) (fun _ H6 e6 => s_retV ev_c fun H7 e7 => ?_) fun z => nomatch z
    have q : lawFits m e [d1] = false := by cases m <;> rfl
    rw [← q]
    exact kk (e45.trans e6) H7 e7
  | cons d2 r =>
    have W1 : ∀ {H6 : Hp}, Ex H5 H6 → H6 pw = some (.lst (.str (wS d1.1) :: .str (wS d2.1) :: r.map fun d => .str (wS d.1))) := fun e6 => e6 _ _ W
    have G1 : ∀ {H6 : Hp}, Ex H5 H6 → H6 pg = some (.lst (.int d1.2 :: .int d2.2 :: r.map fun d => .int d.2)) := fun e6 => e6 _ _ Gp
    have q0 : (V.bl (!PyData.eqv (.list (((d1 :: d2 :: r).take 2).map xP)) (.list [.bool true, .bool true]))) = .bl (!(isX d1.1 && isX d2.1)) := by
      show V.bl (!((isX d1.1 == true) && ((isX d2.1 == true) && true))) = _
      cases isX d1.1 <;> cases isX d2.1 <;> rfl
    refine q_when (b := !(isX d1.1 && isX d2.1)) (et_test (ev_is third q0)) (fun hx H6 e6 => s_retV ev_c fun H7 e7 => ?_) fun hx H6 e6 => ?_
    · have q : lawFits m e (d1 :: d2 :: r) = false := by
        have hx' : (isX d1.1 && isX d2.1) = false := by
          revert hx
          cases isX d1.1 <;> cases isX d2.1 <;> simp
        cases m with
        | bend => exact absurd rfl n1
        | curl => exact absurd rfl n2
        | undo =>
          show (isX d1.1 && isX d2.1 && _) = false
          rw [hx']
          rfl
        | far =>
          show (isX d1.1 && isX d2.1 && _) = false
          rw [hx']
          rfl
        | three =>
          cases r with
          | nil => rfl
          | cons d3 r =>
            show (isX d1.1 && isX d2.1 && _) = false
            rw [hx']
            rfl
      rw [← q]
      exact kk (e45.trans e6) H7 e7
    · have hx' : isX d1.1 = true ∧ isX d2.1 = true := by simpa using hx
      have he : 0 < e := hX hx'.1
      refine q_asg (v := .int ((d1.2 - d2.2) % e)) (ev_op (ev_cb (ea_cons (ev_op (ev_op (ev_var rfl) ev_c (rv_ixL (sq_of (G1 e6)) at0)) (ev_op (ev_var rfl) ev_c (rv_ixL (sq_of (G1 e6)) at1)) rv_I0) ea_nil) rc_int) (ev_var rfl) (rv_I he)) fun H7 e7 => ?_
      have e57 := e6.trans e7
      -- undo
      refine q_when (et_op (ev_var rfl) ev_c (rv_eqM (b := .undo))) (fun h H8 e8 => ?_) fun n3 H8 e8 => ?_
      · have em := of_decide_eq_true h
        subst em
        have e58 := e57.trans e8
        refine s_retV (ev_is (ev_andV (ev_op (ev_var rfl) ev_c rv_eqI) fun _ => ev_op (ev_op (ev_var rfl) ev_c (rv_ixL (sq_of (W1 e58)) at0)) (ev_op (ev_var rfl) ev_c (rv_ixL (sq_of (W1 e58)) at1)) rv_neW) ?_) (kk (e45.trans e58))
        show _ = V.bl (isX d1.1 && isX d2.1 && _)
        rw [hx'.1, hx'.2]
        rfl
      -- far
      refine q_when (et_op (ev_var rfl) ev_c (rv_eqM (b := .far))) (fun h H9 e9 => ?_) fun n4 H9 e9 => ?_
      · have em := of_decide_eq_true h
        subst em
        refine s_retV (ev_is (ev_niU (ev_var rfl) (eu_tup (ea_cons ev_c (ea_cons ev_c (ea_cons (ev_op (ev_var rfl) ev_c rv_I0) ea_nil))) l3) rfl (by rfl)) ?_) (kk (((e45.trans e57).trans e8).trans e9))
        rw [inI3]
        show _ = V.bl (isX d1.1 && isX d2.1 && _)
        rw [hx'.1, hx'.2]
        rfl
      -- three
      have em : m = .three := by
        have n3 := of_decide_eq_false n3
        have n4 := of_decide_eq_false n4
        cases m <;> first | rfl | (exact absurd rfl n1) | (exact absurd rfl n2) | (exact absurd rfl n3) | (exact absurd rfl n4)
      subst em
      have e59 := (e57.trans e8).trans e9
      have C9 := e59 _ _ Cp'
      have fourth := ev_eqD (K := K) (dt_mid (σ := [some (.str (mS .three)), some (.int e), some (.ref a), some (.ref pc), some (.int ((d1.2 - d2.2) % e)), some (.ref pw), some (.ref pg), none, none]) xDp 2 3 (ev_var (i := 3) rfl) C9) two1 (shX _) s1
      cases r with
      | nil => exact s_retV (ev_is (ev_andV (a := false) (b := false) (ev_is fourth rfl) fun z => nomatch z) rfl) (kk (e45.trans e59))
      | cons d3 r =>
        have W9 := W1 e59
        have G9 := G1 e59
        refine s_retV (ev_is (ev_andV fourth fun _ => ev_andV (ev_chain (ev_op (ev_var rfl) ev_c (rv_ixL (sq_of W9) at0)) (ev_op (ev_var rfl) ev_c (rv_ixL (sq_of W9) at1)) rv_eqW (fun _ => ev_op (ev_var rfl) ev_c (rv_ixL (sq_of W9) at2)) fun _ => rv_eqW)
          fun _ => ev_andV (ev_op (ev_op (ev_var rfl) ev_c (rv_ixL (sq_of G9) at0)) (ev_op (ev_var rfl) ev_c (rv_ixL (sq_of G9) at2)) rv_eqI)
          fun _ => ev_andV (ev_op (ev_var rfl) ev_c rv_I0) fun _ => ev_inU (ev_var rfl) (eu_tup (ea_cons ev_c (ea_cons (ev_op (ev_var rfl) ev_c rv_I0) ea_nil)) l2) rfl (by rfl)) ?_) (kk (e45.trans e59))
        rw [inI]
        show V.bl (((isX d3.1 == true) && true) && _) = V.bl (isX d1.1 && isX d2.1 && (isX d3.1 && _))
        rw [hx'.1, hx'.2]
        cases isX d3.1 <;> rfl
end
end K38

/-! The law's own making: the dock, _law_moor, _law_of, _law_crossing. -/
namespace K38
open PySem PySem.Spec PyProof.Rows L2 Evl StX

/-! ### the dock: a list that changes; all else stands -/
def Nd (d : Addr) (H : Hp) : Hp := fun a => if a = d then none else H a
theorem Nd.at {d a : Addr} {H : Hp} (h : a ≠ d) : Nd d H a = H a := if_neg h
theorem Nd.self {d : Addr} {H : Hp} : Nd d H d = none := if_pos rfl
theorem Nd.ex {d : Addr} {H : Hp} : Ex (Nd d H) H := fun a o h => by
  by_cases q : a = d
  · subst q
    rw [Nd.self] at h
    cases h
  · rwa [Nd.at q] at h
/-- all but d stands, and d keeps its first item -/
def ExD (d : Addr) (H H' : Hp) : Prop := (∀ a o, a ≠ d → H a = some o → H' a = some o) ∧ ∀ (c : Addr) r, H d = some (.lst (.ref c :: r)) → ∃ r', H' d = some (.lst (.ref c :: r'))
theorem ExD.refl {d : Addr} (H : Hp) : ExD d H H := ⟨fun _ _ _ h => h, fun _ r h => ⟨r, h⟩⟩
theorem ExD.of {d : Addr} {H H' : Hp} (e : Ex H H') : ExD d H H' := ⟨fun a o _ h => e a o h, fun _ r h => ⟨r, e _ _ h⟩⟩
theorem ExD.trans {d : Addr} {H H1 H2 : Hp} (a : ExD d H H1) (b : ExD d H1 H2) : ExD d H H2 := ⟨fun x o n h => b.1 x o n (a.1 x o n h), fun c r h => by
  obtain ⟨r1, h1⟩ := a.2 c r h
  exact b.2 c r1 h1⟩
theorem ExD.mut {d c : Addr} {H H' : Hp} {r r' : List V} (e : ExD d H H') (h0 : H d = some (.lst (.ref c :: r))) : ExD d H (upd H' d (.lst (.ref c :: r'))) := ⟨fun x u n h => by
  rw [upd_ne n]
  exact e.1 x u n h, fun c2 r2 h2 => by
  rw [h0] at h2
  cases h2
  exact ⟨r', upd_same⟩⟩
def Dk (d : Addr) (L : Int) (H : Hp) : Prop := ∃ (c : Addr) (ns : List Int) (lap rest : Int), H d = some (.lst [.ref c, .int lap, .int rest]) ∧ H c = some (.lst (ns.map V.int)) ∧ 0 ≤ lap ∧ lap ≤ L ∧ 0 ≤ rest ∧ c ≠ d
theorem Dk.ex {d : Addr} {L : Int} {H H' : Hp} (e : Ex H H') (h : Dk d L H) : Dk d L H' := by
  obtain ⟨c, ns, lap, rest, h1, h2, h3⟩ := h
  exact ⟨c, ns, lap, rest, e _ _ h1, e _ _ h2, h3⟩
theorem Dk.le {d : Addr} {L L' : Int} {H : Hp} (l : L ≤ L') (h : Dk d L H) : Dk d L' H := by
  obtain ⟨c, ns, lap, rest, h1, h2, h3, h4, h5⟩ := h
  exact ⟨c, ns, lap, rest, h1, h2, h3, Int.le_trans h4 l, h5⟩
theorem Dk.at {d : Addr} {L : Int} {H : Hp} (h : Dk d L H) : ∃ xs, H d = some (.lst xs) := by
  obtain ⟨c, ns, lap, rest, h1, _⟩ := h
  exact ⟨_, h1⟩
theorem Dk.off {d p : Addr} {L : Int} {H : Hp} (h : Dk d L H) (hp : H p = none) : p ≠ d := fun z => by
  obtain ⟨xs, h1⟩ := h.at
  rw [← z, hp] at h1
  cases h1
/-- the end of a call that moves the dock -/
def OutD (d : Addr) (L : Int) (P : V → Hp → Prop) (H : Hp) (Q : VK) : Prop := ∀ v H2, ExD d H H2 → Dk d L H2 → P v H2 → Q v H2
/-- what evaluates, moving the dock by at most n laps, from any heap in which the ghost G stands -/
def EvD (d : Addr) (n : Int) (te : TE) (σ : L2.St) (H : Hp) (P : V → Hp → Prop) : Prop := ∀ L H1, L + n ≤ 5000 → ExD d H H1 → Dk d L H1 → ∀ Q : VK, OutD d (L + n) P H1 Q → te σ H1 Q
section
variable {K : PySem.W.Frag} {d : Addr} {n m L : Int} {σ : L2.St} {H H' : Hp} {te ta tb : TE} {P R : V → Hp → Prop} {Q : VK}
theorem OutD.go (k : OutD d L P H Q) (e : ExD d H H') : OutD d L P H' Q := fun v H2 a b p => k v H2 (e.trans a) b p
theorem EvD.imp (h : EvD d n te σ H P) (k : ∀ v H2, ExD d H H2 → P v H2 → R v H2) : EvD d n te σ H R := fun L H1 l e hD Q q => h L H1 l e hD Q fun v H2 e2 h2 p => q v H2 e2 h2 (k v H2 (e.trans e2) p)
theorem EvD.mono (e : ExD d H H') (h : EvD d n te σ H P) : EvD d n te σ H' P := fun L H1 l a => h L H1 l (e.trans a)
/-- a value that is free of the dock -/
theorem evd_ev {v : V} (h : ∀ H1, ExD d H H1 → Ev te σ H1 v) (k : ∀ H2, ExD d H H2 → P v H2) : EvD d 0 te σ H P := fun L H1 l e hD Q q => h H1 e H1 (Ex.refl H1) Q fun H2 e2 => q v H2 (.of e2) ((Dk.ex e2 hD).le (by omega)) (k H2 (e.trans (.of e2)))
theorem evd_evp (h : ∀ H1, ExD d H H1 → EvP te σ H1 P) : EvD d 0 te σ H P := fun L H1 l e hD Q q => h H1 e H1 (Ex.refl H1) Q fun v H2 e2 p => q v H2 (.of e2) ((Dk.ex e2 hD).le (by omega)) p
theorem evd_le (l : n ≤ m) (h : EvD d n te σ H P) : EvD d m te σ H P := fun L H1 lm e hD Q q => h L H1 (by omega) e hD Q fun v H2 e2 h2 p => q v H2 e2 (h2.le (by omega)) p
theorem SqL.nd {a : Addr} {xs : List V} (e : ExD d H H') (n : a ≠ d) (h : H a = some (.lst xs)) : H' a = some (.lst xs) := e.1 a _ n h
theorem ExD.nl {xs : List V} (hd : H d = some (.lst xs)) (e : ExD d H H')   : Nl H H' := fun a o n h => e.1 a o (fun z => by
  subst z
  rw [hd] at h
  exact n xs (Option.some.inj h).symm) h
theorem Dk.nl (h : Dk d L H) (e : ExD d H H') : Nl H H' := by
  obtain ⟨xs, h1⟩ := h.at
  exact ExD.nl h1 e
theorem dk_upd {c : Addr} {ns : List Int} {lap rest : Int} (hc : H c = some (.lst (ns.map V.int))) (hcd : c ≠ d) (h0 : 0 ≤ lap) (hl : lap ≤ L) (hr : 0 ≤ rest) : Dk d L (upd H d (.lst [.ref c, .int lap, .int rest])) :=
  ⟨c, ns, lap, rest, upd_same, by rw [upd_ne hcd]; exact hc, h0, hl, hr, hcd⟩
end

/-! ### _law_moor -/
theorem dp_ints {K : PySem.W.Frag} {H : Hp} : ∀ ns : List Int, DpAll K H (ns.map V.int) (ns.map PyData.int)
  | [] => .nil
  | n :: ns => .cons (.int n) (dp_ints ns)
theorem lay_ints : ∀ ns : List Int, PyData.canLayAll0 (ns.map PyData.int) = true
  | [] => rfl
  | n :: ns => by
    show (PyData.canLay0 (.int n) && PyData.canLayAll0 (ns.map PyData.int)) = true
    rw [lay_ints ns]
    simp [PyData.canLay0]
theorem dep_ints : ∀ ns : List Int, PyData.depthAll (ns.map PyData.int) = 0
  | [] => rfl
  | n :: ns => by
    show max (PyData.depth (.int n)) (PyData.depthAll (ns.map PyData.int)) = 0
    rw [dep_ints ns]
    rfl
theorem sh_ints (ns : List Int) : SeqAt.shaped (.list (ns.map PyData.int)) = true := sh_l (lay_ints ns) (dep_ints ns)
def cellOf (ns : List Int) (lap : Int) : Int := if ns = [] then 81203 * lap + 6217 else (ns[(lap % (ns.length : Int)).toNat]?).getD 0
theorem cell_at {ns : List Int} {lap : Int} (h : ns ≠ []) : atI (ns.map V.int) (lap % ((ns.map V.int).length : Int)) = some (.int (cellOf ns lap)) := by
  have h0 : 0 < (ns.length : Int) := by
    have := List.length_pos_iff.mpr h
    omega
  rw [List.length_map]
  have h1 := Int.emod_nonneg lap (Int.ne_of_gt h0)
  have h2 := Int.emod_lt_of_pos lap h0
  unfold cellOf
  rw [if_neg h]
  generalize lap % (ns.length : Int) = z at h1 h2
  obtain ⟨j, rfl⟩ := Int.eq_ofNat_of_zero_le h1
  have hj : j < ns.length := by omega
  refine atI_nat ?_
  rw [List.getElem?_map, Int.toNat_natCast, List.getElem?_eq_getElem hj]
  rfl
theorem rc_abs {i : Int} {H : Hp} : RC (fun xs H Q => ∃ i, xs = [.int i] ∧ Q (.int (if i < 0 then -i else i)) H) [.int i] H (.int (if i < 0 then -i else i)) := fun H1 _ _ q => ⟨i, rfl, q H1 (Ex.refl H1)⟩
theorem rc_bl {k : Bool} {H : Hp} : RC (fun xs H Q => (∃ i, xs = [.int i] ∧ Q (.int i) H) ∨ ∃ k, xs = [.bl k] ∧ Q (.int (if k then 1 else 0)) H) [.bl k] H (.int (if k then 1 else 0)) := fun H1 _ _ q => .inr ⟨k, rfl, q H1 (Ex.refl H1)⟩

section
variable {P : Program} {w : World} {K : PySem.W.Frag} {mg : Str → Option Value} {base : Heap} {pT pC pM C : Addr}
abbrev psMoor : List Str := ["_law_dock_here", "_law_many"]
abbrev spMoor : Sp := fun vs H Q _ => ∃ (d : Addr) (many L : Int), vs = [.ref d, .int many] ∧ Dk d L H ∧ L + 1 ≤ 5000 ∧ 0 < many ∧ many < 1000000 ∧ OutD d (L + 1) (fun v _ => ∃ r, v = .int r ∧ 0 ≤ r ∧ r < many) H Q
theorem sc58 : FnScope ["_law_dock_here", "_law_many", "_law_lap", "_law_cell", "_law_mixed", "_law_rest"] psMoor (defScope (topS 58)) := ⟨rfl, rfl, rfl, by decide +kernel, rfl, by decide +kernel, by decide +kernel⟩
theorem ok_moor (T : Txt K mg pT pC pM C) (D : DefAt K mg "_law_moor" (topS 58) psMoor) : Cal P w K mg base "_law_moor" psMoor 1 spMoor := by
  refine D.cal sc58 (fun vs H Q E ⟨d, many, L, h, _⟩ => by rw [h]; rfl) fun f cdv A outer s H vs Q E hr ⟨d, many, L, ev, hD, hL, hm1, hm2, k⟩ => ?_
  subst ev
  refine ⟨_, (pss_cons (ps_if (pt_cmpR op_gt (pe_ix ix_list (pv 0) pe_int (fun _ _ => rfl)) pe_int (nomark _))
    (pss_cons (ps_set (i := 5) sc58.nd rfl (.inl rfl) (pe_callTy call_int1 (by rfl) T.b_int (by decide +kernel) (pa_cons (pe_ix ix_list (pv 0) pe_int (fun _ _ => rfl)) pa_nil)))
    (pss_cons (ps_asg (pe_op op_fdiv (pv 5) (pv 1)) (pg_sub (pv 0) pe_int set_list (fun _ => rfl)))
    (pss_one (ps_ret (pe_op op_mod (pe_callTy call_int1 (by rfl) T.b_int (by decide +kernel) (pa_cons (pv 5) pa_nil)) (pv 1))))))
    pss_nil)
    (pss_cons (ps_set (i := 2) sc58.nd rfl (.inl rfl) (pe_ix ix_list (pv 0) pe_int (fun _ _ => rfl)))
    (pss_cons (ps_asg (pe_op op_add (pv 2) pe_int) (pg_sub (pv 0) pe_int set_list (fun _ => rfl)))
    (pss_cons (ps_set (i := 3) sc58.nd rfl (.inl rfl) (pe_op op_add (pe_op op_mul pe_int (pv 2)) pe_int))
    (pss_cons (ps_if (pt_cmpR (op_neD hr.units) (pe_ix ix_list (pv 0) pe_int (fun _ _ => rfl)) (pe_lst pa_nil) (nomark _))
    (pss_one (ps_set (i := 3) sc58.nd rfl (.inl rfl) (pe_ix ix_list (pe_ix ix_list (pv 0) pe_int (fun _ _ => rfl)) (pe_op op_mod (pe_callTy call_int1 (by rfl) T.b_int (by decide +kernel) (pa_cons (pv 2) pa_nil)) (pe_callB call_len_seq (by rfl) T.b_len (by decide +kernel) (pa_cons (pe_ix ix_list (pv 0) pe_int (fun _ _ => rfl)) pa_nil))) (fun _ _ => rfl))))
    pss_nil)
    (pss_cons (ps_if (PW.pt (pw_and (pt_cmpR op_lt (pv 2) (pe_callB call_len_seq (by rfl) T.b_len (by decide +kernel) (pa_cons (pe_ix ix_list (pv 0) pe_int (fun _ _ => rfl)) pa_nil)) (nomark _)) (pw_and1 (pt_cmpR op_ge (pe_callB call_abs (by rfl) T.b_abs (by decide +kernel) (pa_cons (pv 3) pa_nil)) (pe_op op_pow pe_int pe_int) (nomark _)))))
    (pss_cons (ps_set (i := 5) sc58.nd rfl (.inl rfl) (pe_op op_add (pe_op op_mul pe_int (pe_op op_sub (pe_callB call_abs (by rfl) T.b_abs (by decide +kernel) (pa_cons (pv 3) pa_nil)) (pe_op op_pow pe_int pe_int))) (pe_callTy call_int1 (by rfl) T.b_int (by decide +kernel) (pa_cons (pe_cmpR op_lt (pv 3) pe_int (nomark _)) pa_nil))))
    (pss_cons (ps_asg (pe_op op_fdiv (pv 5) (pv 1)) (pg_sub (pv 0) pe_int set_list (fun _ => rfl)))
    (pss_one (ps_ret (pe_op op_mod (pe_callTy call_int1 (by rfl) T.b_int (by decide +kernel) (pa_cons (pv 5) pa_nil)) (pv 1))))))
    pss_nil)
    (pss_cons (ps_set (i := 4) sc58.nd rfl (.inl rfl) (pe_op op_mod (pe_callTy call_int1 (by rfl) T.b_int (by decide +kernel) (pa_cons (pe_op op_pow (pe_op op_add (pe_op op_add (pe_op op_mod (pe_callTy call_int1 (by rfl) T.b_int (by decide +kernel) (pa_cons (pv 3) pa_nil)) pe_int) (pe_op op_mul pe_int (pv 2))) pe_int) pe_int) pa_nil)) pe_int))
    (pss_cons (ps_set (i := 4) sc58.nd rfl (.inl rfl) (pe_op op_mod (pe_callTy call_int1 (by rfl) T.b_int (by decide +kernel) (pa_cons (pe_op op_pow (pe_op op_add (pe_op op_add (pe_op op_mul (pv 4) (pe_op op_add (pe_op op_mul pe_int (pv 2)) pe_int)) (pe_op op_mul (pe_op op_mul pe_int (pv 2)) (pv 2))) pe_int) pe_int) pa_nil)) pe_int))
    (pss_one (ps_ret (pe_op op_mod (pe_callTy call_int1 (by rfl) T.b_int (by decide +kernel) (pa_cons (pe_op op_fdiv (pv 4) pe_int) pa_nil)) (pv 1)))))))))))), ?_⟩
  obtain ⟨c, ns, lap, rest, hd, hc, h0, hl, hr0, hcd⟩ := hD
  have hm3 : CDiv rest many := ⟨hm1, by omega⟩
  have fin : ∀ (z : Int) {H1 H2 : Hp} {lap' rest' : Int}, ExD d H H1 → H1 c = some (.lst (ns.map V.int)) → 0 ≤ lap' → lap' ≤ L + 1 → 0 ≤ rest' → Ex (upd H1 d (.lst [.ref c, .int lap', .int rest'])) H2 → Q (.int (z % many)) H2 := fun z H1 H2 lap' rest' e hc1 a1 a2 a3 e2 =>
    k _ H2 ((e.mut hd).trans (.of e2)) (Dk.ex e2 (dk_upd hc1 hcd a1 a2 a3)) ⟨_, rfl, Int.emod_nonneg _ (Int.ne_of_gt hm1), Int.emod_lt_of_pos _ hm1⟩
  refine q_when (et_op (ev_op (ev_var rfl) ev_c (rv_ixL (sq_of hd) at2)) ev_c rv_I0) (fun h H1 e1 => ?_) fun _ H1 e1 => ?_
  · refine q_asg (v := .int rest) (ev_cb (ea_cons (ev_op (ev_var rfl) ev_c (rv_ixL (sq_of (e1 _ _ hd)) at2)) ea_nil) rc_int) fun H2 e2 => ?_
    have e12 := e1.trans e2
    refine q_setL (j := 2) (v := .int (rest / many)) (e12 _ _ hd) (ev_op (ev_var rfl) (ev_var rfl) (rv_I hm3)) (ev_var rfl) ev_c (Nat.lt_of_lt_of_le (by decide : _ < 3) (Nat.le_refl 3)) fun H3 e3 => ?_
    refine s_retV (ev_op (ev_cb (ea_cons (ev_var rfl) ea_nil) rc_int) (ev_var rfl) (rv_I hm1)) fun H4 e4 => ?_
    exact fin rest (.of (e12.trans e3)) ((e12.trans e3) _ _ hc) h0 (by omega) (Int.ediv_nonneg hr0 (by omega)) e4
  refine q_asg (v := .int lap) (ev_op (ev_var rfl) ev_c (rv_ixL (sq_of (e1 _ _ hd)) at1)) fun H2 e2 => ?_
  have e12 := e1.trans e2
  refine q_setL (j := 1) (v := .int (lap + 1)) (e12 _ _ hd) (ev_op (ev_var rfl) ev_c rv_I0) (ev_var rfl) ev_c (Nat.lt_of_lt_of_le (by decide : _ < 3) (Nat.le_refl 3)) fun H3 e3 => ?_
  have eD : ExD d H (upd H3 d (.lst [.ref c, .int (lap + 1), .int rest])) := (ExD.of (e12.trans e3)).mut hd
  have hd3 : (upd H3 d (.lst [.ref c, .int (lap + 1), .int rest])) d = some (.lst [.ref c, .int (lap + 1), .int rest]) := upd_same
  have hc3 : (upd H3 d (.lst [.ref c, .int (lap + 1), .int rest])) c = some (.lst (ns.map V.int)) := by
    rw [upd_ne hcd]
    exact (e12.trans e3) _ _ hc
  change tSeq _ _ _ _ (upd H3 d (.lst [.ref c, .int (lap + 1), .int rest]))
  generalize upd H3 d (.lst [.ref c, .int (lap + 1), .int rest]) = G at eD hd3 hc3
  refine q_asg (v := .int (81203 * lap + 6217)) (ev_op (ev_op ev_c (ev_var rfl) (rv_I (.inl ⟨by decide, by decide⟩))) ev_c rv_I0) fun H4 e4 => ?_
  have hd4 := e4 _ _ hd3
  have hc4 := e4 _ _ hc3
  have ix0 : ∀ {σ : L2.St} {H5 : Hp}, σ[0]? = some (some (.ref d)) → Ex H4 H5 → Ev (tOp (rIxL K) (tVar 0) (tC (.int 0))) σ H5 (.ref c) := fun hs e5 => ev_op (ev_var hs) ev_c (rv_ixL (sq_of (e5 _ _ hd4)) at0)
  have lenc : ∀ {σ : L2.St} {H5 : Hp}, σ[0]? = some (some (.ref d)) → Ex H4 H5 → Ev (tCB (rLenS K) (tCons (tOp (rIxL K) (tVar 0) (tC (.int 0))) tNil)) σ H5 (.int ((ns.map V.int).length : Int)) := fun hs e5 => ev_len (ix0 hs e5) (sq_of (e5 _ _ hc4))
  have first := ev_neD (K := K) (σ := [some (.ref d), some (.int many), some (.int lap), some (.int (81203 * lap + 6217)), none, none]) (evd (d := .list (ns.map PyData.int)) (ix0 (H5 := H4) rfl (Ex.refl _)) fun H5 e5 => .lst (sq_of (e5 _ _ hc4)) (dp_ints ns)) (evd_lst (ds := []) evd_nil (Nat.zero_le _)) (sh_ints ns) (sh_ints [])
  refine q_ifAsg (v := .int (cellOf ns lap)) (et_test first) (fun h => ?_) (fun h => ?_) fun H5 e5 => ?_
  · have hn : ns ≠ [] := fun z => by
      subst z
      exact absurd h (by decide)
    exact ev_op (ix0 rfl (Ex.refl _)) (ev_op (ev_cb (ea_cons (ev_var rfl) ea_nil) rc_int) (lenc rfl (Ex.refl _)) (rv_I (by
      have := List.length_pos_iff.mpr hn
      rw [List.length_map]
      omega))) (rv_ixL (sq_of hc4) (cell_at hn))
  · have hn : ns = [] := by
      cases ns with
      | nil => rfl
      | cons n ns => exact Bool.noConfusion h
    unfold cellOf
    rw [if_pos hn]
    rfl
  generalize cellOf ns lap = cell
  have l18 : CPow 10 18 := ⟨by decide, by decide, by decide⟩
  refine q_when (et_and (et_op (ev_var rfl) (lenc rfl e5) rv_I0) fun _ => et_op (ev_cb (ea_cons (ev_var rfl) ea_nil) rc_abs) (ev_op ev_c ev_c (rv_I l18)) rv_I0) (fun h H6 e6 => ?_) fun _ H6 e6 => ?_
  · have hge := of_decide_eq_true (Bool.and_eq_true_iff.mp h).2
    have hg2 : 10 ^ (18 : Int).toNat ≤ (if cell < 0 then -cell else cell) := hge
    generalize hab : (if cell < 0 then -cell else cell) = ab at hg2
    have hbl : 0 ≤ (if decide (cell < 0) = true then (1 : Int) else 0) := by split <;> decide
    refine q_asg (v := .int (2 * (ab - 10 ^ (18 : Int).toNat) + (if decide (cell < 0) = true then 1 else 0))) (ev_op (ev_op ev_c (ev_op (ev_is (ev_cb (ea_cons (ev_var rfl) ea_nil) rc_abs) (by rw [hab])) (ev_op ev_c ev_c (rv_I l18)) rv_I0) (rv_I (.inl ⟨by decide, by decide⟩))) (ev_cb (ea_cons (ev_op (ev_var rfl) ev_c rv_I0) ea_nil) rc_bl) rv_I0) fun H7 e7 => ?_
    have e47 := (e4.trans e5).trans (e6.trans e7)
    have hnn : 0 ≤ 2 * (ab - 10 ^ (18 : Int).toNat) + (if decide (cell < 0) = true then (1 : Int) else 0) := by
      generalize (10 : Int) ^ (18 : Int).toNat = z at hg2
      omega
    generalize 2 * (ab - 10 ^ (18 : Int).toNat) + (if decide (cell < 0) = true then (1 : Int) else 0) = y at hnn
    refine q_setL (j := 2) (v := .int (y / many)) (e47 _ _ hd3) (ev_op (ev_var rfl) (ev_var rfl) (rv_I ⟨hm1, by omega⟩)) (ev_var rfl) ev_c (Nat.lt_of_lt_of_le (by decide : _ < 3) (Nat.le_refl 3)) fun H8 e8 => ?_
    refine s_retV (ev_op (ev_cb (ea_cons (ev_var rfl) ea_nil) rc_int) (ev_var rfl) (rv_I hm1)) fun H9 e9 => ?_
    exact fin y (eD.trans (.of (e47.trans e8))) ((e47.trans e8) _ _ hc3) (by omega) (by omega) (Int.ediv_nonneg hnn (by omega)) e9
  · have hc1 : (0 : Int) < 2147483489 := by decide
    have b1 := Int.emod_nonneg cell (Int.ne_of_gt hc1)
    have b2 := Int.emod_lt_of_pos cell hc1
    refine q_asg (v := .int ((cell % 2147483489 + 43271 * lap + 6217) ^ (5 : Int).toNat % 2147483477)) (ev_op (ev_cb (ea_cons (ev_op (ev_op (ev_op (ev_op (ev_cb (ea_cons (ev_var rfl) ea_nil) rc_int) ev_c (rv_I hc1)) (ev_op ev_c (ev_var rfl) (rv_I (.inl ⟨by decide, by decide⟩))) rv_I0) ev_c rv_I0) ev_c (rv_I ⟨by decide, by decide, ?_⟩)) ea_nil) rc_int) ev_c (rv_I (by decide))) fun H7 e7 => ?_
    · generalize cell % 2147483489 = z at b1 b2
      omega
    have hc2 : (0 : Int) < 2147483477 := by decide
    have b3 := Int.emod_nonneg ((cell % 2147483489 + 43271 * lap + 6217) ^ (5 : Int).toNat) (Int.ne_of_gt hc2)
    have b4 := Int.emod_lt_of_pos ((cell % 2147483489 + 43271 * lap + 6217) ^ (5 : Int).toNat) hc2
    generalize (cell % 2147483489 + 43271 * lap + 6217) ^ (5 : Int).toNat % 2147483477 = mx at b3 b4
    refine q_asg (v := .int ((mx * (2 * lap + 5683) + 81203 * lap * lap + 43271) ^ (3 : Int).toNat % 2147483423)) (ev_op (ev_cb (ea_cons (ev_op (ev_op (ev_op (ev_op (ev_var rfl) (ev_op (ev_op ev_c (ev_var rfl) (rv_I (.inl ⟨by decide, by decide⟩))) ev_c rv_I0) (rv_I (.inl ⟨by omega, by omega⟩))) (ev_op (ev_op ev_c (ev_var rfl) (rv_I (.inl ⟨by decide, by decide⟩))) (ev_var rfl) (rv_I (.inr ⟨by omega, by omega⟩))) rv_I0) ev_c rv_I0) ev_c (rv_I ⟨by decide, by decide, ?_⟩)) ea_nil) rc_int) ev_c (rv_I (by decide))) fun H8 e8 => ?_
    · have c1 : 0 ≤ mx * (2 * lap + 5683) := Int.mul_nonneg b3 (by omega)
      have c2 : mx * (2 * lap + 5683) ≤ 2147483477 * 15683 := Int.mul_le_mul (by omega) (by omega) (by omega) (by decide)
      have c3 : 0 ≤ 81203 * lap * lap := Int.mul_nonneg (by omega) h0
      have c4 : 81203 * lap * lap ≤ 406015000 * 5000 := Int.mul_le_mul (by omega) (by omega) (by omega) (by decide)
      generalize mx * (2 * lap + 5683) = u at c1 c2
      generalize 81203 * lap * lap = v at c3 c4
      omega
    generalize (mx * (2 * lap + 5683) + 81203 * lap * lap + 43271) ^ (3 : Int).toNat % 2147483423 = my
    refine s_retV (ev_op (ev_cb (ea_cons (ev_op (ev_var rfl) ev_c (rv_I ⟨by decide, by decide⟩)) ea_nil) rc_int) (ev_var rfl) (rv_I hm1)) fun H9 e9 => ?_
    have e49 := ((e4.trans e5).trans e6).trans ((e7.trans e8).trans e9)
    exact k _ H9 (eD.trans (.of e49)) ⟨c, ns, lap + 1, rest, e49 _ _ hd3, e49 _ _ hc3, by omega, by omega, hr0, hcd⟩ ⟨_, rfl, Int.emod_nonneg _ (Int.ne_of_gt hm1), Int.emod_lt_of_pos _ hm1⟩
end
end K38

/-! What moves the dock; _law_of, _law_crossing. -/
namespace K38
open PySem PySem.Spec PyProof.Rows L2 Evl StX

section
variable {K : PySem.W.Frag} {d : Addr} {n m L M : Int} {σ : L2.St} {H H' : Hp} {te ta tb : TE} {P R : V → Hp → Prop} {Q : VK} {D : Ends} {tz : TS}
/-! ### statements -/
theorem OutD.le (l : L ≤ M) (k : OutD d M P H Q) : OutD d L P H Q := fun v H2 a b p => k v H2 a (b.le l) p
theorem s_retD (h : EvD d n te σ H P) (hD : Dk d L H) (l : L + n ≤ M) (lM : M ≤ 5000) (k : OutD d M P H D.rt) : tRet te D σ H := h L H (by omega) (ExD.refl H) hD _ (k.le l)
theorem q_asgD {i : Nat} (h : EvD d n te σ H P) (hD : Dk d L H) (l : L + n ≤ 5000) (k : ∀ v H1, ExD d H H1 → Dk d (L + n) H1 → P v H1 → tz D (σ.set i (some v)) H1) : tSeq (tAsg te (gName i)) tz D σ H := h L H l (ExD.refl H) hD _ k
theorem q_asgG {g : TG} (h : EvD d n te σ H P) (hD : Dk d L H) (l : L + n ≤ 5000) (k : ∀ v H1, ExD d H H1 → Dk d (L + n) H1 → P v H1 → g v σ H1 (fun σ2 H2 => tz D σ2 H2)) : tSeq (tAsg te g) tz D σ H := h L H l (ExD.refl H) hD _ k
theorem q_parD {i j : Nat} (h1 : EvD d n ta σ H P) (h2 : ∀ H1, ExD d H H1 → EvD d m tb σ H1 R) (hD : Dk d L H) (l : L + n + m ≤ 5000) (hm : 0 ≤ m) (k : ∀ v w H1 H2, ExD d H H1 → P v H1 → ExD d H1 H2 → Dk d (L + n + m) H2 → R w H2 → tz D ((σ.set i (some v)).set j (some w)) H2) :
    tSeq (tPar i j (tCons ta (tCons tb tNil))) tz D σ H := h1 L H (by omega) (ExD.refl H) hD _ fun v H1 e1 d1 p => h2 H1 e1 (L + n) H1 l (ExD.refl H1) d1 _ fun w' H2 e2 d2 q => ⟨v, w', rfl, k v w' H1 H2 e1 p e2 d2 q⟩
/-! ### tests -/
def EvTD (d : Addr) (n : Int) (tt : TT) (σ : L2.St) (H : Hp) (P : Bool → Prop) : Prop := ∀ L H1, L + n ≤ 5000 → ExD d H H1 → Dk d L H1 → ∀ Q : Bool → Hp → Prop, (∀ b H2, ExD d H1 H2 → Dk d (L + n) H2 → P b → Q b H2) → tt σ H1 Q
theorem etd_t {t : TT} {b : Bool} (h : ∀ H1, EvT t σ H1 b) : EvTD d 0 t σ H (fun x => x = b) := fun L H1 l e hD Q q => h H1 H1 (Ex.refl H1) Q fun H2 e2 => q b H2 (.of e2) ((Dk.ex e2 hD).le (by omega)) rfl
theorem etd_and {t u : TT} {Pa Pb : Bool → Prop} (h1 : EvTD d n t σ H Pa) (h2 : EvTD d m u σ H Pb) (hm : 0 ≤ m) : EvTD d (n + m) (tAnd t u) σ H (fun b => b = true → Pa true ∧ Pb true) := fun L H1 l e hD Q q =>
  h1 L H1 (by omega) e hD _ fun b H2 e2 d2 p => by
    cases b with
    | true =>
      show u σ H2 Q
      exact h2 (L + n) H2 (by omega) (e.trans e2) d2 Q fun b H3 e3 d3 p3 => q b H3 (e2.trans e3) (d3.le (by omega)) fun z => ⟨p, by rw [← z]; exact p3⟩
    | false =>
      show Q false H2
      exact q false H2 e2 (d2.le (by omega)) fun z => nomatch z
theorem etd_e {Pa : Bool → Prop} (ha : EvD d n te σ H (fun v _ => ∃ b, v = .bl b ∧ Pa b)) : EvTD d n (tTest te) σ H Pa := fun L H1 l e hD Q q =>
  ha L H1 l e hD _ fun v H2 e2 d2 ⟨b, ev, p⟩ => ⟨b, ev, q b H2 e2 d2 p⟩
theorem evd_if {t : TT} {Pt : Bool → Prop} (h : EvTD d n t σ H Pt) (h1 : Pt true → EvD d m ta σ H P) (h2 : Pt false → EvD d m tb σ H P) (hm : 0 ≤ m) : EvD d (n + m) (tIf t ta tb) σ H P := fun L H1 l e hD Q q =>
  h L H1 (by omega) e hD _ fun b H2 e2 d2 p => by
    cases b with
    | true => exact h1 p (L + n) H2 (by omega) (e.trans e2) d2 Q ((q.go e2).le (by omega))
    | false => exact h2 p (L + n) H2 (by omega) (e.trans e2) d2 Q ((q.go e2).le (by omega))
/-! ### operations -/
/-- the second operand moves the dock -/
theorem evd_op2 {r : R2} {x : V} (ha : ∀ H1, ExD d H H1 → Ev ta σ H1 x) (hb : EvD d n tb σ H P) (hr : ∀ y H1, ExD d H H1 → P y H1 → ∃ z, RV r x y H1 z ∧ ∀ H2, Ex H1 H2 → R z H2) : EvD d n (tOp r ta tb) σ H R := fun L H1 l e hD Q q =>
  ha H1 e H1 (Ex.refl H1) _ fun H2 e2 => hb L H2 l (e.trans (.of e2)) (Dk.ex e2 hD) _ fun y H3 e3 d3 p => by
    obtain ⟨z, h1, h4⟩ := hr y H3 (e.trans ((ExD.of e2).trans e3)) p
    exact h1 H3 (Ex.refl H3) Q fun H4 e4 => q z H4 ((ExD.of e2).trans (e3.trans (.of e4))) (Dk.ex e4 d3) (h4 H4 e4)
/-- the first operand moves the dock -/
theorem evd_op1 {r : R2} {y : V} (ha : EvD d n ta σ H P) (hb : ∀ H1, Ev tb σ H1 y) (hr : ∀ x H1, ExD d H H1 → P x H1 → ∃ z, (∀ H2, RV r x y H2 z) ∧ ∀ H2, Ex H1 H2 → R z H2) : EvD d n (tOp r ta tb) σ H R := fun L H1 l e hD Q q =>
  ha L H1 l e hD _ fun x H2 e2 d2 p => hb H2 H2 (Ex.refl H2) _ fun H3 e3 => by
    obtain ⟨z, h1, h4⟩ := hr x H2 (e.trans e2) p
    exact h1 H3 H3 (Ex.refl H3) Q fun H4 e4 => q z H4 (e2.trans (.of (e3.trans e4))) (Dk.ex (e3.trans e4) d2) (h4 H4 (e3.trans e4))
/-- int(..) of what moves the dock -/
abbrev rInt : List V → Hp → VK → Prop := fun xs H Q => (∃ i, xs = [.int i] ∧ Q (.int i) H) ∨ ∃ k, xs = [.bl k] ∧ Q (.int (if k then 1 else 0)) H
theorem evd_int {Pi : Int → Prop} (ha : EvD d n ta σ H (fun v _ => ∃ i, v = .int i ∧ Pi i)) : EvD d n (tCB rInt (tCons ta tNil)) σ H (fun v _ => ∃ i, v = .int i ∧ Pi i) := fun L H1 l e hD Q q =>
  ha L H1 l e hD _ fun v H2 e2 d2 ⟨i, ev, p⟩ => .inl ⟨i, by rw [ev], q _ H2 e2 d2 ⟨i, rfl, p⟩⟩
/-! ### calls -/
/-- a call f(dock, x) -/
theorem evd_call {sp : Sp} {t0 t1 : TE} (h0 : ∀ H1, Ev t0 σ H1 (.ref d)) (h1 : EvD d n t1 σ H P) (hm : 0 ≤ m) (hs : ∀ v H1 L, ExD d H H1 → Dk d L H1 → L + m ≤ 5000 → P v H1 → ∀ Q : VK, OutD d (L + m) R H1 Q → sp [.ref d, v] H1 Q E0) : EvD d (n + m) (tCall sp [] E0 (tCons t0 (tCons t1 tNil))) σ H R := fun L H1 l e hD Q q =>
  h0 H1 H1 (Ex.refl H1) _ fun H2 e2 => h1 L H2 (by omega) (e.trans (.of e2)) (Dk.ex e2 hD) _ fun v H3 e3 d3 p => hs v H3 (L + n) (e.trans ((ExD.of e2).trans e3)) d3 (by omega) p Q ((q.go ((ExD.of e2).trans e3)).le (by omega))
/-- moor(dock, many) -/
theorem evd_moor {t0 t1 : TE} {many : Int} (h0 : ∀ H1, Ev t0 σ H1 (.ref d)) (h1 : ∀ H1, ExD d H H1 → Ev t1 σ H1 (.int many)) (a : 0 < many) (b : many < 1000000) : EvD d 1 (tCall spMoor [] E0 (tCons t0 (tCons t1 tNil))) σ H (fun v _ => ∃ r, v = .int r ∧ 0 ≤ r ∧ r < many) :=
  evd_le (n := 0 + 1) (by omega) (evd_call h0 (evd_ev (P := fun v _ => v = .int many) h1 fun _ _ => rfl) (by decide) fun v H1 L e hD l p Q q => ⟨d, many, L, by rw [p], hD, l, a, b, q⟩)
/-! ### a new list with a property -/
def EvLP (te : TE) (σ : L2.St) (H : Hp) (S : List V → Hp → Prop) : Prop := ∀ H1, Ex H H1 → ∀ Q : VK, (∀ p xs H2, H1 p = none → Ex H1 H2 → H2 p = some (.lst xs) → S xs H2 → Q (.ref p) H2) → te σ H1 Q
theorem elp_lst {S : List V → Hp → Prop} {ta : TA} (h : EvAP ta σ H S) (hl : ∀ vs H1, S vs H1 → vs.length ≤ 100000) (hS : ∀ vs H1 H2, Ex H1 H2 → S vs H1 → S vs H2) : EvLP (tLst ta) σ H S := fun H1 e Q q =>
  h H1 e _ fun vs H2 e2 s => ⟨sz_of (hl vs H2 s), fun p hp => q p vs _ (fresh_back e2 hp) (e2.trans (Ex.new hp)) upd_same (hS vs _ _ (Ex.new hp) s)⟩
theorem elp_el {xs : List V} (h : EvL te σ H xs) : EvLP te σ H (fun ys _ => ys = xs) := fun H1 e Q q => h H1 e _ fun p H2 hp e2 h2 => q p xs H2 hp e2 h2 rfl
end

section
variable {P : Program} {w : World} {K : PySem.W.Frag} {mg : Str → Option Value} {base : Heap} {pT pC pM C : Addr}
/-! ### _law_of -/
abbrev psOf : List Str := ["_law_dock_here", "_law_some"]
abbrev spOf : Sp := fun vs H Q _ => ∃ (d a : Addr) (xs : List V) (L : Int), vs = [.ref d, .ref a] ∧ Dk d L H ∧ L + 1 ≤ 5000 ∧ a ≠ d ∧ H a = some (.lst xs) ∧ xs ≠ [] ∧ xs.length < 1000000 ∧ OutD d (L + 1) (fun v _ => v ∈ xs) H Q
theorem sc59 : FnScope psOf psOf (defScope (topS 59)) := ⟨rfl, rfl, rfl, by decide +kernel, rfl, by decide +kernel, by decide +kernel⟩
theorem ok_of (T : Txt K mg pT pC pM C) (c__law_moor : Cal P w K mg base "_law_moor" psMoor 1 spMoor) (D : DefAt K mg "_law_of" (topS 59) psOf) : Cal P w K mg base "_law_of" psOf 2 spOf := by
  refine D.cal sc59 (fun vs H Q E ⟨d, a, xs, L, h, _⟩ => by rw [h]; rfl) fun f cdv A outer s H vs Q E hr ⟨d, a, xs, L, ev, hD, hL, had, ha, hx, hx2, k⟩ => ?_
  subst ev
  refine ⟨_, (pss_one (ps_ret (pe_ix ix_list (pv 1) (pe_cal c__law_moor (hr.mono (by decide)) (by rfl) (pa_cons (pv 0) (pa_cons (pe_callB call_len_seq (by rfl) T.b_len (by decide +kernel) (pa_cons (pv 1) pa_nil)) pa_nil))) (fun _ _ => rfl)))), ?_⟩
  have hl : 0 < (xs.length : Int) := by
    have := List.length_pos_iff.mpr hx
    omega
  exact s_retD (evd_op2 (fun H1 _ => ev_var rfl) (evd_moor (fun H1 => ev_var rfl) (fun H1 e1 => ev_len (ev_var rfl) (sq_of (e1.1 _ _ had ha))) hl (by omega)) fun y H1 e1 ⟨r, ey, h1, h2⟩ => by
    subst ey
    obtain ⟨j, rfl⟩ := Int.eq_ofNat_of_zero_le h1
    have hj : j < xs.length := by omega
    exact ⟨xs[j], rv_ixL (sq_of (e1.1 _ _ had ha)) (atI_nat (List.getElem?_eq_getElem hj)), fun _ _ => List.getElem_mem hj⟩) hD (Int.le_refl _) hL k
/-- of(dock, [..]) -/
theorem evd_of {d : Addr} {σ : L2.St} {H : Hp} {t0 t1 : TE} {S : List V → Hp → Prop} (h0 : ∀ H1, Ev t0 σ H1 (.ref d)) (h1 : ∀ H1, ExD d H H1 → EvLP t1 σ H1 S) (hl : ∀ xs H1, S xs H1 → xs ≠ [] ∧ xs.length < 1000000) (hS : ∀ xs H1 H2, Nl H1 H2 → S xs H1 → S xs H2) :
    EvD d 1 (tCall spOf [] E0 (tCons t0 (tCons t1 tNil))) σ H (fun v H1 => ∃ xs, v ∈ xs ∧ S xs H1) := fun L H1 l e hD Q q =>
  h0 H1 H1 (Ex.refl H1) _ fun H2 e2 => h1 H2 (e.trans (.of e2)) H2 (Ex.refl H2) _ fun p xs H3 hp e3 h3 s =>
    have d3 := Dk.ex (e2.trans e3) hD
    ⟨d, p, xs, L, rfl, d3, l, (Dk.ex e2 hD).off hp, h3, (hl xs H3 s).1, (hl xs H3 s).2, fun v H4 e4 d4 m => q v H4 ((ExD.of (e2.trans e3)).trans e4) d4 ⟨xs, m, hS xs H3 H4 (d3.nl e4) s⟩⟩
/-- of a list of known values -/
theorem evd_ofV {d : Addr} {σ : L2.St} {H : Hp} {t0 t1 : TE} {xs : List V} {R : V → Hp → Prop} (h0 : ∀ H1, Ev t0 σ H1 (.ref d)) (h1 : ∀ H1, ExD d H H1 → EvL t1 σ H1 xs) (hx : xs ≠ []) (hl : xs.length < 1000000) (hR : ∀ v H1, ExD d H H1 → v ∈ xs → R v H1) :
    EvD d 1 (tCall spOf [] E0 (tCons t0 (tCons t1 tNil))) σ H R :=
  (evd_of h0 (fun H1 e1 => elp_el (h1 H1 e1)) (fun ys H1 e => by rw [e]; exact ⟨hx, hl⟩) fun _ _ _ _ e => e).imp fun v H2 e2 ⟨ys, m, e⟩ => hR v H2 e2 (by rw [← e]; exact m)

/-! ### _law_crossing -/
def isC (g : Int) (x : Deed) : Prop := (x.1 = .ov ∨ x.1 = .un) ∧ x.2 = g
abbrev psCr : List Str := ["_law_dock_here", "_law_gap"]
/-- a new deed with a property -/
def DP (K : PySem.W.Frag) (p : Deed → Prop) : V → Hp → Prop := fun v H => ∃ x, DAt K H v x ∧ p x
abbrev spCr (K : PySem.W.Frag) : Sp := fun vs H Q _ => ∃ (d : Addr) (g L : Int), vs = [.ref d, .int g] ∧ Dk d L H ∧ L + 1 ≤ 5000 ∧ OutD d (L + 1) (DP K (isC g)) H Q
theorem sc60 : FnScope psCr psCr (defScope (topS 60)) := ⟨rfl, rfl, rfl, by decide +kernel, rfl, by decide +kernel, by decide +kernel⟩
/-- (word, gap), the word drawn -/
theorem evd_deed {d : Addr} {n : Int} {σ : L2.St} {H : Hp} {ta tb : TE} {g : Int} {pw : Wd → Prop} (ha : EvD d n ta σ H (fun v _ => ∃ a, v = .str (wS a) ∧ pw a)) (hb : ∀ H1, Ev tb σ H1 (.int g)) : EvD d n (tTup (tCons ta (tCons tb tNil))) σ H (DP K fun x => pw x.1 ∧ x.2 = g) := fun L H1 l e hD Q q =>
  ha L H1 l e hD _ fun v H2 e2 d2 ⟨a, ev, p⟩ => hb H2 H2 (Ex.refl H2) _ fun H3 e3 => ⟨sz_of (Nat.le_of_lt_succ (by decide : 2 < 100001)), fun t ht => q _ _ (e2.trans (.of (e3.trans (Ex.new ht)))) (Dk.ex (e3.trans (Ex.new ht)) d2) ⟨(a, g), ⟨t, rfl, st_of (by subst ev; exact upd_same)⟩, p, rfl⟩⟩
/-- (word, gap), the gap drawn -/
theorem evd_deed2 {d : Addr} {n : Int} {σ : L2.St} {H : Hp} {ta tb : TE} {a : Wd} {pg : Int → Prop} (ha : ∀ H1, Ev ta σ H1 (.str (wS a))) (hb : EvD d n tb σ H (fun v _ => ∃ g, v = .int g ∧ pg g)) : EvD d n (tTup (tCons ta (tCons tb tNil))) σ H (DP K fun x => x.1 = a ∧ pg x.2) := fun L H1 l e hD Q q =>
  ha H1 H1 (Ex.refl H1) _ fun H2 e2 => hb L H2 l (e.trans (.of e2)) (Dk.ex e2 hD) _ fun v H3 e3 d3 ⟨g, ev, p⟩ => ⟨sz_of (Nat.le_of_lt_succ (by decide : 2 < 100001)), fun t ht => q _ _ ((ExD.of e2).trans (e3.trans (.of (Ex.new ht)))) (Dk.ex (Ex.new ht) d3) ⟨(a, g), ⟨t, rfl, st_of (by subst ev; exact upd_same)⟩, rfl, p⟩⟩
theorem mem2 {α : Type} {x a b : α} (h : x ∈ [a, b]) : x = a ∨ x = b := by simpa using h
theorem ok_crossing (c__law_of : Cal P w K mg base "_law_of" psOf 2 spOf) (D : DefAt K mg "_law_crossing" (topS 60) psCr) : Cal P w K mg base "_law_crossing" psCr 3 (spCr K) := by
  refine D.cal sc60 (fun vs H Q E ⟨d, g, L, h, _⟩ => by rw [h]; rfl) fun f cdv A outer s H vs Q E hr ⟨d, g, L, ev, hD, hL, k⟩ => ?_
  subst ev
  refine ⟨_, (pss_one (ps_ret (pe_tup (pa_cons (pe_cal c__law_of (hr.mono (by decide)) (by rfl) (pa_cons (pv 0) (pa_cons (pe_lst (pa_cons pe_str (pa_cons pe_str pa_nil))) pa_nil))) (pa_cons (pv 1) pa_nil))))), ?_⟩
  exact s_retD (evd_deed (pw := fun a => a = .ov ∨ a = .un) (evd_ofV (xs := [.str (wS .ov), .str (wS .un)]) (fun H1 => ev_var rfl) (fun H1 _ => el_lst (ea_cons ev_c (ea_cons ev_c ea_nil)) (by decide +kernel)) (by simp) (by decide +kernel) fun v H1 _ m => by
    rcases mem2 m with e | e
    · exact ⟨.ov, e, .inl rfl⟩
    · exact ⟨.un, e, .inr rfl⟩) fun H1 => ev_var rfl) hD (Int.le_refl _) hL k
end
end K38

/-! The law's own making: _law_planted, _law_lone. -/
namespace K38
open PySem PySem.Spec PyProof.Rows L2 Evl StX

/-! ### pieces that fit -/
def okP (e : Int) (xs : List Deed) (r : Int) : Prop := xs.length ≤ 3 ∧ run e xs = some r ∧ 0 ≤ r ∧ r ≤ 16 ∧ r % 2 = 0
def ringOk (e : Int) : Prop := 0 ≤ e ∧ e ≤ 16 ∧ e % 2 = 0
theorem isX_of {a : Wd} (h : a = .ov ∨ a = .un) : isX a = true := by rcases h with h | h <;> rw [h] <;> rfl
theorem fit_x {e g : Int} {a : Wd} (h : a = .ov ∨ a = .un ∨ a = .tn) (h0 : 0 ≤ g) (h1 : g < e) (he : e ≤ 18) : okD e (a, g) ∧ thenE e a = e := by
  rcases h with h | h | h <;> subst h <;> exact ⟨⟨⟨h0, show g ≤ 23 by omega⟩, decide_eq_true h1, fun z => nomatch z.1⟩, rfl⟩
theorem fit_j {e g : Int} (h : (e = 2 ∧ g = 1) ∨ (e ≠ 2 ∧ 1 ≤ g ∧ g ≤ e - 2)) (he : e ≤ 18) : okD e (.jn, g) ∧ thenE e .jn = e - 2 := by
  refine ⟨⟨⟨show 0 ≤ g by omega, show g ≤ 23 by omega⟩, ?_, fun z => nomatch z.1⟩, rfl⟩
  show (if e = 2 then decide (g = 1) else decide (1 ≤ g) && decide (g ≤ e - 2)) = true
  rcases h with ⟨h1, h2⟩ | ⟨h1, h2, h3⟩
  · rw [if_pos h1, decide_eq_true h2]
  · rw [if_neg h1, decide_eq_true h2, decide_eq_true h3]
    rfl
theorem fit_o {e g : Int} (h0 : 0 ≤ g) (h : g < e ∨ g = 0) (h1 : 0 ≤ e) (he : e < 10) : okD e (.op, g) ∧ thenE e .op = e + 2 := by
  refine ⟨⟨⟨h0, show g ≤ 23 by omega⟩, ?_, fun z => by have := z.2; omega⟩, rfl⟩
  show decide (g < if e > 1 then e else 1) = true
  refine decide_eq_true ?_
  split <;> omega
theorem run1 {e f : Int} {a : Deed} (h : okD e a ∧ thenE e a.1 = f) : run e [a] = some f := by
  rw [run_mk h.1, h.2]
  rfl
theorem run2 {e f r : Int} {a : Deed} {xs : List Deed} (h : okD e a ∧ thenE e a.1 = f) (k : run f xs = some r) : run e (a :: xs) = some r := by
  rw [run_mk h.1, h.2]
  exact k

section
variable {K : PySem.W.Frag} {d : Addr} {n m L M : Int} {σ : L2.St} {H H' : Hp} {te ta tb tl tr : TE} {p : Deed → Prop} {q : List Deed → Prop}
/-! ### lists of new deeds -/
def DsP (K : PySem.W.Frag) (q : List Deed → Prop) : List V → Hp → Prop := fun vs H => ∃ xs, DsAt K H vs xs ∧ q xs
def EvAD (d : Addr) (n : Int) (ta : TA) (σ : L2.St) (H : Hp) (S : List V → Hp → Prop) : Prop := ∀ L H1, L + n ≤ 5000 → ExD d H H1 → Dk d L H1 → ∀ Q : List V → Hp → Prop, (∀ vs H2, ExD d H1 H2 → Dk d (L + n) H2 → S vs H2 → Q vs H2) → ta σ H1 Q
theorem ead_nil : EvAD d 0 tNil σ H (DsP K fun xs => xs = []) := fun L H1 l e hD Q q => q [] H1 (ExD.refl H1) (hD.le (by omega)) ⟨[], .nil, rfl⟩
theorem ead_cons {tr : TA} (h : EvD d n te σ H (DP K p)) (hr : EvAD d m tr σ H (DsP K q)) (hn : 0 ≤ m) : EvAD d (n + m) (tCons te tr) σ H (DsP K fun xs => ∃ x r, xs = x :: r ∧ p x ∧ q r) := fun L H1 l e hD Q k =>
  h L H1 (by omega) e hD _ fun v H2 e2 d2 ⟨x, hx, px⟩ => hr (L + n) H2 (by omega) (e.trans e2) d2 _ fun vs H3 e3 d3 ⟨xs, hxs, qx⟩ => k _ H3 (e2.trans e3) (d3.le (by omega)) ⟨x :: xs, .cons (hx.nl (d2.nl e3)) hxs, x, xs, rfl, px, qx⟩
def NLd (K : PySem.W.Frag) (d : Addr) (q : List Deed → Prop) : V → Hp → Prop := fun v H => ∃ a vs xs, v = .ref a ∧ H a = some (.lst vs) ∧ DsAt K H vs xs ∧ q xs ∧ a ≠ d
theorem evd_newL {ta : TA} (h : EvAD d n ta σ H (DsP K q)) (hl : ∀ xs, q xs → xs.length ≤ 100) : EvD d n (tLst ta) σ H (NLd K d q) := fun L H1 l e hD Q k =>
  h L H1 l e hD _ fun vs H2 e2 d2 ⟨xs, hx, qx⟩ => ⟨sz_of (by have := hl xs qx; have := hx.len; omega), fun t ht => k _ _ (e2.trans (.of (Ex.new ht))) (Dk.ex (Ex.new ht) d2) ⟨t, vs, xs, rfl, upd_same, hx.mono (Ex.new ht), qx, d2.off ht⟩⟩
def Piece (K : PySem.W.Frag) (d : Addr) (e : Int) : V → Hp → Prop := fun v H => ∃ t a vs xs r, v = .ref t ∧ SqT K H t [.ref a, .int r] ∧ H a = some (.lst vs) ∧ DsAt K H vs xs ∧ a ≠ d ∧ okP e xs r
theorem evd_piece {e r : Int} (h : EvD d n tl σ H (NLd K d q)) (hq : ∀ xs, q xs → okP e xs r) (hr : ∀ H1, Ev tr σ H1 (.int r)) : EvD d n (tTup (tCons tl (tCons tr tNil))) σ H (Piece K d e) := fun L H1 l e hD Q k =>
  h L H1 l e hD _ fun v H2 e2 d2 ⟨a, vs, xs, ev, ha, hx, qx, ad⟩ => hr H2 H2 (Ex.refl H2) _ fun H3 e3 => ⟨sz_of (Nat.le_of_lt_succ (by decide : 2 < 100001)), fun t ht =>
    have e4 := e3.trans (Ex.new ht)
    k _ _ (e2.trans (.of e4)) (Dk.ex e4 d2) ⟨t, a, vs, xs, r, rfl, st_of (by subst ev; exact upd_same), e4 _ _ ha, hx.mono e4, ad, hq xs qx⟩⟩
/-- a deed of known parts -/
theorem evd_dV {a : Wd} {g : Int} (ha : ∀ H1, Ev ta σ H1 (.str (wS a))) (hb : ∀ H1, Ev tb σ H1 (.int g)) : EvD d 0 (tTup (tCons ta (tCons tb tNil))) σ H (DP K fun x => x = (a, g)) :=
  (evd_deed (pw := fun x => x = a) (evd_ev (P := fun v _ => ∃ b, v = .str (wS b) ∧ b = a) (fun H1 _ => ha H1) fun _ _ => ⟨a, rfl, rfl⟩) hb).imp fun v H2 _ ⟨x, h1, h2, h3⟩ => ⟨x, h1, by
    obtain ⟨x1, x2⟩ := x
    cases h2
    cases h3
    rfl⟩
end

section
variable {P : Program} {w : World} {K : PySem.W.Frag} {mg : Str → Option Value} {base : Heap} {pT pC pM C : Addr}
abbrev psPl : List Str := ["_law_dock_here", "_law_ring"]
abbrev spPl (K : PySem.W.Frag) : Sp := fun vs H Q _ => ∃ (d : Addr) (e L : Int), vs = [.ref d, .int e] ∧ Dk d L H ∧ L + 6 ≤ 5000 ∧ ringOk e ∧ 0 < e ∧ OutD d (L + 6) (Piece K d e) H Q
theorem sc61 : FnScope ["_law_dock_here", "_law_ring", "_law_way", "_law_gap", "_law_word", "_law_other", "_law_near", "_law_behind_here"] psPl (defScope (topS 61)) := ⟨rfl, rfl, rfl, by decide +kernel, rfl, by decide +kernel, by decide +kernel⟩
/-- [(over, under), (under, over)] -/
def Pairs (K : PySem.W.Frag) : List V → Hp → Prop := fun xs H => ∃ p1 p2, xs = [.ref p1, .ref p2] ∧ SqT K H p1 [.str (wS .ov), .str (wS .un)] ∧ SqT K H p2 [.str (wS .un), .str (wS .ov)]
theorem evd_pairs {d : Addr} {σ : L2.St} {H : Hp} {t0 : TE} (h0 : ∀ H1, Ev t0 σ H1 (.ref d)) :
    EvD d 1 (tCall spOf [] E0 (tCons t0 (tCons (tLst (tCons (tTup (tCons (tC (.str "over")) (tCons (tC (.str "under")) tNil))) (tCons (tTup (tCons (tC (.str "under")) (tCons (tC (.str "over")) tNil))) tNil))) tNil))) σ H (fun v H1 => ∃ p a b, v = .ref p ∧ SqT K H1 p [.str (wS a), .str (wS b)] ∧ (a = .ov ∨ a = .un) ∧ (b = .ov ∨ b = .un)) :=
  (evd_of (S := Pairs K) h0 (fun H1 _ => elp_lst (eap_cons (evp_eu (P := fun v H2 => ∃ p1, v = .ref p1 ∧ SqT K H2 p1 [.str (wS .ov), .str (wS .un)]) (eu_tup (ea_cons ev_c (ea_cons ev_c ea_nil)) (by decide +kernel)) fun p H2 _ hp => ⟨p, rfl, st_of hp⟩) fun v1 H2 _ ⟨p1, ev1, h1⟩ =>
      eap_cons (evp_eu (P := fun v H2 => ∃ p2, v = .ref p2 ∧ SqT K H2 p2 [.str (wS .un), .str (wS .ov)]) (eu_tup (ea_cons ev_c (ea_cons ev_c ea_nil)) (by decide +kernel)) fun p H2 _ hp => ⟨p, rfl, st_of hp⟩) fun v2 H3 e3 ⟨p2, ev2, h2⟩ =>
      eap_nil fun H4 e4 => ⟨p1, p2, by rw [ev1, ev2], ex_t (e3.trans e4) h1, ex_t e4 h2⟩) (fun vs H1 ⟨_, _, e, _⟩ => by rw [e]; exact Nat.le_of_lt_succ (by decide : 2 < 100001)) fun vs H1 H2 e ⟨p1, p2, ev, h1, h2⟩ => ⟨p1, p2, ev, ex_t e h1, ex_t e h2⟩)
    (fun xs H1 ⟨_, _, e, _⟩ => by rw [e]; exact ⟨(fun z => nomatch z), (by decide : 2 < 1000000)⟩) fun xs H1 H2 e ⟨p1, p2, ev, h1, h2⟩ => ⟨p1, p2, ev, SqT.nl e h1, SqT.nl e h2⟩).imp fun v H2 _ ⟨xs, m, p1, p2, ev, h1, h2⟩ => by
      rw [ev] at m
      rcases mem2 m with q | q
      · exact ⟨p1, .ov, .un, q, h1, .inl rfl, .inr rfl⟩
      · exact ⟨p2, .un, .ov, q, h2, .inr rfl, .inl rfl⟩
/-- the crossings' words -/
abbrev crW (a : Wd) : Prop := a = .ov ∨ a = .un
theorem crX {a : Wd} (h : crW a) : a = .ov ∨ a = .un ∨ a = .tn := h.elim .inl fun q => .inr (.inl q)
theorem mem4 {α : Type} {x a b c e : α} (h : x ∈ [a, b, c, e]) : x = a ∨ x = b ∨ x = c ∨ x = e := by simpa using h
theorem mem3 {α : Type} {x a b c : α} (h : x ∈ [a, b, c]) : x = a ∨ x = b ∨ x = c := by simpa using h
/-- (of(dock, [four words]), gap) -/
theorem evd_four {d : Addr} {σ : L2.St} {H : Hp} {t0 ta tb tc te tg : TE} {a b c e : Wd} {g : Int} (h0 : ∀ H1, Ev t0 σ H1 (.ref d)) (ha : ∀ H1, Ev ta σ H1 (.str (wS a))) (hb : ∀ H1, Ev tb σ H1 (.str (wS b))) (hc : ∀ H1, Ev tc σ H1 (.str (wS c))) (he : ∀ H1, Ev te σ H1 (.str (wS e))) (hg : ∀ H1, Ev tg σ H1 (.int g)) (ca : crW a) (cb : crW b) (cc : crW c) (ce : crW e) :
    EvD d 1 (tTup (tCons (tCall spOf [] E0 (tCons t0 (tCons (tLst (tCons ta (tCons tb (tCons tc (tCons te tNil))))) tNil))) (tCons tg tNil))) σ H (DP K fun x => crW x.1 ∧ x.2 = g) :=
  evd_deed (evd_ofV (xs := [.str (wS a), .str (wS b), .str (wS c), .str (wS e)]) h0 (fun H1 _ => el_lst (ea_cons (ha H1) (ea_cons (hb H1) (ea_cons (hc H1) (ea_cons (he H1) ea_nil)))) (Nat.le_of_lt_succ (by decide : 4 < 100001))) (fun z => nomatch z) (by decide : 4 < 1000000) fun v H1 _ m => by
    rcases mem4 m with q | q | q | q
    · exact ⟨a, q, ca⟩
    · exact ⟨b, q, cb⟩
    · exact ⟨c, q, cc⟩
    · exact ⟨e, q, ce⟩) hg
/-- crossing(dock, gap) -/
theorem evd_cr {d : Addr} {n : Int} {σ : L2.St} {H : Hp} {t0 t1 : TE} {pg : Int → Prop} (h0 : ∀ H1, Ev t0 σ H1 (.ref d)) (h1 : EvD d n t1 σ H (fun v _ => ∃ g, v = .int g ∧ pg g)) : EvD d (n + 1) (tCall (spCr K) [] E0 (tCons t0 (tCons t1 tNil))) σ H (DP K fun x => crW x.1 ∧ pg x.2) :=
  evd_call h0 h1 (by decide) fun v H1 L1 _ hD1 l1 ⟨g, ev, pg⟩ Q1 q1 => ⟨d, g, L1, by rw [ev], hD1, l1, fun u H2 e2 d2 ⟨x, h1, h2, h3⟩ => q1 u H2 e2 d2 ⟨x, h1, h2, by rw [h3]; exact pg⟩⟩
theorem evd_crV {d : Addr} {σ : L2.St} {H : Hp} {t0 t1 : TE} {g : Int} (h0 : ∀ H1, Ev t0 σ H1 (.ref d)) (h1 : ∀ H1, Ev t1 σ H1 (.int g)) : EvD d 1 (tCall (spCr K) [] E0 (tCons t0 (tCons t1 tNil))) σ H (DP K fun x => crW x.1 ∧ x.2 = g) :=
  evd_le (n := 0 + 1) (by decide) (evd_cr (pg := fun x => x = g) h0 (evd_ev (fun H1 _ => h1 H1) fun _ _ => ⟨g, rfl, rfl⟩))
theorem ok_planted (T : Txt K mg pT pC pM C) (c__law_moor : Cal P w K mg base "_law_moor" psMoor 1 spMoor) (c__law_of : Cal P w K mg base "_law_of" psOf 2 spOf) (c__law_crossing : Cal P w K mg base "_law_crossing" psCr 3 (spCr K)) (D : DefAt K mg "_law_planted" (topS 61) psPl) : Cal P w K mg base "_law_planted" psPl 4 (spPl K) := by
  refine D.cal sc61 (fun vs H Q E ⟨d, e, L, h, _⟩ => by rw [h]; rfl) fun f cdv A outer s H vs Q E hr ⟨d, e, L, ev, hD, hL, ⟨e0, e1, e2⟩, e3, k⟩ => ?_
  subst ev
  refine ⟨_, (pss_cons (ps_par (by rfl) sc61.nd (i := 2) (j := 3) rfl rfl (by decide) rfl rfl (pa_cons (pe_cal c__law_moor (hr.mono (by decide)) (by rfl) (pa_cons (pv 0) (pa_cons pe_int pa_nil))) (pa_cons (pe_cal c__law_moor (hr.mono (by decide)) (by rfl) (pa_cons (pv 0) (pa_cons (pv 1) pa_nil))) pa_nil)) (by rfl))
    (pss_cons (ps_asg (pe_cal c__law_of (hr.mono (by decide)) (by rfl) (pa_cons (pv 0) (pa_cons (pe_lst (pa_cons (pe_tup (pa_cons pe_str (pa_cons pe_str pa_nil))) (pa_cons (pe_tup (pa_cons pe_str (pa_cons pe_str pa_nil))) pa_nil))) pa_nil))) (pg_tup rfl (pgs_cons (pg_name (i := 4) sc61.nd rfl (.inl rfl)) (pgs_cons (pg_name (i := 5) sc61.nd rfl (.inl rfl)) pgs_nil))))
    (pss_cons (ps_if (pt_cmpR op_eq (pv 2) pe_int (nomark _))
    (pss_one (ps_ret (pe_tup (pa_cons (pe_lst (pa_cons (pe_tup (pa_cons (pv 4) (pa_cons (pv 3) pa_nil))) (pa_cons (pe_tup (pa_cons (pe_cal c__law_of (hr.mono (by decide)) (by rfl) (pa_cons (pv 0) (pa_cons (pe_lst (pa_cons (pv 5) (pa_cons (pv 5) (pa_cons (pv 5) (pa_cons (pv 4) pa_nil))))) pa_nil))) (pa_cons (pv 3) pa_nil))) pa_nil))) (pa_cons (pv 1) pa_nil)))))
    pss_nil)
    (pss_cons (ps_if (PW.pt (pw_and (pt_cmpR op_eq (pv 2) pe_int (nomark _)) (pw_and1 (pt_cmpR op_gt (pv 1) pe_int (nomark _)))))
    (pss_cons (ps_set (i := 6) sc61.nd rfl (.inl rfl) (pe_op op_mod (pe_callTy call_int1 (by rfl) T.b_int (by decide +kernel) (pa_cons (pe_op op_add (pv 3) (pe_cal c__law_of (hr.mono (by decide)) (by rfl) (pa_cons (pv 0) (pa_cons (pe_lst (pa_cons pe_int (pa_cons (pe_op op_sub (pv 1) pe_int) pa_nil))) pa_nil)))) pa_nil)) (pv 1)))
    (pss_one (ps_ret (pe_tup (pa_cons (pe_lst (pa_cons (pe_tup (pa_cons (pv 4) (pa_cons (pv 3) pa_nil))) (pa_cons (pe_tup (pa_cons (pe_cal c__law_of (hr.mono (by decide)) (by rfl) (pa_cons (pv 0) (pa_cons (pe_lst (pa_cons (pv 4) (pa_cons (pv 4) (pa_cons (pv 4) (pa_cons (pv 5) pa_nil))))) pa_nil))) (pa_cons (pv 6) pa_nil))) (pa_cons (pe_tup (pa_cons (pv 4) (pa_cons (pv 3) pa_nil))) pa_nil)))) (pa_cons (pv 1) pa_nil))))))
    pss_nil)
    (pss_cons (ps_if (pt_cmpR op_eq (pv 2) pe_int (nomark _))
    (pss_cons (ps_set (i := 3) sc61.nd rfl (.inl rfl) (pe_ifExp (pt_cmpR op_eq (pv 1) pe_int (nomark _)) pe_int (pe_op op_add pe_int (pe_op op_mod (pe_callTy call_int1 (by rfl) T.b_int (by decide +kernel) (pa_cons (pv 3) pa_nil)) (pe_op op_sub (pv 1) pe_int)))))
    (pss_one (ps_ret (pe_tup (pa_cons (pe_lst (pa_cons (pe_tup (pa_cons (pv 4) (pa_cons (pv 3) pa_nil))) (pa_cons (pe_tup (pa_cons pe_str (pa_cons (pv 3) pa_nil))) pa_nil))) (pa_cons (pe_op op_sub (pv 1) pe_int) pa_nil))))))
    pss_nil)
    (pss_cons (ps_if (PW.pt (pw_and (pt_cmpR op_eq (pv 2) pe_int (nomark _)) (pw_and1 (pt_cmpR op_lt (pv 1) pe_int (nomark _)))))
    (pss_cons (ps_set (i := 3) sc61.nd rfl (.inl rfl) (pe_callB (call_max2 rfl) (by rfl) T.b_max (by decide +kernel) (pa_cons pe_int (pa_cons (pv 3) pa_nil))))
    (pss_cons (ps_set (i := 7) sc61.nd rfl (.inl rfl) (pe_cal c__law_of (hr.mono (by decide)) (by rfl) (pa_cons (pv 0) (pa_cons (pe_ifExp (pt_cmpR op_gt (pv 3) (pe_op op_sub (pv 1) pe_int) (nomark _)) (pe_lst (pa_cons (pv 3) (pa_cons (pe_op op_add (pv 3) pe_int) pa_nil))) (pe_lst (pa_cons (pv 3) (pa_cons (pe_op op_add (pv 3) pe_int) (pa_cons (pe_op op_add (pv 3) pe_int) pa_nil))))) pa_nil))))
    (pss_one (ps_ret (pe_tup (pa_cons (pe_ifExp (pt_cmpR op_gt (pe_cal c__law_moor (hr.mono (by decide)) (by rfl) (pa_cons (pv 0) (pa_cons pe_int pa_nil))) pe_int (nomark _)) (pe_lst (pa_cons (pe_tup (pa_cons pe_str (pa_cons (pv 3) pa_nil))) (pa_cons (pe_tup (pa_cons pe_str (pa_cons (pv 7) pa_nil))) pa_nil))) (pe_lst (pa_cons (pe_tup (pa_cons pe_str (pa_cons pe_int pa_nil))) (pa_cons (pe_tup (pa_cons pe_str (pa_cons pe_int pa_nil))) pa_nil)))) (pa_cons (pv 1) pa_nil)))))))
    pss_nil)
    (pss_one (ps_ret (pe_tup (pa_cons (pe_lst (pa_cons (pe_tup (pa_cons (pv 4) (pa_cons (pv 3) pa_nil))) (pa_cons (pe_cal c__law_crossing (hr.mono (by decide)) (by rfl) (pa_cons (pv 0) (pa_cons (pe_op op_mod (pe_callTy call_int1 (by rfl) T.b_int (by decide +kernel) (pa_cons (pe_op op_add (pv 3) pe_int) pa_nil)) (pv 1)) pa_nil))) pa_nil))) (pa_cons (pv 1) pa_nil))))))))))), ?_⟩
  refine q_parD (n := 1) (m := 1) (evd_moor (many := 5) (fun H1 => ev_var rfl) (fun H1 _ => ev_c) (by decide) (by decide)) (fun H1 _ => evd_moor (many := e) (fun H1 => ev_var rfl) (fun H1 _ => ev_var rfl) e3 (by omega)) hD (by omega) (by decide) fun v1 v2 H1 H2 x1 ⟨way, ew, w0, w1⟩ x2 d2 ⟨g, eg, g0, g1⟩ => ?_
  subst ew
  subst eg
  have x12 := x1.trans x2
  refine q_asgG (evd_pairs (K := K) fun H1 => ev_var rfl) d2 (by omega) fun v H3 x3 d3 ⟨p, a, b, ev, hp, ha, hb⟩ => ?_
  subst ev
  refine ⟨p, _, rfl, hp, rfl, _, _, rfl, _, _, rfl, rfl, ?_⟩
  have x13 := x12.trans x3
  have kk : ∀ {H4 : Hp}, ExD d H3 H4 → OutD d (L + 6) (Piece K d e) H4 Q := fun x => k.go (x13.trans x)
  -- way 0
  refine q_when (et_op (ev_var rfl) ev_c rv_eqI) (fun h H4 x4 => ?_) fun _ H4 x4 => ?_
  · refine s_retD (n := 1) (evd_piece (evd_newL (n := 0 + (1 + 0)) (ead_cons (evd_dV (a := a) (g := g) (fun H1 => ev_var rfl) fun H1 => ev_var rfl) (ead_cons (evd_four (a := b) (b := b) (c := b) (e := a) (g := g) (fun H1 => ev_var rfl) (fun H1 => ev_var rfl) (fun H1 => ev_var rfl) (fun H1 => ev_var rfl) (fun H1 => ev_var rfl) (fun H1 => ev_var rfl) hb hb hb ha) ead_nil (by decide)) (by decide)) ?_) ?_ fun H1 => ev_var rfl) (Dk.ex x4 d3) (by omega) hL (kk (.of x4))
    · rintro xs ⟨y, r, rfl, _, z, r2, rfl, _, rfl⟩
      exact (by decide : 2 ≤ 100)
    · rintro xs ⟨y, r, rfl, rfl, ⟨z1, z2⟩, r2, rfl, ⟨hz, rfl⟩, rfl⟩
      exact ⟨(by decide : 2 ≤ 3), run2 (fit_x (crX ha) g0 g1 (by omega)) (run1 (fit_x (crX hz) g0 g1 (by omega))), e0, e1, e2⟩
  -- way 1
  refine q_when (et_and (et_op (ev_var rfl) ev_c rv_eqI) fun _ => et_op (ev_var rfl) ev_c rv_I0) (fun h H5 x5 => ?_) fun _ H5 x5 => ?_
  · have x45 := x4.trans x5
    refine q_asgD (n := 1) (P := fun v _ => ∃ i, v = .int i ∧ 0 ≤ i ∧ i < e) (evd_op1 (P := fun v _ => ∃ i, v = .int i ∧ True) (evd_int (Pi := fun _ => True) (evd_op2 (x := .int g) (P := fun v _ => ∃ i, v = .int i) (fun H1 _ => ev_var rfl) (evd_ofV (xs := [.int 1, .int (e - 1)]) (fun H1 => ev_var rfl) (fun H1 _ => el_lst (ea_cons ev_c (ea_cons (ev_op (ev_var rfl) ev_c rv_I0) ea_nil)) (Nat.le_of_lt_succ (by decide : 2 < 100001))) (fun z => nomatch z) (by decide : 2 < 1000000) fun v H1 _ m => ?_) ?_)) (fun H1 => ev_var (v := .int e) rfl) ?_) (Dk.ex x45 d3) (by omega) fun v H6 x6 d6 ⟨near, en, n0, n1⟩ => ?_
    · rcases mem2 m with q | q <;> exact ⟨_, q⟩
    · rintro y H1 _ ⟨i, rfl⟩
      exact ⟨_, rv_I0, fun _ _ => ⟨_, rfl, trivial⟩⟩
    · rintro y H1 _ ⟨i, rfl, _⟩
      exact ⟨_, fun _ => rv_I e3, fun _ _ => ⟨_, rfl, Int.emod_nonneg _ (Int.ne_of_gt e3), Int.emod_lt_of_pos _ e3⟩⟩
    subst en
    refine s_retD (n := 1) (evd_piece (evd_newL (n := 0 + (1 + (0 + 0))) (ead_cons (evd_dV (a := a) (g := g) (fun H1 => ev_var rfl) fun H1 => ev_var rfl) (ead_cons (evd_four (a := a) (b := a) (c := a) (e := b) (g := near) (fun H1 => ev_var rfl) (fun H1 => ev_var rfl) (fun H1 => ev_var rfl) (fun H1 => ev_var rfl) (fun H1 => ev_var rfl) (fun H1 => ev_var rfl) ha ha ha hb) (ead_cons (evd_dV (a := a) (g := g) (fun H1 => ev_var rfl) fun H1 => ev_var rfl) ead_nil (by decide)) (by decide)) (by decide)) ?_) ?_ fun H1 => ev_var rfl) d6 (by omega) hL (kk ((ExD.of x45).trans x6))
    · rintro xs ⟨y, r, rfl, _, z, r2, rfl, _, u, r3, rfl, _, rfl⟩
      exact (by decide : 3 ≤ 100)
    · rintro xs ⟨y, r, rfl, rfl, ⟨z1, z2⟩, r2, rfl, ⟨hz, rfl⟩, u, r3, rfl, rfl, rfl⟩
      exact ⟨(by decide : 3 ≤ 3), run2 (fit_x (crX ha) g0 g1 (by omega)) (run2 (fit_x (crX hz) n0 n1 (by omega)) (run1 (fit_x (crX ha) g0 g1 (by omega)))), e0, e1, e2⟩
  -- way 2
  have x45 := x4.trans x5
  refine q_when (et_op (ev_var rfl) ev_c rv_eqI) (fun h H6 x6 => ?_) fun _ H6 x6 => ?_
  · refine q_asg (v := .int (if e = 2 then 1 else 1 + g % (e - 2))) (ev_if (et_op (ev_var rfl) ev_c rv_eqI) (fun z => ?_) fun z => ?_) fun H7 x7 => ?_
    · rw [if_pos (of_decide_eq_true z)]
      exact ev_c
    · rw [if_neg (of_decide_eq_false z)]
      have := of_decide_eq_false z
      exact ev_op ev_c (ev_op (ev_cb (ea_cons (ev_var rfl) ea_nil) rc_int) (ev_op (ev_var rfl) ev_c rv_I0) (rv_I (show (0 : Int) < e - 2 by omega))) rv_I0
    have hj : (e = 2 ∧ (if e = 2 then 1 else 1 + g % (e - 2)) = 1) ∨ (e ≠ 2 ∧ 1 ≤ (if e = 2 then 1 else 1 + g % (e - 2)) ∧ (if e = 2 then 1 else 1 + g % (e - 2)) ≤ e - 2) := by
      by_cases z : e = 2
      · rw [if_pos z]
        exact .inl ⟨z, rfl⟩
      · rw [if_neg z]
        have q0 : (0 : Int) < e - 2 := by omega
        have q1 := Int.emod_nonneg g (Int.ne_of_gt q0)
        have q2 := Int.emod_lt_of_pos g q0
        exact .inr ⟨z, by omega, by omega⟩
    generalize (if e = 2 then 1 else 1 + g % (e - 2)) = j at hj
    have x57 := (x45.trans x6).trans x7
    refine s_retD (n := 0) (evd_piece (r := e - 2) (evd_newL (n := 0 + (0 + 0)) (ead_cons (evd_dV (a := a) (g := j) (fun H1 => ev_var rfl) fun H1 => ev_var rfl) (ead_cons (evd_dV (a := .jn) (g := j) (fun H1 => ev_c) fun H1 => ev_var rfl) ead_nil (by decide)) (by decide)) ?_) ?_ fun H1 => ev_op (ev_var rfl) ev_c rv_I0) (Dk.ex x57 d3) (by omega) hL (kk (.of x57))
    · rintro xs ⟨y, r, rfl, _, z, r2, rfl, _, rfl⟩
      exact (by decide : 2 ≤ 100)
    · rintro xs ⟨y, r, rfl, rfl, z, r2, rfl, rfl, rfl⟩
      exact ⟨(by decide : 2 ≤ 3), run2 (fit_x (crX ha) (by omega) (by omega) (by omega)) (run1 (fit_j hj (by omega))), by omega, by omega, by omega⟩
  -- way 3
  have x46 := x45.trans x6
  refine q_when (et_and (et_op (ev_var rfl) ev_c rv_eqI) fun _ => et_op (ev_var rfl) ev_c rv_I0) (fun h H7 x7 => ?_) fun _ H7 x7 => ?_
  · have he10 : e < 10 := of_decide_eq_true (Bool.and_eq_true_iff.mp h).2
    refine q_asg (v := .int (if g > 1 then g else 1)) (ev_max2 ev_c (ev_var rfl)) fun H8 x8 => ?_
    have hg : 1 ≤ (if g > 1 then g else 1) ∧ (if g > 1 then g else 1) < e := by split <;> omega
    generalize (if g > 1 then g else 1) = y at hg
    have x68 := (x46.trans x7).trans x8
    refine q_asgD (n := 1) (P := fun v _ => ∃ i, v = .int i ∧ 1 ≤ i ∧ i ≤ e) (evd_ofV (xs := if y > e - 2 then [.int y, .int (y + 1)] else [.int y, .int (y + 2), .int (y + 1)]) (fun H1 => ev_var rfl) (fun H1 _ => el_if (et_op (ev_var rfl) (ev_op (ev_var rfl) ev_c rv_I0) rv_I0) (fun z => ?_) fun z => ?_) ?_ ?_ fun v H1 _ m => ?_) (Dk.ex x68 d3) (by omega) fun v H9 x9 d9 ⟨bh, eb, b0, b1⟩ => ?_
    · rw [if_pos (of_decide_eq_true z)]
      exact el_lst (ea_cons (ev_var rfl) (ea_cons (ev_op (ev_var rfl) ev_c rv_I0) ea_nil)) (Nat.le_of_lt_succ (by decide : 2 < 100001))
    · rw [if_neg (of_decide_eq_false z)]
      exact el_lst (ea_cons (ev_var rfl) (ea_cons (ev_op (ev_var rfl) ev_c rv_I0) (ea_cons (ev_op (ev_var rfl) ev_c rv_I0) ea_nil))) (Nat.le_of_lt_succ (by decide : 3 < 100001))
    · split <;> exact fun z => nomatch z
    · split
      · exact (by decide : 2 < 1000000)
      · exact (by decide : 3 < 1000000)
    · by_cases z : y > e - 2
      · rw [if_pos z] at m
        rcases mem2 m with q | q <;> exact ⟨_, q, by omega, by omega⟩
      · rw [if_neg z] at m
        rcases mem3 m with q | q | q <;> exact ⟨_, q, by omega, by omega⟩
    subst eb
    have fj : ∀ i, 1 ≤ i → i ≤ e → okD (e + 2) (.jn, i) ∧ thenE (e + 2) .jn = e := fun i q1 q2 => by
      have := fit_j (e := e + 2) (g := i) (.inr ⟨by omega, q1, by omega⟩) (by omega)
      exact ⟨this.1, by rw [this.2]; omega⟩
    refine s_retD (n := 1) (evd_piece (r := e) (q := fun xs => okP e xs e) (evd_if (n := 1) (m := 0 + (0 + 0)) (Pt := fun _ => True) (etd_e (evd_op1 (P := fun v _ => ∃ i, v = .int i ∧ 0 ≤ i ∧ i < 4) (evd_moor (fun H1 => ev_var rfl) (fun H1 _ => ev_c) (by decide) (by decide)) (fun H1 => ev_c (v := .int 0)) ?_))
      (fun _ => (evd_newL (K := K) (ead_cons (evd_dV (a := .op) (g := y) (fun H1 => ev_c) fun H1 => ev_var rfl) (ead_cons (evd_dV (a := .jn) (g := bh) (fun H1 => ev_c) fun H1 => ev_var rfl) ead_nil (by decide)) (by decide)) ?_).imp ?_)
      (fun _ => (evd_newL (K := K) (ead_cons (evd_dV (a := .op) (g := 0) (fun H1 => ev_c) fun H1 => ev_c) (ead_cons (evd_dV (a := .jn) (g := 2) (fun H1 => ev_c) fun H1 => ev_c) ead_nil (by decide)) (by decide)) ?_).imp ?_) (by decide)) (fun _ z => z) fun H1 => ev_var rfl) d9 (by omega) hL (kk ((ExD.of x68).trans x9))
    · rintro x H1 _ ⟨i, rfl, _⟩
      exact ⟨_, fun _ => rv_I0, fun _ _ => ⟨_, rfl, trivial⟩⟩
    · rintro xs ⟨y, r, rfl, _, z, r2, rfl, _, rfl⟩
      exact (by decide : 2 ≤ 100)
    · rintro v H1 _ ⟨l, vs, xs, rfl, hl, hx, ⟨y, r, rfl, rfl, z, r2, rfl, rfl, rfl⟩, ld⟩
      exact ⟨l, vs, _, rfl, hl, hx, ⟨(by decide : 2 ≤ 3), run2 (fit_o (by omega) (.inl hg.2) e0 he10) (run1 (fj _ b0 b1)), e0, e1, e2⟩, ld⟩
    · rintro xs ⟨y, r, rfl, _, z, r2, rfl, _, rfl⟩
      exact (by decide : 2 ≤ 100)
    · rintro v H1 _ ⟨l, vs, xs, rfl, hl, hx, ⟨y, r, rfl, rfl, z, r2, rfl, rfl, rfl⟩, ld⟩
      exact ⟨l, vs, _, rfl, hl, hx, ⟨(by decide : 2 ≤ 3), run2 (fit_o (by omega) (.inr rfl) e0 he10) (run1 (fj _ (by decide) (by omega))), e0, e1, e2⟩, ld⟩
  -- the last
  have x47 := x46.trans x7
  refine s_retD (n := 1) (evd_piece (r := e) (evd_newL (n := 0 + (1 + 0)) (ead_cons (evd_dV (a := a) (g := g) (fun H1 => ev_var rfl) fun H1 => ev_var rfl) (ead_cons (evd_crV (g := (g + 2) % e) (fun H1 => ev_var rfl) fun H1 => ev_op (ev_cb (ea_cons (ev_op (ev_var rfl) ev_c rv_I0) ea_nil) rc_int) (ev_var rfl) (rv_I (C := fun _ j => 0 < j) e3)) ead_nil (by decide)) (by decide)) ?_) ?_ fun H1 => ev_var rfl) (Dk.ex x47 d3) (by omega) hL (kk (.of x47))
  · rintro xs ⟨y, r, rfl, _, z, r2, rfl, _, rfl⟩
    exact (by decide : 2 ≤ 100)
  · rintro xs ⟨y, r, rfl, rfl, ⟨z1, z2⟩, r2, rfl, ⟨hz, rfl⟩, rfl⟩
    exact ⟨(by decide : 2 ≤ 3), run2 (fit_x (crX ha) g0 g1 (by omega)) (run1 (fit_x (crX hz) (Int.emod_nonneg _ (Int.ne_of_gt e3)) (Int.emod_lt_of_pos _ e3) (by omega))), e0, e1, e2⟩
end
end K38

/-! The law's own making: _law_lone, _law_deeds, _law_dock. -/
namespace K38
open PySem PySem.Spec PyProof.Rows L2 Evl StX

section
variable {P : Program} {w : World} {K : PySem.W.Frag} {mg : Str → Option Value} {base : Heap} {pT pC pM C : Addr}
/-! ### _law_lone -/
abbrev spLo (K : PySem.W.Frag) : Sp := fun vs H Q _ => ∃ (d : Addr) (e L : Int), vs = [.ref d, .int e] ∧ Dk d L H ∧ L + 6 ≤ 5000 ∧ ringOk e ∧ OutD d (L + 6) (Piece K d e) H Q
theorem sc62 : FnScope ["_law_dock_here", "_law_ring", "_law_way"] psPl (defScope (topS 62)) := ⟨rfl, rfl, rfl, by decide +kernel, rfl, by decide +kernel, by decide +kernel⟩
section
variable {d : Addr} {n : Int} {σ : L2.St} {H : Hp} {te tl tr : TE} {p : Deed → Prop}
/-- [deed], r -/
theorem evd_lone {e r : Int} (h : EvD d n te σ H (DP K p)) (hp : ∀ x, p x → okD e x ∧ thenE e x.1 = r) (hr0 : 0 ≤ r ∧ r ≤ 16 ∧ r % 2 = 0) (hr : ∀ H1, Ev tr σ H1 (.int r)) : EvD d (n + 0) (tTup (tCons (tLst (tCons te tNil)) (tCons tr tNil))) σ H (Piece K d e) :=
  evd_piece (evd_newL (ead_cons h ead_nil (Int.le_refl 0)) (fun xs ⟨y, r, e1, _, e2⟩ => by
    rw [e1, e2]
    exact (by decide : 1 ≤ 100))) (fun xs ⟨y, s, e1, py, e2⟩ => by
    subst e1
    subst e2
    exact ⟨(by decide : 1 ≤ 3), run1 (hp y py), hr0⟩) hr
end
theorem ok_lone (T : Txt K mg pT pC pM C) (c__law_moor : Cal P w K mg base "_law_moor" psMoor 1 spMoor) (c__law_crossing : Cal P w K mg base "_law_crossing" psCr 3 (spCr K)) (D : DefAt K mg "_law_lone" (topS 62) psPl) : Cal P w K mg base "_law_lone" psPl 4 (spLo K) := by
  refine D.cal sc62 (fun vs H Q E ⟨d, e, L, h, _⟩ => by rw [h]; rfl) fun f cdv A outer s H vs Q E hr ⟨d, e, L, ev, hD, hL, ⟨e0, e1, e2⟩, k⟩ => ?_
  subst ev
  refine ⟨_, (pss_cons (ps_if (pt_cmpR op_eq (pv 1) pe_int (nomark _))
    (pss_one (ps_ret (pe_tup (pa_cons (pe_lst (pa_cons (pe_tup (pa_cons pe_str (pa_cons pe_int pa_nil))) pa_nil)) (pa_cons pe_int pa_nil)))))
    pss_nil)
    (pss_cons (ps_set (i := 2) sc62.nd rfl (.inl rfl) (pe_cal c__law_moor (hr.mono (by decide)) (by rfl) (pa_cons (pv 0) (pa_cons pe_int pa_nil))))
    (pss_cons (ps_if (PW.pt (pw_and (pt_cmpR op_eq (pv 2) pe_int (nomark _)) (pw_and1 (pt_cmpR op_lt (pv 1) pe_int (nomark _)))))
    (pss_one (ps_ret (pe_tup (pa_cons (pe_lst (pa_cons (pe_tup (pa_cons pe_str (pa_cons (pe_cal c__law_moor (hr.mono (by decide)) (by rfl) (pa_cons (pv 0) (pa_cons (pv 1) pa_nil))) pa_nil))) pa_nil)) (pa_cons (pe_op op_add (pv 1) pe_int) pa_nil)))))
    pss_nil)
    (pss_cons (ps_if (pt_cmpR op_eq (pv 2) pe_int (nomark _))
    (pss_one (ps_ret (pe_tup (pa_cons (pe_lst (pa_cons (pe_tup (pa_cons pe_str (pa_cons (pe_cal c__law_moor (hr.mono (by decide)) (by rfl) (pa_cons (pv 0) (pa_cons (pv 1) pa_nil))) pa_nil))) pa_nil)) (pa_cons (pv 1) pa_nil)))))
    pss_nil)
    (pss_cons (ps_if (pt_cmpR op_eq (pv 2) pe_int (nomark _))
    (pss_one (ps_ret (pe_tup (pa_cons (pe_lst (pa_cons (pe_tup (pa_cons pe_str (pa_cons (pe_ifExp (pt_cmpR op_eq (pv 1) pe_int (nomark _)) pe_int (pe_op op_add pe_int (pe_cal c__law_moor (hr.mono (by decide)) (by rfl) (pa_cons (pv 0) (pa_cons (pe_op op_sub (pv 1) pe_int) pa_nil))))) pa_nil))) pa_nil)) (pa_cons (pe_op op_sub (pv 1) pe_int) pa_nil)))))
    pss_nil)
    (pss_one (ps_ret (pe_tup (pa_cons (pe_lst (pa_cons (pe_cal c__law_crossing (hr.mono (by decide)) (by rfl) (pa_cons (pv 0) (pa_cons (pe_cal c__law_moor (hr.mono (by decide)) (by rfl) (pa_cons (pv 0) (pa_cons (pv 1) pa_nil))) pa_nil))) pa_nil)) (pa_cons (pv 1) pa_nil)))))))))), ?_⟩
  refine q_when (et_op (ev_var rfl) ev_c rv_eqI) (fun h H1 x1 => ?_) fun h H1 x1 => ?_
  · have h0 := of_decide_eq_true h
    subst h0
    refine s_retD (n := 0 + 0) (evd_lone (r := 2) (evd_dV (a := .op) (g := 0) (fun H1 => ev_c) fun H1 => ev_c) (fun x ex => ?_) ⟨by decide, by decide, by decide⟩ fun H1 => ev_c) (Dk.ex x1 hD) (by omega) hL (k.go (.of x1))
    subst ex
    exact fit_o (by decide) (.inr rfl) (by decide) (by decide)
  have h0 := of_decide_eq_false h
  have e3 : 0 < e := by omega
  refine q_asgD (evd_moor (many := 8) (fun H1 => ev_var rfl) (fun H1 _ => ev_c) (by decide) (by decide)) (Dk.ex x1 hD) (by omega) fun v H2 x2 d2 ⟨way, ew, w0, w1⟩ => ?_
  subst ew
  have x12 := (ExD.of x1).trans x2
  have kk : ∀ {H4 : Hp}, ExD d H2 H4 → OutD d (L + 6) (Piece K d e) H4 Q := fun x => k.go (x12.trans x)
  refine q_when (et_and (et_op (ev_var rfl) ev_c rv_eqI) fun _ => et_op (ev_var rfl) ev_c rv_I0) (fun h H3 x3 => ?_) fun _ H3 x3 => ?_
  · have he10 : e < 10 := of_decide_eq_true (Bool.and_eq_true_iff.mp h).2
    refine s_retD (n := 1 + 0) (evd_lone (r := e + 2) (evd_deed2 (a := .op) (fun H1 => ev_c) (evd_moor (many := e) (fun H1 => ev_var rfl) (fun H1 _ => ev_var rfl) e3 (by omega))) (fun x ⟨q1, q2, q3⟩ => ?_) ⟨by omega, by omega, by omega⟩ fun H1 => ev_op (ev_var rfl) ev_c rv_I0) (Dk.ex x3 d2) (by omega) hL (kk (.of x3))
    obtain ⟨a, g⟩ := x
    cases q1
    exact fit_o q2 (.inl q3) e0 he10
  refine q_when (et_op (ev_var rfl) ev_c rv_eqI) (fun h H4 x4 => ?_) fun _ H4 x4 => ?_
  · refine s_retD (n := 1 + 0) (evd_lone (r := e) (evd_deed2 (a := .tn) (fun H1 => ev_c) (evd_moor (many := e) (fun H1 => ev_var rfl) (fun H1 _ => ev_var rfl) e3 (by omega))) (fun x ⟨q1, q2, q3⟩ => ?_) ⟨e0, e1, e2⟩ fun H1 => ev_var rfl) (Dk.ex (x3.trans x4) d2) (by omega) hL (kk (.of (x3.trans x4)))
    obtain ⟨a, g⟩ := x
    cases q1
    exact fit_x (.inr (.inr rfl)) q2 q3 (by omega)
  have x34 := x3.trans x4
  refine q_when (et_op (ev_var rfl) ev_c rv_eqI) (fun h H5 x5 => ?_) fun _ H5 x5 => ?_
  · refine s_retD (n := 1 + 0) (evd_lone (r := e - 2) (evd_deed2 (a := .jn) (pg := fun g => (e = 2 ∧ g = 1) ∨ (e ≠ 2 ∧ 1 ≤ g ∧ g ≤ e - 2)) (fun H1 => ev_c) (evd_le (n := 0 + 1) (by decide) (evd_if (m := 1) (etd_t fun H1 => et_op (ev_var rfl) ev_c rv_eqI) (fun h1 => ?_) (fun h1 => ?_) (by decide)))) (fun x ⟨q1, q2⟩ => ?_) ⟨by omega, by omega, by omega⟩ fun H1 => ev_op (ev_var rfl) ev_c rv_I0) (Dk.ex (x34.trans x5) d2) (by omega) hL (kk (.of (x34.trans x5)))
    · have h2 := of_decide_eq_true h1.symm
      exact evd_le (n := 0) (by decide) (evd_ev (fun H1 _ => ev_c) fun H2 _ => ⟨1, rfl, .inl ⟨h2, rfl⟩⟩)
    · have h2 := of_decide_eq_false h1.symm
      refine evd_op2 (P := fun v _ => ∃ r, v = .int r ∧ 0 ≤ r ∧ r < e - 2) (fun H1 _ => ev_c) (evd_moor (many := e - 2) (fun H1 => ev_var rfl) (fun H1 _ => ev_op (ev_var rfl) ev_c rv_I0) (by omega) (by omega)) ?_
      rintro y H1 _ ⟨r, rfl, r0, r1⟩
      exact ⟨_, rv_I0, fun _ _ => ⟨_, rfl, .inr ⟨h2, by omega, by omega⟩⟩⟩
    · obtain ⟨a, g⟩ := x
      cases q1
      exact fit_j q2 (by omega)
  refine s_retD (n := 1 + 1 + 0) (evd_lone (r := e) (evd_cr (pg := fun g => 0 ≤ g ∧ g < e) (fun H1 => ev_var rfl) (evd_moor (many := e) (fun H1 => ev_var rfl) (fun H1 _ => ev_var rfl) e3 (by omega))) (fun x ⟨q1, q2, q3⟩ => ?_) ⟨e0, e1, e2⟩ fun H1 => ev_var rfl) (Dk.ex (x34.trans x5) d2) (by omega) hL (kk (.of (x34.trans x5)))
  obtain ⟨a, g⟩ := x
  exact fit_x (crX q1) q2 q3 (by omega)
/-! ### _law_deeds -/
abbrev psDe : List Str := ["_law_dock_here", "_law_ends", "_law_laps"]
/-- the list of a whole tangle's deeds -/
def Whole (K : PySem.W.Frag) (e : Int) : V → Hp → Prop := fun v H => ∃ a ds, v = .ref a ∧ LD K H a ds ∧ run e ds = some 0 ∧ ds.length ≤ 40
abbrev spDe (K : PySem.W.Frag) : Sp := fun vs H Q _ => ∃ (d : Addr) (e n L : Int), vs = [.ref d, .int e, .int n] ∧ Dk d L H ∧ L + 70 ≤ 5000 ∧ ringOk e ∧ 0 ≤ n ∧ n ≤ 8 ∧ OutD d (L + 70) (fun v H2 => ∃ a ds us, v = .ref a ∧ H2 a = some (.lst us) ∧ DsAt K H2 us ds ∧ run e ds = some 0 ∧ ds.length ≤ 40) H Q
theorem sc63 : FnScope ["_law_dock_here", "_law_ends", "_law_laps", "_law_lap", "_law_deeds_here", "_law_ring", "_law_some"] psDe (defScope (topS 63)) := ⟨rfl, rfl, rfl, by decide +kernel, rfl, by decide +kernel, by decide +kernel⟩
theorem el_catV {σ : L2.St} {H : Hp} {ta tb : TE} {p r : Addr} {xs ys : List V} (ha : Ev ta σ H (.ref p)) (hb : Ev tb σ H (.ref r)) (hp : H p = some (.lst xs)) (hr : H r = some (.lst ys)) (hz : xs.length + ys.length ≤ 100000) : EvL (tOp rCat ta tb) σ H (xs ++ ys) := fun H1 e Q q =>
  ha H1 e _ fun H2 e2 => hb H2 (e.trans e2) _ fun H3 e3 => ⟨p, r, xs, ys, rfl, rfl, (e.trans (e2.trans e3)) _ _ hp, (e.trans (e2.trans e3)) _ _ hr, sz_of hz, fun l hl => q l _ (fresh_back (e2.trans e3) hl) ((e2.trans e3).trans (Ex.new hl)) upd_same⟩
/-- a list grows by what moves the dock -/
theorem q_appD {K : PySem.W.Frag} {d l : Addr} {n L : Int} {σ : L2.St} {H : Hp} {ta te : TE} {xs : List V} {R : V → Hp → Prop} {D : Ends} {tz : TS} (hl : H l = some (.lst xs)) (ld : l ≠ d) (ha : Ev ta σ H (.ref l)) (h : EvD d n te σ H R) (hz : xs.length < 100000) (hD : Dk d L H) (lL : L + n ≤ 5000) (k : ∀ v H1, ExD d H H1 → Dk d (L + n) H1 → R v H1 → tz D σ (upd H1 l (.lst (xs ++ [v])))) :
    tSeq (tDrop (tBM K "list" rAppend ta (tCons te tNil))) tz D σ H := ha H (Ex.refl H) _ fun H1 e1 =>
  ⟨Or.inl ⟨rfl, xs, sq_of (e1 l _ hl)⟩, h L H1 lL (.of e1) (Dk.ex e1 hD) _ fun v H2 e2 d2 r => ⟨l, xs, v, rfl, rfl, e2.1 l _ ld (e1 l _ hl), sz_lt hz, k v H2 ((ExD.of e1).trans e2) d2 r⟩⟩
/-- the dock stands where another list changes, if that is not its list of numbers -/
theorem Dk.grow {d l : Addr} {L : Int} {H : Hp} {o : HO} (h : Dk d L H) (ld : l ≠ d) (hl : ∀ c ns, H d = some (.lst (.ref c :: ns)) → c ≠ l) : Dk d L (upd H l o) := by
  obtain ⟨c, ns, lap, rest, h1, h2, h3⟩ := h
  have hc := hl c _ h1
  exact ⟨c, ns, lap, rest, by rw [upd_ne (Ne.symm ld)]; exact h1, by rw [upd_ne hc]; exact h2, h3⟩
/-- l is not the dock's list of numbers -/
def Off (d l : Addr) (H : Hp) : Prop := ∀ (c : Addr) r, H d = some (.lst (.ref c :: r)) → c ≠ l
theorem Off.go {d l : Addr} {L : Int} {H H' : Hp} (h : Off d l H) (hD : Dk d L H) (e : ExD d H H') : Off d l H' := fun c r h2 => by
  obtain ⟨c0, ns, lap, rest, h1, _⟩ := hD
  obtain ⟨r', h3⟩ := e.2 c0 _ h1
  rw [h3] at h2
  cases h2
  exact h _ _ h1
theorem Off.new {d l : Addr} {L : Int} {H : Hp} (hD : Dk d L H) (hl : H l = none) : Off d l H := fun c r h2 z => by
  obtain ⟨c0, ns, lap, rest, h1, h3, _⟩ := hD
  rw [h1] at h2
  cases h2
  rw [z, hl] at h3
  cases h3
theorem ExD.mut2 {d l : Addr} {H H' : Hp} {o : HO} (e : ExD d H H') (hl : H l = none) (ld : l ≠ d) : ExD d H (upd H' l o) := ⟨fun a u n h => by
  rw [upd_ne (ne_of_none h hl)]
  exact e.1 a u n h, fun c r h => by
  rw [upd_ne (Ne.symm ld)]
  exact e.2 c r h⟩
theorem ExD.back {d l : Addr} {L : Int} {H H' : Hp} (e : ExD d H H') (hD : Dk d L H') (hl : H' l = none) : H l = none := by
  cases h : H l with
  | none => rfl
  | some o =>
    have := e.1 l o (hD.off hl) h
    rw [hl] at this
    cases this
theorem q_parL {σ : L2.St} {H : Hp} {ta tb : TE} {i j : Nat} {xs : List V} {w : V} {tz : TS} {D : Ends} (h1 : EvL ta σ H xs) (h2 : ∀ H1, Ex H H1 → Ev tb σ H1 w) (k : ∀ p H2, H p = none → Ex H H2 → H2 p = some (.lst xs) → tz D ((σ.set i (some (.ref p))).set j (some w)) H2) :
    tSeq (tPar i j (tCons ta (tCons tb tNil))) tz D σ H := h1 H (Ex.refl H) _ fun p H1 hp e1 hl => h2 H1 e1 H1 (Ex.refl H1) _ fun H2 e2 => ⟨.ref p, w, rfl, k p H2 hp (e1.trans e2) (e2 _ _ hl)⟩
theorem ok_deeds (T : Txt K mg pT pC pM C) (c__law_moor : Cal P w K mg base "_law_moor" psMoor 1 spMoor) (c__law_planted : Cal P w K mg base "_law_planted" psPl 4 (spPl K)) (c__law_lone : Cal P w K mg base "_law_lone" psPl 4 (spLo K)) (D : DefAt K mg "_law_deeds" (topS 63) psDe) : Cal P w K mg base "_law_deeds" psDe 5 (spDe K) := by
  refine D.cal sc63 (fun vs H Q E ⟨d, e, n, L, h, _⟩ => by rw [h]; rfl) fun f cdv A outer s H vs Q E hr ⟨d, e, n, L, ev, hD, hL, re, n0, n8, k⟩ => ?_
  subst ev
  refine ⟨_, (pss_cons (ps_par (by rfl) sc63.nd (i := 4) (j := 5) rfl rfl (by decide) rfl rfl (pa_cons (pe_lst pa_nil) (pa_cons (pv 1) pa_nil)) (by rfl))
    (pss_cons (ps_for PassesOwn.never rfl (pi_range1 (by rfl) T.b_range (pa_cons (pv 2) pa_nil)) (pg_name (i := 3) sc63.nd rfl (.inl rfl))
    (pss_cons (ps_asg (pe_ifExp (PW.pt (pw_and (pt_cmpR op_gt (pv 5) pe_int (nomark _)) (pw_and1 (pt_cmpR op_eq (pe_cal c__law_moor (hr.mono (by decide)) (by rfl) (pa_cons (pv 0) (pa_cons pe_int pa_nil))) pe_int (nomark _))))) (pe_cal c__law_planted (hr.mono (by decide)) (by rfl) (pa_cons (pv 0) (pa_cons (pv 5) pa_nil))) (pe_cal c__law_lone (hr.mono (by decide)) (by rfl) (pa_cons (pv 0) (pa_cons (pv 5) pa_nil)))) (pg_tup rfl (pgs_cons (pg_name (i := 6) sc63.nd rfl (.inl rfl)) (pgs_cons (pg_name (i := 5) sc63.nd rfl (.inl rfl)) pgs_nil))))
    (pss_one (ps_set (i := 4) sc63.nd rfl (.inl rfl) (pe_op op_cat (pv 4) (pv 6))))))
    (pss_cons (ps_for PassesOwn.never rfl (pi_range1 (by rfl) T.b_range (pa_cons (pe_op op_fdiv (pv 5) pe_int) pa_nil)) (pg_name (i := 3) sc63.nd rfl (.inl rfl))
    (pss_cons (ps_expr (pe_bm PySem.F.plainAttrs_list PySem.F.slot_list_append PySem.F.type_list_append mt_append (pv 4) (pa_cons (pe_tup (pa_cons pe_str (pa_cons (pe_ifExp (pt_cmpR op_eq (pv 5) pe_int (nomark _)) pe_int (pe_op op_add pe_int (pe_cal c__law_moor (hr.mono (by decide)) (by rfl) (pa_cons (pv 0) (pa_cons (pe_op op_sub (pv 5) pe_int) pa_nil))))) pa_nil))) pa_nil)))
    (pss_one (ps_set (i := 5) sc63.nd rfl (.inl rfl) (pe_op op_sub (pv 5) pe_int)))))
    (pss_one (ps_ret (pv 4)))))), ?_⟩
  refine q_parL (xs := []) (w := .int e) (el_lst ea_nil (Nat.zero_le _)) (fun H1 _ => ev_var rfl) fun a0 H1 ha0 x1 hl0 => ?_
  refine q_forR1 (n := n) (ea_cons (ev_var rfl) ea_nil) ⟨n0, by omega⟩ (fun i σ H' => ∃ y3 y6 a vs xs r, σ = [some (.ref d), some (.int e), some (.int n), y3, some (.ref a), some (.int r), y6] ∧ ExD d H H' ∧ Dk d (L + 7 * (i : Int)) H' ∧ H a = none ∧ Off d a H' ∧ H' a = some (.lst vs) ∧ DsAt K H' vs xs ∧ run e xs = some r ∧ ringOk r ∧ xs.length ≤ 3 * i) ?_ ?_ ?_
  · intro H2 x2
    have x12 := x1.trans x2
    exact ⟨none, none, a0, [], [], e, rfl, .of x12, (Dk.ex x12 hD).le (by omega), ha0, (Off.new hD ha0).go hD (.of x12), x2 _ _ hl0, .nil, rfl, re, Nat.zero_le _⟩
  · rintro i σ H' hi ⟨y3, y6, a, vs, xs, r, eσ, xH, hDk, ha, hoff, hl, hds, hrun, ⟨r0, r16, r2⟩, hlen⟩
    subst eσ
    have ad := hD.off ha
    refine q_asgG (n := 0 + 1 + 6) (P := Piece K d r) (evd_if (m := 6) (etd_and (etd_t (b := decide (0 < r)) fun H1 => et_op (ev_var rfl) ev_c rv_I0) (etd_e (Pa := fun _ => True) (evd_op1 (P := fun v _ => ∃ i, v = .int i ∧ 0 ≤ i ∧ i < 2) (evd_moor (fun H1 => ev_var rfl) (fun H1 _ => ev_c) (by decide) (by decide)) (fun H1 => ev_c (v := .int 0)) ?_)) (by decide))
      (fun h => evd_le (n := 0 + 6) (by decide) (evd_call (P := fun v _ => v = .int r) (fun H1 => ev_var rfl) (evd_ev (v := .int r) (fun H1 _ => ev_var rfl) fun _ _ => rfl) (by decide) ?_))
      (fun h => evd_le (n := 0 + 6) (by decide) (evd_call (P := fun v _ => v = .int r) (fun H1 => ev_var rfl) (evd_ev (v := .int r) (fun H1 _ => ev_var rfl) fun _ _ => rfl) (by decide) ?_)) (by decide)) hDk (by omega) fun v H2 x2 d2 ⟨t, b, us, zs, r', ev, ht, hb, hz, bd, hp1, hp2, hp3⟩ => ?_
    · rintro x H1 _ ⟨i, rfl, _⟩
      exact ⟨_, fun _ => rv_eqI, fun _ _ => ⟨_, rfl, trivial⟩⟩
    · intro v H1 L1 _ hD1 l1 ev Q1 q1
      exact ⟨d, r, L1, by rw [ev], hD1, l1, ⟨r0, r16, r2⟩, of_decide_eq_true (h rfl).1.symm, q1⟩
    · intro v H1 L1 _ hD1 l1 ev Q1 q1
      exact ⟨d, r, L1, by rw [ev], hD1, l1, ⟨r0, r16, r2⟩, q1⟩
    subst ev
    refine ⟨t, _, rfl, ht, rfl, _, _, rfl, _, _, rfl, rfl, ?_⟩
    have hds2 := hds.nl (hDk.nl x2)
    refine s_asgL (el_catV (xs := vs) (ys := us) (ev_var rfl) (ev_var rfl) (x2.1 _ _ ad hl) hb (by have := hds.len; have := hz.len; omega)) fun p H3 hp x3 hl3 => ?_
    have xH2 := xH.trans x2
    refine ⟨some (.int (i : Int)), some (.ref b), p, vs ++ us, xs ++ zs, r', rfl, xH2.trans (.of x3), (Dk.ex x3 d2).le (by omega), xH2.back d2 hp, (Off.new d2 hp).go d2 (.of x3), hl3, DsAt.mono x3 (hds2.append hz), ?_, hp3, ?_⟩
    · rw [run_append _ _ _ _ hrun]
      exact hp2
    · rw [List.length_append]
      omega
  · rintro σ H' ⟨y3, y6, a, vs, xs, r, eσ, xH, hDk, ha, hoff, hl, hds, hrun, ⟨r0, r16, r2⟩, hlen⟩
    subst eσ
    have ad := hD.off ha
    have hn : (n.toNat : Int) = n := Int.toNat_of_nonneg n0
    rw [hn] at hDk
    refine q_forR1 (n := r / 2) (ea_cons (ev_op (ev_var rfl) ev_c (rv_I ⟨by decide, by decide⟩)) ea_nil) ⟨by omega, by omega⟩ (fun i σ H2 => ∃ y3 vs xs, σ = [some (.ref d), some (.int e), some (.int n), y3, some (.ref a), some (.int (r - 2 * (i : Int))), y6] ∧ ExD d H H2 ∧ Dk d (L + 56 + (i : Int)) H2 ∧ Off d a H2 ∧ H2 a = some (.lst vs) ∧ DsAt K H2 vs xs ∧ run e xs = some (r - 2 * (i : Int)) ∧ xs.length ≤ 24 + i) ?_ ?_ ?_
    · intro H2 x2
      refine ⟨y3, vs, xs, ?_, xH.trans (.of x2), (Dk.ex x2 hDk).le (by omega), hoff.go hDk (.of x2), x2 _ _ hl, hds.mono x2, ?_, by omega⟩
      · rw [show r - 2 * ((0 : Nat) : Int) = r by omega]
      · rw [show r - 2 * ((0 : Nat) : Int) = r by omega]
        exact hrun
    · rintro i σ H2 hi ⟨y3, vs, xs, eσ, xH2, hD2, hoff2, hl2, hds2, hrun2, hlen2⟩
      subst eσ
      generalize hq : r - 2 * (i : Int) = q at hrun2
      have q2 : q % 2 = 0 := by omega
      have q1 : 2 ≤ q := by omega
      have q16 : q ≤ 16 := by omega
      refine q_appD (n := 1) (R := DP K fun x => x.1 = .jn ∧ ((q = 2 ∧ x.2 = 1) ∨ (q ≠ 2 ∧ 1 ≤ x.2 ∧ x.2 ≤ q - 2))) hl2 ad (ev_var rfl) (evd_deed2 (a := .jn) (pg := fun g => (q = 2 ∧ g = 1) ∨ (q ≠ 2 ∧ 1 ≤ g ∧ g ≤ q - 2)) (fun H1 => ev_c) (evd_le (n := 0 + 1) (by decide) (evd_if (m := 1) (etd_t (b := decide (q = 2)) fun H1 => et_op (ev_var rfl) ev_c rv_eqI) (fun h1 => ?_) (fun h1 => ?_) (by decide)))) (by have := hds2.len; omega) hD2 (by omega) fun v H3 x3 d3 ⟨x, hx, hx1, hx2⟩ => ?_
      · have h2 := of_decide_eq_true h1.symm
        exact evd_le (n := 0) (by decide) (evd_ev (fun H1 _ => ev_c) fun H2 _ => ⟨1, rfl, .inl ⟨h2, rfl⟩⟩)
      · have h2 := of_decide_eq_false h1.symm
        refine evd_op2 (P := fun v _ => ∃ r, v = .int r ∧ 0 ≤ r ∧ r < q - 2) (fun H1 _ => ev_c) (evd_moor (many := q - 2) (fun H1 => ev_var rfl) (fun H1 _ => ev_op (ev_var rfl) ev_c rv_I0) (by omega) (by omega)) ?_
        rintro y H1 _ ⟨r, rfl, _, _⟩
        exact ⟨_, rv_I0, fun _ _ => ⟨_, rfl, .inr ⟨h2, by omega, by omega⟩⟩⟩
      have xH3 := xH2.trans x3
      have hl3 := x3.1 _ _ ad hl2
      have hds3 := hds2.nl (hD2.nl x3)
      obtain ⟨w, g⟩ := x
      cases hx1
      have hj := fit_j hx2 (by omega)
      have nl : Nl H3 (upd H3 a (.lst (vs ++ [v]))) := Nl.upd hl3
      refine s_asg (v := .int (q - 2)) (ev_op (ev_var rfl) ev_c rv_I0) fun H4 x4 => ⟨some (.int (i : Int)), vs ++ [v], xs ++ [(.jn, g)], ?_, (xH3.mut2 ha ad).trans (.of x4), (Dk.ex x4 (d3.grow ad (hoff2.go hD2 x3))).le (by omega), ?_, x4 _ _ upd_same, DsAt.mono x4 ((hds3.nl nl).append (.cons (hx.nl nl) .nil)), ?_, ?_⟩
      · rw [show r - 2 * ((i + 1 : Nat) : Int) = q - 2 by omega]
        rfl
      · have o3 : Off d a (upd H3 a (.lst (vs ++ [v]))) := fun c z hz => by
          rw [upd_ne (Ne.symm ad)] at hz
          exact hoff2.go hD2 x3 c z hz
        exact o3.go (d3.grow ad (hoff2.go hD2 x3)) (.of x4)
      · rw [run_append _ _ _ _ hrun2, show r - 2 * ((i + 1 : Nat) : Int) = q - 2 by omega]
        exact run1 hj
      · rw [List.length_append]
        show xs.length + 1 ≤ _
        omega
    · rintro σ H2 ⟨y3, vs, xs, eσ, xH2, hD2, hoff2, hl2, hds2, hrun2, hlen2⟩
      subst eσ
      have hz : r - 2 * ((r / 2).toNat : Int) = 0 := by omega
      rw [hz] at hrun2
      refine s_retV (ev_var rfl) fun H3 x3 => k _ H3 (xH2.trans (.of x3)) ((Dk.ex x3 hD2).le (by omega)) ⟨a, xs, vs, rfl, x3 _ _ hl2, hds2.mono x3, hrun2, by omega⟩
/-! ### _law_dock -/
abbrev psDo : List Str := ["_law_script"]
abbrev spDo (K : PySem.W.Frag) : Sp := fun vs H Q _ => ∃ (a : Addr) (ns : List Int), vs = [.ref a] ∧ SqL K H a (ns.map V.int) ∧ RetP (fun v H2 => ∃ d, v = .ref d ∧ Dk d 0 H2) H Q
theorem sc57 : FnScope ["_law_script", "_law_cell"] psDo (defScope (topS 57)) := ⟨rfl, rfl, rfl, by decide +kernel, rfl, by decide +kernel, by decide +kernel⟩
theorem ok_dock (T : Txt K mg pT pC pM C) (D : DefAt K mg "_law_dock" (topS 57) psDo) : Cal P w K mg base "_law_dock" psDo 1 (spDo K) := by
  refine D.cal sc57 (fun vs H Q E ⟨a, ns, h, _⟩ => by rw [h]; rfl) fun f cdv A outer s H vs Q E hr ⟨a, ns, ev, hS, k⟩ => ?_
  subst ev
  refine ⟨_, (pss_one (ps_ret (pe_lst (pa_cons (pe_lc (own := [("_law_cell", 1)]) (g := gName 1) (te := tCB rInt (tCons (tVar 1) tNil)) rfl sc57.nd (pi_list (pe_slice sl_list (pv 0) po_none (po_some pe_int))) (blkOk_by (N := ["_law_script", "_law_cell"]) (sc := defScope (topS 57)) (by decide +kernel)) (fun _ _ _ _ _ => (pg_name (i := 1) sc57.nd rfl (.inl rfl) (.inr rfl))) (fun _ _ _ _ _ => pts_nil) (fun _ _ _ _ _ => (pe_callTy call_int1 (by rfl) T.b_int (by decide +kernel) (pa_cons (pv 1) pa_nil)))) (pa_cons pe_int (pa_cons pe_int pa_nil)))))), ?_⟩
  have hz : (ns.take 60).length ≤ 40000 := by
    rw [List.length_take]
    omega
  have hc : EvP (tLc (iK false K (tSl (rSlL K) (tVar 0) tNoPart (tPart (tC (.int 60))))) (gName 1) tYes (tCB rInt (tCons (tVar 1) tNil)) [1]) (L2.start ["_law_script", "_law_cell"] [.ref a]) H (fun v H2 => ∃ p, v = .ref p ∧ H2 p = some (.lst ((ns.take 60).map V.int))) := by
    refine evp_lcMap (b := false) (xs := (ns.map V.int).take 60) (ns.take 60) V.int (evp_el (el_sl (ev_var rfl) eo_none (eo_some ev_c) hS) fun p H2 e hp => ⟨p, rfl, ?_⟩) (by rw [← List.map_take, List.length_map]) hz (fun _ => rfl) fun i x n H1 e hx hn => ?_
    · have := cut_to (ns.map V.int) 60
      rw [← this]
      exact sq_of hp
    · rw [← List.map_take, List.getElem?_map, hn] at hx
      cases hx
      exact ev_cb (ea_cons (ev_var rfl) ea_nil) rc_int
  refine s_retP (P := fun v H2 => ∃ d, v = .ref d ∧ Dk d 0 H2) (fun H1 e1 Q1 q1 => elp_lst (S := fun vs H2 => ∃ c, vs = [.ref c, .int 0, .int 0] ∧ H2 c = some (.lst ((ns.take 60).map V.int))) (eap_cons hc fun v H2 e2 ⟨c, ev, h2⟩ => eap_v ev_c fun H3 e3 => eap_v ev_c fun H4 e4 => eap_nil fun H5 e5 => ⟨c, by rw [ev], (e3.trans (e4.trans e5)) _ _ h2⟩) (fun vs H2 ⟨c, ev, _⟩ => by rw [ev]; exact Nat.le_of_lt_succ (by decide : 3 < 100001)) (fun vs H2 H3 e ⟨c, ev, h2⟩ => ⟨c, ev, e _ _ h2⟩) H1 e1 Q1 fun d xs H2 hd e2 hxs ⟨c, ev, h2⟩ => q1 (.ref d) H2 e2 ⟨d, rfl, c, ns.take 60, 0, 0, ?_, h2, Int.le_refl _, Int.le_refl _, Int.le_refl _, fun z => ?_⟩) k
  · rw [hxs, ev]
  · rw [← z, h2] at hxs
    have hx := HO.lst.inj (Option.some.inj hxs)
    rw [ev] at hx
    cases hn : ns.take 60 with
    | nil =>
      rw [hn] at hx
      cases hx
    | cons n r =>
      rw [hn] at hx
      cases hx
end
end K38

/-! What the law shows: texts of words, of deeds. -/
namespace K38
open PySem PySem.Spec PyProof.Rows L2 Evl StX

structure ShowOk (d : PyData) : Prop where
  sh : d.showable = true
  nd : d.hasDict = false
  dp : d.depth ≤ 50
  len : d.shown.length ≤ sizeLine
theorem deed_shows {d : Deed} (h : gapOk d.2) : (dD d).showable = true ∧ (dD d).leavesShort 8 = true ∧ (dD d).weight ≤ 100 := by
  obtain ⟨a, g⟩ := d
  obtain ⟨n, rfl⟩ := Int.eq_ofNat_of_zero_le h.1
  have hn : n < 24 := by
    have h2 : (n : Int) ≤ 23 := h.2
    omega
  clear h
  revert n
  cases a <;> decide +kernel
theorem deeds_show : ∀ {ds : List Deed}, (∀ d ∈ ds, gapOk d.2) → PyData.showableAll (ds.map dD) = true ∧ PyData.leavesShortAll 8 (ds.map dD) = true ∧ PyData.weightAll (ds.map dD) ≤ 101 * ds.length
  | [], _ => ⟨by simp [PyData.showableAll], by simp [PyData.leavesShortAll], by simp [PyData.weightAll]⟩
  | d :: ds, h => by
    obtain ⟨a1, a2, a3⟩ := deed_shows (h d (List.mem_cons_self ..))
    obtain ⟨b1, b2, b3⟩ := deeds_show (ds := ds) fun x hx => h x (List.mem_cons_of_mem _ hx)
    refine ⟨?_, ?_, ?_⟩
    · rw [List.map_cons]
      simp only [PyData.showableAll, a1, b1, Bool.and_self]
    · rw [List.map_cons]
      simp only [PyData.leavesShortAll, a2, b2, Bool.and_self]
    · rw [List.map_cons]
      simp only [PyData.weightAll, List.length_cons]
      omega
theorem show_deeds {ds : List Deed} (h : ∀ d ∈ ds, gapOk d.2) (hl : ds.length ≤ 1000) : ShowOk (.tuple (ds.map dD)) := by
  obtain ⟨a1, a2, a3⟩ := deeds_show h
  refine ⟨by simpa only [PyData.showable] using a1, by simpa only [PyData.hasDict] using PyData.hasDictAll_of_canLayAll _ (dDs_lay ds), ?_, PyData.shown_fits (B := 8) (Nat.le_refl 8) (by decide) (by simpa only [PyData.leavesShort] using a2) ?_⟩
  · have := dDs_depth ds
    show PyData.depthAll (ds.map dD) + 1 ≤ 50
    omega
  · have e : (2 : Nat) ^ 20 = 1048576 := by decide
    rw [e]
    simp only [PyData.weight]
    omega
def mP (m : Mv) : PyData := .str (mS m)
def due2 (f : Mv → Bool) : PyData := .list [.tuple ((mAll.filter f).map mP), .tuple ((mAll.filter f).map mP)]
theorem show_due (f : Mv → Bool) : ShowOk (due2 f) := by
  unfold due2
  have k : ∀ a b c d e : Bool, ShowOk (.list [.tuple (((if a then [Mv.undo] else []) ++ (if b then [Mv.far] else []) ++ (if c then [Mv.three] else []) ++ (if d then [Mv.curl] else []) ++ (if e then [Mv.bend] else [])).map mP), .tuple (((if a then [Mv.undo] else []) ++ (if b then [Mv.far] else []) ++ (if c then [Mv.three] else []) ++ (if d then [Mv.curl] else []) ++ (if e then [Mv.bend] else [])).map mP)]) := by
    intro a b c d e
    cases a <;> cases b <;> cases c <;> cases d <;> cases e <;> exact ⟨by decide +kernel, by decide +kernel, by decide +kernel, by decide +kernel⟩
  have e : mAll.filter f = (if f .undo then [Mv.undo] else []) ++ (if f .far then [Mv.far] else []) ++ (if f .three then [Mv.three] else []) ++ (if f .curl then [Mv.curl] else []) ++ (if f .bend then [Mv.bend] else []) := by
    simp only [mAll, List.filter_cons, List.filter_nil]
    cases f .undo <;> cases f .far <;> cases f .three <;> cases f .curl <;> cases f .bend <;> rfl
  rw [e]
  exact k _ _ _ _ _
section
variable {K : PySem.W.Frag} {σ : L2.St} {H : Hp} {te ta tb : TE} {d : PyData}
theorem dp_ref : ∀ {d : PyData} {v : V}, Dp K H v d → (∃ ds, d = .list ds) ∨ (∃ ds, d = .tuple ds) → ∃ a, v = .ref a
  | _, _, .lst _ _, _ => ⟨_, rfl⟩
  | _, _, .tup _ _, _ => ⟨_, rfl⟩
  | _, _, .non, .inl ⟨_, e⟩ => by cases e
  | _, _, .non, .inr ⟨_, e⟩ => by cases e
  | _, _, .bl _, .inl ⟨_, e⟩ => by cases e
  | _, _, .bl _, .inr ⟨_, e⟩ => by cases e
  | _, _, .int _, .inl ⟨_, e⟩ => by cases e
  | _, _, .int _, .inr ⟨_, e⟩ => by cases e
  | _, _, .str _, .inl ⟨_, e⟩ => by cases e
  | _, _, .str _, .inr ⟨_, e⟩ => by cases e
/-- repr(data) -/
theorem ev_repr (h : EvDt K te σ H d) (hd : (∃ ds, d = .list ds) ∨ (∃ ds, d = .tuple ds)) (ok : ShowOk d) : Ev (tCB (rRepr K) (tCons te tNil)) σ H (.str d.shown) := fun H1 e Q q =>
  h H1 e _ fun v H2 e2 p => by
    obtain ⟨a, rfl⟩ := dp_ref p hd
    exact ⟨a, d, rfl, p, ok.sh, ok.nd, ok.dp, ok.len, q H2 e2⟩
/-- repr(x) != repr(y), both the same data -/
theorem et_repr (h1 : EvDt K ta σ H d) (h2 : EvDt K tb σ H d) (hd : (∃ ds, d = .list ds) ∨ (∃ ds, d = .tuple ds)) (ok : ShowOk d) : EvT (tTest (tOp rNe (tCB (rRepr K) (tCons ta tNil)) (tCB (rRepr K) (tCons tb tNil)))) σ H false :=
  et_is (et_op (ev_repr h1 hd ok) (ev_repr h2 hd ok) (rv_ne rfl)) (by simp)
end
end K38

/-! The law itself. -/
namespace K38
open PySem PySem.Spec PyProof.Rows L2 Evl StX

/-! ### loops with a count, calls, new lists -/
section
variable {K : PySem.W.Frag} {σ : L2.St} {H : Hp} {D : Ends} {g : TG} {tu tz : TS} {ta tb tl th : TE} {C : Addr} {e : Int} {ds : List Deed}
theorem s_forE {a : Addr} {xs : List V} {ta : TA} (h : EvA ta σ H [.ref a]) (hx : SqL K H a xs) (Pv : Nat → L2.St → Hp → Prop) (h0 : ∀ H1, Ex H H1 → Pv 0 σ H1) (hl : ∀ i σ' H', i ≤ xs.length → Pv i σ' H' → SqL K H' a xs)
    (hs : ∀ i x t σ' H', xs[i]? = some x → Pv i σ' H' → H' t = none → g (.ref t) σ' (upd H' t (.tup [.int (i : Nat), x])) fun σ2 H2 => tu { D with nx := Pv (i + 1), ct := Pv (i + 1), bk := D.nx } σ2 H2) (hd : ∀ σ' H', Pv xs.length σ' H' → D.nx σ' H') : tFor (iEnum K ta) g tu D σ H :=
  h H (Ex.refl H) _ fun H1 e => ⟨a, xs, rfl, ex_l e hx, fun i m σ H => m = xs.length - i ∧ i ≤ xs.length ∧ Pv i σ H, ⟨xs.length, by simp, Nat.zero_le _, h0 H1 e⟩, by
    rintro i m σ H ⟨rfl, hi, p⟩
    have q := hl i σ H hi p
    by_cases hlt : i < xs.length
    · refine .inr ⟨⟨xs, xs[i], q, List.getElem?_eq_getElem hlt⟩, Pv (i + 1), fun σ' H' p' => ⟨xs.length - (i + 1), by omega, rfl, hlt, p'⟩, fun x H' y => ?_⟩
      obtain ⟨t, z, e1, ht, e2, y⟩ := y
      subst e1 e2
      exact hs i z t σ H (y xs q) p ht
    · have e : i = xs.length := by omega
      subst e
      exact .inl ⟨⟨xs, q, Nat.le_refl _⟩, hd σ H p⟩⟩
theorem q_forE {a : Addr} {xs : List V} {ta : TA} (h : EvA ta σ H [.ref a]) (hx : SqL K H a xs) (Pv : Nat → L2.St → Hp → Prop) (h0 : ∀ H1, Ex H H1 → Pv 0 σ H1) (hl : ∀ i σ' H', i ≤ xs.length → Pv i σ' H' → SqL K H' a xs)
    (hs : ∀ i x t σ' H', xs[i]? = some x → Pv i σ' H' → H' t = none → g (.ref t) σ' (upd H' t (.tup [.int (i : Nat), x])) fun σ2 H2 => tu { D with nx := Pv (i + 1), ct := Pv (i + 1), bk := tz D } σ2 H2) (hd : ∀ σ' H', Pv xs.length σ' H' → tz D σ' H') : tSeq (tFor (iEnum K ta) g tu) tz D σ H :=
  s_forE (D := { D with nx := tz D }) h hx Pv h0 hl hs hd
/-- a call by keywords alone -/
theorem evp_callK {S : List V → Hp → Prop} {R : V → Hp → Prop} {sp : Sp} {gV : List V → List V → List V} {tk : TA} (h : EvAP tk σ H S) (hs : ∀ vs H1, Ex H H1 → S vs H1 → ∀ Q : VK, RetP R H1 Q → sp (gV [] vs) H1 Q E0) : EvP (tCallK sp gV E0 tNil tk) σ H R := fun H1 e Q q =>
  h H1 e _ fun vs H2 e2 s => hs vs H2 (e.trans e2) s Q fun v H3 e3 p => q v H3 (e2.trans e3) p
/-- a slice of a list of deeds: a new list -/
theorem ev_from {i j n : Nat} {a : Addr} {us : List V} (h0 : σ[i]? = some (some (.ref a))) (h1 : σ[j]? = some (some (.int (n : Int)))) (hS : H a = some (.lst us)) : EvL (tSl (rSlL K) (tVar i) (tPart (tVar j)) tNoPart) σ H (us.drop n) := by
  rw [← cut_from]
  exact el_sl (ev_var h0) (eo_some (ev_var h1)) eo_none (sq_of hS)
theorem ev_upto {i j n : Nat} {a : Addr} {us : List V} (h0 : σ[i]? = some (some (.ref a))) (h1 : σ[j]? = some (some (.int (n : Int)))) (hS : H a = some (.lst us)) : EvL (tSl (rSlL K) (tVar i) tNoPart (tPart (tVar j))) σ H (us.take n) := by
  rw [← cut_to]
  exact el_sl (ev_var h0) eo_none (eo_some (ev_var h1)) (sq_of hS)
/-- a list of deeds and another, laid together -/
theorem evp_cat {xs : List V} {ds es : List Deed} (ha : EvL ta σ H xs) (hd : DsAt K H xs ds) (hb : EvP tb σ H (NL K es)) (hz : xs.length + es.length ≤ 100000) : EvP (tOp rCat ta tb) σ H (NL K (ds ++ es)) := fun H1 e Q q =>
  ha H1 e _ fun p H2 hp e2 h2 => hb H2 (e.trans e2) _ fun v H3 e3 ⟨r, ys, ev, h3, hy⟩ => ⟨p, r, xs, ys, rfl, ev, e3 _ _ h2, h3, sz_of (by rw [hy.len]; exact hz), fun l hl => q _ _ ((e2.trans e3).trans (Ex.new hl)) ⟨l, _, rfl, upd_same, (DsAt.append (hd.mono (e.trans (e2.trans e3))) hy).mono (Ex.new hl)⟩⟩
/-- told != another that is the same -/
theorem et_neTg (ha : EvP ta σ H fun v H2 => ∃ x, v = .ref x ∧ Tg K C H2 x e ds) (hb : EvP tb σ H fun v H2 => ∃ x, v = .ref x ∧ Tg K C H2 x e ds) : EvT (tTest (tOp (rNeOwn C (spEqT K C) E0) ta tb)) σ H false := fun H1 e1 Q q =>
  ha H1 e1 _ fun v H2 e2 ⟨x, ev, hx⟩ => hb H2 (e1.trans e2) _ fun u H3 e3 ⟨y, eu, hy⟩ => by
    subst ev eu
    have hx3 := hx.mono e3
    obtain ⟨dx, t, hx1, hx2⟩ := hx3
    obtain ⟨dy, r, hy1, hy2⟩ := hy
    exact ⟨x, y, dx, dy, _, _, rfl, rfl, hx1, hy1, x, y, e, ds, rfl, ⟨dx, t, hx1, hx2⟩, ⟨dy, r, hy1, hy2⟩, fun H4 e4 => ⟨true, rfl, false, rfl, q H4 ((e2.trans e3).trans e4)⟩⟩
/-- tuple(list of deeds) as data -/
theorem evd_tupDs {i : Nat} {a : Addr} {us : List V} (h0 : σ[i]? = some (some (.ref a))) (ha : H a = some (.lst us)) (hd : DsAt K H us ds) : EvDt K (tCB (rTupOf K) (tCons (tVar i) tNil)) σ H (.tuple (ds.map dD)) :=
  evp_tupOf (S := fun ys H2 => ys = us) (evp_ev (ev_var h0) fun H2 e2 => ⟨a, us, rfl, e2 _ _ ha, rfl⟩) fun q ys H2 H3 e2 es e3 hq => by
    subst es
    exact .tup (st_of hq) (hd.mono (e2.trans e3)).dp
/-- x.deeds as data -/
theorem evd_fldDs {i : Nat} {x : Addr} {mg : Str → Option Value} {pT pC pM : Addr} (T : Txt K mg pT pC pM C) (h0 : σ[i]? = some (some (.ref x))) (hx : Tg K C H x e ds) : EvDt K (tFld K (tVar i) "deeds") σ H (.tuple (ds.map dD)) := by
  obtain ⟨dx, t, h1, h2⟩ := hx
  exact evd (ev_deeds T (ev_var h0) h1) fun H2 e2 => (h2.mono e2).dp
end
/-- f(dock, x, y), y moving the dock -/
theorem evd_call3 {d : Addr} {n m : Int} {σ : L2.St} {H : Hp} {sp : Sp} {t0 t1 t2 : TE} {v1 : V} {P R : V → Hp → Prop} (h0 : ∀ H1, Ev t0 σ H1 (.ref d)) (h1 : ∀ H1, Ev t1 σ H1 v1) (h2 : EvD d n t2 σ H P) (hm : 0 ≤ m) (hs : ∀ v H1 L, ExD d H H1 → Dk d L H1 → L + m ≤ 5000 → P v H1 → ∀ Q : VK, OutD d (L + m) R H1 Q → sp [.ref d, v1, v] H1 Q E0) :
    EvD d (n + m) (tCall sp [] E0 (tCons t0 (tCons t1 (tCons t2 tNil)))) σ H R := fun L H1 l e hD Q q =>
  h0 H1 H1 (Ex.refl H1) _ fun H2 e2 => h1 H2 H2 (Ex.refl H2) _ fun H2' e2' =>
    have e22 := e2.trans e2'
    h2 L H2' (by omega) (e.trans (.of e22)) (Dk.ex e22 hD) _ fun v H3 e3 d3 p => hs v H3 (L + n) (e.trans ((ExD.of e22).trans e3)) d3 (by omega) p Q ((q.go ((ExD.of e22).trans e3)).le (by omega))
theorem two_of {m : Mv} {d : Deed} {rest bs : List Deed} {mid : Int} (h : behind m (d :: rest) mid = some bs) : ∃ d2 r, rest = d2 :: r := by
  cases rest with
  | nil => cases m <;> cases h
  | cons d2 r => exact ⟨d2, r, rfl⟩
theorem lb_len (m : Mv) (d1 d2 : Deed) (r : List Deed) : (lawBehind m (d1 :: d2 :: r)).length ≤ r.length + 3 := by
  cases m
  · show r.length ≤ _
    omega
  · show r.length + 1 + 1 ≤ _
    omega
  · show (r.drop 1).length + 1 + 1 + 1 ≤ _
    rw [List.length_drop]
    omega
  · show r.length + 1 ≤ _
    omega
  · show r.length ≤ _
    omega

section
variable {P : Program} {w : World} {K : PySem.W.Frag} {mg : Str → Option Value} {base : Heap} {pT pC pM C : Addr}
abbrev N67 : List Str := ["_law_script", "_law_dock_here", "_law_words", "_law_turn", "_law_ends", "_law_deeds_here", "_law_tangle", "_law_rings_here", "_law_at", "_law_ring", "_law_due", "_law_word", "_law_told", "_law_back"]
abbrev spLaw (K : PySem.W.Frag) : Sp := fun vs H Q _ => ∃ (a : Addr) (ns : List Int), vs = [.ref a] ∧ SqL K H a (ns.map V.int) ∧ ∀ H2, Q (.bl true) H2
theorem sc67 : FnScope N67 ["_law_script"] (defScope (topS 67)) := ⟨rfl, rfl, rfl, by decide +kernel, rfl, by decide +kernel, by decide +kernel⟩
/-- all that the law calls -/
structure Calls (P : Program) (w : World) (K : PySem.W.Frag) (mg : Str → Option Value) (base : Heap) (pM C : Addr) : Prop where
  dock : Cal P w K mg base "_law_dock" psDo 1 (spDo K)
  moor : Cal P w K mg base "_law_moor" psMoor 1 spMoor
  of : Cal P w K mg base "_law_of" psOf 2 spOf
  deeds : Cal P w K mg base "_law_deeds" psDe 5 (spDe K)
  rings : Cal P w K mg base "_law_rings" psRings 1 (spRings K)
  fits : Cal P w K mg base "_law_fits" psLF 1 (spLF K)
  behind : Cal P w K mg base "_law_behind" psLB 1 (spLB K)
  tangle : CalC P w K mg base "Tangle" C psInit 5 (spInit K C)
  at_ : Cal P w K mg base "moves_at" psAt 4 (spAt K C) ∧ CalK P w K mg base "moves_at" psAt ["at", "tangle"] swap2 4 (spAt K C)
  moved : Cal P w K mg base "moved" psMoved 7 (spMoved K C) ∧ CalK P w K mg base "moved" psMoved ["word", "at", "tangle"] turn3 7 (spMoved K C)
  words : Cal P w K mg base "move_words" [] 1 (spWords pM)
  eq : ∃ f fd, FnOk P w K mg base CX0 1 f fd psEq (spEqT K C) ∧ PySem.W.findIn K (.ref C) "__eq__" = some (some (.ref f)) ∧ PySem.W.isFn K (.ref f) = true ∧ Binds K fd psEq []
theorem ok_law {fa : Addr} (T : Txt K mg pT pC pM C) (c : Calls P w K mg base pM C) : LawBody P w K mg base N67 "law" (topS 67) fa (spLaw K) := by
  obtain ⟨c__law_dock, c__law_moor, c__law_of, c__law_deeds, c__law_rings, c__law_fits, c__law_behind, c_Tangle, c_moves_at, c_moved, c_move_words, fe, fde, Fe, hfe, hFe, hBe⟩ := c
  intro cdv s H vs Q ⟨a, ns, ev, hS, k⟩
  subst ev
  have hr : Room 12 (callerA.deeper (envOfC "law" (defScope (topS 67)) s.heap.objs.size fa cdv)) := Room.deeper ⟨rfl, by decide, by decide⟩ _
  have hgd : (callerA.deeper (envOfC "law" (defScope (topS 67)) s.heap.objs.size fa cdv)).guards = some [] := rfl
  have op_neTg : ∀ {X : Cx}, X.prog = P → X.w = w → X.K = K → X.mg = mg → X.base = base → X.A = callerA.deeper (envOfC "law" (defScope (topS 67)) s.heap.objs.size fa cdv) → OpR X (compareOp .NotEq) (rNeOwn C (spEqT K C) E0) := by
    intro X h1 h2 h3 h4 h5 h6
    subst h1 h2 h3 h4 h5
    exact op_neOwn Fe (by rw [h6]; exact hr.mono (by decide)) T.neC hfe hFe T.sub hBe pass0
  refine ⟨_, (pss_cons (ps_set (i := 1) sc67.nd rfl (.inl rfl) (pe_cal c__law_dock (hr.mono (by decide)) (by rfl) (pa_cons (pv 0) pa_nil)))
    (pss_cons (ps_set (i := 2) sc67.nd rfl (.inl rfl) (pe_lst (pa_cons pe_str (pa_cons pe_str (pa_cons pe_str (pa_cons pe_str (pa_cons pe_str pa_nil)))))))
    (pss_cons (ps_for PassesOwn.never rfl (pi_range1 (by rfl) T.b_range (pa_cons pe_int pa_nil)) (pg_name (i := 3) sc67.nd rfl (.inl rfl))
    (pss_cons (ps_set (i := 4) sc67.nd rfl (.inl rfl) (pe_op op_mul pe_int (pe_cal c__law_of (hr.mono (by decide)) (by rfl) (pa_cons (pv 1) (pa_cons (pe_lst (pa_cons pe_int (pa_cons pe_int (pa_cons pe_int (pa_cons pe_int (pa_cons pe_int (pa_cons pe_int (pa_cons pe_int (pa_cons pe_int (pa_cons pe_int pa_nil)))))))))) pa_nil)))))
    (pss_cons (ps_set (i := 5) sc67.nd rfl (.inr rfl) (pe_cal c__law_deeds (hr.mono (by decide)) (by rfl) (pa_cons (pv 1) (pa_cons (pv 4) (pa_cons (pe_cal c__law_moor (hr.mono (by decide)) (by rfl) (pa_cons (pv 1) (pa_cons pe_int pa_nil))) pa_nil)))))
    (pss_cons (ps_par (by rfl) sc67.nd (i := 6) (j := 7) rfl rfl (by decide) rfl rfl (pa_cons (pe_mk c_Tangle (hr.mono (by decide)) (by rfl) (pa_cons (pv 4) (pa_cons (pv 5) pa_nil))) (pa_cons (pe_cal c__law_rings (hr.mono (by decide)) (by rfl) (pa_cons (pv 4) (pa_cons (pv 5) pa_nil))) pa_nil)) (by rfl))
    (pss_cons (ps_for PassesOwn.never rfl (pi_enum (by rfl) T.b_enumerate (pa_cons (pv 7) pa_nil)) (pg_tup rfl (pgs_cons (pg_name (i := 8) sc67.nd rfl (.inr rfl)) (pgs_cons (pg_name (i := 9) sc67.nd rfl (.inr rfl)) pgs_nil)))
    (pss_cons (ps_setLc (i := 10) (g := gName 11) (tt := tB (tCall (spLF K) [] E0 (tCons (tVar 11) (tCons (tVar 9) (tCons (tSl (rSlL K) (tVar 5) (tPart (tVar 8)) tNoPart) tNil))))) (te := tVar 11) rfl sc67.nd rfl rfl (sw_true rfl rfl rfl (by decide +kernel)) (own := [("_law_word", 11)]) (pi_list (pv 2)) (blkOk_by (N := N67) (sc := defScope (topS 67)) (by decide +kernel)) (fun _ _ _ _ _ => (pg_name (i := 11) sc67.nd rfl (.inl rfl) (.inr rfl))) (fun _ _ _ _ _ => (pts_one (pt_val (pe_cal c__law_fits (hr.mono (by decide)) (by rfl) (pa_cons (pv 11) (pa_cons (pv 9) (pa_cons (pe_slice sl_list (pv 5) (po_some (pv 8)) po_none) pa_nil))))))) (fun _ _ _ _ _ => (pv 11)))
    (pss_cons (ps_if (pt_cmpR op_ne (pe_callB (call_reprD hgd hr.units) (by rfl) T.b_repr (by decide +kernel) (pa_cons (pe_lst (pa_cons (pe_cal c_moves_at.1 (hr.mono (by decide)) (by rfl) (pa_cons (pv 6) (pa_cons (pv 8) pa_nil))) (pa_cons (pe_kwO c_moves_at.2 (hr.mono (by decide)) (by rfl) (pk_cons (pv 8) (pk_cons (pv 6) pk_nil))) pa_nil))) pa_nil)) (pe_callB (call_reprD hgd hr.units) (by rfl) T.b_repr (by decide +kernel) (pa_cons (pe_lst (pa_cons (pe_callTy call_tuple_of (by rfl) T.b_tuple (by decide +kernel) (pa_cons (pv 10) pa_nil)) (pa_cons (pe_callTy call_tuple_of (by rfl) T.b_tuple (by decide +kernel) (pa_cons (pv 10) pa_nil)) pa_nil))) pa_nil)) (nomark _))
    (pss_one (ps_ret pe_bl))
    pss_nil)
    (pss_one (ps_for PassesOwn.never rfl (pi_list (pv 10)) (pg_name (i := 11) sc67.nd rfl (.inl rfl))
    (pss_cons (ps_par (by rfl) sc67.nd (i := 12) (j := 13) rfl rfl (by decide) rfl rfl (pa_cons (pe_cal c_moved.1 (hr.mono (by decide)) (by rfl) (pa_cons (pv 6) (pa_cons (pv 8) (pa_cons (pv 11) pa_nil)))) (pa_cons (pe_op op_cat (pe_slice sl_list (pv 5) po_none (po_some (pv 8))) (pe_cal c__law_behind (hr.mono (by decide)) (by rfl) (pa_cons (pv 11) (pa_cons (pe_slice sl_list (pv 5) (po_some (pv 8)) po_none) pa_nil)))) pa_nil)) (by rfl))
    (pss_one (ps_if (PW.pt (pw_or (pt_cmpR (op_neTg rfl rfl rfl rfl rfl rfl) (pv 12) (pe_mk c_Tangle (hr.mono (by decide)) (by rfl) (pa_cons (pv 4) (pa_cons (pv 13) pa_nil))) (nomark _)) (pw_or (pt_cmpR op_ne (pe_callB (call_reprD hgd hr.units) (by rfl) T.b_repr (by decide +kernel) (pa_cons (pe_fld (pv 12) rfl) pa_nil)) (pe_callB (call_reprD hgd hr.units) (by rfl) T.b_repr (by decide +kernel) (pa_cons (pe_callTy call_tuple_of (by rfl) T.b_tuple (by decide +kernel) (pa_cons (pv 13) pa_nil)) pa_nil)) (nomark _)) (pw_or (pt_cmpR op_ne (pe_fld (pv 12) rfl) (pv 4) (nomark _)) (pw_or1 (pt_cmpR (op_neTg rfl rfl rfl rfl rfl rfl) (pe_kwO c_moved.2 (hr.mono (by decide)) (by rfl) (pk_cons (pv 11) (pk_cons (pv 8) (pk_cons (pv 6) pk_nil)))) (pv 12) (nomark _)))))))
    (pss_one (ps_ret pe_bl))
    pss_nil))))))))
    (pss_one (ps_if (pt_cmpR op_ne (pe_callB (call_reprD hgd hr.units) (by rfl) T.b_repr (by decide +kernel) (pa_cons (pe_fld (pv 6) rfl) pa_nil)) (pe_callB (call_reprD hgd hr.units) (by rfl) T.b_repr (by decide +kernel) (pa_cons (pe_callTy call_tuple_of (by rfl) T.b_tuple (by decide +kernel) (pa_cons (pv 5) pa_nil)) pa_nil)) (nomark _))
    (pss_one (ps_ret pe_bl))
    pss_nil)))))))
    (pss_one (ps_ret (pe_cmpR (op_eqD hr.units) (pe_cal0 c_move_words (hr.mono (by decide)) (by rfl)) (pe_callTy call_tuple_of (by rfl) T.b_tuple (by decide +kernel) (pa_cons (pv 2) pa_nil)) (nomark _))))))), ?_⟩
  -- the dock, the words
  refine q_asgP (P := fun v H2 => ∃ d, v = .ref d ∧ Dk d 0 H2) (evp_call (ea_cons (ev_var rfl) ea_nil) fun H1 e1 Q q => ⟨a, ns, rfl, ex_l e1 hS, q⟩) fun v H1 e1 ⟨d, ev, hD⟩ => ?_
  subst ev
  refine q_asgL (xs := mAll.map fun m => .str (mS m)) (el_lst (ea_cons ev_c (ea_cons ev_c (ea_cons ev_c (ea_cons ev_c (ea_cons ev_c ea_nil))))) (by decide)) fun pw H2 hpw e2 hw => ?_
  have wd := hD.off hpw
  -- two turns
  refine q_forR1 (n := 2) (ea_cons ev_c ea_nil) ⟨by decide, by decide⟩ (fun i σ H' => ∃ y3 y4 y5 y6 y7 y8 y9 y10 y11 y12 y13, σ = [some (.ref a), some (.ref d), some (.ref pw), y3, y4, y5, y6, y7, y8, y9, y10, y11, y12, y13] ∧ Dk d (100 * (i : Int)) H' ∧ H' pw = some (.lst (mAll.map fun m => .str (mS m))))
    (fun H3 e3 => ⟨none, none, none, none, none, none, none, none, none, none, none, rfl, (Dk.ex (e2.trans e3) hD).le (by decide), e3 _ _ hw⟩) ?_ ?_
  · rintro i σ H3 hi ⟨y3, y4, y5, y6, y7, y8, y9, y10, y11, y12, y13, eσ, hD3, hw3⟩
    subst eσ
    -- the rim
    refine q_asgD (n := 1) (P := fun v _ => ∃ e, v = .int e ∧ ringOk e) (evd_op2 (x := .int 2) (P := fun v _ => ∃ z, v = .int z ∧ 0 ≤ z ∧ z ≤ 8) (fun _ _ => ev_c) (evd_ofV (xs := ([2, 3, 1, 4, 0, 2, 3, 8, 7] : List Int).map V.int) (fun _ => ev_var rfl) (fun _ _ => el_lst (ea_cons ev_c (ea_cons ev_c (ea_cons ev_c (ea_cons ev_c (ea_cons ev_c (ea_cons ev_c (ea_cons ev_c (ea_cons ev_c (ea_cons ev_c ea_nil))))))))) (by decide)) (fun z => nomatch z) (by decide) fun v H1 _ m => ?_) ?_) hD3 (by omega) fun v H4 x4 hD4 ⟨e, ev, re⟩ => ?_
    · obtain ⟨z, hz, ez⟩ := List.mem_map.mp m
      exact ⟨z, ez.symm, (by decide : ∀ z ∈ ([2, 3, 1, 4, 0, 2, 3, 8, 7] : List Int), 0 ≤ z ∧ z ≤ 8) z hz⟩
    · rintro y H1 _ ⟨z, rfl, z0, z8⟩
      exact ⟨_, rv_I (.inl ⟨by decide, by decide⟩), fun _ _ => ⟨_, rfl, by omega, by omega, by omega⟩⟩
    subst ev
    have hw4 := x4.1 _ _ wd hw3
    -- the deeds
    refine q_asgD (n := 1 + 70) (P := fun v H2 => ∃ a ds us, v = .ref a ∧ H2 a = some (.lst us) ∧ DsAt K H2 us ds ∧ run e ds = some 0 ∧ ds.length ≤ 40) (evd_call3 (v1 := .int e) (fun _ => ev_var rfl) (fun _ => ev_var rfl) (evd_moor (many := 9) (fun _ => ev_var rfl) (fun _ _ => ev_c) (by decide) (by decide)) (by decide) ?_) hD4 (by omega) fun v H5 x5 hD5 ⟨b, ds, us, ev, hb, hds, hrun, hlen⟩ => ?_
    · rintro v H1 L _ hD1 l1 ⟨r, rfl, r0, r9⟩ Q1 q1
      exact ⟨d, e, r, L, rfl, hD1, l1, re, r0, by omega, q1⟩
    subst ev
    have hw5 := x5.1 _ _ wd hw4
    have good : Good e ds := ⟨re.1, re.2.1, re.2.2, by omega, hrun⟩
    have hgap := run_gaps _ _ _ hrun
    -- the tangle, the rings
    refine q_par (P1 := fun v H2 => ∃ x, v = .ref x ∧ Tg K C H2 x e ds) (P2 := fun v u H2 => ∃ x p, v = .ref x ∧ u = .ref p ∧ Tg K C H2 x e ds ∧ H2 p = some (.lst ((rings e ds).map V.int))) (evp_mk (ea_cons (ev_var rfl) (ea_cons (ev_var rfl) ea_nil)) (.inr ⟨us, sq_of hb, hds⟩) good)
      (fun v H6 e6 ⟨x, ev, hx⟩ => evp_call (ea_cons (ev_var rfl) (ea_cons (ev_var rfl) ea_nil)) fun H7 e7 Q1 q1 => ⟨e, b, ds, rfl, ⟨us, sq_of (e7 _ _ (e6 _ _ hb)), hds.mono (e6.trans e7)⟩, by omega, fun u H8 e8 ⟨p, eu, hp⟩ => q1 u H8 e8 ⟨x, p, ev, eu, hx.mono (e7.trans e8), hp⟩⟩) fun v u H6 e6 ⟨x, p, ev, eu, hx, hp⟩ => ?_
    subst ev eu
    have hb6 := e6 _ _ hb
    have hds6 := hds.mono e6
    have hD6 := Dk.ex e6 hD5
    have hw6 := e6 _ _ hw5
    -- every place
    refine q_forE (ea_cons (ev_var rfl) ea_nil) (sq_of hp) (fun j σ H' => ∃ y8 y9 y10 y11 y12 y13, σ = [some (.ref a), some (.ref d), some (.ref pw), some (.int (i : Int)), some (.int e), some (.ref b), some (.ref x), some (.ref p), y8, y9, y10, y11, y12, y13] ∧ Ex H6 H')
      (fun H7 e7 => ⟨_, _, _, _, _, _, rfl, e7⟩) (fun j σ H' _ ⟨_, _, _, _, _, _, _, e7⟩ => sq_of (e7 _ _ hp)) ?_ ?_
    · rintro j z t σ H7 hz ⟨y8, y9, y10, y11, y12, y13, eσ, e7⟩ ht
      subst eσ
      have hj : j < ds.length := by
        have := (List.getElem?_eq_some_iff.mp hz).1
        rwa [List.length_map, rings_length] at this
      obtain ⟨mid, dd, rest, hh⟩ := here_of hrun hj
      have ez : z = .int mid := by
        rw [List.getElem?_map, hh.at_] at hz
        exact (Option.some.inj hz).symm
      subst ez
      have e8 : Ex H6 (upd H7 t (.tup [.int (j : Int), .int mid])) := e7.trans (Ex.new ht)
      refine ⟨t, _, rfl, st_of upd_same, rfl, _, _, rfl, _, _, rfl, rfl, ?_⟩
      change tSeq _ _ _ _ (upd H7 t (.tup [.int (j : Int), .int mid]))
      generalize upd H7 t (.tup [.int (j : Int), .int mid]) = H8 at e8
      have hmid : 0 ≤ mid := run_nonneg _ _ _ re.1 hh.front
      have agr : ∀ m, lawFits m mid (dd :: rest) = (behind m (dd :: rest) mid).isSome := fun m => agree hh.back hmid
      have hlr : rest.length ≤ 40 := by
        have h1 := congrArg List.length hh.split
        rw [List.length_drop, List.length_cons] at h1
        omega
      -- the words that are due
      refine q_asgP (P := fun v H2 => ∃ q, v = .ref q ∧ H2 q = some (.lst ((mAll.filter fun m => lawFits m mid (dd :: rest)).map fun m => .str (mS m)))) ((el_lcKeep (b := false) (xs := mAll.map fun m => .str (mS m)) (f := keepM fun m => lawFits m mid (dd :: rest)) (isq_L (ev_var rfl) (sq_of (e8 _ _ hw6))) (by decide) (fun _ => rfl) (fun y H9 e9 hy => ?_) fun _ => rfl).imp fun v H9 _ ⟨q, ev, hq⟩ => ⟨q, ev, by rw [hq, keepM_all]⟩) fun v H9 e9 ⟨q, ev, hq⟩ => ?_
      · obtain ⟨m, _, ey⟩ := List.mem_map.mp hy
        subst ey
        rw [keepM_at]
        have e89 := e8.trans e9
        refine et_B (ev_evp (evp_callA (S := fun vs H2 => ∃ c, vs = [.str (mS m), .int mid, .ref c] ∧ LD K H2 c (dd :: rest)) (eap_v (ev_var rfl) fun H10 e10 => eap_v (ev_var rfl) fun H11 e11 => eap_cons (P := fun v H2 => ∃ c, v = .ref c ∧ LD K H2 c (dd :: rest)) (evp_el (ev_from (n := j) (us := us) rfl rfl ((e89.trans (e10.trans e11)) _ _ hb6)) fun c H12 e12 hc => ⟨c, rfl, us.drop j, sq_of hc, ?_⟩) fun v H12 e12 ⟨c, ev, hc⟩ => eap_nil fun H13 e13 => ⟨c, by rw [ev], hc.mono e13⟩) ?_))
        · rw [← hh.split]
          exact (hds6.mono ((e89.trans (e10.trans e11)).trans e12)).drop j
        · rintro vs H10 e10 ⟨c, rfl, hc⟩ Q1 q1
          exact ⟨m, mid, c, dd, rest, rfl, hc, by omega, fun h => hh.pos h, fun H11 e11 => q1 _ H11 e11 rfl⟩
      subst ev
      have e89 := e8.trans e9
      have hx9 := hx.mono e89
      have wsD : ∀ H', DpAll K H' ((mAll.filter fun m => lawFits m mid (dd :: rest)).map fun m => V.str (mS m)) ((mAll.filter fun m => lawFits m mid (dd :: rest)).map mP) := fun H' => by
        generalize mAll.filter (fun m => lawFits m mid (dd :: rest)) = ms
        induction ms with
        | nil => exact .nil
        | cons m ms ih => exact .cons (.str _) ih
      have efl : (mAll.filter fun m => (behind m (dd :: rest) mid).isSome) = mAll.filter fun m => lawFits m mid (dd :: rest) := List.filter_congr fun m _ => (agr m).symm
      have atD : ∀ {te : TE} {σ : L2.St} {H' : Hp}, EvP te σ H' (fun v H2 => ∃ t, v = .ref t ∧ H2 t = some (.tup ((mAll.filter fun m => (behind m (dd :: rest) mid).isSome).map fun m => .str (mS m)))) → EvDt K te σ H' (.tuple ((mAll.filter fun m => lawFits m mid (dd :: rest)).map mP)) := fun h => h.imp fun v H2 _ ⟨t, ev, ht⟩ => by
        subst ev
        rw [efl] at ht
        exact .tup (st_of ht) (wsD _)
      have tupD : EvDt K (tCB (rTupOf K) (tCons (tVar 10) tNil)) [some (.ref a), some (.ref d), some (.ref pw), some (.int (i : Int)), some (.int e), some (.ref b), some (.ref x), some (.ref p), some (.int (j : Int)), some (.int mid), some (.ref q), y11, y12, y13] H9 (.tuple ((mAll.filter fun m => lawFits m mid (dd :: rest)).map mP)) :=
        evp_tupOf (S := fun ys H2 => ys = (mAll.filter fun m => lawFits m mid (dd :: rest)).map fun m => V.str (mS m)) (evp_ev (ev_var rfl) fun H2 e2 => ⟨q, _, rfl, e2 _ _ hq, rfl⟩) fun r ys H2 H3 _ es _ hr => by
          subst es
          exact .tup (st_of hr) (wsD _)
      refine q_when (b := false) (et_repr (d := due2 fun m => lawFits m mid (dd :: rest)) (evd_lst (evd_cons (atD (evp_call (ea_cons (ev_var rfl) (ea_cons (ev_var rfl) ea_nil)) fun H10 e10 Q1 q1 => ⟨x, j, e, 0, mid, dd, ds, rest, rfl, hx9.mono e10, by omega, hh, q1⟩))
          (evd_cons (atD (evp_callK (S := fun vs _ => vs = [.int (j : Int), .ref x]) (eap_v (ev_var rfl) fun _ _ => eap_v (ev_var rfl) fun _ _ => eap_nil fun _ _ => rfl) fun vs H10 e10 evs Q1 q1 => ⟨x, j, e, 0, mid, dd, ds, rest, by rw [evs]; rfl, hx9.mono e10, by omega, hh, q1⟩)) evd_nil)) (Nat.le_of_lt_succ (by decide : 2 < 100001)))
        (evd_lst (evd_cons tupD (evd_cons tupD evd_nil)) (Nat.le_of_lt_succ (by decide : 2 < 100001))) (.inl ⟨_, rfl⟩) (show_due _)) (fun z => nomatch z) fun _ H10 e10 => ?_
      have e810 := e89.trans e10
      -- every word that is due
      refine s_forLn (ev_var rfl) (sq_of (e10 _ _ hq)) (fun l σ H' => ∃ y11 y12 y13, σ = [some (.ref a), some (.ref d), some (.ref pw), some (.int (i : Int)), some (.int e), some (.ref b), some (.ref x), some (.ref p), some (.int (j : Int)), some (.int mid), some (.ref q), y11, y12, y13] ∧ Ex H10 H')
        (fun H11 e11 => ⟨_, _, _, rfl, e11⟩) (fun l σ H' _ ⟨_, _, _, _, e11⟩ => sq_of (e11 _ _ (e10 _ _ hq))) ?_ ?_
      · rintro l y σ H11 hy ⟨y11, y12, y13, eσ, e11⟩
        subst eσ
        obtain ⟨m, hm, ey⟩ := List.mem_map.mp (List.mem_of_getElem? hy)
        subst ey
        have hfit := (List.mem_filter.mp hm).2
        rw [agr m] at hfit
        obtain ⟨bs, hbs⟩ := Option.isSome_iff_exists.mp hfit
        obtain ⟨d2, r2, erest⟩ := two_of hbs
        have hmo := moved_ok hh.back hbs
        have e611 := e810.trans e11
        have hrun' : run e (ds.take j ++ bs) = some 0 := whole_ok hh.front (by rw [hh.split]; exact hh.back) (by rw [hh.split]; exact hbs)
        have hbl : bs.length ≤ 50 := by
          rw [hmo.1, erest]
          have h1 := lb_len m dd d2 r2
          rw [erest, List.length_cons] at hlr
          omega
        have hlen' : (ds.take j ++ bs).length ≤ 100 := by
          rw [List.length_append, List.length_take]
          omega
        have good' : Good e (ds.take j ++ bs) := ⟨re.1, re.2.1, re.2.2, by omega, hrun'⟩
        have hx11 := hx.mono e611
        have mv : ∀ H12, Ex H11 H12 → ∀ Q1 : VK, RetP (fun v H2 => ∃ y, v = .ref y ∧ Tg K C H2 y e (ds.take j ++ bs)) H12 Q1 → spMoved K C [.ref x, .int (j : Int), .str (mS m)] H12 Q1 E0 := fun H12 e12 Q1 q1 => ⟨x, j, m, e, 0, mid, dd, ds, rest, bs, rfl, hx11.mono e12, by omega, hh, hbs, good', q1⟩
        refine q_par (P1 := fun v H2 => ∃ y, v = .ref y ∧ Tg K C H2 y e (ds.take j ++ bs)) (P2 := fun v u H2 => ∃ y r ws, v = .ref y ∧ u = .ref r ∧ Tg K C H2 y e (ds.take j ++ bs) ∧ H2 r = some (.lst ws) ∧ DsAt K H2 ws (ds.take j ++ bs)) (evp_call (ea_cons (ev_var rfl) (ea_cons (ev_var rfl) (ea_cons (ev_var rfl) ea_nil))) mv)
          (fun v H12 e12 ⟨y, ev, hy⟩ => (evp_cat (xs := us.take j) (ds := ds.take j) (es := bs) (ev_upto rfl rfl ((e611.trans e12) _ _ hb6)) ((hds6.mono (e611.trans e12)).take j) (evp_callA (S := fun vs H2 => ∃ c, vs = [.str (mS m), .ref c] ∧ LD K H2 c (dd :: rest)) (eap_v (ev_var rfl) fun H13 e13 => eap_cons (P := fun v H2 => ∃ c, v = .ref c ∧ LD K H2 c (dd :: rest)) (evp_el (ev_from (n := j) (us := us) rfl rfl ((e611.trans (e12.trans e13)) _ _ hb6)) fun c H14 e14 hc => ⟨c, rfl, us.drop j, sq_of hc, ?_⟩) fun v H14 e14 ⟨c, ev, hc⟩ => eap_nil fun H15 e15 => ⟨c, by rw [ev], hc.mono e15⟩) ?_) ?_).imp fun u H13 e13 ⟨r, ws, eu, hr, hws⟩ => ⟨y, r, ws, ev, eu, hy.mono e13, hr, hws⟩) fun v u H12 e12 ⟨y, r, ws, ev, eu, hy, hr, hws⟩ => ?_
        · rw [← hh.split]
          exact (hds6.mono ((e611.trans (e12.trans e13)).trans e14)).drop j
        · rintro vs H13 e13 ⟨c, rfl, hc⟩ Q1 q1
          rw [erest] at hc
          exact ⟨m, c, dd, d2, r2, rfl, hc, by rw [erest, List.length_cons] at hlr; omega, by rw [← erest, ← hmo.1]; exact q1⟩
        · rw [List.length_take]
          omega
        subst ev eu
        have shD' := show_deeds (run_gaps _ _ _ hrun') (by omega)
        refine s_when (b := false) (et_is (et_or (et_neTg (evp_ev (ev_var rfl) fun H13 e13 => ⟨y, rfl, hy.mono e13⟩) (evp_mk (ea_cons (ev_var rfl) (ea_cons (ev_var rfl) ea_nil)) (.inr ⟨ws, sq_of hr, hws⟩) good')) fun _ => et_or (et_repr (evd_fldDs T rfl hy) (evd_tupDs rfl hr hws) (.inr ⟨_, rfl⟩) shD') fun _ => et_or (a := !decide (e = e)) ?_ fun _ => et_neTg (evp_callK (S := fun vs _ => vs = [.str (mS m), .int (j : Int), .ref x]) (eap_v (ev_var rfl) fun _ _ => eap_v (ev_var rfl) fun _ _ => eap_v (ev_var rfl) fun _ _ => eap_nil fun _ _ => rfl) fun vs H13 e13 evs Q1 q1 => by
            subst evs
            exact mv H13 (e12.trans e13) Q1 q1) (evp_ev (ev_var rfl) fun H13 e13 => ⟨y, rfl, hy.mono e13⟩)) (b := false) ?_) (fun z => nomatch z) fun _ H13 e13 => ⟨_, _, _, rfl, e11.trans (e12.trans e13)⟩
        · obtain ⟨dy, ty, hy1, hy2⟩ := hy
          exact et_op (ev_ends T (ev_var rfl) hy1) (ev_var rfl) rv_neI
        · simp
      · rintro σ H11 ⟨y11, y12, y13, eσ, e11⟩
        subst eσ
        exact ⟨_, _, _, _, _, _, rfl, e810.trans e11⟩
    · rintro σ H7 ⟨y8, y9, y10, y11, y12, y13, eσ, e7⟩
      subst eσ
      refine s_when (b := false) (et_repr (evd_fldDs T rfl (hx.mono e7)) (evd_tupDs rfl (e7 _ _ hb6) (hds6.mono e7)) (.inr ⟨_, rfl⟩) (show_deeds hgap (by omega))) (fun z => nomatch z) fun _ H8 e8 => ⟨_, _, _, _, _, _, _, _, _, _, _, rfl, (Dk.ex (e7.trans e8) hD6).le (by omega), (e7.trans e8) _ _ hw6⟩
  · rintro σ H3 ⟨y3, y4, y5, y6, y7, y8, y9, y10, y11, y12, y13, eσ, hD3, hw3⟩
    subst eσ
    have wsD : ∀ H' : Hp, DpAll K H' (mAll.map fun m => V.str (mS m)) (mAll.map mP) := fun H' => .cons (.str _) (.cons (.str _) (.cons (.str _) (.cons (.str _) (.cons (.str _) .nil))))
    refine s_retV (ev_is (ev_eqD (d := .tuple (mAll.map mP)) (e := .tuple (mAll.map mP)) (evd (v := .ref pM) (ev_call ea_nil fun H4 e4 Q1 q1 E => ⟨rfl, q1⟩) fun H4 _ => .tup (T.t_M H4) (wsD _)) (evp_tupOf (S := fun ys H2 => ys = mAll.map fun m => V.str (mS m)) (evp_ev (ev_var rfl) fun H2 e2 => ⟨pw, _, rfl, e2 _ _ hw3, rfl⟩) fun r ys H2 H3 _ es _ hr => by
      subst es
      exact .tup (st_of hr) (wsD _)) (by decide +kernel) (by decide +kernel)) (congrArg V.bl (show PyData.eqv (.tuple (mAll.map mP)) (.tuple (mAll.map mP)) = true by decide +kernel))) fun H4 e4 => k H4
end
end K38

/-! All facts gathered. -/
namespace K38
open PySem PySem.Spec PyProof.Rows L2 Evl StX
theorem def_mk {K : PySem.W.Frag} {mg : Str → Option Value} {x : Str} {st : Stmt} {ps : List Str} {f : Addr} {oc : Value} {od an : Option Addr} {osl : Array (Option Value)} {kV doc pm cdv ct : Value} (l : K.lookup f = some ⟨oc, od, .func (PySem.W.fnOf x x (defArgs st) (defBody st) (defScope st) .none kV doc pm an cdv ct), osl⟩)
    (c : PySem.W.codeIn K cdv x = true) (k : PySem.W.keepIn K (.ref f) = true) (hm : mg x = some (.ref f)) (h : ∀ (kV doc pm : Value) (an : Option Addr) (cdv ct : Value) (us : List Value), us.length = ps.length → bindArgs (PySem.W.fnOf x x (defArgs st) (defBody st) (defScope st) .none kV doc pm an cdv ct) ⟨us, []⟩ = pure (ps.zip us)) : DefAt K mg x st ps :=
  ⟨_, _, fun_mk l c k, hm, (fun_mk l c k).binds h⟩
theorem kitOne_self {K : PySem.W.Frag} {C : Addr} : PySem.W.kitOne K (.ref C) (.ref C) = some true := by
  unfold PySem.W.kitOne
  exact if_pos (by simp)
theorem ktup_mk {K : PySem.W.Frag} {p : Addr} {xs : List V} {od : Option Addr} {its : Array Value} {n : Nat} {sl : Array (Option Value)} (l : K.lookup p = some ⟨.type "tuple", od, .seq its n, sl⟩) (z : its.size ≤ sizeLine) (v : Vals xs its.toList) : KTup K p xs :=
  fun H => .inr ⟨_, its, n, l, rfl, rfl, z, v⟩
/-- the calls, from the defs -/
theorem calls_mk {P : Program} {w : World} {K : PySem.W.Frag} {mg : Str → Option Value} {base : Heap} {pT pC pM C : Addr} (T : Txt K mg pT pC pM C) {f1 f2 fN : Addr} {fd1 fd2 fdN : FuncData}
    (M1 : MethAt K C "__init__" "Tangle.__init__" sInit psInit f1 fd1) (M2 : MethAt K C "__eq__" "Tangle.__eq__" sEq psEq f2 fd2) (mk : PySem.W.makesIn K C = true) (kC : PySem.W.keepIn K (.ref C) = true) (hC : mg "Tangle" = some (.ref C))
    (FN : FunD K "need_tangle" "need_tangle" (defArgs (topS 38)) (defBody (topS 38)) (defScope (topS 38)) [.str "tangle"] [] fN fdN) (hN : mg "need_tangle" = some (.ref fN))
    (D0 : DefAt K mg "is_integer" (topS 10) ["value"])
    (D1 : DefAt K mg "is_within" (topS 11) ["value", "least", "most"])
    (D2 : DefAt K mg "need_number" (topS 12) ["value", "part", "least", "most"])
    (D3 : DefAt K mg "is_deed" (topS 29) ["value"])
    (D4 : DefAt K mg "fits" (topS 30) ["ends", "word", "gap"])
    (D5 : DefAt K mg "ends_then" (topS 31) ["ends", "word"])
    (D6 : DefAt K mg "told_deeds" (topS 32) ["value"])
    (D7 : DefAt K mg "ends_behind" (topS 33) ["ends", "deeds"])
    (D8 : DefAt K mg "ends_ahead" (topS 44) ["tangle"])
    (D9 : DefAt K mg "are_crossings" (topS 45) ["deeds", "many"])
    (D10 : DefAt K mg "are_neighbours" (topS 46) ["one", "other", "ends"])
    (D11 : DefAt K mg "by_undo" (topS 47) ["deeds", "ends"])
    (D12 : DefAt K mg "by_far" (topS 48) ["deeds", "ends"])
    (D13 : DefAt K mg "by_three" (topS 49) ["deeds", "ends"])
    (D14 : DefAt K mg "by_curl" (topS 50) ["deeds", "ends"])
    (D15 : DefAt K mg "by_bend" (topS 51) ["deeds", "ends"])
    (D16 : DefAt K mg "behind_move" (topS 52) ["word", "deeds", "ends"])
    (D17 : DefAt K mg "move_words" (topS 53) [])
    (D18 : DefAt K mg "moves_at" (topS 54) ["tangle", "at"])
    (D19 : DefAt K mg "moved" (topS 55) ["tangle", "at", "word"])
    (D20 : DefAt K mg "_law_dock" (topS 57) ["_law_script"])
    (D21 : DefAt K mg "_law_moor" (topS 58) ["_law_dock_here", "_law_many"])
    (D22 : DefAt K mg "_law_of" (topS 59) ["_law_dock_here", "_law_some"])
    (D23 : DefAt K mg "_law_crossing" (topS 60) ["_law_dock_here", "_law_gap"])
    (D24 : DefAt K mg "_law_planted" (topS 61) ["_law_dock_here", "_law_ring"])
    (D25 : DefAt K mg "_law_lone" (topS 62) ["_law_dock_here", "_law_ring"])
    (D26 : DefAt K mg "_law_deeds" (topS 63) ["_law_dock_here", "_law_ends", "_law_laps"])
    (D27 : DefAt K mg "_law_rings" (topS 64) ["_law_ends", "_law_deeds_here"])
    (D28 : DefAt K mg "_law_fits" (topS 65) ["_law_word", "_law_ring", "_law_some"])
    (D29 : DefAt K mg "_law_behind" (topS 66) ["_law_word", "_law_some"])
    : Calls P w K mg base pM C := by
  have c_is_integer := ok_is_integer (P := P) (w := w) (base := base) D0 T
  have c_is_within := ok_is_within D1 T c_is_integer
  have c_need_number := ok_need_number D2 c_is_within
  have c_is_deed := ok_is_deed D3 T c_is_within
  have c_fits := ok_fits (P := P) (w := w) (base := base) D4 T
  have c_ends_then := ok_ends_then (P := P) (w := w) (base := base) D5 T
  have c_told := ok_told_deeds D6 T c_is_deed
  have c_ends_behind := ok_ends_behind D7 T c_fits c_ends_then
  have c_ends_ahead := ok_ends_ahead (P := P) (w := w) (base := base) D8 T
  have c_cross := ok_are_crossings (P := P) (w := w) (base := base) D9 T
  have c_nb := ok_are_neighbours (P := P) (w := w) (base := base) D10
  have c_behind := ok_behind_move D16 (ok_by_undo D11 c_cross) (ok_by_far D12 c_cross c_nb) (ok_by_three D13 c_cross c_nb) (ok_by_curl D14 T c_cross) (ok_by_bend D15 T)
  have c_need := ok_need_tangle (P := P) (w := w) (base := base) FN hN T
  have c_T : CalC P w K mg base "Tangle" C psInit 5 (spInit K C) := ⟨f1, fd1, ⟨mk, M1.is, M1.isF, kC⟩, ok_init M1 T c_is_within c_told c_ends_behind, hC, M1.b⟩
  have c_moor := ok_moor (P := P) (w := w) (base := base) T D21
  have c_of := ok_of T c_moor D22
  have c_cr := ok_crossing c_of D23
  exact ⟨ok_dock T D20, c_moor, c_of, ok_deeds T c_moor (ok_planted T c_moor c_of c_cr D24) (ok_lone T c_moor c_cr D25) D26, ok_rings D27, ok_lawFits D28 T, ok_lawBehind D29, c_T,
    ok_moves_at D18 T c_need c_need_number c_ends_ahead c_behind, ok_moved D19 T c_need c_need_number c_ends_ahead c_behind c_T, ok_move_words D17 T, ⟨f2, fd2, ok_eq M2 T, M2.is, M2.isF, M2.b⟩⟩
theorem all_mk {l : PySem.W.OpenLaw} {w : World} {K : PySem.W.Frag} {h : Heap} {mg : Str → Option Value} {fa : Addr} (X : K.In h) (G : h.Ns mainGlobals mg) (hfa : mg "law" = some (.ref fa))
    {f0 : Addr} {od0 an0 : Option Addr} {sl0 : Array (Option Value)} {oc0 kV0 dc0 pm0 cd0 ct0 : Value}
    {f1 : Addr} {od1 an1 : Option Addr} {sl1 : Array (Option Value)} {oc1 kV1 dc1 pm1 cd1 ct1 : Value}
    {f2 : Addr} {od2 an2 : Option Addr} {sl2 : Array (Option Value)} {oc2 kV2 dc2 pm2 cd2 ct2 : Value}
    {f3 : Addr} {od3 an3 : Option Addr} {sl3 : Array (Option Value)} {oc3 kV3 dc3 pm3 cd3 ct3 : Value}
    {f4 : Addr} {od4 an4 : Option Addr} {sl4 : Array (Option Value)} {oc4 kV4 dc4 pm4 cd4 ct4 : Value}
    {f5 : Addr} {od5 an5 : Option Addr} {sl5 : Array (Option Value)} {oc5 kV5 dc5 pm5 cd5 ct5 : Value}
    {f6 : Addr} {od6 an6 : Option Addr} {sl6 : Array (Option Value)} {oc6 kV6 dc6 pm6 cd6 ct6 : Value}
    {f7 : Addr} {od7 an7 : Option Addr} {sl7 : Array (Option Value)} {oc7 kV7 dc7 pm7 cd7 ct7 : Value}
    {f8 : Addr} {od8 an8 : Option Addr} {sl8 : Array (Option Value)} {oc8 kV8 dc8 pm8 cd8 ct8 : Value}
    {f9 : Addr} {od9 an9 : Option Addr} {sl9 : Array (Option Value)} {oc9 kV9 dc9 pm9 cd9 ct9 : Value}
    {f10 : Addr} {od10 an10 : Option Addr} {sl10 : Array (Option Value)} {oc10 kV10 dc10 pm10 cd10 ct10 : Value}
    {f11 : Addr} {od11 an11 : Option Addr} {sl11 : Array (Option Value)} {oc11 kV11 dc11 pm11 cd11 ct11 : Value}
    {f12 : Addr} {od12 an12 : Option Addr} {sl12 : Array (Option Value)} {oc12 kV12 dc12 pm12 cd12 ct12 : Value}
    {f13 : Addr} {od13 an13 : Option Addr} {sl13 : Array (Option Value)} {oc13 kV13 dc13 pm13 cd13 ct13 : Value}
    {f14 : Addr} {od14 an14 : Option Addr} {sl14 : Array (Option Value)} {oc14 kV14 dc14 pm14 cd14 ct14 : Value}
    {f15 : Addr} {od15 an15 : Option Addr} {sl15 : Array (Option Value)} {oc15 kV15 dc15 pm15 cd15 ct15 : Value}
    {f16 : Addr} {od16 an16 : Option Addr} {sl16 : Array (Option Value)} {oc16 kV16 dc16 pm16 cd16 ct16 : Value}
    {f17 : Addr} {od17 an17 : Option Addr} {sl17 : Array (Option Value)} {oc17 kV17 dc17 pm17 cd17 ct17 : Value}
    {f18 : Addr} {od18 an18 : Option Addr} {sl18 : Array (Option Value)} {oc18 kV18 dc18 pm18 cd18 ct18 : Value}
    {f19 : Addr} {od19 an19 : Option Addr} {sl19 : Array (Option Value)} {oc19 kV19 dc19 pm19 cd19 ct19 : Value}
    {f20 : Addr} {od20 an20 : Option Addr} {sl20 : Array (Option Value)} {oc20 kV20 dc20 pm20 cd20 ct20 : Value}
    {f21 : Addr} {od21 an21 : Option Addr} {sl21 : Array (Option Value)} {oc21 kV21 dc21 pm21 cd21 ct21 : Value}
    {f22 : Addr} {od22 an22 : Option Addr} {sl22 : Array (Option Value)} {oc22 kV22 dc22 pm22 cd22 ct22 : Value}
    {f23 : Addr} {od23 an23 : Option Addr} {sl23 : Array (Option Value)} {oc23 kV23 dc23 pm23 cd23 ct23 : Value}
    {f24 : Addr} {od24 an24 : Option Addr} {sl24 : Array (Option Value)} {oc24 kV24 dc24 pm24 cd24 ct24 : Value}
    {f25 : Addr} {od25 an25 : Option Addr} {sl25 : Array (Option Value)} {oc25 kV25 dc25 pm25 cd25 ct25 : Value}
    {f26 : Addr} {od26 an26 : Option Addr} {sl26 : Array (Option Value)} {oc26 kV26 dc26 pm26 cd26 ct26 : Value}
    {f27 : Addr} {od27 an27 : Option Addr} {sl27 : Array (Option Value)} {oc27 kV27 dc27 pm27 cd27 ct27 : Value}
    {f28 : Addr} {od28 an28 : Option Addr} {sl28 : Array (Option Value)} {oc28 kV28 dc28 pm28 cd28 ct28 : Value}
    {f29 : Addr} {od29 an29 : Option Addr} {sl29 : Array (Option Value)} {oc29 kV29 dc29 pm29 cd29 ct29 : Value}
    {f30 : Addr} {od30 an30 : Option Addr} {sl30 : Array (Option Value)} {oc30 kV30 dc30 pm30 cd30 ct30 : Value}
    {fN pD : Addr} {odN anN odD : Option Addr} {slN slD : Array (Option Value)} {ocN ocD kVN dcN pmN cdN ctN : Value} {isD : Array Value} {mD : Nat}
    {C : Addr}
    {fin : Addr} {odin anin : Option Addr} {slin : Array (Option Value)} {ocin kVin dcin pmin cdin ctin : Value}
    {feq : Addr} {odeq aneq : Option Addr} {sleq : Array (Option Value)} {oceq kVeq dceq pmeq cdeq cteq : Value}
    {t_MOST_RIM : Tok}
    {t_MOST_RING : Tok}
    {t_MOST_DEEDS : Tok}
    {t_JOIN_tangles : Tok}
    {t_OPEN_tangles : Tok}
    {t_JOIN_moves : Tok}
    {t_OPEN_moves : Tok}
    {pTt : Addr} {odTt : Option Addr} {isTt : Array Value} {nTt : Nat} {slTt : Array (Option Value)}
    {pCt : Addr} {odCt : Option Addr} {isCt : Array Value} {nCt : Nat} {slCt : Array (Option Value)}
    {pMt : Addr} {odMt : Option Addr} {isMt : Array Value} {nMt : Nat} {slMt : Array (Option Value)}
    (a0 : PySem.W.nsIn K mainGlobals "is_integer" = some (some (.ref f0)))
    (l0 : K.lookup f0 = some ⟨oc0, od0, .func (PySem.W.fnOf "is_integer" "is_integer" (defArgs (topS 10)) (defBody (topS 10)) (defScope (topS 10)) .none kV0 dc0 pm0 an0 cd0 ct0), sl0⟩)
    (c0 : PySem.W.codeIn K cd0 "is_integer" = true)
    (k0 : PySem.W.keepIn K (.ref f0) = true)
    (a1 : PySem.W.nsIn K mainGlobals "is_within" = some (some (.ref f1)))
    (l1 : K.lookup f1 = some ⟨oc1, od1, .func (PySem.W.fnOf "is_within" "is_within" (defArgs (topS 11)) (defBody (topS 11)) (defScope (topS 11)) .none kV1 dc1 pm1 an1 cd1 ct1), sl1⟩)
    (c1 : PySem.W.codeIn K cd1 "is_within" = true)
    (k1 : PySem.W.keepIn K (.ref f1) = true)
    (a2 : PySem.W.nsIn K mainGlobals "need_number" = some (some (.ref f2)))
    (l2 : K.lookup f2 = some ⟨oc2, od2, .func (PySem.W.fnOf "need_number" "need_number" (defArgs (topS 12)) (defBody (topS 12)) (defScope (topS 12)) .none kV2 dc2 pm2 an2 cd2 ct2), sl2⟩)
    (c2 : PySem.W.codeIn K cd2 "need_number" = true)
    (k2 : PySem.W.keepIn K (.ref f2) = true)
    (a3 : PySem.W.nsIn K mainGlobals "is_deed" = some (some (.ref f3)))
    (l3 : K.lookup f3 = some ⟨oc3, od3, .func (PySem.W.fnOf "is_deed" "is_deed" (defArgs (topS 29)) (defBody (topS 29)) (defScope (topS 29)) .none kV3 dc3 pm3 an3 cd3 ct3), sl3⟩)
    (c3 : PySem.W.codeIn K cd3 "is_deed" = true)
    (k3 : PySem.W.keepIn K (.ref f3) = true)
    (a4 : PySem.W.nsIn K mainGlobals "fits" = some (some (.ref f4)))
    (l4 : K.lookup f4 = some ⟨oc4, od4, .func (PySem.W.fnOf "fits" "fits" (defArgs (topS 30)) (defBody (topS 30)) (defScope (topS 30)) .none kV4 dc4 pm4 an4 cd4 ct4), sl4⟩)
    (c4 : PySem.W.codeIn K cd4 "fits" = true)
    (k4 : PySem.W.keepIn K (.ref f4) = true)
    (a5 : PySem.W.nsIn K mainGlobals "ends_then" = some (some (.ref f5)))
    (l5 : K.lookup f5 = some ⟨oc5, od5, .func (PySem.W.fnOf "ends_then" "ends_then" (defArgs (topS 31)) (defBody (topS 31)) (defScope (topS 31)) .none kV5 dc5 pm5 an5 cd5 ct5), sl5⟩)
    (c5 : PySem.W.codeIn K cd5 "ends_then" = true)
    (k5 : PySem.W.keepIn K (.ref f5) = true)
    (a6 : PySem.W.nsIn K mainGlobals "told_deeds" = some (some (.ref f6)))
    (l6 : K.lookup f6 = some ⟨oc6, od6, .func (PySem.W.fnOf "told_deeds" "told_deeds" (defArgs (topS 32)) (defBody (topS 32)) (defScope (topS 32)) .none kV6 dc6 pm6 an6 cd6 ct6), sl6⟩)
    (c6 : PySem.W.codeIn K cd6 "told_deeds" = true)
    (k6 : PySem.W.keepIn K (.ref f6) = true)
    (a7 : PySem.W.nsIn K mainGlobals "ends_behind" = some (some (.ref f7)))
    (l7 : K.lookup f7 = some ⟨oc7, od7, .func (PySem.W.fnOf "ends_behind" "ends_behind" (defArgs (topS 33)) (defBody (topS 33)) (defScope (topS 33)) .none kV7 dc7 pm7 an7 cd7 ct7), sl7⟩)
    (c7 : PySem.W.codeIn K cd7 "ends_behind" = true)
    (k7 : PySem.W.keepIn K (.ref f7) = true)
    (a8 : PySem.W.nsIn K mainGlobals "ends_ahead" = some (some (.ref f8)))
    (l8 : K.lookup f8 = some ⟨oc8, od8, .func (PySem.W.fnOf "ends_ahead" "ends_ahead" (defArgs (topS 44)) (defBody (topS 44)) (defScope (topS 44)) .none kV8 dc8 pm8 an8 cd8 ct8), sl8⟩)
    (c8 : PySem.W.codeIn K cd8 "ends_ahead" = true)
    (k8 : PySem.W.keepIn K (.ref f8) = true)
    (a9 : PySem.W.nsIn K mainGlobals "are_crossings" = some (some (.ref f9)))
    (l9 : K.lookup f9 = some ⟨oc9, od9, .func (PySem.W.fnOf "are_crossings" "are_crossings" (defArgs (topS 45)) (defBody (topS 45)) (defScope (topS 45)) .none kV9 dc9 pm9 an9 cd9 ct9), sl9⟩)
    (c9 : PySem.W.codeIn K cd9 "are_crossings" = true)
    (k9 : PySem.W.keepIn K (.ref f9) = true)
    (a10 : PySem.W.nsIn K mainGlobals "are_neighbours" = some (some (.ref f10)))
    (l10 : K.lookup f10 = some ⟨oc10, od10, .func (PySem.W.fnOf "are_neighbours" "are_neighbours" (defArgs (topS 46)) (defBody (topS 46)) (defScope (topS 46)) .none kV10 dc10 pm10 an10 cd10 ct10), sl10⟩)
    (c10 : PySem.W.codeIn K cd10 "are_neighbours" = true)
    (k10 : PySem.W.keepIn K (.ref f10) = true)
    (a11 : PySem.W.nsIn K mainGlobals "by_undo" = some (some (.ref f11)))
    (l11 : K.lookup f11 = some ⟨oc11, od11, .func (PySem.W.fnOf "by_undo" "by_undo" (defArgs (topS 47)) (defBody (topS 47)) (defScope (topS 47)) .none kV11 dc11 pm11 an11 cd11 ct11), sl11⟩)
    (c11 : PySem.W.codeIn K cd11 "by_undo" = true)
    (k11 : PySem.W.keepIn K (.ref f11) = true)
    (a12 : PySem.W.nsIn K mainGlobals "by_far" = some (some (.ref f12)))
    (l12 : K.lookup f12 = some ⟨oc12, od12, .func (PySem.W.fnOf "by_far" "by_far" (defArgs (topS 48)) (defBody (topS 48)) (defScope (topS 48)) .none kV12 dc12 pm12 an12 cd12 ct12), sl12⟩)
    (c12 : PySem.W.codeIn K cd12 "by_far" = true)
    (k12 : PySem.W.keepIn K (.ref f12) = true)
    (a13 : PySem.W.nsIn K mainGlobals "by_three" = some (some (.ref f13)))
    (l13 : K.lookup f13 = some ⟨oc13, od13, .func (PySem.W.fnOf "by_three" "by_three" (defArgs (topS 49)) (defBody (topS 49)) (defScope (topS 49)) .none kV13 dc13 pm13 an13 cd13 ct13), sl13⟩)
    (c13 : PySem.W.codeIn K cd13 "by_three" = true)
    (k13 : PySem.W.keepIn K (.ref f13) = true)
    (a14 : PySem.W.nsIn K mainGlobals "by_curl" = some (some (.ref f14)))
    (l14 : K.lookup f14 = some ⟨oc14, od14, .func (PySem.W.fnOf "by_curl" "by_curl" (defArgs (topS 50)) (defBody (topS 50)) (defScope (topS 50)) .none kV14 dc14 pm14 an14 cd14 ct14), sl14⟩)
    (c14 : PySem.W.codeIn K cd14 "by_curl" = true)
    (k14 : PySem.W.keepIn K (.ref f14) = true)
    (a15 : PySem.W.nsIn K mainGlobals "by_bend" = some (some (.ref f15)))
    (l15 : K.lookup f15 = some ⟨oc15, od15, .func (PySem.W.fnOf "by_bend" "by_bend" (defArgs (topS 51)) (defBody (topS 51)) (defScope (topS 51)) .none kV15 dc15 pm15 an15 cd15 ct15), sl15⟩)
    (c15 : PySem.W.codeIn K cd15 "by_bend" = true)
    (k15 : PySem.W.keepIn K (.ref f15) = true)
    (a16 : PySem.W.nsIn K mainGlobals "behind_move" = some (some (.ref f16)))
    (l16 : K.lookup f16 = some ⟨oc16, od16, .func (PySem.W.fnOf "behind_move" "behind_move" (defArgs (topS 52)) (defBody (topS 52)) (defScope (topS 52)) .none kV16 dc16 pm16 an16 cd16 ct16), sl16⟩)
    (c16 : PySem.W.codeIn K cd16 "behind_move" = true)
    (k16 : PySem.W.keepIn K (.ref f16) = true)
    (a17 : PySem.W.nsIn K mainGlobals "move_words" = some (some (.ref f17)))
    (l17 : K.lookup f17 = some ⟨oc17, od17, .func (PySem.W.fnOf "move_words" "move_words" (defArgs (topS 53)) (defBody (topS 53)) (defScope (topS 53)) .none kV17 dc17 pm17 an17 cd17 ct17), sl17⟩)
    (c17 : PySem.W.codeIn K cd17 "move_words" = true)
    (k17 : PySem.W.keepIn K (.ref f17) = true)
    (a18 : PySem.W.nsIn K mainGlobals "moves_at" = some (some (.ref f18)))
    (l18 : K.lookup f18 = some ⟨oc18, od18, .func (PySem.W.fnOf "moves_at" "moves_at" (defArgs (topS 54)) (defBody (topS 54)) (defScope (topS 54)) .none kV18 dc18 pm18 an18 cd18 ct18), sl18⟩)
    (c18 : PySem.W.codeIn K cd18 "moves_at" = true)
    (k18 : PySem.W.keepIn K (.ref f18) = true)
    (a19 : PySem.W.nsIn K mainGlobals "moved" = some (some (.ref f19)))
    (l19 : K.lookup f19 = some ⟨oc19, od19, .func (PySem.W.fnOf "moved" "moved" (defArgs (topS 55)) (defBody (topS 55)) (defScope (topS 55)) .none kV19 dc19 pm19 an19 cd19 ct19), sl19⟩)
    (c19 : PySem.W.codeIn K cd19 "moved" = true)
    (k19 : PySem.W.keepIn K (.ref f19) = true)
    (a20 : PySem.W.nsIn K mainGlobals "_law_dock" = some (some (.ref f20)))
    (l20 : K.lookup f20 = some ⟨oc20, od20, .func (PySem.W.fnOf "_law_dock" "_law_dock" (defArgs (topS 57)) (defBody (topS 57)) (defScope (topS 57)) .none kV20 dc20 pm20 an20 cd20 ct20), sl20⟩)
    (c20 : PySem.W.codeIn K cd20 "_law_dock" = true)
    (k20 : PySem.W.keepIn K (.ref f20) = true)
    (a21 : PySem.W.nsIn K mainGlobals "_law_moor" = some (some (.ref f21)))
    (l21 : K.lookup f21 = some ⟨oc21, od21, .func (PySem.W.fnOf "_law_moor" "_law_moor" (defArgs (topS 58)) (defBody (topS 58)) (defScope (topS 58)) .none kV21 dc21 pm21 an21 cd21 ct21), sl21⟩)
    (c21 : PySem.W.codeIn K cd21 "_law_moor" = true)
    (k21 : PySem.W.keepIn K (.ref f21) = true)
    (a22 : PySem.W.nsIn K mainGlobals "_law_of" = some (some (.ref f22)))
    (l22 : K.lookup f22 = some ⟨oc22, od22, .func (PySem.W.fnOf "_law_of" "_law_of" (defArgs (topS 59)) (defBody (topS 59)) (defScope (topS 59)) .none kV22 dc22 pm22 an22 cd22 ct22), sl22⟩)
    (c22 : PySem.W.codeIn K cd22 "_law_of" = true)
    (k22 : PySem.W.keepIn K (.ref f22) = true)
    (a23 : PySem.W.nsIn K mainGlobals "_law_crossing" = some (some (.ref f23)))
    (l23 : K.lookup f23 = some ⟨oc23, od23, .func (PySem.W.fnOf "_law_crossing" "_law_crossing" (defArgs (topS 60)) (defBody (topS 60)) (defScope (topS 60)) .none kV23 dc23 pm23 an23 cd23 ct23), sl23⟩)
    (c23 : PySem.W.codeIn K cd23 "_law_crossing" = true)
    (k23 : PySem.W.keepIn K (.ref f23) = true)
    (a24 : PySem.W.nsIn K mainGlobals "_law_planted" = some (some (.ref f24)))
    (l24 : K.lookup f24 = some ⟨oc24, od24, .func (PySem.W.fnOf "_law_planted" "_law_planted" (defArgs (topS 61)) (defBody (topS 61)) (defScope (topS 61)) .none kV24 dc24 pm24 an24 cd24 ct24), sl24⟩)
    (c24 : PySem.W.codeIn K cd24 "_law_planted" = true)
    (k24 : PySem.W.keepIn K (.ref f24) = true)
    (a25 : PySem.W.nsIn K mainGlobals "_law_lone" = some (some (.ref f25)))
    (l25 : K.lookup f25 = some ⟨oc25, od25, .func (PySem.W.fnOf "_law_lone" "_law_lone" (defArgs (topS 62)) (defBody (topS 62)) (defScope (topS 62)) .none kV25 dc25 pm25 an25 cd25 ct25), sl25⟩)
    (c25 : PySem.W.codeIn K cd25 "_law_lone" = true)
    (k25 : PySem.W.keepIn K (.ref f25) = true)
    (a26 : PySem.W.nsIn K mainGlobals "_law_deeds" = some (some (.ref f26)))
    (l26 : K.lookup f26 = some ⟨oc26, od26, .func (PySem.W.fnOf "_law_deeds" "_law_deeds" (defArgs (topS 63)) (defBody (topS 63)) (defScope (topS 63)) .none kV26 dc26 pm26 an26 cd26 ct26), sl26⟩)
    (c26 : PySem.W.codeIn K cd26 "_law_deeds" = true)
    (k26 : PySem.W.keepIn K (.ref f26) = true)
    (a27 : PySem.W.nsIn K mainGlobals "_law_rings" = some (some (.ref f27)))
    (l27 : K.lookup f27 = some ⟨oc27, od27, .func (PySem.W.fnOf "_law_rings" "_law_rings" (defArgs (topS 64)) (defBody (topS 64)) (defScope (topS 64)) .none kV27 dc27 pm27 an27 cd27 ct27), sl27⟩)
    (c27 : PySem.W.codeIn K cd27 "_law_rings" = true)
    (k27 : PySem.W.keepIn K (.ref f27) = true)
    (a28 : PySem.W.nsIn K mainGlobals "_law_fits" = some (some (.ref f28)))
    (l28 : K.lookup f28 = some ⟨oc28, od28, .func (PySem.W.fnOf "_law_fits" "_law_fits" (defArgs (topS 65)) (defBody (topS 65)) (defScope (topS 65)) .none kV28 dc28 pm28 an28 cd28 ct28), sl28⟩)
    (c28 : PySem.W.codeIn K cd28 "_law_fits" = true)
    (k28 : PySem.W.keepIn K (.ref f28) = true)
    (a29 : PySem.W.nsIn K mainGlobals "_law_behind" = some (some (.ref f29)))
    (l29 : K.lookup f29 = some ⟨oc29, od29, .func (PySem.W.fnOf "_law_behind" "_law_behind" (defArgs (topS 66)) (defBody (topS 66)) (defScope (topS 66)) .none kV29 dc29 pm29 an29 cd29 ct29), sl29⟩)
    (c29 : PySem.W.codeIn K cd29 "_law_behind" = true)
    (k29 : PySem.W.keepIn K (.ref f29) = true)
    (a30 : PySem.W.nsIn K mainGlobals "law" = some (some (.ref f30)))
    (l30 : K.lookup f30 = some ⟨oc30, od30, .func (PySem.W.fnOf "law" "law" (defArgs (topS 67)) (defBody (topS 67)) (defScope (topS 67)) .none kV30 dc30 pm30 an30 cd30 ct30), sl30⟩)
    (c30 : PySem.W.codeIn K cd30 "law" = true)
    (k30 : PySem.W.keepIn K (.ref f30) = true)
    (aN : PySem.W.nsIn K mainGlobals "need_tangle" = some (some (.ref fN)))
    (lN : K.lookup fN = some ⟨ocN, odN, .func (PySem.W.fnOf "need_tangle" "need_tangle" (defArgs (topS 38)) (defBody (topS 38)) (defScope (topS 38)) (.ref pD) kVN dcN pmN anN cdN ctN), slN⟩)
    (cN : PySem.W.codeIn K cdN "need_tangle" = true)
    (kN : PySem.W.keepIn K (.ref fN) = true)
    (lD : K.lookup pD = some ⟨ocD, odD, .seq isD mD, slD⟩)
    (vD : Vals [.str "tangle"] isD.toList)
    (aC : PySem.W.nsIn K mainGlobals "Tangle" = some (some (.ref C)))
    (mk : PySem.W.makesIn K C = true)
    (kC : PySem.W.keepIn K (.ref C) = true)
    (pg : PySem.W.plainGet K C Str.empty = true)
    (hd : PySem.W.hasDictIn K C = true)
    (po : PySem.W.plainOver K C = true)
    (sa : PySem.W.findIn K (.ref C) "__setattr__" = some (some (.builtin "object.__setattr__")))
    (nE : PySem.W.findIn K (.ref C) "ends" = some none)
    (nD : PySem.W.findIn K (.ref C) "deeds" = some none)
    (fc : PySem.W.findIn K (.ref C) "__class__" = some (some (.builtin "object.__class__")))
    (sg : PySem.W.specialIn K (.builtin "object.__class__") "__get__" = some (some (.builtin "getset_descriptor.__get__")))
    (ti : PySem.W.takesIn K (.builtin "object.__class__") = some true)
    (mr : PySem.W.mroIn K C (.type "object") = some true)
    (ne : PySem.W.findIn K (.ref C) "__ne__" = some (some (.builtin "object.__ne__")))
    (so : PySem.W.subIn K (.ref C) (.type "object") = some true)
    (iin : PySem.W.findIn K (.ref C) "__init__" = some (some (.ref fin)))
    (lin : K.lookup fin = some ⟨ocin, odin, .func (PySem.W.fnOf "__init__" "Tangle.__init__" (defArgs sInit) (defBody sInit) (defScope sInit) .none kVin dcin pmin anin cdin ctin), slin⟩)
    (cin : PySem.W.codeIn K cdin "Tangle.__init__" = true)
    (kin : PySem.W.keepIn K (.ref fin) = true)
    (nin : PySem.W.isFn K (.ref fin) = true)
    (ieq : PySem.W.findIn K (.ref C) "__eq__" = some (some (.ref feq)))
    (leq : K.lookup feq = some ⟨oceq, odeq, .func (PySem.W.fnOf "__eq__" "Tangle.__eq__" (defArgs sEq) (defBody sEq) (defScope sEq) .none kVeq dceq pmeq aneq cdeq cteq), sleq⟩)
    (ceq : PySem.W.codeIn K cdeq "Tangle.__eq__" = true)
    (keq : PySem.W.keepIn K (.ref feq) = true)
    (neq : PySem.W.isFn K (.ref feq) = true)
    (z_isinstance : PySem.W.nsIn K mainGlobals "isinstance" = some none)
    (z_int : PySem.W.nsIn K mainGlobals "int" = some none)
    (z_bool : PySem.W.nsIn K mainGlobals "bool" = some none)
    (z_list : PySem.W.nsIn K mainGlobals "list" = some none)
    (z_tuple : PySem.W.nsIn K mainGlobals "tuple" = some none)
    (z_str : PySem.W.nsIn K mainGlobals "str" = some none)
    (z_len : PySem.W.nsIn K mainGlobals "len" = some none)
    (z_all : PySem.W.nsIn K mainGlobals "all" = some none)
    (z_max : PySem.W.nsIn K mainGlobals "max" = some none)
    (z_abs : PySem.W.nsIn K mainGlobals "abs" = some none)
    (z_repr : PySem.W.nsIn K mainGlobals "repr" = some none)
    (z_range : PySem.W.nsIn K mainGlobals "range" = some none)
    (z_enumerate : PySem.W.nsIn K mainGlobals "enumerate" = some none)
    (g_MOST_RIM : PySem.W.nsIn K mainGlobals "MOST_RIM" = some (some (.int 16 t_MOST_RIM)))
    (g_MOST_RING : PySem.W.nsIn K mainGlobals "MOST_RING" = some (some (.int 24 t_MOST_RING)))
    (g_MOST_DEEDS : PySem.W.nsIn K mainGlobals "MOST_DEEDS" = some (some (.int 4000 t_MOST_DEEDS)))
    (g_JOIN_tangles : PySem.W.nsIn K mainGlobals "JOIN_tangles" = some (some (.str "join" t_JOIN_tangles)))
    (g_OPEN_tangles : PySem.W.nsIn K mainGlobals "OPEN_tangles" = some (some (.str "open" t_OPEN_tangles)))
    (g_JOIN_moves : PySem.W.nsIn K mainGlobals "JOIN_moves" = some (some (.str "join" t_JOIN_moves)))
    (g_OPEN_moves : PySem.W.nsIn K mainGlobals "OPEN_moves" = some (some (.str "open" t_OPEN_moves)))
    (g_WORDS_tangles : PySem.W.nsIn K mainGlobals "WORDS_tangles" = some (some (.ref pTt)))
    (ltT : K.lookup pTt = some ⟨.type "tuple", odTt, .seq isTt nTt, slTt⟩)
    (szT : isTt.size ≤ sizeLine)
    (vtT : Vals (wAll.map fun w => .str (wS w)) isTt.toList)
    (g_CROSSINGS_moves : PySem.W.nsIn K mainGlobals "CROSSINGS_moves" = some (some (.ref pCt)))
    (ltC : K.lookup pCt = some ⟨.type "tuple", odCt, .seq isCt nCt, slCt⟩)
    (szC : isCt.size ≤ sizeLine)
    (vtC : Vals [.str (wS .ov), .str (wS .un)] isCt.toList)
    (g_WORDS_moves : PySem.W.nsIn K mainGlobals "WORDS_moves" = some (some (.ref pMt)))
    (ltM : K.lookup pMt = some ⟨.type "tuple", odMt, .seq isMt nMt, slMt⟩)
    (szM : isMt.size ≤ sizeLine)
    (vtM : Vals (mAll.map fun m => .str (mS m)) isMt.toList)
    : ∃ fd : FuncData, Fun K "law" "law" (topS 67) fa fd ∧ (∀ (s : Shared) (u : Value), BindsTo s fd ⟨[u], []⟩ [("_law_script", u)]) ∧ ∀ base : Heap, K.In base → base.Ns mainGlobals mg → LawBody l.prog w K mg base N67 "law" (topS 67) fa (spLaw K) := by
  have e := hfa.symm.trans (PySem.W.mg_of X G a30)
  cases e
  have T : Txt K mg pTt pCt pMt C := {
    b_isinstance := PySem.W.mg_none_of X G z_isinstance
    b_int := PySem.W.mg_none_of X G z_int
    b_bool := PySem.W.mg_none_of X G z_bool
    b_list := PySem.W.mg_none_of X G z_list
    b_tuple := PySem.W.mg_none_of X G z_tuple
    b_str := PySem.W.mg_none_of X G z_str
    b_len := PySem.W.mg_none_of X G z_len
    b_all := PySem.W.mg_none_of X G z_all
    b_max := PySem.W.mg_none_of X G z_max
    b_abs := PySem.W.mg_none_of X G z_abs
    b_repr := PySem.W.mg_none_of X G z_repr
    b_range := PySem.W.mg_none_of X G z_range
    b_enumerate := PySem.W.mg_none_of X G z_enumerate
    g_MOST_RIM := ⟨_, PySem.W.mg_of X G g_MOST_RIM, ⟨_, rfl⟩⟩
    g_MOST_RING := ⟨_, PySem.W.mg_of X G g_MOST_RING, ⟨_, rfl⟩⟩
    g_MOST_DEEDS := ⟨_, PySem.W.mg_of X G g_MOST_DEEDS, ⟨_, rfl⟩⟩
    g_JOIN_tangles := ⟨_, PySem.W.mg_of X G g_JOIN_tangles, ⟨_, rfl⟩⟩
    g_OPEN_tangles := ⟨_, PySem.W.mg_of X G g_OPEN_tangles, ⟨_, rfl⟩⟩
    g_JOIN_moves := ⟨_, PySem.W.mg_of X G g_JOIN_moves, ⟨_, rfl⟩⟩
    g_OPEN_moves := ⟨_, PySem.W.mg_of X G g_OPEN_moves, ⟨_, rfl⟩⟩
    g_WORDS_tangles := ⟨_, PySem.W.mg_of X G g_WORDS_tangles, rfl⟩
    t_T := ktup_mk ltT szT vtT
    g_CROSSINGS_moves := ⟨_, PySem.W.mg_of X G g_CROSSINGS_moves, rfl⟩
    t_C := ktup_mk ltC szC vtC
    g_WORDS_moves := ⟨_, PySem.W.mg_of X G g_WORDS_moves, rfl⟩
    t_M := ktup_mk ltM szM vtM
    g_Tangle := ⟨_, PySem.W.mg_of X G aC, rfl⟩
    cl := ⟨pg, hd, po, sa⟩
    nE := nE
    nD := nD
    aC := fc
    aG := sg
    aT := ti
    aM := mr
    kC := kitOne_self
    neC := ne
    sub := so }
  have M1 : MethAt K C "__init__" "Tangle.__init__" sInit psInit fin _ := ⟨fun_mk lin cin kin, iin, nin, (fun_mk lin cin kin).binds fun _ _ _ _ _ _ us hl => match us, hl with | [_, _, _], _ => rfl⟩
  have M2 : MethAt K C "__eq__" "Tangle.__eq__" sEq psEq feq _ := ⟨fun_mk leq ceq keq, ieq, neq, (fun_mk leq ceq keq).binds fun _ _ _ _ _ _ us hl => match us, hl with | [_, _], _ => rfl⟩
  have FN : FunD K "need_tangle" "need_tangle" (defArgs (topS 38)) (defBody (topS 38)) (defScope (topS 38)) [.str "tangle"] [] fN _ := ⟨⟨_, _, _, _, _, _, _, _, _, _, rfl, lN, cN, .inr ⟨(fun z => nomatch z), pD, _, isD.toList, mD, rfl, lD, by simp, vD⟩, .inl rfl⟩, kN⟩
  have D0 : DefAt K mg "is_integer" (topS 10) ["value"] := def_mk l0 c0 k0 (PySem.W.mg_of X G a0) fun _ _ _ _ _ _ us hl => match us, hl with | [_], _ => rfl
  have D1 : DefAt K mg "is_within" (topS 11) ["value", "least", "most"] := def_mk l1 c1 k1 (PySem.W.mg_of X G a1) fun _ _ _ _ _ _ us hl => match us, hl with | [_, _, _], _ => rfl
  have D2 : DefAt K mg "need_number" (topS 12) ["value", "part", "least", "most"] := def_mk l2 c2 k2 (PySem.W.mg_of X G a2) fun _ _ _ _ _ _ us hl => match us, hl with | [_, _, _, _], _ => rfl
  have D3 : DefAt K mg "is_deed" (topS 29) ["value"] := def_mk l3 c3 k3 (PySem.W.mg_of X G a3) fun _ _ _ _ _ _ us hl => match us, hl with | [_], _ => rfl
  have D4 : DefAt K mg "fits" (topS 30) ["ends", "word", "gap"] := def_mk l4 c4 k4 (PySem.W.mg_of X G a4) fun _ _ _ _ _ _ us hl => match us, hl with | [_, _, _], _ => rfl
  have D5 : DefAt K mg "ends_then" (topS 31) ["ends", "word"] := def_mk l5 c5 k5 (PySem.W.mg_of X G a5) fun _ _ _ _ _ _ us hl => match us, hl with | [_, _], _ => rfl
  have D6 : DefAt K mg "told_deeds" (topS 32) ["value"] := def_mk l6 c6 k6 (PySem.W.mg_of X G a6) fun _ _ _ _ _ _ us hl => match us, hl with | [_], _ => rfl
  have D7 : DefAt K mg "ends_behind" (topS 33) ["ends", "deeds"] := def_mk l7 c7 k7 (PySem.W.mg_of X G a7) fun _ _ _ _ _ _ us hl => match us, hl with | [_, _], _ => rfl
  have D8 : DefAt K mg "ends_ahead" (topS 44) ["tangle"] := def_mk l8 c8 k8 (PySem.W.mg_of X G a8) fun _ _ _ _ _ _ us hl => match us, hl with | [_], _ => rfl
  have D9 : DefAt K mg "are_crossings" (topS 45) ["deeds", "many"] := def_mk l9 c9 k9 (PySem.W.mg_of X G a9) fun _ _ _ _ _ _ us hl => match us, hl with | [_, _], _ => rfl
  have D10 : DefAt K mg "are_neighbours" (topS 46) ["one", "other", "ends"] := def_mk l10 c10 k10 (PySem.W.mg_of X G a10) fun _ _ _ _ _ _ us hl => match us, hl with | [_, _, _], _ => rfl
  have D11 : DefAt K mg "by_undo" (topS 47) ["deeds", "ends"] := def_mk l11 c11 k11 (PySem.W.mg_of X G a11) fun _ _ _ _ _ _ us hl => match us, hl with | [_, _], _ => rfl
  have D12 : DefAt K mg "by_far" (topS 48) ["deeds", "ends"] := def_mk l12 c12 k12 (PySem.W.mg_of X G a12) fun _ _ _ _ _ _ us hl => match us, hl with | [_, _], _ => rfl
  have D13 : DefAt K mg "by_three" (topS 49) ["deeds", "ends"] := def_mk l13 c13 k13 (PySem.W.mg_of X G a13) fun _ _ _ _ _ _ us hl => match us, hl with | [_, _], _ => rfl
  have D14 : DefAt K mg "by_curl" (topS 50) ["deeds", "ends"] := def_mk l14 c14 k14 (PySem.W.mg_of X G a14) fun _ _ _ _ _ _ us hl => match us, hl with | [_, _], _ => rfl
  have D15 : DefAt K mg "by_bend" (topS 51) ["deeds", "ends"] := def_mk l15 c15 k15 (PySem.W.mg_of X G a15) fun _ _ _ _ _ _ us hl => match us, hl with | [_, _], _ => rfl
  have D16 : DefAt K mg "behind_move" (topS 52) ["word", "deeds", "ends"] := def_mk l16 c16 k16 (PySem.W.mg_of X G a16) fun _ _ _ _ _ _ us hl => match us, hl with | [_, _, _], _ => rfl
  have D17 : DefAt K mg "move_words" (topS 53) [] := def_mk l17 c17 k17 (PySem.W.mg_of X G a17) fun _ _ _ _ _ _ us hl => match us, hl with | [], _ => rfl
  have D18 : DefAt K mg "moves_at" (topS 54) ["tangle", "at"] := def_mk l18 c18 k18 (PySem.W.mg_of X G a18) fun _ _ _ _ _ _ us hl => match us, hl with | [_, _], _ => rfl
  have D19 : DefAt K mg "moved" (topS 55) ["tangle", "at", "word"] := def_mk l19 c19 k19 (PySem.W.mg_of X G a19) fun _ _ _ _ _ _ us hl => match us, hl with | [_, _, _], _ => rfl
  have D20 : DefAt K mg "_law_dock" (topS 57) ["_law_script"] := def_mk l20 c20 k20 (PySem.W.mg_of X G a20) fun _ _ _ _ _ _ us hl => match us, hl with | [_], _ => rfl
  have D21 : DefAt K mg "_law_moor" (topS 58) ["_law_dock_here", "_law_many"] := def_mk l21 c21 k21 (PySem.W.mg_of X G a21) fun _ _ _ _ _ _ us hl => match us, hl with | [_, _], _ => rfl
  have D22 : DefAt K mg "_law_of" (topS 59) ["_law_dock_here", "_law_some"] := def_mk l22 c22 k22 (PySem.W.mg_of X G a22) fun _ _ _ _ _ _ us hl => match us, hl with | [_, _], _ => rfl
  have D23 : DefAt K mg "_law_crossing" (topS 60) ["_law_dock_here", "_law_gap"] := def_mk l23 c23 k23 (PySem.W.mg_of X G a23) fun _ _ _ _ _ _ us hl => match us, hl with | [_, _], _ => rfl
  have D24 : DefAt K mg "_law_planted" (topS 61) ["_law_dock_here", "_law_ring"] := def_mk l24 c24 k24 (PySem.W.mg_of X G a24) fun _ _ _ _ _ _ us hl => match us, hl with | [_, _], _ => rfl
  have D25 : DefAt K mg "_law_lone" (topS 62) ["_law_dock_here", "_law_ring"] := def_mk l25 c25 k25 (PySem.W.mg_of X G a25) fun _ _ _ _ _ _ us hl => match us, hl with | [_, _], _ => rfl
  have D26 : DefAt K mg "_law_deeds" (topS 63) ["_law_dock_here", "_law_ends", "_law_laps"] := def_mk l26 c26 k26 (PySem.W.mg_of X G a26) fun _ _ _ _ _ _ us hl => match us, hl with | [_, _, _], _ => rfl
  have D27 : DefAt K mg "_law_rings" (topS 64) ["_law_ends", "_law_deeds_here"] := def_mk l27 c27 k27 (PySem.W.mg_of X G a27) fun _ _ _ _ _ _ us hl => match us, hl with | [_, _], _ => rfl
  have D28 : DefAt K mg "_law_fits" (topS 65) ["_law_word", "_law_ring", "_law_some"] := def_mk l28 c28 k28 (PySem.W.mg_of X G a28) fun _ _ _ _ _ _ us hl => match us, hl with | [_, _, _], _ => rfl
  have D29 : DefAt K mg "_law_behind" (topS 66) ["_law_word", "_law_some"] := def_mk l29 c29 k29 (PySem.W.mg_of X G a29) fun _ _ _ _ _ _ us hl => match us, hl with | [_, _], _ => rfl
  refine ⟨_, fun_mk l30 c30 k30, fun s u => .of_eq rfl, fun base _ _ => ok_law T (calls_mk T M1 M2 mk kC (PySem.W.mg_of X G aC) FN (PySem.W.mg_of X G aN) D0 D1 D2 D3 D4 D5 D6 D7 D8 D9 D10 D11 D12 D13 D14 D15 D16 D17 D18 D19 D20 D21 D22 D23 D24 D25 D26 D27 D28 D29)⟩
/-- what k_head leaves, from the facts -/
theorem law_fin {l : PySem.W.OpenLaw} {q : Program} {loose : List Str} {XP : (Str → Option Value) → Heap → Prop} {YP : World → Heap → Prop} {d : DefRec} {K : Params → PySem.W.Frag} (hn : l.most = some 63) (hdf : d.params.defaults = [])
    (hY : ∀ (w : World) (h : Heap), YP w h → (K w.params).In h)
    (F : ∀ (w : World) (mg : Str → Option Value) (fa : Addr) (h : Heap), (K w.params).In h → h.Ns mainGlobals mg → mg d.name = some (.ref fa) →
      ∃ fd : FuncData, Fun (K w.params) "law" "law" (topS 67) fa fd ∧ (∀ (s : Shared) (u : Value), BindsTo s fd ⟨[u], []⟩ [("_law_script", u)]) ∧
        ∀ base : Heap, (K w.params).In base → base.Ns mainGlobals mg → LawBody l.prog w (K w.params) mg base N67 "law" (topS 67) fa (spLaw (K w.params))) :
    PySem.W.WalkO q loose XP YP l.row.toRowW d [] (fun f vs => PySem.call f vs) :=
  law_walk (K := K) (sp := fun p => spLaw (K p)) hn (by decide) hdf hY sc67 (fun p vs H Q E ⟨a, ns, h, _⟩ => by rw [h]; rfl) F (fun p H a ns hl hS => ⟨a, ns, rfl, hS, fun _ => rfl⟩)
end K38

open PySem PySem.W PyProof.Rows
set_option maxRecDepth 100000 in
set_option maxHeartbeats 0 in
theorem PySem.Challenge.cw_ropesays_k38_whole_which_moves_fit_holds : PySem.Challenge.rw_ropesays_k38_whole_which_moves_fit.Holds := by
  w_on; o_law; k_head; (case hw => w_witness2)
  k_fill
  refine K38.law_fin (l := PySem.Challenge.rw_ropesays_k38_whole_which_moves_fit) rfl rfl (fun w h Y => PySem.W.kIn_of Y) ?F
  case F =>
    intro w mg fa h KX G hmg
    refine' K38.all_mk KX G hmg ?a0 ?l0 ?c0 ?k0 ?a1 ?l1 ?c1 ?k1 ?a2 ?l2 ?c2 ?k2 ?a3 ?l3 ?c3 ?k3 ?a4 ?l4 ?c4 ?k4 ?a5 ?l5 ?c5 ?k5 ?a6 ?l6 ?c6 ?k6 ?a7 ?l7 ?c7 ?k7 ?a8 ?l8 ?c8 ?k8 ?a9 ?l9 ?c9 ?k9 ?a10 ?l10 ?c10 ?k10 ?a11 ?l11 ?c11 ?k11 ?a12 ?l12 ?c12 ?k12 ?a13 ?l13 ?c13 ?k13 ?a14 ?l14 ?c14 ?k14 ?a15 ?l15 ?c15 ?k15 ?a16 ?l16 ?c16 ?k16 ?a17 ?l17 ?c17 ?k17 ?a18 ?l18 ?c18 ?k18 ?a19 ?l19 ?c19 ?k19 ?a20 ?l20 ?c20 ?k20 ?a21 ?l21 ?c21 ?k21 ?a22 ?l22 ?c22 ?k22 ?a23 ?l23 ?c23 ?k23 ?a24 ?l24 ?c24 ?k24 ?a25 ?l25 ?c25 ?k25 ?a26 ?l26 ?c26 ?k26 ?a27 ?l27 ?c27 ?k27 ?a28 ?l28 ?c28 ?k28 ?a29 ?l29 ?c29 ?k29 ?a30 ?l30 ?c30 ?k30 ?aN ?lN ?cN ?kN ?lD ?vD ?aC ?mk ?kC ?pg ?hd ?po ?sa ?nE ?nD ?fc ?sg ?ti ?mr ?ne ?so ?iin ?lin ?cin ?kin ?nin ?ieq ?leq ?ceq ?keq ?neq ?z_isinstance ?z_int ?z_bool ?z_list ?z_tuple ?z_str ?z_len ?z_all ?z_max ?z_abs ?z_repr ?z_range ?z_enumerate ?g_MOST_RIM ?g_MOST_RING ?g_MOST_DEEDS ?g_JOIN_tangles ?g_OPEN_tangles ?g_JOIN_moves ?g_OPEN_moves ?g_WORDS_tangles ?ltT ?szT ?vtT ?g_CROSSINGS_moves ?ltC ?szC ?vtC ?g_WORDS_moves ?ltM ?szM ?vtM
    (case a0 => k_is)
    (case l0 => k_is)
    (case c0 => k_is)
    (case k0 => k_is)
    (case a1 => k_is)
    (case l1 => k_is)
    (case c1 => k_is)
    (case k1 => k_is)
    (case a2 => k_is)
    (case l2 => k_is)
    (case c2 => k_is)
    (case k2 => k_is)
    (case a3 => k_is)
    (case l3 => k_is)
    (case c3 => k_is)
    (case k3 => k_is)
    (case a4 => k_is)
    (case l4 => k_is)
    (case c4 => k_is)
    (case k4 => k_is)
    (case a5 => k_is)
    (case l5 => k_is)
    (case c5 => k_is)
    (case k5 => k_is)
    (case a6 => k_is)
    (case l6 => k_is)
    (case c6 => k_is)
    (case k6 => k_is)
    (case a7 => k_is)
    (case l7 => k_is)
    (case c7 => k_is)
    (case k7 => k_is)
    (case a8 => k_is)
    (case l8 => k_is)
    (case c8 => k_is)
    (case k8 => k_is)
    (case a9 => k_is)
    (case l9 => k_is)
    (case c9 => k_is)
    (case k9 => k_is)
    (case a10 => k_is)
    (case l10 => k_is)
    (case c10 => k_is)
    (case k10 => k_is)
    (case a11 => k_is)
    (case l11 => k_is)
    (case c11 => k_is)
    (case k11 => k_is)
    (case a12 => k_is)
    (case l12 => k_is)
    (case c12 => k_is)
    (case k12 => k_is)
    (case a13 => k_is)
    (case l13 => k_is)
    (case c13 => k_is)
    (case k13 => k_is)
    (case a14 => k_is)
    (case l14 => k_is)
    (case c14 => k_is)
    (case k14 => k_is)
    (case a15 => k_is)
    (case l15 => k_is)
    (case c15 => k_is)
    (case k15 => k_is)
    (case a16 => k_is)
    (case l16 => k_is)
    (case c16 => k_is)
    (case k16 => k_is)
    (case a17 => k_is)
    (case l17 => k_is)
    (case c17 => k_is)
    (case k17 => k_is)
    (case a18 => k_is)
    (case l18 => k_is)
    (case c18 => k_is)
    (case k18 => k_is)
    (case a19 => k_is)
    (case l19 => k_is)
    (case c19 => k_is)
    (case k19 => k_is)
    (case a20 => k_is)
    (case l20 => k_is)
    (case c20 => k_is)
    (case k20 => k_is)
    (case a21 => k_is)
    (case l21 => k_is)
    (case c21 => k_is)
    (case k21 => k_is)
    (case a22 => k_is)
    (case l22 => k_is)
    (case c22 => k_is)
    (case k22 => k_is)
    (case a23 => k_is)
    (case l23 => k_is)
    (case c23 => k_is)
    (case k23 => k_is)
    (case a24 => k_is)
    (case l24 => k_is)
    (case c24 => k_is)
    (case k24 => k_is)
    (case a25 => k_is)
    (case l25 => k_is)
    (case c25 => k_is)
    (case k25 => k_is)
    (case a26 => k_is)
    (case l26 => k_is)
    (case c26 => k_is)
    (case k26 => k_is)
    (case a27 => k_is)
    (case l27 => k_is)
    (case c27 => k_is)
    (case k27 => k_is)
    (case a28 => k_is)
    (case l28 => k_is)
    (case c28 => k_is)
    (case k28 => k_is)
    (case a29 => k_is)
    (case l29 => k_is)
    (case c29 => k_is)
    (case k29 => k_is)
    (case a30 => k_is)
    (case l30 => k_is)
    (case c30 => k_is)
    (case k30 => k_is)
    (case aN => k_is)
    (case lN => k_is)
    (case cN => k_is)
    (case kN => k_is)
    (case lD => k_is)
    (case vD => exact (.cons ⟨_, rfl⟩ .nil))
    (case aC => k_is)
    (case mk => k_is)
    (case kC => k_is)
    (case pg => k_is)
    (case hd => k_is)
    (case po => k_is)
    (case sa => k_is)
    (case nE => k_is)
    (case nD => k_is)
    (case fc => k_is)
    (case sg => k_is)
    (case ti => k_is)
    (case mr => k_is)
    (case ne => k_is)
    (case so => k_is)
    (case iin => k_is)
    (case lin => k_is)
    (case cin => k_is)
    (case kin => k_is)
    (case nin => k_is)
    (case ieq => k_is)
    (case leq => k_is)
    (case ceq => k_is)
    (case keq => k_is)
    (case neq => k_is)
    (case z_isinstance => k_is)
    (case z_int => k_is)
    (case z_bool => k_is)
    (case z_list => k_is)
    (case z_tuple => k_is)
    (case z_str => k_is)
    (case z_len => k_is)
    (case z_all => k_is)
    (case z_max => k_is)
    (case z_abs => k_is)
    (case z_repr => k_is)
    (case z_range => k_is)
    (case z_enumerate => k_is)
    (case g_MOST_RIM => k_is)
    (case g_MOST_RING => k_is)
    (case g_MOST_DEEDS => k_is)
    (case g_JOIN_tangles => k_is)
    (case g_OPEN_tangles => k_is)
    (case g_JOIN_moves => k_is)
    (case g_OPEN_moves => k_is)
    (case g_WORDS_tangles => k_is)
    (case ltT => k_is)
    (case szT => decide)
    (case vtT => exact (.cons ⟨_, rfl⟩ (.cons ⟨_, rfl⟩ (.cons ⟨_, rfl⟩ (.cons ⟨_, rfl⟩ (.cons ⟨_, rfl⟩ .nil))))))
    (case g_CROSSINGS_moves => k_is)
    (case ltC => k_is)
    (case szC => decide)
    (case vtC => exact (.cons ⟨_, rfl⟩ (.cons ⟨_, rfl⟩ .nil)))
    (case g_WORDS_moves => k_is)
    (case ltM => k_is)
    (case szM => decide)
    (case vtM => exact (.cons ⟨_, rfl⟩ (.cons ⟨_, rfl⟩ (.cons ⟨_, rfl⟩ (.cons ⟨_, rfl⟩ (.cons ⟨_, rfl⟩ .nil))))))
