import PyProof.Rows.All
import HandS.ForMost
import HandS.Deep
import HandS.TupAny
import HandS.Conv
import HandS.Star
import HandS.IsInst
import HandS.Codes
import HandS.HeadHook1
import HandS.HeadHook2
import HandS.Slots
import HandS.SlotsOwn
import HandS.ExcOwn
import KE.GoesMore
import KE.GoesEnum
import HandS.DictComp
import KE.DataMinMax
import PyProof.Rows.RowBridgeK
import OpenK.KOps
import KE.KDictDisplayH
import PyProof.ListStr
import HandS.Lambda
import HandS.Nested
import HandS.ExcIs
import HandS.Style
import HandS.HeadHook3
import HandS.HeadHook4
import HandS.HeadNt
import HandS.HeadEnd
import HandS.Head0
import HandS.Head1
import HandS.Head2
import HandS.Ends
import HandS.EndTab
import HandS.HeadWalk
import PySem.Challenge.RW_sawnsheets_k07_whole_fewest_cuts_from_th
set_option Elab.async false
set_option linter.all false
set_option maxRecDepth 100000
/-! Plain mirrors of the program and of the law, no program in sight. -/
namespace Sw
/-! ### cells, patterns -/
def sidesAt (w n c : Nat) : List (Nat × Nat) :=
  (if c - c / w * w < w - 1 then [(c, c + 1)] else []) ++ (if c + w < n then [(c, c + w)] else [])
def sides (w h : Nat) : List (Nat × Nat) := (List.range (w * h)).flatMap (sidesAt w (w * h))
/-- the neighbours of a cell with a like mark, in the order in which the program lists them -/
def nearOf (marks : List Nat) (ss : List (Nat × Nat)) (c : Nat) : List Nat :=
  ss.flatMap fun p => if marks.getD p.1 0 = marks.getD p.2 0 then (if c = p.1 then [p.2] else []) ++ (if c = p.2 then [p.1] else []) else []
def lookN (f : List (Nat × Nat)) (c : Nat) : Option Nat := (f.find? fun p => decide (p.1 = c)).map (·.2)
def dfs (nr : Nat → List Nat) (cnt : Nat) : Nat → List (Nat × Nat) → List Nat → Option (List (Nat × Nat))
  | 0, f, ws => if ws = [] then some f else none
  | k + 1, f, ws => if ws = [] then none else
      (if (lookN f (ws.getLastD 0)).isSome then dfs nr cnt k f ws.dropLast else dfs nr cnt k (f ++ [(ws.getLastD 0, cnt)]) (ws.dropLast ++ nr (ws.getLastD 0)))
/-- the walk from one cell: some number of turns below the fuel ends it -/
def dfsAny (nr : Nat → List Nat) (cnt : Nat) (f : List (Nat × Nat)) (ws : List Nat) : Nat → Option (List (Nat × Nat))
  | 0 => dfs nr cnt 0 f ws
  | k + 1 => match dfs nr cnt (k + 1) f ws with
    | some r => some r
    | none => dfsAny nr cnt f ws k
def partStep (nr : Nat → List Nat) (st : Option (List (Nat × Nat) × Nat)) (c : Nat) : Option (List (Nat × Nat) × Nat) :=
  match st with
  | none => none
  | some (f, cnt) => if (lookN f c).isSome then some (f, cnt) else
    match dfsAny nr cnt f [c] 40 with
    | some f' => some (f', cnt + 1)
    | none => none
def partAll (nr : Nat → List Nat) (n : Nat) : Option (List (Nat × Nat) × Nat) := (List.range n).foldl (partStep nr) (some ([], 0))
def allSome {α : Type} : List (Option α) → Option (List α)
  | [] => some []
  | none :: _ => none
  | some x :: r => match allSome r with
    | some l => some (x :: l)
    | none => none
def parted (w h : Nat) (marks : List Nat) : Option (List Nat) :=
  match partAll (nearOf marks (sides w h)) (w * h) with
  | some (f, _) => allSome ((List.range (w * h)).map (lookN f))
  | none => none
def marksStep (rows : List (List Nat × Nat)) : List (List Nat × Nat) := rows.flatMap fun r => (List.range (r.2 + 1)).map fun p => (r.1 ++ [p], max r.2 (p + 1))
def iter {α : Type} (f : α → α) : Nat → α → α
  | 0, x => x
  | n + 1, x => f (iter f n x)
def marksRows (n : Nat) : List (List Nat × Nat) := iter marksStep n [([], 0)]
def allMarks (n : Nat) : List (List Nat) := (marksRows n).map (·.1)
def patterns (w h : Nat) : List (List Nat) := (allMarks (w * h)).filter fun r => decide (parted w h r = some r)
def top (pat : List Nat) : Nat := pat.foldl max 0
def cellsOf (pat : List Nat) (p : Nat) : List Nat := (List.range pat.length).filter fun c => decide (pat.getD c 0 = p)
def piecesOf (pat : List Nat) : List (List Nat) := (List.range (top pat + 1)).map (cellsOf pat)
def lenOf (w h : Nat) (pat : List Nat) : Nat := ((sides w h).filter fun p => !decide (pat.getD p.1 0 = pat.getD p.2 0)).length
/-! ### the law's own -/
def near (w a b : Nat) : Bool := if a / w = b / w then decide (a = b + 1) || decide (b = a + 1) else decide (a = b + w) || decide (b = a + w)
/-- the law's three loops in one another -/
def lpIn (w : Nat) (marks : List Nat) (cnt a : Nat) (f : List (Option Nat)) (b : Nat) : List (Option Nat) :=
  if f.getD a none = some cnt ∧ marks.getD a 0 = marks.getD b 0 ∧ near w a b = true then f.set b (some cnt) else f
def lpMid (w : Nat) (marks : List Nat) (cnt n : Nat) (f : List (Option Nat)) (a : Nat) : List (Option Nat) := (List.range n).foldl (lpIn w marks cnt a) f
def lpTurn (w : Nat) (marks : List Nat) (cnt n : Nat) (f : List (Option Nat)) (_ : Nat) : List (Option Nat) := (List.range n).foldl (lpMid w marks cnt n) f
def lpCell (w : Nat) (marks : List Nat) (n : Nat) (st : List (Option Nat) × Nat) (c : Nat) : List (Option Nat) × Nat :=
  if st.1.getD c none = none then ((List.range n).foldl (lpTurn w marks st.2 n) (st.1.set c (some st.2)), st.2 + 1) else st
def lawPart (w h : Nat) (marks : List Nat) : List (Option Nat) := ((List.range (w * h)).foldl (lpCell w marks (w * h)) (List.replicate (w * h) none, 0)).1
def lawPatterns (w h : Nat) : List (List Nat) := (allMarks (w * h)).filter fun r => decide (lawPart w h r = r.map some)
def lawLong (w : Nat) (pat : List Nat) : Nat :=
  ((List.range pat.length).map fun a => ((List.range a).filter fun b => near w a b && !decide (pat.getD a 0 = pat.getD b 0)).length).sum
/-! ### the eight sizes -/
def shapes : List (Nat × Nat) := [(1, 1), (1, 2), (1, 3), (1, 4), (2, 1), (2, 2), (3, 1), (4, 1)]
theorem shapes_part : ∀ s ∈ shapes, ∀ r ∈ allMarks (s.1 * s.2), (parted s.1 s.2 r).isSome = true := by decide +kernel
theorem shapes_law : ∀ s ∈ shapes, lawPatterns s.1 s.2 = patterns s.1 s.2 := by decide +kernel
theorem shapes_long : ∀ s ∈ shapes, ∀ p ∈ patterns s.1 s.2, lawLong s.1 p = lenOf s.1 s.2 p := by decide +kernel
theorem shapes_len : ∀ s ∈ shapes, ∀ r ∈ allMarks (s.1 * s.2), r.length = s.1 * s.2 ∧ top r ≤ 3 := by decide +kernel
theorem shapes_many : ∀ s ∈ shapes, (patterns s.1 s.2).length ≤ 15 := by decide +kernel
theorem shapes_whole : ∀ s ∈ shapes, List.replicate (s.1 * s.2) 0 ∈ patterns s.1 s.2 ∧ lenOf s.1 s.2 (List.replicate (s.1 * s.2) 0) = 0 := by decide +kernel
theorem shapes_full : ∀ s ∈ shapes, ∀ p ∈ patterns s.1 s.2, (∀ c ∈ p, c ≤ top p) ∧ p ≠ [] := by decide +kernel
end Sw
set_option Elab.async false
set_option linter.all false
set_option maxRecDepth 100000
set_option maxHeartbeats 1000000
/-! What a reading evaluates to, told by a description of the value over the known part of the heap; the heap is only extended. -/
namespace Sw
open PySem PySem.Spec PyProof.Rows L2
/-! ### the known part of a heap: all but the objects that may change -/
abbrev Bs := Addr → Bool
def hd (B : Bs) (H : Hp) : Hp := fun a => if B a = true then none else H a
/-- what may change is there, and no tuple -/
def Dom (B : Bs) (H : Hp) : Prop := ∀ a, B a = true → H a ≠ none ∧ ∀ xs, H a ≠ some (.tup xs)
def Bs.add (B : Bs) (p : Addr) : Bs := fun a => B a || decide (a = p)
def no : Bs := fun _ => false
theorem hd_no (H : Hp) : hd no H = H := rfl
theorem hd_in {B : Bs} {H : Hp} {a : Addr} {o : HO} (h : hd B H a = some o) : H a = some o ∧ B a = false := by
  unfold hd at h
  cases e : B a with
  | true =>
    rw [e, if_pos rfl] at h
    cases h
  | false =>
    rw [e, if_neg Bool.false_ne_true] at h
    exact ⟨h, rfl⟩
theorem hd_of {B : Bs} {H : Hp} {a : Addr} {o : HO} (h : H a = some o) (e : B a = false) : hd B H a = some o := by
  unfold hd
  rw [e, if_neg Bool.false_ne_true]
  exact h
theorem hd_all {B : Bs} {H : Hp} : Same (hd B H) H := fun _ _ h => (hd_in h).1
theorem hd_same {B : Bs} {H H' : Hp} (e : Same H H') : Same (hd B H) (hd B H') := fun a o h => hd_of (e _ _ (hd_in h).1) (hd_in h).2
theorem Dom.same {B : Bs} {H H' : Hp} (d : Dom B H) (e : Same H H') : Dom B H' := fun a h => by
  obtain ⟨h1, h2⟩ := d a h
  cases q : H a with
  | none => exact absurd q h1
  | some o =>
    rw [e a o q, ← q]
    exact ⟨h1, h2⟩
theorem Dom.fresh {B : Bs} {H : Hp} {p : Addr} (d : Dom B H) (h : H p = none) : B p = false := by
  cases q : B p with
  | false => rfl
  | true => exact absurd h (d p q).1
theorem Dom.tup {B : Bs} {H : Hp} {p : Addr} {xs : List V} (d : Dom B H) (h : H p = some (.tup xs)) : B p = false := by
  cases q : B p with
  | false => rfl
  | true => exact absurd h ((d p q).2 xs)
theorem same_upd {H : Hp} {p : Addr} {o : HO} (h : H p = none) : Same H (upd H p o) := fun b x e => by
  rw [upd_ne (ne_of_none e h)]
  exact e
theorem Dom.no {H : Hp} : Dom no H := fun _ h => by cases h
theorem add_self (B : Bs) (p : Addr) : B.add p p = true := by simp [Bs.add]
theorem add_ne {B : Bs} {p a : Addr} (h : a ≠ p) : B.add p a = B a := by simp [Bs.add, h]
theorem Dom.add {B : Bs} {H : Hp} {p : Addr} {o : HO} (d : Dom B H) (h : H p = some o) (ho : ∀ xs, o ≠ .tup xs) : Dom (B.add p) H := fun a q => by
  by_cases e : a = p
  · subst e
    rw [h]
    exact ⟨fun z => (nomatch z), fun xs z => ho xs (Option.some.inj z)⟩
  · rw [add_ne e] at q
    exact d a q
/-- a store to a hidden object -/
theorem hd_upd {B : Bs} {H : Hp} {p : Addr} {o : HO} (h : B p = true) : hd B (upd H p o) = hd B H := by
  funext a
  unfold hd
  by_cases e : a = p
  · subst e
    rw [h, if_pos rfl, if_pos rfl]
  · rw [upd_ne e]
/-- one more is hidden, none of the known -/
theorem hd_add {B : Bs} {H H' : Hp} {p : Addr} (s : Same H (hd B H')) (h : H p = none) : Same H (hd (B.add p) H') := fun a o q => by
  have e : a ≠ p := ne_of_none q h
  obtain ⟨h1, h2⟩ := hd_in (s _ _ q)
  exact hd_of h1 ((add_ne e).trans h2)
theorem hd_less {B : Bs} {H : Hp} {p : Addr} : Same (hd (B.add p) H) (hd B H) := fun a o q => by
  obtain ⟨h1, h2⟩ := hd_in q
  refine hd_of h1 ?_
  have e : a ≠ p := fun e => by
    subst e
    rw [add_self] at h2
    cases h2
  rw [← add_ne (B := B) e]
  exact h2
/-! ### descriptions -/
/-- a description of a value, kept by a growing heap -/
structure Rp where
  at_ : Hp → V → Prop
  mono : ∀ {H H' : Hp} {v : V}, Same H H' → at_ H v → at_ H' v
abbrev Al (H : Hp) (rs : List Rp) (vs : List V) : Prop := Paired (fun (r : Rp) v => r.at_ H v) rs vs
theorem Al.mono {H H' : Hp} (e : Same H H') {rs : List Rp} {vs : List V} (h : Al H rs vs) : Al H' rs vs := Paired.mono (fun r _ x => r.mono e x) h
theorem Al.get {H : Hp} : ∀ {rs : List Rp} {vs : List V} {i : Nat} {r : Rp}, Al H rs vs → rs[i]? = some r → ∃ v, vs[i]? = some v ∧ r.at_ H v
  | _, _, i, _, .nil, e => by simp at e
  | _, _, 0, _, .cons h _, e => by
    have q := Option.some.inj e
    subst q
    exact ⟨_, rfl, h⟩
  | _, _, i + 1, r, .cons _ t, e => by
    obtain ⟨v, h1, h2⟩ := Al.get (i := i) (r := r) t (by simpa using e)
    exact ⟨v, by simpa using h1, h2⟩
theorem Al.back {H : Hp} : ∀ {rs : List Rp} {vs : List V} {i : Nat} {v : V}, Al H rs vs → vs[i]? = some v → ∃ r, rs[i]? = some r ∧ r.at_ H v
  | _, _, i, _, .nil, e => by simp at e
  | _, _, 0, _, .cons h _, e => by
    have q := Option.some.inj e
    subst q
    exact ⟨_, rfl, h⟩
  | _, _, i + 1, v, .cons _ t, e => by
    obtain ⟨r, h1, h2⟩ := Al.back (i := i) (v := v) t (by simpa using e)
    exact ⟨r, by simpa using h1, h2⟩
theorem Al.len {H : Hp} {rs : List Rp} {vs : List V} (h : Al H rs vs) : vs.length = rs.length := (Paired.length h).symm
theorem Al.app {H : Hp} : ∀ {rs rs' : List Rp} {vs vs' : List V}, Al H rs vs → Al H rs' vs' → Al H (rs ++ rs') (vs ++ vs')
  | _, _, _, _, .nil, k => k
  | _, _, _, _, .cons h t, k => .cons h (Al.app t k)
theorem Al.one {H : Hp} {r : Rp} {vs : List V} (h : Al H [r] vs) : ∃ v, vs = [v] ∧ r.at_ H v := by
  cases h with
  | cons h t => cases t; exact ⟨_, rfl, h⟩
theorem Al.two {H : Hp} {r q : Rp} {vs : List V} (h : Al H [r, q] vs) : ∃ v u, vs = [v, u] ∧ r.at_ H v ∧ q.at_ H u := by
  cases h with
  | cons h t =>
    obtain ⟨u, e, k⟩ := Al.one t
    subst e
    exact ⟨_, _, rfl, h, k⟩
theorem Al.three {H : Hp} {r q p : Rp} {vs : List V} (h : Al H [r, q, p] vs) : ∃ v u x, vs = [v, u, x] ∧ r.at_ H v ∧ q.at_ H u ∧ p.at_ H x := by
  cases h with
  | cons h t =>
    obtain ⟨u, x, e, k, l⟩ := Al.two t
    subst e
    exact ⟨_, _, _, rfl, h, k, l⟩
theorem Al.four {H : Hp} {r q p o : Rp} {vs : List V} (h : Al H [r, q, p, o] vs) : ∃ v u x y, vs = [v, u, x, y] ∧ r.at_ H v ∧ q.at_ H u ∧ p.at_ H x ∧ o.at_ H y := by
  cases h with
  | cons h t =>
    obtain ⟨u, x, y, e, k, l, m⟩ := Al.three t
    subst e
    exact ⟨_, _, _, _, rfl, h, k, l, m⟩
def RI (n : Int) : Rp := ⟨fun _ v => v = .int n, fun _ h => h⟩
abbrev RN (n : Nat) : Rp := RI (n : Int)
def RB (b : Bool) : Rp := ⟨fun _ v => v = .bl b, fun _ h => h⟩
def RO : Rp := ⟨fun _ v => v = .non, fun _ h => h⟩
abbrev tx (l : List Nat) : Str := ⟨l.toArray⟩
def RS (l : List Nat) : Rp := ⟨fun _ v => v = .str (tx l), fun _ h => h⟩
def RT (rs : List Rp) : Rp := ⟨fun H v => ∃ a vs, v = .ref a ∧ H a = some (.tup vs) ∧ Al H rs vs, fun e ⟨a, vs, x, y, z⟩ => ⟨a, vs, x, e _ _ y, z.mono e⟩⟩
def RL (rs : List Rp) : Rp := ⟨fun H v => ∃ a vs, v = .ref a ∧ H a = some (.lst vs) ∧ Al H rs vs, fun e ⟨a, vs, x, y, z⟩ => ⟨a, vs, x, e _ _ y, z.mono e⟩⟩
abbrev vN (n : Nat) : V := V.int (n : Int)
abbrev vS (l : List Nat) : V := V.str (tx l)
/-- a tuple of numbers, a tuple of texts -/
abbrev RP (p : List Nat) : Rp := RT (p.map RN)
abbrev RSh (ss : List (List Nat)) : Rp := RT (ss.map RS)
theorem al_nat {H : Hp} : ∀ {p : List Nat} {vs : List V}, Al H (p.map RN) vs → vs = p.map vN
  | [], _, .nil => rfl
  | n :: r, _, .cons h t => by
    have e : _ = vN n := h
    rw [e, al_nat (p := r) t]
    rfl
theorem al_str {H : Hp} : ∀ {p : List (List Nat)} {vs : List V}, Al H (p.map RS) vs → vs = p.map vS
  | [], _, .nil => rfl
  | n :: r, _, .cons h t => by
    have e : _ = vS n := h
    rw [e, al_str (p := r) t]
    rfl
theorem nat_al {H : Hp} : ∀ p : List Nat, Al H (p.map RN) (p.map vN)
  | [] => .nil
  | _ :: r => .cons rfl (nat_al r)
theorem str_al {H : Hp} : ∀ p : List (List Nat), Al H (p.map RS) (p.map vS)
  | [] => .nil
  | _ :: r => .cons rfl (str_al r)
theorem rp_at {H : Hp} {p : List Nat} {v : V} (h : (RP p).at_ H v) : ∃ a, v = .ref a ∧ H a = some (.tup (p.map vN)) := by
  obtain ⟨a, vs, e, ha, hv⟩ := h
  rw [al_nat hv] at ha
  exact ⟨a, e, ha⟩
theorem rsh_at {H : Hp} {p : List (List Nat)} {v : V} (h : (RSh p).at_ H v) : ∃ a, v = .ref a ∧ H a = some (.tup (p.map vS)) := by
  obtain ⟨a, vs, e, ha, hv⟩ := h
  rw [al_str hv] at ha
  exact ⟨a, e, ha⟩
/-! ### evaluation -/
def Ret (B : Bs) (r : Rp) (H : Hp) (Q : VK) : Prop := ∀ v H2, Same H H2 → r.at_ (hd B H2) v → Q v H2
theorem Ret.go {B : Bs} {r : Rp} {H H' : Hp} {Q : VK} (k : Ret B r H Q) (e : Same H H') : Ret B r H' Q := fun v H2 e2 h => k v H2 (e.trans e2) h
def Ev (te : TE) (σ : L2.St) (H : Hp) (r : Rp) : Prop := ∀ B H1, Same H (hd B H1) → Dom B H1 → ∀ Q : VK, Ret B r H1 Q → te σ H1 Q
def EvT (tt : TT) (σ : L2.St) (H : Hp) (b : Bool) : Prop := ∀ B H1, Same H (hd B H1) → Dom B H1 → ∀ Q : Bool → Hp → Prop, (∀ H2, Same H1 H2 → Q b H2) → tt σ H1 Q
def EvA (ta : TA) (σ : L2.St) (H : Hp) (rs : List Rp) : Prop := ∀ B H1, Same H (hd B H1) → Dom B H1 → ∀ Q : List V → Hp → Prop, (∀ vs H2, Same H1 H2 → Al (hd B H2) rs vs → Q vs H2) → ta σ H1 Q
section
variable {K : PySem.W.Frag} {σ : L2.St} {H H' : Hp} {ta tb te : TE} {t u : TT} {r ra rb rc : Rp} {v : V} {i j : Int} {D : Ends} {B : Bs}
theorem Ev.up (h : Ev te σ H r) (e : Same H H') : Ev te σ H' r := fun B H1 a d Q q => h B H1 (e.trans a) d Q q
theorem EvT.up {b : Bool} (h : EvT t σ H b) (e : Same H H') : EvT t σ H' b := fun B H1 a d Q q => h B H1 (e.trans a) d Q q
theorem EvA.up {ta : TA} {rs : List Rp} (h : EvA ta σ H rs) (e : Same H H') : EvA ta σ H' rs := fun B H1 a d Q q => h B H1 (e.trans a) d Q q
theorem ev_var {k : Nat} (h : σ[k]? = some (some v)) (hr : r.at_ H v) : Ev (tVar k) σ H r := fun B H1 e _ _ q => ⟨v, h, q v H1 (Same.refl H1) (r.mono e hr)⟩
theorem ev_c (hr : r.at_ H v) : Ev (tC v) σ H r := fun B H1 e _ _ q => q v H1 (Same.refl H1) (r.mono e hr)
theorem ev_op {f : R2} (ha : Ev ta σ H ra) (hb : Ev tb σ H rb) (hf : ∀ B H1 x y, Same H (hd B H1) → Dom B H1 → ra.at_ (hd B H1) x → rb.at_ (hd B H1) y → ∀ Q : VK, Ret B rc H1 Q → f x y H1 Q) : Ev (tOp f ta tb) σ H rc := fun B H1 e d Q q =>
  ha B H1 e d _ fun x H2 e2 hx => hb B H2 (e.trans (hd_same e2)) (d.same e2) _ fun y H3 e3 hy => hf B H3 x y ((e.trans (hd_same e2)).trans (hd_same e3)) ((d.same e2).same e3) (ra.mono (hd_same e3) hx) hy Q (q.go (e2.trans e3))
theorem ev_I0 {g : Int → Int → V} (ha : Ev ta σ H (RI i)) (hb : Ev tb σ H (RI j)) (hg : rc.at_ H (g i j)) : Ev (tOp (rI0 g) ta tb) σ H rc :=
  ev_op ha hb fun B H1 _ _ e _ hx hy _ q => ⟨i, j, hx, hy, q _ H1 (Same.refl H1) (rc.mono e hg)⟩
theorem ev_I {C : Int → Int → Prop} {g : Int → Int → V} (ha : Ev ta σ H (RI i)) (hb : Ev tb σ H (RI j)) (hC : C i j) (hg : rc.at_ H (g i j)) : Ev (tOp (rI C g) ta tb) σ H rc :=
  ev_op ha hb fun B H1 _ _ e _ hx hy _ q => ⟨i, j, hx, hy, hC, q _ H1 (Same.refl H1) (rc.mono e hg)⟩
theorem ev_add (ha : Ev ta σ H (RI i)) (hb : Ev tb σ H (RI j)) : Ev (tOp (rI0 fun i j => .int (i + j)) ta tb) σ H (RI (i + j)) := ev_I0 ha hb rfl
theorem ev_sub (ha : Ev ta σ H (RI i)) (hb : Ev tb σ H (RI j)) : Ev (tOp (rI0 fun i j => .int (i - j)) ta tb) σ H (RI (i - j)) := ev_I0 ha hb rfl
theorem ev_int {k : Int} : Ev (tC (.int k)) σ H (RI k) := ev_c rfl
theorem ev_is (h : Ev te σ H ra) (e : ra = rb) : Ev te σ H rb := e ▸ h
theorem ev_if {b : Bool} (h : EvT t σ H b) (h1 : b = true → Ev ta σ H r) (h2 : b = false → Ev tb σ H r) : Ev (tIf t ta tb) σ H r := fun B H1 e d Q q => h B H1 e d _ fun H2 e2 => by
  cases b with
  | true =>
    show ta σ H2 Q
    exact h1 rfl B H2 (e.trans (hd_same e2)) (d.same e2) Q (q.go e2)
  | false =>
    show tb σ H2 Q
    exact h2 rfl B H2 (e.trans (hd_same e2)) (d.same e2) Q (q.go e2)
theorem et_test {b : Bool} (h : Ev te σ H (RB b)) : EvT (tTest te) σ H b := fun B H1 e d _ q => h B H1 e d _ fun v H2 e2 hv => ⟨b, hv, q H2 e2⟩
theorem et_B {b : Bool} (h : Ev te σ H (RB b)) : EvT (tB te) σ H b := fun B H1 e d _ q => h B H1 e d _ fun v H2 e2 hv => ⟨b, hv, q H2 e2⟩
theorem et_and {a b : Bool} (h1 : EvT t σ H a) (h2 : a = true → EvT u σ H b) : EvT (tAnd t u) σ H (a && b) := fun B H1 e d Q q => h1 B H1 e d _ fun H2 e2 => by
  cases a with
  | true =>
    show u σ H2 Q
    exact h2 rfl B H2 (e.trans (hd_same e2)) (d.same e2) Q fun H3 e3 => q H3 (e2.trans e3)
  | false =>
    show Q false H2
    exact q H2 e2
theorem et_or {a b : Bool} (h1 : EvT t σ H a) (h2 : a = false → EvT u σ H b) : EvT (tOr t u) σ H (a || b) := fun B H1 e d Q q => h1 B H1 e d _ fun H2 e2 => by
  cases a with
  | true =>
    show Q true H2
    exact q H2 e2
  | false =>
    show u σ H2 Q
    exact h2 rfl B H2 (e.trans (hd_same e2)) (d.same e2) Q fun H3 e3 => q H3 (e2.trans e3)
theorem et_not {a : Bool} (h1 : EvT t σ H a) : EvT (tNot t) σ H (!a) := fun B H1 e d _ q => h1 B H1 e d _ fun H2 e2 => q H2 e2
theorem et_is {a b : Bool} (h : EvT t σ H a) (e : a = b) : EvT t σ H b := e ▸ h
theorem et_yes : EvT tYes σ H true := fun _ H1 _ _ _ q => q H1 (Same.refl H1)
theorem ev_andV {a b : Bool} (h1 : Ev ta σ H (RB a)) (h2 : a = true → Ev tb σ H (RB b)) : Ev (tAndV ta tb) σ H (RB (a && b)) := fun B H1 e d Q q => h1 B H1 e d _ fun v H2 e2 hv => ⟨a, hv, by
  cases a with
  | true =>
    show tb σ H2 Q
    exact h2 rfl B H2 (e.trans (hd_same e2)) (d.same e2) Q (q.go e2)
  | false =>
    show Q (.bl false) H2
    exact q _ H2 e2 rfl⟩
theorem ev_orV {a b : Bool} (h1 : Ev ta σ H (RB a)) (h2 : a = false → Ev tb σ H (RB b)) : Ev (tOrV ta tb) σ H (RB (a || b)) := fun B H1 e d Q q => h1 B H1 e d _ fun v H2 e2 hv => ⟨a, hv, by
  cases a with
  | true =>
    show Q (.bl true) H2
    exact q _ H2 e2 rfl
  | false =>
    show tb σ H2 Q
    exact h2 rfl B H2 (e.trans (hd_same e2)) (d.same e2) Q (q.go e2)⟩
theorem ev_notV {a : Bool} (h1 : Ev ta σ H (RB a)) : Ev (tNotV ta) σ H (RB (!a)) := fun B H1 e d _ q => h1 B H1 e d _ fun v H2 e2 hv => ⟨a, hv, q _ H2 e2 rfl⟩
theorem ea_nil : EvA tNil σ H [] := fun _ H1 _ _ _ q => q _ H1 (Same.refl H1) .nil
theorem ea_cons {tr : TA} {rs : List Rp} (h : Ev ta σ H r) (hr : EvA tr σ H rs) : EvA (tCons ta tr) σ H (r :: rs) := fun B H1 e d _ q =>
  h B H1 e d _ fun v H2 e2 hv => hr B H2 (e.trans (hd_same e2)) (d.same e2) _ fun vs H3 e3 hvs => q _ H3 (e2.trans e3) (.cons (r.mono (hd_same e3) hv) hvs)
/-- *x in a display or a call -/
theorem ea_star {tr : TA} {rs rs' : List Rp} (h : Ev ta σ H (RT rs)) (hr : EvA tr σ H rs') : EvA (StX.tStar K ta tr) σ H (rs ++ rs') := fun B H1 e d _ q =>
  h B H1 e d _ fun v H2 e2 ⟨a, vs, ev, ha, hv⟩ => ⟨a, vs, ev, .inl (SqT.of (hd_in ha).1), hr B H2 (e.trans (hd_same e2)) (d.same e2) _ fun ws H3 e3 hw => q _ H3 (e2.trans e3) ((hv.mono (hd_same e3)).app hw)⟩
/-- a new object at p is among the known -/
theorem hd_new {p : Addr} {o : HO} {H2 : Hp} (d : Dom B H2) (hp : H2 p = none) : hd B (upd H2 p o) p = some o := hd_of upd_same (d.fresh hp)
theorem ev_tup {tr : TA} {rs : List Rp} (h : EvA tr σ H rs) (hl : rs.length ≤ 100000) : Ev (tTup tr) σ H (RT rs) := fun B H1 e d Q q =>
  h B H1 e d _ fun vs H2 e2 hvs => ⟨Nat.le_trans (by rw [hvs.len]; exact hl) (by decide), fun p hp => q _ _ (e2.trans (same_upd hp)) ⟨p, vs, rfl, hd_new (d.same e2) hp, hvs.mono (hd_same (same_upd hp))⟩⟩
theorem ev_lst {tr : TA} {rs : List Rp} (h : EvA tr σ H rs) (hl : rs.length ≤ 100000) : Ev (tLst tr) σ H (RL rs) := fun B H1 e d Q q =>
  h B H1 e d _ fun vs H2 e2 hvs => ⟨Nat.le_trans (by rw [hvs.len]; exact hl) (by decide), fun p hp => q _ _ (e2.trans (same_upd hp)) ⟨p, vs, rfl, hd_new (d.same e2) hp, hvs.mono (hd_same (same_upd hp))⟩⟩
/-! ### promises that only read and make -/
def SpOf {α : Type} (rs : α → List Rp) (pre : α → Prop) (res : α → Rp) : Sp := fun vs H Q _ => ∃ a B, Dom B H ∧ Al (hd B H) (rs a) vs ∧ pre a ∧ Ret B (res a) H Q
theorem ev_call {α : Type} {rs : α → List Rp} {pre : α → Prop} {res : α → Rp} {E : XK} {tr : TA} (a : α) (h : EvA tr σ H (rs a)) (hp : pre a) : Ev (tCall (SpOf rs pre res) [] E tr) σ H (res a) := fun B H1 e d Q q =>
  h B H1 e d _ fun vs H2 e2 hvs => ⟨a, B, d.same e2, by rw [List.append_nil]; exact hvs, hp, q.go e2⟩
theorem ev_cb {f : List V → Hp → VK → Prop} {tr : TA} {rs : List Rp} (h : EvA tr σ H rs) (hf : ∀ B H1 vs, Same H (hd B H1) → Dom B H1 → Al (hd B H1) rs vs → ∀ Q : VK, Ret B rc H1 Q → f vs H1 Q) : Ev (tCB f tr) σ H rc := fun B H1 e d Q q =>
  h B H1 e d _ fun vs H2 e2 hvs => hf B H2 vs (e.trans (hd_same e2)) (d.same e2) hvs Q (q.go e2)
/-! ### statements (the heap as it is, B what may change) -/
theorem s_set {k : Nat} (d : Dom B H) (h : Ev te σ (hd B H) r) (q : ∀ v H1, Same H H1 → Dom B H1 → r.at_ (hd B H1) v → D.nx (σ.set k (some v)) H1) : tAsg te (gName k) D σ H := h B H (Same.refl _) d _ fun v H1 e hv => q v H1 e (d.same e) hv
theorem q_set {k : Nat} {tz : TS} (d : Dom B H) (h : Ev te σ (hd B H) r) (q : ∀ v H1, Same H H1 → Dom B H1 → r.at_ (hd B H1) v → tz D (σ.set k (some v)) H1) : tSeq (tAsg te (gName k)) tz D σ H := s_set (D := { D with nx := tz D }) d h q
theorem s_ret (d : Dom B H) (h : Ev te σ (hd B H) r) (q : Ret B r H D.rt) : tRet te D σ H := h B H (Same.refl _) d _ q
theorem s_if {b : Bool} {t1 t2 : TS} (d : Dom B H) (h : EvT t σ (hd B H) b) (h1 : b = true → ∀ H1, Same H H1 → Dom B H1 → t1 D σ H1) (h2 : b = false → ∀ H1, Same H H1 → Dom B H1 → t2 D σ H1) : tIfS t t1 t2 D σ H := h B H (Same.refl _) d _ fun H1 e => by
  cases b with
  | true =>
    show t1 D σ H1
    exact h1 rfl H1 e (d.same e)
  | false =>
    show t2 D σ H1
    exact h2 rfl H1 e (d.same e)
theorem q_if {b : Bool} {t1 t2 tz : TS} (d : Dom B H) (h : EvT t σ (hd B H) b) (h1 : b = true → ∀ H1, Same H H1 → Dom B H1 → t1 { D with nx := tz D } σ H1) (h2 : b = false → ∀ H1, Same H H1 → Dom B H1 → t2 { D with nx := tz D } σ H1) : tSeq (tIfS t t1 t2) tz D σ H := s_if (D := { D with nx := tz D }) d h h1 h2
theorem s_drop (d : Dom B H) (h : Ev te σ (hd B H) r) (q : ∀ H1, Same H H1 → Dom B H1 → D.nx σ H1) : tDrop te D σ H := h B H (Same.refl _) d _ fun _ H1 e _ => q H1 e (d.same e)
theorem q_drop {tz : TS} (d : Dom B H) (h : Ev te σ (hd B H) r) (q : ∀ H1, Same H H1 → Dom B H1 → tz D σ H1) : tSeq (tDrop te) tz D σ H := s_drop (D := { D with nx := tz D }) d h q
/-! ### subscripts, len -/
theorem ev_ixT {rs : List Rp} {k : Nat} (ha : Ev ta σ H (RT rs)) (hb : Ev tb σ H (RI i)) (hi : i = (k : Int)) (hk : rs[k]? = some r) : Ev (tOp (rIxT K) ta tb) σ H r :=
  ev_op ha hb fun B H1 _ _ _ _ ⟨a, vs, ev, hav, hv⟩ hy _ q => by
    obtain ⟨v, e1, e2⟩ := hv.get hk
    exact ⟨a, vs, i, v, ev, hy, SqT.of (hd_in hav).1, by rw [hi]; exact atI_nat e1, q v H1 (Same.refl H1) e2⟩
theorem ev_ixL {rs : List Rp} {k : Nat} (ha : Ev ta σ H (RL rs)) (hb : Ev tb σ H (RI i)) (hi : i = (k : Int)) (hk : rs[k]? = some r) : Ev (tOp (rIxL K) ta tb) σ H r :=
  ev_op ha hb fun B H1 _ _ _ _ ⟨a, vs, ev, hav, hv⟩ hy _ q => by
    obtain ⟨v, e1, e2⟩ := hv.get hk
    exact ⟨a, vs, i, v, ev, hy, SqL.of (hd_in hav).1, by rw [hi]; exact atI_nat e1, q v H1 (Same.refl H1) e2⟩
theorem ev_ixS {l : List Nat} {k c : Nat} (ha : Ev ta σ H (RS l)) (hb : Ev tb σ H (RI i)) (hi : i = (k : Int)) (hk : l[k]? = some c) (hl : l.length ≤ 100000) : Ev (tOp rIxS ta tb) σ H (RS [c]) :=
  ev_op ha hb fun B H1 _ _ _ _ hx hy _ q => ⟨tx l, i, c, hx, hy, Nat.le_trans (show l.toArray.size ≤ 100000 by simpa using hl) (by decide), by rw [hi]; exact atI_nat (by simpa using hk), q _ H1 (Same.refl H1) rfl⟩
abbrev rLenK (K : PySem.W.Frag) : List V → Hp → VK → Prop := fun xs H Q => ∃ x n, xs = [x] ∧ LenV K x H n ∧ Q (.int n) H
theorem ev_lenT {rs : List Rp} (ha : Ev ta σ H (RT rs)) : Ev (tCB (rLenK K) (tCons ta tNil)) σ H (RN rs.length) :=
  ev_cb (ea_cons ha ea_nil) fun B H1 vs _ _ hvs _ q => by
    obtain ⟨v, e, a, ws, ev, hav, hv⟩ := hvs.one
    subst ev
    exact ⟨.ref a, rs.length, e, .inr ⟨ws, SqT.of (hd_in hav).1, hv.len.symm⟩, q _ H1 (Same.refl H1) rfl⟩
theorem ev_lenL {rs : List Rp} (ha : Ev ta σ H (RL rs)) : Ev (tCB (rLenK K) (tCons ta tNil)) σ H (RN rs.length) :=
  ev_cb (ea_cons ha ea_nil) fun B H1 vs _ _ hvs _ q => by
    obtain ⟨v, e, a, ws, ev, hav, hv⟩ := hvs.one
    subst ev
    exact ⟨.ref a, rs.length, e, .inl ⟨ws, SqL.of (hd_in hav).1, hv.len.symm⟩, q _ H1 (Same.refl H1) rfl⟩
theorem ev_lenS {l : List Nat} (ha : Ev ta σ H (RS l)) (hl : l.length ≤ 100000) : Ev (tCB (rLenK K) (tCons ta tNil)) σ H (RN l.length) :=
  ev_cb (ea_cons ha ea_nil) fun B H1 vs _ _ hvs _ q => by
    obtain ⟨v, e, hv⟩ := hvs.one
    subst e
    have e2 : v = .str (tx l) := hv
    subst e2
    exact ⟨_, l.length, rfl, ⟨Nat.le_trans (show l.toArray.size ≤ 100000 by simpa using hl) (by decide), by show _ = l.toArray.size; simp⟩, q _ H1 (Same.refl H1) rfl⟩
/-- tuple(list): a new tuple of the same items -/
theorem ev_tupOf {rs : List Rp} (ha : Ev ta σ H (RL rs)) : Ev (tThen ta (kTup K)) σ H (RT rs) := fun B H1 e d Q q =>
  ha B H1 e d _ fun v H2 e2 ⟨a, vs, ev, hav, hv⟩ => .inl ⟨a, vs, ev, SqL.of (hd_in hav).1, fun p hp => q _ _ (e2.trans (same_upd hp)) ⟨p, vs, rfl, hd_new (d.same e2) hp, hv.mono (hd_same (same_upd hp))⟩⟩
end
/-! ### a list that grows by items that are made on the way -/
/-- the list at D, made behind H, holds what rs says; nothing else of H has changed -/
structure Cz (B : Bs) (H : Hp) (D : Addr) (rs : List Rp) (H' : Hp) : Prop where
  same : Same H H'
  new : H D = none
  dom : Dom B H
  here : ∃ vs, H' D = some (.lst vs) ∧ Al (hd (B.add D) H') rs vs
section
variable {B : Bs} {H H' H2 : Hp} {D : Addr} {rs : List Rp}
theorem Cz.start (d : Dom B H) (h : H D = none) : Cz B H D [] (upd H D (.lst [])) := ⟨same_upd h, h, d, [], upd_same, .nil⟩
theorem Cz.up (c : Cz B H D rs H') (e : Same H' H2) : Cz B H D rs H2 := by
  obtain ⟨s, n, d, vs, hD, hv⟩ := c
  exact ⟨s.trans e, n, d, vs, e _ _ hD, hv.mono (hd_same e)⟩
theorem Cz.out (c : Cz B H D rs H') : B D = false := c.dom.fresh c.new
/-- what is known without the new list -/
theorem Cz.known {H0 : Hp} (c : Cz B H D rs H') (k : Same H0 (hd B H)) : Same H0 (hd (B.add D) H') := fun b o q => by
  obtain ⟨h1, h2⟩ := hd_in (k _ _ q)
  have hb : b ≠ D := ne_of_none h1 c.new
  exact hd_of (c.same _ _ h1) ((add_ne hb).trans h2)
theorem Cz.domA (c : Cz B H D rs H') : Dom (B.add D) H' := by
  obtain ⟨vs, hD, _⟩ := c.here
  exact (c.dom.same c.same).add hD fun _ z => nomatch z
theorem Cz.done (c : Cz B H D rs H') : (RL rs).at_ (hd B H') (.ref D) := by
  obtain ⟨vs, hD, hv⟩ := c.here
  exact ⟨D, vs, rfl, hd_of hD c.out, hv.mono hd_less⟩
theorem Cz.push {r : Rp} {v : V} (c : Cz B H D rs H') (h : r.at_ (hd (B.add D) H') v) (hl : rs.length < 100000) : ∃ acc, H' D = some (.lst acc) ∧ acc.length < sizeLine ∧ Cz B H D (rs ++ [r]) (upd H' D (.lst (acc ++ [v]))) := by
  obtain ⟨vs, hD, hv⟩ := c.here
  refine ⟨vs, hD, Nat.lt_of_lt_of_le (by rw [hv.len]; exact hl) (by decide), fun b o q => ?_, c.new, c.dom, vs ++ [v], upd_same, ?_⟩
  · rw [upd_ne (ne_of_none q c.new)]
    exact c.same _ _ q
  · rw [hd_upd (add_self B D)]
    exact hv.app (.cons h .nil)
end
/-! ### comprehensions -/
section
variable {K : PySem.W.Frag} {σ : L2.St} {H : Hp} {tl te : TE} {tt : TT} {j : Nat} {vs : List Nat} {g : TG}
theorem filterMap_take {α β : Type} {f : α → Option β} {xs : List α} {i : Nat} {x : α} (h : xs[i]? = some x) : (xs.take (i + 1)).filterMap f = (xs.take i).filterMap f ++ (match f x with | some y => [y] | none => []) := by
  rw [List.take_add_one, h, List.filterMap_append]
  cases e : f x with
  | none => simp [e]
  | some y => simp [e]
/-- one turn, the target stored: σ2 the slots behind it -/
theorem lc_one {B : Bs} {H0 H1 H' : Hp} {D : Addr} {rs : List Rp} {σ2 : L2.St} {o : Option Rp} (c : Cz B H1 D rs H') (hl : rs.length < 100000) (ht : EvT tt σ2 (hd (B.add D) H') o.isSome) (he : ∀ r, o = some r → Ev te σ2 (hd (B.add D) H') r) :
    tt σ2 H' fun b H3 => if b = true then te σ2 H3 fun y H4 => ∃ acc, H4 D = some (.lst acc) ∧ acc.length < sizeLine ∧ Cz B H1 D (rs ++ o.toList) (upd H4 D (.lst (acc ++ [y]))) else Cz B H1 D (rs ++ o.toList) H3 := by
  refine ht _ H' (Same.refl _) c.domA _ fun H3 e3 => ?_
  cases o with
  | none =>
    show Cz B H1 D (rs ++ []) H3
    rw [List.append_nil]
    exact c.up e3
  | some r =>
    show te σ2 H3 fun y H4 => ∃ acc, H4 D = some (.lst acc) ∧ acc.length < sizeLine ∧ Cz B H1 D (rs ++ [r]) (upd H4 D (.lst (acc ++ [y])))
    refine he r rfl _ H3 (hd_same e3) (c.domA.same e3) _ fun y H4 e4 hy => ((c.up e3).up e4).push hy hl
/-- over a list that is described: f gives the description of each item's element, none where the test drops it -/
theorem ev_lcL {α : Type} {xs : List α} {ρ : α → Rp} (f : α → Option Rp) (h : Ev tl σ H (RL (xs.map ρ))) (hz : xs.length ≤ 90000) (hg : ∀ x v H1, x ∈ xs → Same H (H1) → (ρ x).at_ H1 v → ∀ B H2, hd B H2 = H1 → Dom B H2 → ∀ P : L2.St → Hp → Prop,
      (∀ σ2 H3, Same H2 H3 → wipe σ2 vs = wipe σ vs → EvT tt σ2 (hd B H3) (f x).isSome → (∀ r, f x = some r → Ev te σ2 (hd B H3) r) → P σ2 H3) → g v (wipe σ vs) H2 P) :
    Ev (tLc (iList K tl) g tt te vs) σ H (RL (xs.filterMap f)) := fun B H0 e d Q q => h B H0 e d _ fun v H1 e1 ⟨a, ws, ev, ha, hw⟩ =>
  ⟨a, ev, ⟨ws, SqL.of (hd_in ha).1⟩, fun D hD => lc_list (xs := ws) (fun i H' => Cz B H1 D ((xs.take i).filterMap f) H') (Cz.start (d.same e1) hD) (fun i H' _ c => SqL.of (c.same _ _ (hd_in ha).1))
    (fun i x H' hi c => by
      obtain ⟨r, hr, hx⟩ := hw.back hi
      rw [List.getElem?_map] at hr
      cases hxi : xs[i]? with
      | none =>
        rw [hxi] at hr
        cases hr
      | some y =>
        rw [hxi] at hr
        have er : ρ y = r := Option.some.inj hr
        subst er
        have hlen : i < xs.length := (List.getElem?_eq_some_iff.mp hxi).1
        refine hg y x _ (List.mem_of_getElem? hxi) (c.known (e.trans (hd_same e1))) ((ρ y).mono (c.known (Same.refl _)) hx) _ _ rfl c.domA _ fun σ2 H3 e3 hwi ht he => ⟨hwi, ?_⟩
        have er2 : (xs.take (i + 1)).filterMap f = (xs.take i).filterMap f ++ (f y).toList := by
          rw [filterMap_take hxi]
          cases f y <;> rfl
        rw [er2]
        refine lc_one (H0 := H) (c.up e3) (Nat.lt_of_le_of_lt (List.length_filterMap_le _ _) (by rw [List.length_take]; omega)) ht he)
    (fun H' c => by
      have el : ws.length = xs.length := by
        rw [hw.len, List.length_map]
      rw [el, List.take_length] at c
      exact q _ _ (e1.trans c.same) c.done)⟩
end
end Sw
set_option Elab.async false
set_option linter.all false
set_option maxRecDepth 100000
set_option maxHeartbeats 1000000
/-! What is walked, comprehensions and loops over it, told by descriptions. -/
namespace Sw
open PySem PySem.Spec PyProof.Rows L2
/-- at turn i the iterator gives what rs[i] says -/
structure Wk (J : It) (B : Bs) (H0 : Hp) (rs : List Rp) : Prop where
  go : ∀ i B' H', i < rs.length → Same H0 (hd B' H') → J.go i H'
  yld : ∀ i B' H' x H2, Same H0 (hd B' H') → Dom B' H' → J.yld i H' x H2 → Same H' H2 ∧ ∀ r, rs[i]? = some r → r.at_ (hd B' H2) x
  stop : ∀ i B' H', rs.length ≤ i → Same H0 (hd B' H') → J.stop i H'
def EvI (wi : TI) (σ : L2.St) (H : Hp) (rs : List Rp) : Prop := ∀ B H1, Same H (hd B H1) → Dom B H1 → ∀ R : It → Hp → Prop, (∀ J H2, Same H1 H2 → Wk J B (hd B H2) rs → R J H2) → wi σ H1 R
section
variable {K : PySem.W.Frag} {σ : L2.St} {H : Hp} {te : TE} {ta : TA} {rs : List Rp}
theorem EvI.up {wi : TI} {H' : Hp} (h : EvI wi σ H rs) (e : Same H H') : EvI wi σ H' rs := fun B H1 a d R q => h B H1 (e.trans a) d R q
theorem ei_list (h : Ev te σ H (RL rs)) : EvI (iList K te) σ H rs := fun B H1 e d R q => h B H1 e d _ fun v H2 e2 ⟨a, vs, ev, ha, hv⟩ => by
  have st : ∀ B' H', Same (hd B H2) (hd B' H') → H' a = some (.lst vs) := fun B' H' s => (hd_in (s _ _ ha)).1
  refine ⟨a, ev, ⟨vs, SqL.of (hd_in ha).1⟩, q _ H2 e2 ⟨fun i B' H' hi s => ?_, fun i B' H' x H3 s d' y => ?_, fun i B' H' hi s => ?_⟩⟩
  · have hl : i < vs.length := by rw [hv.len]; exact hi
    exact ⟨vs, vs[i], SqL.of (st _ _ s), List.getElem?_eq_getElem hl⟩
  · obtain ⟨rfl, f⟩ := y
    refine ⟨Same.refl _, fun r hr => ?_⟩
    obtain ⟨u, h1, h2⟩ := hv.get hr
    have h3 := f vs (SqL.of (st _ _ s))
    rw [h1] at h3
    rw [← Option.some.inj h3]
    exact r.mono s h2
  · exact ⟨vs, SqL.of (st _ _ s), by rw [hv.len]; exact hi⟩
theorem ei_tup (h : Ev te σ H (RT rs)) : EvI (iTup K te) σ H rs := fun B H1 e d R q => h B H1 e d _ fun v H2 e2 ⟨a, vs, ev, ha, hv⟩ => by
  have st : ∀ B' H', Same (hd B H2) (hd B' H') → H' a = some (.tup vs) := fun B' H' s => (hd_in (s _ _ ha)).1
  refine ⟨a, ev, ⟨vs, SqT.of (hd_in ha).1⟩, q _ H2 e2 ⟨fun i B' H' hi s => ?_, fun i B' H' x H3 s d' y => ?_, fun i B' H' hi s => ?_⟩⟩
  · have hl : i < vs.length := by rw [hv.len]; exact hi
    exact ⟨vs, vs[i], SqT.of (st _ _ s), List.getElem?_eq_getElem hl⟩
  · obtain ⟨rfl, f⟩ := y
    refine ⟨Same.refl _, fun r hr => ?_⟩
    obtain ⟨u, h1, h2⟩ := hv.get hr
    have h3 := f vs (SqT.of (st _ _ s))
    rw [h1] at h3
    rw [← Option.some.inj h3]
    exact r.mono s h2
  · exact ⟨vs, SqT.of (st _ _ s), by rw [hv.len]; exact hi⟩
theorem wk_range {B : Bs} {H0 : Hp} {lo : Int} {n : Nat} : Wk (Itr lo n) B H0 ((List.range n).map fun i => RI (lo + ((i : Nat) : Int))) where
  go := fun i _ _ hi _ => by
    show i < n
    simpa using hi
  yld := fun i B' H' x H2 _ _ ⟨e1, e2⟩ => by
    subst e1
    refine ⟨Same.refl _, fun r hr => ?_⟩
    rw [List.getElem?_map] at hr
    cases hq : (List.range n)[i]? with
    | none =>
      rw [hq] at hr
      cases hr
    | some k =>
      rw [hq] at hr
      have ek : k = i := by
        obtain ⟨h1, h2⟩ := List.getElem?_eq_some_iff.mp hq
        rw [← h2, List.getElem_range]
      subst ek
      rw [← Option.some.inj hr]
      exact e2
  stop := fun i _ _ hi _ => by
    show n ≤ i
    simpa using hi
theorem ei_rng1 {n : Nat} (h : EvA ta σ H [RN n]) (hn : n ≤ 100000) : EvI (iRng1 ta) σ H ((List.range n).map RN) := fun B H1 e d R q => h B H1 e d _ fun vs H2 e2 hvs => by
  obtain ⟨v, ev, hv⟩ := hvs.one
  have e3 : v = .int (n : Int) := hv
  subst e3
  refine ⟨(n : Int), ev, by omega, by omega, q _ H2 e2 ?_⟩
  have w := wk_range (B := B) (H0 := hd B H2) (lo := 0) (n := n)
  have el : ((List.range n).map fun i => RI ((0 : Int) + ((i : Nat) : Int))) = (List.range n).map RN := List.map_congr_left fun i _ => by rw [Int.zero_add]
  rw [el] at w
  exact w
theorem ei_rng2 {lo n : Nat} (h : EvA ta σ H [RN lo, RN n]) (hn : n ≤ 100000) (hlo : lo ≤ n) : EvI (iRng2 ta) σ H ((List.range (n - lo)).map fun i => RN (lo + i)) := fun B H1 e d R q => h B H1 e d _ fun vs H2 e2 hvs => by
  obtain ⟨v, u, ev, hv, hu⟩ := hvs.two
  have e3 : v = .int (lo : Int) := hv
  have e4 : u = .int (n : Int) := hu
  subst e3
  subst e4
  refine ⟨(lo : Int), (n : Int), ev, by omega, q _ H2 e2 ?_⟩
  have w := wk_range (B := B) (H0 := hd B H2) (lo := (lo : Int)) (n := ((n : Int) - (lo : Int)).toNat)
  have en : ((n : Int) - (lo : Int)).toNat = n - lo := by omega
  have el : ((List.range ((n : Int) - (lo : Int)).toNat).map fun i => RI ((lo : Int) + ((i : Nat) : Int))) = (List.range (n - lo)).map fun i => RN (lo + i) := by
    rw [en]
    refine List.map_congr_left fun i _ => ?_
    show RI _ = RI _
    rw [Int.natCast_add]
  rw [el] at w
  exact w
theorem ei_str {l : List Nat} (h : Ev te σ H (RS l)) : EvI (iStr te) σ H (l.map fun c => RS [c]) := fun B H1 e d R q => h B H1 e d _ fun v H2 e2 hv => by
  refine ⟨tx l, hv, q _ H2 e2 ⟨fun i _ _ hi _ => ?_, fun i B' H' x H3 _ _ ⟨e1, c, h1, h2⟩ => ?_, fun i _ _ hi _ => ?_⟩⟩
  · show i < l.toArray.size
    simpa using hi
  · subst e1
    refine ⟨Same.refl _, fun r hr => ?_⟩
    have h3 : l[i]? = some c := by simpa using h1
    rw [List.getElem?_map, h3] at hr
    rw [← Option.some.inj hr]
    exact h2
  · show l.toArray.size ≤ i
    simpa using hi
/-! ### targets -/
theorem tg_two {B : Bs} {r1 r2 : Rp} {a b : Nat} {x : V} {P : L2.St → Hp → Prop} (h : (RT [r1, r2]).at_ (hd B H) x) (k : ∀ v u, r1.at_ (hd B H) v → r2.at_ (hd B H) u → P ((σ.set a (some v)).set b (some u)) H) :
    gTup K 2 (gCons (gName a) (gCons (gName b) gNil)) x σ H P := by
  obtain ⟨p, vs, e, hp, hv⟩ := h
  obtain ⟨v, u, rfl, h1, h2⟩ := hv.two
  exact ⟨p, [v, u], e, SqT.of (hd_in hp).1, rfl, v, [u], rfl, u, [], rfl, rfl, k v u h1 h2⟩
end
/-! ### one loop for every source -/
section
variable {K : PySem.W.Frag} {σ : L2.St} {H : Hp} {wi wi1 : TI} {te : TE} {tt tt1 : TT} {vs vs1 : List Nat} {g g1 : TG} {B : Bs} {rs : List Rp}
/-- for target in source: B' are the objects that the loop changes, Pv its invariant -/
theorem s_for {tb : TS} {D : Ends} (d : Dom B H) (h : EvI wi σ (hd B H) rs)
    (k : ∀ H2, Same H H2 → Dom B H2 → ∃ (B' : Bs) (Pv : Nat → L2.St → Hp → Prop), Pv 0 σ H2 ∧ (∀ i σ' H', i ≤ rs.length → Pv i σ' H' → Dom B' H' ∧ Same (hd B H2) (hd B' H')) ∧
      (∀ i r x σ' H' H'', rs[i]? = some r → Pv i σ' H' → Same H' H'' → r.at_ (hd B' H'') x → g x σ' H'' fun σ2 H3 => tb { D with nx := Pv (i + 1), ct := Pv (i + 1), bk := D.nx } σ2 H3) ∧
      ∀ σ' H', Pv rs.length σ' H' → D.nx σ' H') : tFor wi g tb D σ H := h B H (Same.refl _) d _ fun J H2 e2 w => by
  obtain ⟨B', Pv, h0, hk, ht, hd'⟩ := k H2 e2 (d.same e2)
  refine ⟨fun i m σ' H' => m = rs.length - i ∧ i ≤ rs.length ∧ Pv i σ' H', ⟨_, rfl, Nat.zero_le _, h0⟩, ?_⟩
  rintro i m σ' H' ⟨rfl, hi, p⟩
  obtain ⟨dm, sm⟩ := hk i σ' H' hi p
  by_cases hlt : i < rs.length
  · refine .inr ⟨w.go i B' H' hlt sm, Pv (i + 1), fun σ2 H3 p' => ⟨rs.length - (i + 1), by omega, rfl, hlt, p'⟩, fun x H3 y => ?_⟩
    obtain ⟨s3, f⟩ := w.yld i B' H' x H3 sm dm y
    exact ht i rs[i] x σ' H' H3 (List.getElem?_eq_getElem hlt) p s3 (f _ (List.getElem?_eq_getElem hlt))
  · have ei : i = rs.length := by omega
    subst ei
    exact .inl ⟨w.stop _ B' H' (Nat.le_refl _) sm, hd' σ' H' p⟩
theorem q_for {tb tz : TS} {D : Ends} (d : Dom B H) (h : EvI wi σ (hd B H) rs)
    (k : ∀ H2, Same H H2 → Dom B H2 → ∃ (B' : Bs) (Pv : Nat → L2.St → Hp → Prop), Pv 0 σ H2 ∧ (∀ i σ' H', i ≤ rs.length → Pv i σ' H' → Dom B' H' ∧ Same (hd B H2) (hd B' H')) ∧
      (∀ i r x σ' H' H'', rs[i]? = some r → Pv i σ' H' → Same H' H'' → r.at_ (hd B' H'') x → g x σ' H'' fun σ2 H3 => tb { D with nx := Pv (i + 1), ct := Pv (i + 1), bk := tz D } σ2 H3) ∧
      ∀ σ' H', Pv rs.length σ' H' → tz D σ' H') : tSeq (tFor wi g tb) tz D σ H := s_for (D := { D with nx := tz D }) d h k
/-- [elt for target in source if test]: f tells each item's element, or that the test drops it -/
theorem ev_lc {α : Type} {xs : List α} {ρ : α → Rp} (f : α → Option Rp) (h : EvI wi σ H (xs.map ρ)) (hz : xs.length ≤ 90000)
    (hg : ∀ B x v H1, x ∈ xs → Same H (hd B H1) → Dom B H1 → (ρ x).at_ (hd B H1) v → g v (wipe σ vs) H1 fun σ2 H2 => H2 = H1 ∧ wipe σ2 vs = wipe σ vs ∧ EvT tt σ2 (hd B H1) (f x).isSome ∧ ∀ r, f x = some r → Ev te σ2 (hd B H1) r)
    (hm : ∀ v σ' H' (P P' : L2.St → Hp → Prop), g v σ' H' P → (∀ σ2 H2, P σ2 H2 → P' σ2 H2) → g v σ' H' P') :
    Ev (tLc wi g tt te vs) σ H (RL (xs.filterMap f)) := fun B H0 e d Q q => h B H0 e d _ fun J H1 e1 w D hD => by
  have d1 := d.same e1
  refine ⟨fun i m H' => m = xs.length - i ∧ i ≤ xs.length ∧ Cz B H1 D ((xs.take i).filterMap f) H', ⟨_, rfl, Nat.zero_le _, Cz.start d1 hD⟩, ?_⟩
  rintro i m H' ⟨rfl, hi, c⟩
  have sm : Same (hd B H1) (hd (B.add D) H') := c.known (Same.refl _)
  by_cases hlt : i < xs.length
  · have hl : i < (xs.map ρ).length := by rw [List.length_map]; exact hlt
    refine .inr ⟨w.go i _ H' hl sm, fun H2 => Cz B H1 D ((xs.take (i + 1)).filterMap f) H2, fun H2 p' => ⟨xs.length - (i + 1), by omega, rfl, hlt, p'⟩, fun v H2 y => ?_⟩
    obtain ⟨s3, fy⟩ := w.yld i _ H' v H2 sm c.domA y
    have hxi : xs[i]? = some xs[i] := List.getElem?_eq_getElem hlt
    have hv := fy (ρ xs[i]) (by rw [List.getElem?_map, hxi]; rfl)
    have c2 := c.up s3
    have k0 : Same H (hd (B.add D) H2) := c2.known (e.trans (hd_same e1))
    refine hm _ _ _ _ _ (hg (B.add D) xs[i] v H2 (List.getElem_mem hlt) k0 c2.domA hv) fun σ2 H3 ⟨e3, hw, ht, he⟩ => ⟨hw, ?_⟩
    subst e3
    have er2 : (xs.take (i + 1)).filterMap f = (xs.take i).filterMap f ++ (f xs[i]).toList := by
      rw [filterMap_take hxi]
      cases f xs[i] <;> rfl
    rw [er2]
    exact lc_one (H0 := H) c2 (Nat.lt_of_le_of_lt (List.length_filterMap_le _ _) (by rw [List.length_take]; omega)) ht he
  · have ei : i = xs.length := by omega
    subst ei
    rw [List.take_length] at c
    exact .inl ⟨w.stop _ _ H' (by rw [List.length_map]; exact Nat.le_refl _) sm, q _ _ (e1.trans c.same) c.done⟩
theorem gName_mono {j : Nat} : ∀ v σ' H' (P P' : L2.St → Hp → Prop), gName j v σ' H' P → (∀ σ2 H2, P σ2 H2 → P' σ2 H2) → gName j v σ' H' P' := fun _ _ _ _ _ h k => k _ _ h
theorem gTwo_mono {a b : Nat} : ∀ v σ' H' (P P' : L2.St → Hp → Prop), gTup K 2 (gCons (gName a) (gCons (gName b) gNil)) v σ' H' P → (∀ σ2 H2, P σ2 H2 → P' σ2 H2) → gTup K 2 (gCons (gName a) (gCons (gName b) gNil)) v σ' H' P' :=
  fun _ _ _ _ _ ⟨p, xs, e, h1, h2, v, r, e2, u, r2, e3, e4, h⟩ k => ⟨p, xs, e, h1, h2, v, r, e2, u, r2, e3, e4, k _ _ h⟩
/-- target a name -/
theorem ev_lcN {α : Type} {xs : List α} {ρ : α → Rp} {j : Nat} (f : α → Option Rp) (h : EvI wi σ H (xs.map ρ)) (hz : xs.length ≤ 90000) (hw : ∀ v, wipe ((wipe σ vs).set j (some v)) vs = wipe σ vs)
    (ht : ∀ x v H1, x ∈ xs → Same H H1 → (ρ x).at_ H1 v → EvT tt ((wipe σ vs).set j (some v)) H1 (f x).isSome) (he : ∀ x v H1 r, x ∈ xs → Same H H1 → (ρ x).at_ H1 v → f x = some r → Ev te ((wipe σ vs).set j (some v)) H1 r) :
    Ev (tLc wi (gName j) tt te vs) σ H (RL (xs.filterMap f)) :=
  ev_lc f h hz (fun B x v H1 hx s d hv => ⟨rfl, hw v, ht x v _ hx s hv, fun r hr => he x v _ r hx s hv hr⟩) gName_mono
/-- .. without a test -/
theorem ev_lcM {α : Type} {xs : List α} {ρ : α → Rp} {j : Nat} (f : α → Rp) (h : EvI wi σ H (xs.map ρ)) (hz : xs.length ≤ 90000) (hw : ∀ v, wipe ((wipe σ vs).set j (some v)) vs = wipe σ vs)
    (he : ∀ x v H1, x ∈ xs → Same H H1 → (ρ x).at_ H1 v → Ev te ((wipe σ vs).set j (some v)) H1 (f x)) :
    Ev (tLc wi (gName j) tYes te vs) σ H (RL (xs.map f)) := by
  have z := ev_lcN (te := te) (tt := tYes) (j := j) (vs := vs) (fun x => some (f x)) h hz hw (fun _ _ _ _ _ _ => et_yes) fun x v H1 r hx s hv hr => by
    rw [← Option.some.inj hr]
    exact he x v H1 hx s hv
  have el : xs.filterMap (fun x => some (f x)) = xs.map f := by
    induction xs with
    | nil => rfl
    | cons x r ih => simp
  rw [el] at z
  exact z
/-- target a pair of names -/
theorem ev_lcP {α : Type} {xs : List α} {ρ1 ρ2 : α → Rp} {a b : Nat} (f : α → Option Rp) (h : EvI wi σ H (xs.map fun x => RT [ρ1 x, ρ2 x])) (hz : xs.length ≤ 90000) (hw : ∀ v u, wipe (((wipe σ vs).set a (some v)).set b (some u)) vs = wipe σ vs)
    (ht : ∀ x v u H1, x ∈ xs → Same H H1 → (ρ1 x).at_ H1 v → (ρ2 x).at_ H1 u → EvT tt (((wipe σ vs).set a (some v)).set b (some u)) H1 (f x).isSome)
    (he : ∀ x v u H1 r, x ∈ xs → Same H H1 → (ρ1 x).at_ H1 v → (ρ2 x).at_ H1 u → f x = some r → Ev te (((wipe σ vs).set a (some v)).set b (some u)) H1 r) :
    Ev (tLc wi (gTup K 2 (gCons (gName a) (gCons (gName b) gNil))) tt te vs) σ H (RL (xs.filterMap f)) :=
  ev_lc f h hz (fun B x v H1 hx s d hv => tg_two hv fun v u h1 h2 => ⟨rfl, hw v u, ht x v u _ hx s h1 h2, fun r hr => he x v u _ r hx s h1 h2 hr⟩) gTwo_mono
/-! ### two clauses -/
/-- the inner loop of two -/
theorem lc_in {β : Type} {B : Bs} {H1 H' : Hp} {D : Addr} {rs0 : List Rp} {σ2 : L2.St} {ys : List β} {ρ : β → Rp} {Nx : Hp → Prop} {j : Nat} (f : β → Option Rp) (c : Cz B H1 D rs0 H') (hi : EvI wi1 σ2 (hd (B.add D) H') (ys.map ρ)) (hl : rs0.length + ys.length < 90000)
    (hw : ∀ v, wipe ((wipe σ2 vs1).set j (some v)) vs1 = wipe σ2 vs1)
    (ht : ∀ y v H2, y ∈ ys → Same (hd (B.add D) H') H2 → (ρ y).at_ H2 v → EvT tt1 ((wipe σ2 vs1).set j (some v)) H2 (f y).isSome)
    (he : ∀ y v H2 r, y ∈ ys → Same (hd (B.add D) H') H2 → (ρ y).at_ H2 v → f y = some r → Ev te ((wipe σ2 vs1).set j (some v)) H2 r)
    (hd' : ∀ H2, Cz B H1 D (rs0 ++ ys.filterMap f) H2 → Nx H2) :
    wi1 σ2 H' fun J1 H4 => ∃ W1 : Nat → Nat → Hp → Prop, (∃ m, W1 0 m H4) ∧ ∀ j0 k H, W1 j0 k H →
      (J1.stop j0 H ∧ Nx H) ∨ (J1.go j0 H ∧ ∃ Nx1 : Hp → Prop, (∀ H', Nx1 H' → ∃ k', k' < k ∧ W1 (j0 + 1) k' H') ∧ ∀ x H', J1.yld j0 H x H' → gName j x (wipe σ2 vs1) H' fun σ3 H5 => wipe σ3 vs1 = wipe σ2 vs1 ∧ tt1 σ3 H5 fun b H6 =>
        if b = true then te σ3 H6 fun y H7 => ∃ acc, H7 D = some (.lst acc) ∧ acc.length < sizeLine ∧ Nx1 (upd H7 D (.lst (acc ++ [y]))) else Nx1 H6) := hi _ H' (Same.refl _) c.domA _ fun J1 H4 e4 w => by
  refine ⟨fun i m H5 => m = ys.length - i ∧ i ≤ ys.length ∧ Same (hd (B.add D) H4) (hd (B.add D) H5) ∧ Cz B H1 D (rs0 ++ (ys.take i).filterMap f) H5, ⟨_, rfl, Nat.zero_le _, Same.refl _, ?_⟩, ?_⟩
  · rw [List.take_zero, List.filterMap_nil, List.append_nil]
    exact c.up e4
  rintro i m H5 ⟨rfl, hi2, sm, c5⟩
  have s0 : Same (hd (B.add D) H') (hd (B.add D) H5) := (hd_same e4).trans sm
  by_cases hlt : i < ys.length
  · refine .inr ⟨w.go i _ H5 (by rw [List.length_map]; exact hlt) sm, fun H6 => Same (hd (B.add D) H5) (hd (B.add D) H6) ∧ Cz B H1 D (rs0 ++ (ys.take (i + 1)).filterMap f) H6, fun H6 p' => ⟨ys.length - (i + 1), by omega, rfl, hlt, sm.trans p'.1, p'.2⟩, fun v H6 y => ?_⟩
    obtain ⟨s6, fy⟩ := w.yld i _ H5 v H6 sm c5.domA y
    have hyi : ys[i]? = some ys[i] := List.getElem?_eq_getElem hlt
    have hv := fy (ρ ys[i]) (by rw [List.getElem?_map, hyi]; rfl)
    have c6 := c5.up s6
    have k6 : Same (hd (B.add D) H') (hd (B.add D) H6) := s0.trans (hd_same s6)
    have er2 : (ys.take (i + 1)).filterMap f = (ys.take i).filterMap f ++ (f ys[i]).toList := by
      rw [filterMap_take hyi]
      cases f ys[i] <;> rfl
    refine ⟨hw v, ht ys[i] v _ (List.getElem_mem hlt) k6 hv _ H6 (Same.refl _) c6.domA _ fun H7 e7 => ?_⟩
    have hlen : (rs0 ++ (ys.take i).filterMap f).length < 100000 := by
      have h1 := List.length_filterMap_le f (ys.take i)
      rw [List.length_take] at h1
      rw [List.length_append]
      omega
    cases o : f ys[i] with
    | none =>
      show Same _ (hd (B.add D) H7) ∧ Cz B H1 D (rs0 ++ (ys.take (i + 1)).filterMap f) H7
      rw [er2, o, Option.toList_none, List.append_nil]
      exact ⟨hd_same (s6.trans e7), c6.up e7⟩
    | some r =>
      show te _ H7 _
      refine he ys[i] v _ r (List.getElem_mem hlt) k6 hv o _ H7 (hd_same e7) (c6.domA.same e7) _ fun y H8 e8 hy => ?_
      obtain ⟨acc, a1, a2, a3⟩ := ((c6.up e7).up e8).push hy hlen
      refine ⟨acc, a1, a2, ?_, ?_⟩
      · rw [hd_upd (add_self B D)]
        exact hd_same ((s6.trans e7).trans e8)
      · rw [er2, o, Option.toList_some, ← List.append_assoc]
        exact a3
  · have ei : i = ys.length := by omega
    subst ei
    rw [List.take_length] at c5
    exact .inl ⟨w.stop _ _ H5 (by rw [List.length_map]; exact Nat.le_refl _) sm, hd' _ c5⟩
/-- [elt for target in source for name in source1 if test1] -/
theorem ev_lc2 {α β : Type} {xs : List α} {ρ : α → Rp} {ys : α → List β} {ρ1 : α → β → Rp} {j : Nat} (f : α → β → Option Rp) (h : EvI wi σ H (xs.map ρ)) (hz : ∀ i, i ≤ xs.length → ((xs.take i).map fun x => (ys x).length).sum < 80000)
    (hg : ∀ B x v H1, x ∈ xs → Same H (hd B H1) → Dom B H1 → (ρ x).at_ (hd B H1) v → g v (wipe σ vs) H1 fun σ2 H2 => H2 = H1 ∧ wipe σ2 vs = wipe σ vs ∧ EvI wi1 σ2 (hd B H1) ((ys x).map (ρ1 x)) ∧ (∀ u, wipe ((wipe σ2 vs1).set j (some u)) vs1 = wipe σ2 vs1) ∧
      (∀ y u H3, y ∈ ys x → Same (hd B H1) H3 → (ρ1 x y).at_ H3 u → EvT tt1 ((wipe σ2 vs1).set j (some u)) H3 (f x y).isSome) ∧
      ∀ y u H3 r, y ∈ ys x → Same (hd B H1) H3 → (ρ1 x y).at_ H3 u → f x y = some r → Ev te ((wipe σ2 vs1).set j (some u)) H3 r)
    (hm : ∀ v σ' H' (P P' : L2.St → Hp → Prop), g v σ' H' P → (∀ σ2 H2, P σ2 H2 → P' σ2 H2) → g v σ' H' P') :
    Ev (tLc2 wi g tYes wi1 (gName j) tt1 te vs vs1) σ H (RL (xs.flatMap fun x => (ys x).filterMap (f x))) := fun B H0 e d Q q => h B H0 e d _ fun J H1 e1 w D hD => by
  have d1 := d.same e1
  have hlen : ∀ l : List α, (l.flatMap fun x => (ys x).filterMap (f x)).length ≤ (l.map fun x => (ys x).length).sum := fun l => by
    induction l with
    | nil => exact Nat.le_refl _
    | cons x r ih =>
      rw [List.flatMap_cons, List.length_append, List.map_cons, List.sum_cons]
      have := List.length_filterMap_le (f x) (ys x)
      omega
  refine ⟨fun i m H' => m = xs.length - i ∧ i ≤ xs.length ∧ Cz B H1 D ((xs.take i).flatMap fun x => (ys x).filterMap (f x)) H', ⟨_, rfl, Nat.zero_le _, Cz.start d1 hD⟩, ?_⟩
  rintro i m H' ⟨rfl, hi, c⟩
  have sm : Same (hd B H1) (hd (B.add D) H') := c.known (Same.refl _)
  by_cases hlt : i < xs.length
  · have hl : i < (xs.map ρ).length := by rw [List.length_map]; exact hlt
    refine .inr ⟨w.go i _ H' hl sm, fun H2 => Cz B H1 D ((xs.take (i + 1)).flatMap fun x => (ys x).filterMap (f x)) H2, fun H2 p' => ⟨xs.length - (i + 1), by omega, rfl, hlt, p'⟩, fun v H2 y => ?_⟩
    obtain ⟨s3, fy⟩ := w.yld i _ H' v H2 sm c.domA y
    have hxi : xs[i]? = some xs[i] := List.getElem?_eq_getElem hlt
    have hv := fy (ρ xs[i]) (by rw [List.getElem?_map, hxi]; rfl)
    have c2 := c.up s3
    have k0 : Same H (hd (B.add D) H2) := c2.known (e.trans (hd_same e1))
    refine hm _ _ _ _ _ (hg (B.add D) xs[i] v H2 (List.getElem_mem hlt) k0 c2.domA hv) fun σ2 H3 ⟨e3, hw, hI, hw1, ht, he⟩ => ⟨hw, ?_⟩
    subst e3
    have er2 : (xs.take (i + 1)).flatMap (fun x => (ys x).filterMap (f x)) = (xs.take i).flatMap (fun x => (ys x).filterMap (f x)) ++ (ys xs[i]).filterMap (f xs[i]) := by
      rw [List.take_add_one, hxi, List.flatMap_append]
      simp
    show wi1 σ2 H3 _
    refine lc_in (f xs[i]) c2 hI ?_ hw1 ht he fun H4 c4 => ?_
    · have h1 := hlen (xs.take i)
      have h2 := hz (i + 1) hlt
      rw [List.take_add_one, hxi, List.map_append, List.sum_append, Option.toList_some, List.map_cons, List.map_nil, List.sum_cons, List.sum_nil] at h2
      omega
    · rw [er2]
      exact c4
  · have ei : i = xs.length := by omega
    subst ei
    rw [List.take_length] at c
    exact .inl ⟨w.stop _ _ H' (by rw [List.length_map]; exact Nat.le_refl _) sm, q _ _ (e1.trans c.same) c.done⟩
end
end Sw
set_option Elab.async false
set_option linter.all false
set_option maxRecDepth 100000
set_option maxHeartbeats 1000000
/-! == and in, told by data. -/
namespace Sw
open PySem PySem.Spec PyProof.Rows L2
section
variable {K : PySem.W.Frag} {H H' : Hp}
theorem sqL_same {a : Addr} {xs : List V} (e : Same H H') (h : SqL K H a xs) : SqL K H' a xs := e.seq h
theorem sqT_same {a : Addr} {xs : List V} (e : Same H H') (h : SqT K H a xs) : SqT K H' a xs := by
  rcases h with (h | ⟨o, h⟩) | h
  · exact .inl (.inl (e _ _ h))
  · exact .inl (.inr ⟨o, e _ _ h⟩)
  · exact .inr h
mutual
theorem dp_same (e : Same H H') : ∀ {v : V} {d : PyData}, Dp K H v d → Dp K H' v d
  | _, _, .non => .non
  | _, _, .bl b => .bl b
  | _, _, .int i => .int i
  | _, _, .str x => .str x
  | _, _, .lst h t => .lst (sqL_same e h) (dps_same e t)
  | _, _, .tup h t => .tup (sqT_same e h) (dps_same e t)
theorem dps_same (e : Same H H') : ∀ {vs : List V} {ds : List PyData}, DpAll K H vs ds → DpAll K H' vs ds
  | _, _, .nil => .nil
  | _, _, .cons h t => .cons (dp_same e h) (dps_same e t)
end
end
/-- what is described is this datum -/
def Dat (r : Rp) (d : PyData) : Prop := ∀ (K : PySem.W.Frag) (H : Hp) (v : V), r.at_ H v → Dp K H v d
theorem dat_I (n : Int) : Dat (RI n) (.int n) := fun _ _ v h => by
  have e : v = .int n := h
  rw [e]
  exact .int n
theorem dat_S (l : List Nat) : Dat (RS l) (.str (tx l)) := fun _ _ v h => by
  have e : v = .str (tx l) := h
  rw [e]
  exact .str _
theorem dat_B (b : Bool) : Dat (RB b) (.bool b) := fun _ _ v h => by
  have e : v = .bl b := h
  rw [e]
  exact .bl _
theorem dat_O : Dat RO .none := fun _ _ v h => by
  have e : v = .non := h
  rw [e]
  exact .non
theorem dats {rs : List Rp} {ds : List PyData} (p : Paired Dat rs ds) (K : PySem.W.Frag) (H : Hp) : ∀ {vs : List V}, Al H rs vs → DpAll K H vs ds := by
  induction p with
  | nil => intro vs h; cases h; exact .nil
  | cons h t ih =>
    intro vs a
    cases a with
    | cons h1 t1 => exact .cons (h K H _ h1) (ih t1)
theorem dat_T {rs : List Rp} {ds : List PyData} (p : Paired Dat rs ds) : Dat (RT rs) (.tuple ds) := fun K H v ⟨a, vs, e, ha, hv⟩ => by
  rw [e]
  exact .tup (SqT.of ha) (dats p K H hv)
theorem dat_L {rs : List Rp} {ds : List PyData} (p : Paired Dat rs ds) : Dat (RL rs) (.list ds) := fun K H v ⟨a, vs, e, ha, hv⟩ => by
  rw [e]
  exact .lst (SqL.of ha) (dats p K H hv)
theorem paired_map {α β γ : Type} {F : β → γ → Prop} {f : α → β} {g : α → γ} (h : ∀ a, F (f a) (g a)) : ∀ l : List α, Paired F (l.map f) (l.map g)
  | [] => .nil
  | a :: r => .cons (h a) (paired_map h r)
/-! ### the data of this program -/
def dP (p : List Nat) : PyData := .tuple (p.map fun n : Nat => .int (n : Int))
def dS (ss : List (List Nat)) : PyData := .tuple (ss.map fun l => .str (tx l))
theorem dat_P (p : List Nat) : Dat (RP p) (dP p) := dat_T (paired_map (fun n : Nat => dat_I (n : Int)) p)
theorem dat_Sh (ss : List (List Nat)) : Dat (RSh ss) (dS ss) := dat_T (paired_map dat_S ss)
/-- all that is laid flat -/
theorem flat_lay {α : Type} {f : α → PyData} : ∀ l : List α, (∀ a ∈ l, (f a).canLay0 = true ∧ (f a).depth = 0) → PyData.canLayAll0 (l.map f) = true ∧ PyData.depthAll (l.map f) = 0
  | [], _ => by simp [PyData.canLayAll0, PyData.depthAll]
  | a :: r, h => by
    have h1 := flat_lay r fun b hb => h b (List.mem_cons_of_mem _ hb)
    have h2 := h a List.mem_cons_self
    simp only [List.map_cons, PyData.canLayAll0, PyData.depthAll, h1.1, h1.2, h2.1, h2.2]
    exact ⟨rfl, rfl⟩
theorem shaped_of {d : PyData} (h : d.canLay0 = true) (k : d.depth ≤ 64) : SeqAt.shaped d = true := by
  show (d.canLay0 && decide (d.depth ≤ 64)) = true
  rw [Bool.and_eq_true]
  exact ⟨h, decide_eq_true k⟩
theorem int_flat (n : Nat) : (PyData.int (n : Int)).canLay0 = true ∧ (PyData.int (n : Int)).depth = 0 := by simp [PyData.canLay0, PyData.depth]
/-- signs that there are -/
def okT (l : List Nat) : Prop := ∀ c ∈ l, c < 1114112
def okS (ss : List (List Nat)) : Prop := ∀ l ∈ ss, okT l
theorem str_flat {l : List Nat} (h : okT l) : (PyData.str (tx l)).canLay0 = true ∧ (PyData.str (tx l)).depth = 0 := by
  refine ⟨?_, by simp [PyData.depth]⟩
  simp only [PyData.canLay0, PyData.strOk]
  rw [← Array.all_toList]
  exact List.all_eq_true.mpr fun c hc => decide_eq_true (h c hc)
theorem lay_P (p : List Nat) : (dP p).canLay0 = true ∧ (dP p).depth = 1 := by
  have h := flat_lay p fun a _ => int_flat a
  constructor
  · show PyData.canLay0 (.tuple _) = true
    rw [PyData.canLay0]
    exact h.1
  · show PyData.depth (.tuple _) = 1
    rw [PyData.depth, h.2]
theorem lay_S {p : List (List Nat)} (ok : okS p) : (dS p).canLay0 = true ∧ (dS p).depth = 1 := by
  have h := flat_lay p fun a ha => str_flat (ok a ha)
  constructor
  · show PyData.canLay0 (.tuple _) = true
    rw [PyData.canLay0]
    exact h.1
  · show PyData.depth (.tuple _) = 1
    rw [PyData.depth, h.2]
theorem sh_P (p : List Nat) : SeqAt.shaped (dP p) = true := shaped_of (lay_P p).1 (by rw [(lay_P p).2]; decide)
theorem sh_S {p : List (List Nat)} (ok : okS p) : SeqAt.shaped (dS p) = true := shaped_of (lay_S ok).1 (by rw [(lay_S ok).2]; decide)
theorem eqvAll_map {α : Type} {f : α → PyData} [DecidableEq α] (h : ∀ a b, PyData.eqv (f a) (f b) = decide (a = b)) : ∀ l m : List α, PyData.eqvAll (l.map f) (m.map f) = decide (l = m)
  | [], [] => by simp [PyData.eqvAll]
  | [], _ :: _ => by simp [PyData.eqvAll]
  | _ :: _, [] => by simp [PyData.eqvAll]
  | a :: r, b :: s => by
    simp only [List.map_cons, PyData.eqvAll, h a b, eqvAll_map h r s]
    by_cases e : a = b
    · subst e
      simp
    · simp [e]
theorem eqv_int (a b : Nat) : PyData.eqv (.int (a : Int)) (.int (b : Int)) = decide (a = b) := by
  simp only [PyData.eqv]
  by_cases e : a = b
  · subst e
    simp
  · rw [decide_eq_false e]
    exact beq_eq_false_iff_ne.mpr fun q => e (Int.ofNat.inj q)
theorem tx_inj {a b : List Nat} (h : tx a = tx b) : a = b := by
  have e : a.toArray = b.toArray := congrArg Str.cps h
  simpa using congrArg Array.toList e
theorem eqv_str (a b : List Nat) : PyData.eqv (.str (tx a)) (.str (tx b)) = decide (a = b) := by
  simp only [PyData.eqv]
  by_cases e : a = b
  · subst e
    simp
  · rw [decide_eq_false e]
    exact beq_eq_false_iff_ne.mpr fun q => e (tx_inj q)
theorem eqv_P (p q : List Nat) : PyData.eqv (dP p) (dP q) = decide (p = q) := by
  show PyData.eqv (.tuple _) (.tuple _) = _
  rw [PyData.eqv]
  exact eqvAll_map eqv_int p q
theorem eqv_S (p q : List (List Nat)) : PyData.eqv (dS p) (dS q) = decide (p = q) := by
  show PyData.eqv (.tuple _) (.tuple _) = _
  rw [PyData.eqv]
  exact eqvAll_map eqv_str p q
/-! ### lists of these, numbers, texts -/
def dLS (ls : List (List (List Nat))) : PyData := .list (ls.map dS)
theorem dat_LS (ls : List (List (List Nat))) : Dat (RL (ls.map RSh)) (dLS ls) := dat_L (paired_map dat_Sh ls)
def dLT (ls : List (List Nat)) : PyData := .list (ls.map fun l => .str (tx l))
theorem dat_LT (ls : List (List Nat)) : Dat (RL (ls.map RS)) (dLT ls) := dat_L (paired_map dat_S ls)
def dLP (ls : List (List Nat)) : PyData := .list (ls.map dP)
theorem dat_LP (ls : List (List Nat)) : Dat (RL (ls.map RP)) (dLP ls) := dat_L (paired_map dat_P ls)
def dLN (ls : List Nat) : PyData := .list (ls.map fun n : Nat => .int (n : Int))
theorem dat_LN (ls : List Nat) : Dat (RL (ls.map RN)) (dLN ls) := dat_L (paired_map (fun n : Nat => dat_I (n : Int)) ls)
theorem deep_lay {α : Type} {f : α → PyData} : ∀ l : List α, (∀ a ∈ l, (f a).canLay0 = true ∧ (f a).depth = 1) → PyData.canLayAll0 (l.map f) = true ∧ PyData.depthAll (l.map f) ≤ 1
  | [], _ => by simp [PyData.canLayAll0, PyData.depthAll]
  | a :: r, h => by
    have h1 := deep_lay r fun b hb => h b (List.mem_cons_of_mem _ hb)
    have h2 := h a List.mem_cons_self
    simp only [List.map_cons, PyData.canLayAll0, PyData.depthAll, h1.1, h2.1, h2.2]
    exact ⟨rfl, by have := h1.2; omega⟩
theorem sh_list {ds : List PyData} (h : PyData.canLayAll0 ds = true) (k : PyData.depthAll ds ≤ 50) : SeqAt.shaped (.list ds) = true := shaped_of (by rw [PyData.canLay0]; exact h) (by rw [PyData.depth]; omega)
theorem sh_LS {ls : List (List (List Nat))} (ok : ∀ s ∈ ls, okS s) : SeqAt.shaped (dLS ls) = true := by
  have h := deep_lay ls fun a ha => lay_S (ok a ha)
  exact sh_list h.1 (Nat.le_trans h.2 (by decide))
theorem sh_LP (ls : List (List Nat)) : SeqAt.shaped (dLP ls) = true := by
  have h := deep_lay ls fun a _ => lay_P a
  exact sh_list h.1 (Nat.le_trans h.2 (by decide))
theorem sh_LT {ls : List (List Nat)} (ok : okS ls) : SeqAt.shaped (dLT ls) = true := by
  have h := flat_lay ls fun a ha => str_flat (ok a ha)
  exact sh_list h.1 (by rw [h.2]; decide)
theorem sh_LN (ls : List Nat) : SeqAt.shaped (dLN ls) = true := by
  have h := flat_lay ls fun a _ => int_flat a
  exact sh_list h.1 (by rw [h.2]; decide)
theorem eqv_LT (p q : List (List Nat)) : PyData.eqv (dLT p) (dLT q) = decide (p = q) := by
  show PyData.eqv (.list _) (.list _) = _
  rw [PyData.eqv]
  exact eqvAll_map eqv_str p q
theorem eqv_LN (p q : List Nat) : PyData.eqv (dLN p) (dLN q) = decide (p = q) := by
  show PyData.eqv (.list _) (.list _) = _
  rw [PyData.eqv]
  exact eqvAll_map eqv_int p q
theorem eqv_LP (p q : List (List Nat)) : PyData.eqv (dLP p) (dLP q) = decide (p = q) := by
  show PyData.eqv (.list _) (.list _) = _
  rw [PyData.eqv]
  exact eqvAll_map eqv_P p q
theorem eqv_LS (p q : List (List (List Nat))) : PyData.eqv (dLS p) (dLS q) = decide (p = q) := by
  show PyData.eqv (.list _) (.list _) = _
  rw [PyData.eqv]
  exact eqvAll_map eqv_S p q
/-! ### the operators -/
section
variable {K : PySem.W.Frag} {σ : L2.St} {H : Hp} {ta tb : TE} {ra rb : Rp} {d e : PyData}
theorem ev_eqD (ha : Ev ta σ H ra) (hb : Ev tb σ H rb) (da : Dat ra d) (db : Dat rb e) (sa : SeqAt.shaped d = true) (sb : SeqAt.shaped e = true) : Ev (tOp (rEqD K) ta tb) σ H (RB (PyData.eqv d e)) :=
  ev_op ha hb fun B H1 x y _ _ hx hy _ q => ⟨d, e, dp_same hd_all (da K _ _ hx), dp_same hd_all (db K _ _ hy), sa, sb, q _ H1 (Same.refl H1) rfl⟩
theorem ev_neD (ha : Ev ta σ H ra) (hb : Ev tb σ H rb) (da : Dat ra d) (db : Dat rb e) (sa : SeqAt.shaped d = true) (sb : SeqAt.shaped e = true) : Ev (tOp (rNeD K) ta tb) σ H (RB (!PyData.eqv d e)) :=
  ev_op ha hb fun B H1 x y _ _ hx hy _ q => ⟨d, e, dp_same hd_all (da K _ _ hx), dp_same hd_all (db K _ _ hy), sa, sb, q _ H1 (Same.refl H1) rfl⟩
theorem ev_inD {ds : List PyData} (ha : Ev ta σ H ra) (hb : Ev tb σ H rb) (da : Dat ra d) (db : Dat rb (.list ds)) (sa : SeqAt.shaped d = true) (sb : SeqAt.shaped (.list ds) = true) : Ev (tOp (rInD K) ta tb) σ H (RB (ds.any fun z => PyData.eqv z d)) :=
  ev_op ha hb fun B H1 x y _ _ hx hy _ q => ⟨d, ds, dp_same hd_all (da K _ _ hx), dp_same hd_all (db K _ _ hy), sa, sb, q _ H1 (Same.refl H1) rfl⟩
theorem ev_notInD {ds : List PyData} (ha : Ev ta σ H ra) (hb : Ev tb σ H rb) (da : Dat ra d) (db : Dat rb (.list ds)) (sa : SeqAt.shaped d = true) (sb : SeqAt.shaped (.list ds) = true) : Ev (tOp (rNotInD K) ta tb) σ H (RB (!ds.any fun z => PyData.eqv z d)) :=
  ev_op ha hb fun B H1 x y _ _ hx hy _ q => ⟨d, ds, dp_same hd_all (da K _ _ hx), dp_same hd_all (db K _ _ hy), sa, sb, q _ H1 (Same.refl H1) rfl⟩
/-- scalars -/
theorem ev_eqI {i j : Int} (ha : Ev ta σ H (RI i)) (hb : Ev tb σ H (RI j)) : Ev (tOp rEq ta tb) σ H (RB (decide (i = j))) :=
  ev_op ha hb fun B H1 x y _ _ hx hy _ q => by
    have e1 : x = .int i := hx
    have e2 : y = .int j := hy
    subst e1
    subst e2
    refine ⟨rfl, q _ H1 (Same.refl H1) ?_⟩
    show V.bl _ = V.bl _
    by_cases e : i = j
    · subst e
      simp
    · rw [decide_eq_false e, decide_eq_false fun q => e (V.int.inj q)]
theorem ev_neI {i j : Int} (ha : Ev ta σ H (RI i)) (hb : Ev tb σ H (RI j)) : Ev (tOp rNe ta tb) σ H (RB (!decide (i = j))) :=
  ev_op ha hb fun B H1 x y _ _ hx hy _ q => by
    have e1 : x = .int i := hx
    have e2 : y = .int j := hy
    subst e1
    subst e2
    refine ⟨rfl, q _ H1 (Same.refl H1) ?_⟩
    show V.bl _ = V.bl _
    by_cases e : i = j
    · subst e
      simp
    · rw [decide_eq_false e, decide_eq_false fun q => e (V.int.inj q)]
theorem ev_cmpI {g : Int → Int → Bool} {i j : Int} (ha : Ev ta σ H (RI i)) (hb : Ev tb σ H (RI j)) : Ev (tOp (rI0 fun i j => .bl (g i j)) ta tb) σ H (RB (g i j)) := ev_I0 ha hb rfl
/-- a < b < c and its kin -/
theorem ev_chain {tc : TE} {f g : Int → Int → Bool} {i j k : Int} (ha : Ev ta σ H (RI i)) (hb : Ev tb σ H (RI j)) (hc : Ev tc σ H (RI k)) : Ev (tChain (rI0 fun i j => .bl (f i j)) (rI0 fun i j => .bl (g i j)) ta tb tc) σ H (RB (f i j && g j k)) :=
  fun B H1 e d Q q => ha B H1 e d _ fun x H2 e2 hx => hb B H2 (e.trans (hd_same e2)) (d.same e2) _ fun y H3 e3 hy => by
    refine ⟨i, j, hx, hy, f i j, rfl, ?_⟩
    cases hf : f i j with
    | true =>
      show tc σ H3 _
      exact hc B H3 ((e.trans (hd_same e2)).trans (hd_same e3)) ((d.same e2).same e3) _ fun z H4 e4 hz => ⟨j, k, hy, hz, q _ H4 ((e2.trans e3).trans e4) (by show V.bl (g j k) = V.bl (f i j && g j k); rw [hf, Bool.true_and])⟩
    | false =>
      show Q (.bl false) H3
      exact q _ H3 (e2.trans e3) (by show V.bl false = V.bl (f i j && g j k); rw [hf, Bool.false_and])
end
end Sw
set_option Elab.async false
set_option linter.all false
set_option maxRecDepth 100000
set_option maxHeartbeats 1000000
/-! What the top has written, by names. -/
namespace Sw
open PySem PySem.Spec PyProof.Rows L2
abbrev prg : Program := PySem.Challenge.pw_sawnsheets_k07_whole_fewest_cuts_from_th
def topS (i : Nat) : Stmt := prg.main.body.getD i (.Pass ⟨0, 0, 0, 0⟩)
/-- the built-in names that are called or read -/
def blt : List Str := ["isinstance", "int", "bool", "str", "tuple", "list", "len", "all", "range", "max", "min", "enumerate", "sorted", "ValueError"]
/-- a def of the top: its name stands for it, its parameters are given by place -/
def DefB (K : PySem.W.Frag) (mg : Str → Option Value) (x : Str) (i : Nat) (ps : List Str) : Prop := ∃ f fd, C8.Def K mg x (topS i) f fd ∧ Binds K fd ps []
theorem cal_of {P : Program} {w : World} {K : PySem.W.Frag} {mg : Str → Option Value} {base : Heap} {x : Str} {i : Nat} {ps N : List Str} {k : Nat} {sp : Sp} (D : DefB K mg x i ps) (S : FnScope N ps (C8.fnScope (topS i))) (len : ∀ vs H Q E, sp vs H Q E → vs.length = ps.length)
    (hbody : ∀ (f cdA : Addr) (cdv : Value) (A : Around) (outer : List Env) (s : Shared) (H : Hp) (vs : List V) (Q : VK) (E : XK), Room k (A.deeper (envOfC x (C8.fnScope (topS i)) s.heap.objs.size f cdv)) → sp vs H Q E →
      ∃ t, PSs (cxOf C8.CX0 P w K mg base N x (C8.fnScope (topS i)) f cdv A outer s H E).nox (C8.fnBody (topS i)) t ∧ t { nx := fun _ H' => Q .non H', rt := Q } (start N vs) H) : C8.Cal P w K mg base (k + 1) x sp [] := by
  obtain ⟨f, fd, F, b⟩ := D
  exact C8.cal0 F b .nil S len fun cdv A outer s H vs Q E hr h => hbody f 0 cdv A outer s H vs Q E hr h
theorem len_of {α : Type} {rs : α → List Rp} {pre : α → Prop} {res : α → Rp} {n : Nat} (h : ∀ a, (rs a).length = n) : ∀ vs H Q E, SpOf rs pre res vs H Q E → vs.length = n := fun vs H Q E ⟨a, B, _, hv, _, _⟩ => by rw [hv.len, h a]
structure Txt (K : PySem.W.Frag) (mg : Str → Option Value) : Prop where
  b : ∀ x ∈ blt, mg x = none
  letters : ∃ t, mg "LETTERS" = some (.str "abcdefghijklmnopqrstuvwxyz" t)
  side : ∃ t, mg "MAX_SIDE" = some (.int 4 t)
  mcells : ∃ t, mg "MAX_CELLS" = some (.int 9 t)
  msheets : ∃ t, mg "MAX_SHEETS" = some (.int 4 t)
  mlen : ∃ t, mg "MAX_LENGTH" = some (.int 12 t)
  mcuts : ∃ t, mg "MAX_CUTS" = some (.int 3 t)
  fcells : ∃ t, mg "FEW_CELLS" = some (.int 4 t)
  fsheets : ∃ t, mg "FEW_SHEETS" = some (.int 3 t)
  d18 : DefB K mg "is_number" 18 ["value", "smallest", "largest"]
  d19 : DefB K mg "is_picture" 19 ["size", "value"]
  d20 : DefB K mg "are_pictures" 20 ["size", "value"]
  d21 : DefB K mg "is_size" 21 ["width", "height"]
  d23 : DefB K mg "sides" 23 ["width", "height"]
  d24 : DefB K mg "parted" 24 ["width", "height", "marks"]
  d25 : DefB K mg "all_marks" 25 ["size"]
  d26 : DefB K mg "all_patterns" 26 ["width", "height"]
  d27 : DefB K mg "pieces_of" 27 ["pattern"]
  d28 : DefB K mg "length_of" 28 ["packet", "pattern"]
  d30 : DefB K mg "relaid" 30 ["sheets", "pattern", "orders"]
  d31 : DefB K mg "layers" 31 ["sheets", "cells"]
  d37 : DefB K mg "check_goals" 37 ["packet", "goals"]
  d38 : DefB K mg "does_give" 38 ["packet", "pattern", "goals"]
  d39 : DefB K mg "least_of" 39 ["packet", "is_good"]
  d40 : DefB K mg "least_for_all" 40 ["packet", "goals"]
  d41 : DefB K mg "all_orders" 41 ["count"]
  d42 : DefB K mg "all_laid" 42 ["sheets", "pattern"]
  d43 : DefB K mg "fewest_cuts" 43 ["packet", "goals", "longest", "most"]
  d45 : DefB K mg "_law_taken" 45 ["_law_row", "_law_many"]
  d46 : DefB K mg "_law_pick" 46 ["_law_row", "_law_some"]
  d47 : DefB K mg "_law_mixed" 47 ["_law_row", "_law_things"]
  d48 : DefB K mg "_law_scheme" 48 ["_law_row", "_law_cells_here", "_law_many"]
  d49 : DefB K mg "_law_packet" 49 ["_law_s"]
  d50 : DefB K mg "_law_near" 50 ["_law_s", "_law_one", "_law_other"]
  d51 : DefB K mg "_law_parted" 51 ["_law_s", "_law_marks"]
  d52 : DefB K mg "_law_cells" 52 ["_law_marks"]
  d53 : DefB K mg "_law_orders" 53 ["_law_many"]
  d54 : DefB K mg "_law_all" 54 ["_law_marks", "_law_many"]
  d55 : DefB K mg "_law_relaid" 55 ["_law_sheets", "_law_marks", "_law_orders_here"]
  d56 : DefB K mg "_law_long" 56 ["_law_s", "_law_marks"]
  d57 : DefB K mg "_law_patterns" 57 ["_law_s"]
  d58 : DefB K mg "_law_raised" 58 ["_law_work"]
section
variable {K : PySem.W.Frag} {mg : Str → Option Value}
theorem Txt.no (T : Txt K mg) (x : Str) (h : x ∈ blt := by decide +kernel) : mg x = none := T.b x h
end
theorem bt_list : bootBuiltins "list" = some (.type "list") := by decide +kernel
theorem bt_tuple : bootBuiltins "tuple" = some (.type "tuple") := by decide +kernel
theorem bt_int : bootBuiltins "int" = some (.type "int") := by decide +kernel
theorem bt_bool : bootBuiltins "bool" = some (.type "bool") := by decide +kernel
theorem bt_str : bootBuiltins "str" = some (.type "str") := by decide +kernel
theorem bt_all : bootBuiltins "all" = some (.builtin "all") := by decide +kernel
theorem bt_len : bootBuiltins "len" = some (.builtin "len") := by decide +kernel
theorem bt_isi : bootBuiltins "isinstance" = some (.builtin "isinstance") := by decide +kernel
theorem bt_max : bootBuiltins "max" = some (.builtin "max") := by decide +kernel
theorem bt_min : bootBuiltins "min" = some (.builtin "min") := by decide +kernel
theorem bt_sorted : bootBuiltins "sorted" = some (.builtin "sorted") := by decide +kernel
/-! ### isinstance, all -/
section
variable {K : PySem.W.Frag} {σ : L2.St} {H : Hp} {ta tb te : TE} {i : Int}
theorem ev_isi {a T : String} {r : Rp} {b : Bool} (ha : Ev te σ H r) (ty : ∀ H v, r.at_ H v → TyOf K H v (.type a)) (h : kitB a T = some b) : Ev (tCB (rIsi K) (tCons te (tCons (tC (.ty T)) tNil))) σ H (RB b) :=
  ev_cb (ea_cons ha (ea_cons (r := ⟨fun _ v => v = .ty T, fun _ h => h⟩) (ev_c rfl) ea_nil)) fun B H1 vs _ _ hvs _ q => by
    obtain ⟨v, u, e, hv, hu⟩ := hvs.two
    have e2 : u = .ty T := hu
    subst e2
    exact ⟨v, .ty T, .type a, .type T, b, e, .ty T, .base (ty _ _ (r.mono hd_all hv)), kit_ty h, q _ H1 (Same.refl H1) rfl⟩
theorem ty_I {H : Hp} {v : V} {n : Int} (h : (RI n).at_ H v) : TyOf K H v (.type "int") := by
  have e : v = .int n := h
  rw [e]
  exact .int n
theorem ty_S {H : Hp} {v : V} {l : List Nat} (h : (RS l).at_ H v) : TyOf K H v (.type "str") := by
  have e : v = .str (tx l) := h
  rw [e]
  exact .str _
theorem ty_T {H : Hp} {v : V} {rs : List Rp} (h : (RT rs).at_ H v) : TyOf K H v (.type "tuple") := by
  obtain ⟨a, vs, e, ha, _⟩ := h
  rw [e]
  exact .tup ha
theorem al_bl {H : Hp} : ∀ {p : List Bool} {vs : List V}, Al H (p.map RB) vs → vs = p.map V.bl
  | [], _, .nil => rfl
  | n :: r, _, .cons h t => by
    have e : _ = V.bl n := h
    rw [e, al_bl (p := r) t]
    rfl
theorem ev_all {bs : List Bool} (ha : Ev te σ H (RL (bs.map RB))) : Ev (tCB (rAll K) (tCons te tNil)) σ H (RB (bs.all id)) :=
  ev_cb (ea_cons ha ea_nil) fun B H1 vs _ _ hvs _ q => by
    obtain ⟨v, e, a, ws, ev, hav, hv⟩ := hvs.one
    subst ev
    refine ⟨a, bs, e, ?_, q _ H1 (Same.refl H1) rfl⟩
    rw [al_bl hv] at hav
    exact SqL.of (hd_in hav).1
/-- one sign in a text -/
theorem ev_inSign {c : Nat} {z : Str} (ha : Ev ta σ H (RS [c])) (hb : Ev tb σ H ⟨fun _ v => v = .str z, fun _ h => h⟩) : Ev (tOp (fun x y H Q => ∃ (c : Nat) (z : Str), x = .str ⟨#[c]⟩ ∧ y = .str z ∧ Q (.bl (decide (c ∈ z.cps.toList))) H) ta tb) σ H (RB (decide (c ∈ z.cps.toList))) :=
  ev_op ha hb fun B H1 x y _ _ hx hy _ q => ⟨c, z, hx, hy, q _ H1 (Same.refl H1) rfl⟩
end
/-- the name of a module's constant -/
theorem pe_k {X : Cx} {x : Str} {pos : Pos} {i : Int} (hg : Gl X x) (h : ∃ t, X.mg x = some (.int i t)) (hd : (x == ("__debug__" : Str)) = false := by decide) : PE X (.Name x pos) (tC (.int i)) := by
  obtain ⟨t, e⟩ := h
  exact pe_glob hg e ⟨t, rfl⟩ hd
theorem pe_ks {X : Cx} {x z : Str} {pos : Pos} (hg : Gl X x) (h : ∃ t, X.mg x = some (.str z t)) (hd : (x == ("__debug__" : Str)) = false := by decide) : PE X (.Name x pos) (tC (.str z)) := by
  obtain ⟨t, e⟩ := h
  exact pe_glob hg e ⟨t, rfl⟩ hd
theorem pe_ty {X : Cx} {x : Str} {n : String} {pos : Pos} (hg : Gl X x) (hm : X.mg x = none) (hv : bootBuiltins x = some (.type n)) (hn : x ≠ "__name__" := by decide) (hd : (x == ("__debug__" : Str)) = false := by decide) : PE X (.Name x pos) (tC (.ty n)) := pe_bltn hg hm hv rfl hn hd
end Sw
set_option Elab.async false
set_option linter.all false
set_option maxRecDepth 100000
set_option maxHeartbeats 1000000
/-! is_number, is_picture, are_pictures, is_size. -/
namespace Sw
open PySem PySem.Spec PyProof.Rows L2
/-- letters a to z -/
def okL (l : List Nat) : Prop := ∀ c ∈ l, 97 ≤ c ∧ c ≤ 122
def okSh (ss : List (List Nat)) : Prop := ∀ l ∈ ss, okL l
theorem okL.t {l : List Nat} (h : okL l) : okT l := fun c hc => Nat.lt_of_le_of_lt (h c hc).2 (by decide)
theorem okSh.t {l : List (List Nat)} (h : okSh l) : okS l := fun c hc => (h c hc).t
theorem abc_mem : ∀ c : Nat, 97 ≤ c → c ≤ 122 → c ∈ ("abcdefghijklmnopqrstuvwxyz" : Str).cps.toList := by
  intro c h1 h2
  have e : ("abcdefghijklmnopqrstuvwxyz" : Str).cps.toList = (List.range 26).map (· + 97) := by decide +kernel
  rw [e]
  exact List.mem_map.mpr ⟨c - 97, List.mem_range.mpr (by omega), by omega⟩
section
variable {P : Program} {w : World} {K : PySem.W.Frag} {mg : Str → Option Value} {base : Heap}
def spNum : Sp := SpOf (α := Int × Int × Int) (fun a => [RI a.1, RI a.2.1, RI a.2.2]) (fun _ => True) fun a => RB (decide (a.2.1 ≤ a.1) && decide (a.1 ≤ a.2.2))
theorem sc18 : FnScope ["value", "smallest", "largest"] ["value", "smallest", "largest"] (C8.fnScope (topS 18)) := C8.fnScope_by (by decide +kernel)
theorem c18 (T : Txt K mg) : C8.Cal P w K mg base 1 "is_number" spNum [] := by
  refine cal_of T.d18 sc18 (len_of (n := 3) fun _ => rfl) fun f _ cdv A outer s H vs Q E hr h => ?_
  obtain ⟨⟨v, lo, hi⟩, B, dm, hvs, _, q⟩ := h
  obtain ⟨x, y, z, rfl, hx, hy, hz⟩ := hvs.three
  refine ⟨_, pss_one (ps_ret (pe_and (pe_callB call_isi (by rfl) (T.no "isinstance") bt_isi (pa_cons (pv 0) (pa_cons (pe_ty (by rfl) (T.no "int") bt_int) pa_nil)))
    (pe_and (pe_not (pe_callB call_isi (by rfl) (T.no "isinstance") bt_isi (pa_cons (pv 0) (pa_cons (pe_ty (by rfl) (T.no "bool") bt_bool) pa_nil))))
    (pe_one (pe_chain op_le op_le (pv 1) (pv 0) (pv 2)))))), ?_⟩
  have ev : Ev (tVar 0) (start ["value", "smallest", "largest"] [x, y, z]) (hd B H) (RI v) := ev_var rfl hx
  refine s_ret dm (ev_is (ev_andV (ev_isi (a := "int") (b := true) ev (fun _ _ h => ty_I h) (by decide +kernel)) fun _ => ev_andV (ev_notV (ev_isi (a := "int") (b := false) ev (fun _ _ h => ty_I h) (by decide +kernel))) fun _ =>
    ev_chain (ev_var rfl hy) ev (ev_var rfl hz)) ?_) q
  simp
def spPic : Sp := SpOf (α := Int × List Nat) (fun a => [RI a.1, RS a.2]) (fun a => okL a.2 ∧ a.2.length ≤ 1000) fun a => RB (decide ((a.2.length : Int) = a.1))
theorem sc19 : FnScope ["size", "value", "letter"] ["size", "value"] (C8.fnScope (topS 19)) := C8.fnScope_by (by decide +kernel)
theorem c19 (T : Txt K mg) : C8.Cal P w K mg base 1 "is_picture" spPic [] := by
  refine cal_of T.d19 sc19 (len_of (n := 2) fun _ => rfl) fun f _ cdv A outer s H vs Q E hr h => ?_
  obtain ⟨⟨n, l⟩, B, dm, hvs, ⟨hl, hz⟩, q⟩ := h
  dsimp only at hl hz
  obtain ⟨x, y, rfl, hx, hy⟩ := hvs.two
  refine ⟨_, pss_one (ps_ret (pe_and (pe_callB call_isi (by rfl) (T.no "isinstance") bt_isi (pa_cons (pv 1) (pa_cons (pe_ty (by rfl) (T.no "str") bt_str) pa_nil)))
    (pe_and (pe_cmpR op_eq (pe_callB call_len (by rfl) (T.no "len") bt_len (pa_cons (pv 1) pa_nil)) (pv 0) (nomark _))
    (pe_one (pe_callB (cr_all rfl) (by rfl) (T.no "all") bt_all (pa_cons
      (pe_lc (own := [("letter", 2)]) (g := gName 2) (tt := tYes) rfl sc19.nd (pi_str (pv 1)) (blkOk_by (N := ["size", "value", "letter"]) (sc := C8.fnScope (topS 19)) (by decide +kernel)) (fun _ _ _ _ _ => pg_name (i := 2) sc19.nd rfl (.inl rfl)) (fun _ _ _ _ _ => pts_nil)
        (fun _ _ _ _ _ => pe_cmpR op_in_sign (pv 2) (pe_ks (by rfl) T.letters) rfl)) pa_nil)))))), ?_⟩
  have ev : Ev (tVar 1) (start ["size", "value", "letter"] [x, y]) (hd B H) (RS l) := ev_var rfl hy
  refine s_ret dm (ev_is (ev_andV (ev_isi (a := "str") (b := true) ev (fun _ _ h => ty_S h) (by decide +kernel)) fun _ => ev_andV (ev_eqI (ev_lenS ev (by show l.length ≤ _; omega)) (ev_var rfl hx)) fun _ =>
    ev_all (bs := l.map fun _ => true) (ev_is (ev_lcM (xs := l) (ρ := fun c => RS [c]) (fun _ => RB true) (ei_str ev) (by show l.length ≤ _; omega) (fun _ => rfl) fun c v H1 hc s1 hv => ?_) (by rw [List.map_map]; rfl))) ?_) q
  · have hin := abc_mem c (hl c hc).1 (hl c hc).2
    exact ev_is (ev_inSign (ev_var rfl hv) (ev_c rfl)) (by rw [decide_eq_true hin])
  · have e : (l.map fun _ => true).all id = true := by simp
    rw [e]
    simp
def spPics : Sp := SpOf (α := Nat × List (List Nat)) (fun a => [RN a.1, RSh a.2]) (fun a => okSh a.2 ∧ (∀ l ∈ a.2, l.length = a.1) ∧ a.1 ≤ 1000 ∧ a.2.length ≤ 1000) fun _ => RB true
theorem sc20 : FnScope ["size", "value", "text"] ["size", "value"] (C8.fnScope (topS 20)) := C8.fnScope_by (by decide +kernel)
theorem c20 (T : Txt K mg) : C8.Cal P w K mg base 2 "are_pictures" spPics [] := by
  refine cal_of T.d20 sc20 (len_of (n := 2) fun _ => rfl) fun f _ cdv A outer s H vs Q E hr h => ?_
  obtain ⟨⟨n, l⟩, B, dm, hvs, ⟨hl, hn, hz, hz2⟩, q⟩ := h
  dsimp only at hl hn hz hz2
  obtain ⟨x, y, rfl, hx, hy⟩ := hvs.two
  have c := c19 (P := P) (w := w) (base := base) T
  refine ⟨_, pss_one (ps_ret (pe_and (pe_callB call_isi (by rfl) (T.no "isinstance") bt_isi (pa_cons (pv 1) (pa_cons (pe_ty (by rfl) (T.no "tuple") bt_tuple) pa_nil)))
    (pe_one (pe_callB (cr_all rfl) (by rfl) (T.no "all") bt_all (pa_cons
      (pe_lc (own := [("text", 2)]) (g := gName 2) (tt := tYes) rfl sc20.nd (pi_tup (pv 1)) (blkOk_by (N := ["size", "value", "text"]) (sc := C8.fnScope (topS 20)) (by decide +kernel)) (fun _ _ _ _ _ => pg_name (i := 2) sc20.nd rfl (.inl rfl)) (fun _ _ _ _ _ => pts_nil)
        (fun _ _ _ _ _ => C8.pe_c c hr (by decide) (by rfl) (pa_cons (pv 0) (pa_cons (pv 2) pa_nil)))) pa_nil))))), ?_⟩
  have ev : Ev (tVar 1) (start ["size", "value", "text"] [x, y]) (hd B H) (RSh l) := ev_var rfl hy
  refine s_ret dm (ev_is (ev_andV (ev_isi (a := "tuple") (b := true) ev (fun _ _ h => ty_T h) (by decide +kernel)) fun _ => 
    ev_all (bs := l.map fun _ => true) (ev_is (ev_lcM (xs := l) (ρ := RS) (fun _ => RB true) (ei_tup ev) (by show l.length ≤ _; omega) (fun _ => rfl) fun c v H1 hc s1 hv => ?_) (by rw [List.map_map]; rfl))) ?_) q
  · refine ev_is (ev_call (α := Int × List Nat) ((n : Int), c) (ea_cons (ev_var rfl ((RN n).mono s1 hx)) (ea_cons (ev_var rfl hv) ea_nil)) ⟨hl c hc, by have := hn c hc; show c.length ≤ 1000; omega⟩) ?_
    have e := hn c hc
    show RB (decide ((c.length : Int) = (n : Int))) = RB true
    rw [e, decide_eq_true rfl]
  · have e : (l.map fun _ => true).all id = true := by simp
    rw [e]
    rfl
def spSize : Sp := SpOf (α := Nat × Nat) (fun a => [RN a.1, RN a.2]) (fun a => 1 ≤ a.1 ∧ a.1 ≤ 4 ∧ 1 ≤ a.2 ∧ a.2 ≤ 4 ∧ a.1 * a.2 ≤ 9) fun _ => RB true
theorem sc21 : FnScope ["width", "height"] ["width", "height"] (C8.fnScope (topS 21)) := C8.fnScope_by (by decide +kernel)
theorem c21 (T : Txt K mg) : C8.Cal P w K mg base 2 "is_size" spSize [] := by
  refine cal_of T.d21 sc21 (len_of (n := 2) fun _ => rfl) fun f _ cdv A outer s H vs Q E hr h => ?_
  obtain ⟨⟨a, b⟩, B, dm, hvs, ⟨h1, h2, h3, h4, h5⟩, q⟩ := h
  obtain ⟨x, y, rfl, hx, hy⟩ := hvs.two
  have c := c18 (P := P) (w := w) (base := base) T
  refine ⟨_, pss_one (ps_ret (pe_and (C8.pe_c c hr (by decide) (by rfl) (pa_cons (pv 0) (pa_cons pe_int (pa_cons (pe_k (by rfl) T.side) pa_nil))))
    (pe_and (C8.pe_c c hr (by decide) (by rfl) (pa_cons (pv 1) (pa_cons pe_int (pa_cons (pe_k (by rfl) T.side) pa_nil))))
    (pe_one (pe_cmpR op_le (pe_op op_mul (pv 0) (pv 1)) (pe_k (by rfl) T.mcells) (nomark _)))))), ?_⟩
  have ex : Ev (tVar 0) (start ["width", "height"] [x, y]) (hd B H) (RN a) := ev_var rfl hx
  have ey : Ev (tVar 1) (start ["width", "height"] [x, y]) (hd B H) (RN b) := ev_var rfl hy
  dsimp only at h1 h2 h3 h4 h5
  refine s_ret dm (ev_is (ev_andV (ev_call (α := Int × Int × Int) ((a : Int), 1, 4) (ea_cons ex (ea_cons ev_int (ea_cons ev_int ea_nil))) trivial) fun _ =>
    ev_andV (ev_call (α := Int × Int × Int) ((b : Int), 1, 4) (ea_cons ey (ea_cons ev_int (ea_cons ev_int ea_nil))) trivial) fun _ =>
    ev_cmpI (i := ((a : Int) * (b : Int))) (g := fun i j => decide (i ≤ j)) (ev_I ex ey (.inl ⟨by omega, by omega⟩) rfl) ev_int) ?_) q
  have e : (a : Int) * (b : Int) ≤ 9 := by
    have : ((a * b : Nat) : Int) ≤ 9 := by omega
    rwa [Int.natCast_mul] at this
  rw [decide_eq_true e, decide_eq_true (show (1 : Int) ≤ (a : Int) by omega), decide_eq_true (show (a : Int) ≤ 4 by omega), decide_eq_true (show (1 : Int) ≤ (b : Int) by omega), decide_eq_true (show (b : Int) ≤ 4 by omega)]
  rfl
end
end Sw
set_option Elab.async false
set_option linter.all false
set_option maxRecDepth 100000
set_option maxHeartbeats 1000000
/-! enumerate over a tuple. -/
namespace Sw
open PySem PySem.Spec PyProof.Rows L2
theorem meets_enum1 {v : Value} {o : Obj} {G : Heap → Prop} (B : Begins v o G) :
    Meets (Builtin.«enumerate.__new__» ⟨[.type "enumerate", v], []⟩) (fun _ R s => G s.heap ∧
      R (.ok (.ret (.ref (s.heap.push o).objs.size))) { s with heap := (s.heap.push o).push { cls := .type "enumerate", data := .fields #[.none, .bool false, .ref s.heap.objs.size, rawInt 0, .none, .none] } }) := by
  refine .of_wp fun prog w A R s h => ?_
  obtain ⟨hp, gs, dr, tk, os⟩ := s
  obtain ⟨h1, h2⟩ := h
  have hsub := sub_enumerate
  have q1 : ∀ {A' : Around} {E : Value → Shared → Prop} {Q : Value → Shared → Prop}, Q (.ref hp.objs.size) ⟨hp.push o, gs, dr, tk, os⟩ → wpAny (model prog w) A' (pyIter v) Q E ⟨hp, gs, dr, tk, os⟩ :=
    fun q => B.iter prog w _ _ ⟨hp, gs, dr, tk, os⟩ _ h1 q
  wp_walk using q1
  refine wpAny_stack_any fun st => wpAny_pure ?_
  split
  · rename_i c _ _ _ _ _
    cases (c == Value.type "enumerate")
    · wp_walk using q1
      exact ⟨_, rfl, h2⟩
    · wp_walk using q1
      exact ⟨_, rfl, h2⟩
  · wp_walk using q1
    exact ⟨_, rfl, h2⟩
section
variable {prog : Program} {w : World} {A : Around} {E : Value → Shared → Prop} {s : Shared}
/-- enumerate(v): its two new cells -/
theorem enum_begins1 {v : Value} {o : Obj} {G : Heap → Prop} {Q : Value → Shared → Prop} (B : Begins v o G) (h1 : G s.heap)
    (h : ∀ h', IsEnum h' (s.heap.objs.size + 1) s.heap.objs.size 0 .none → h'.get? s.heap.objs.size = some o → (∀ b o, s.heap.get? b = some o → h'.get? b = some o) → Q (.ref (s.heap.objs.size + 1)) { s with heap := h' }) :
    wpAny (model prog w) A (call (.type "enumerate") [v]) Q E s := by
  refine callType_new F.called_enumerate (by decide) (F.typeCall_enumerate_1 _) (F.newCall_enumerate_1 _) (fun obj => F.args_object_init_2 obj _) F.entry_enumerate_new (meets_enum1 B) ⟨h1, ?_⟩
  have hz : (s.heap.push o).objs.size = s.heap.objs.size + 1 := Heap.size_push ..
  have he : ((s.heap.push o).push { cls := .type "enumerate", data := .fields #[.none, .bool false, .ref s.heap.objs.size, rawInt 0, .none, .none] }).get? (s.heap.push o).objs.size = some { cls := .type "enumerate", data := .fields #[.none, .bool false, .ref s.heap.objs.size, rawInt 0, .none, .none] } :=
    Heap.get?_push_size _ rfl
  show _ ∧ _
  rw [hz] at he ⊢
  exact ⟨⟨_, he, rfl⟩, h _ he (Heap.get?_push_of_some _ (Heap.get?_push_size _ B.free)) fun b ob e => Heap.get?_push_of_some _ (Heap.get?_push_of_some _ e)⟩
end
/-- the tuple at a as it stands at each turn, each item in a new pair -/
def IteT (K : PySem.W.Frag) (a : Addr) : It :=
  ⟨fun i H => ∃ (xs : List V) (x : V), SqT K H a xs ∧ xs[i]? = some x, fun i H v H' => ∃ T x, v = .ref T ∧ H T = none ∧ H' = upd H T (.tup [.int (i : Nat), x]) ∧ ∀ xs, SqT K H a xs → xs[i]? = some x, fun i H => ∃ xs : List V, SqT K H a xs ∧ xs.length ≤ i⟩
theorem turn_enumT {P : Program} {w : World} {K : PySem.W.Frag} {elts : List Expr} {kk : Nat} {tpos : Pos} (a e it : Addr) (hai : a ≠ it) (hae : a ≠ e) :
    Turn P w K (.Tuple elts kk tpos) (IteT K a) [e, it] e (fun i h => (∃ old, IsEnum h e it ((i : Nat) : Int) old) ∧ h.IsTupleIter it a i ∧ e ≠ it) where
  mem := by simp
  obj := fun i h st b hb => by
    obtain ⟨⟨old, he⟩, ⟨o, ho, hc, hdd⟩, _⟩ := st
    rcases List.mem_cons.mp hb with z | z
    · rw [z]
      exact ⟨_, he, fun v q => nomatch q⟩
    · rw [List.mem_singleton.mp z]
      exact ⟨o, ho, fun v q => by rw [hdd] at q; cases q⟩
  keep := fun i h h' st k => by
    obtain ⟨⟨old, he⟩, hi, hne⟩ := st
    exact ⟨⟨old, k e (by simp) _ he⟩, hi.at fun o q => k it (by simp) o q, hne⟩
  item := by
    intro X hP hw hK hc i pins s σ H E I hf st hg
    subst hP hw hK
    obtain ⟨⟨old, he⟩, hit, hne⟩ := st
    obtain ⟨xs, x, hq, hx⟩ := hg
    obtain ⟨its, rv, p, hz⟩ := I.tuple hq
    obtain ⟨u, hu, ru⟩ := rv.get hx
    have hel : e < s.heap.objs.size := Heap.lt_size he
    have hil : it < s.heap.objs.size := by
      obtain ⟨_, q, _⟩ := hit
      exact Heap.lt_size q
    have hlt : i < its.toArray.size := by
      rw [List.size_toArray]
      exact (List.getElem?_eq_some_iff.mp hu).1
    have hef : e ∉ [it, a] := by
      simp only [List.mem_cons, List.not_mem_nil, or_false, not_or]
      exact ⟨hne, Ne.symm hae⟩
    refine wpAny_pyNext_enum_itemD (Draws.tuple (A := X.A.in1) (I.ok.hd hc) it a hai its.toArray) he ⟨hit, p⟩ hlt hne hef fun y h' tk hy ho hst' hT hsz hk => ?_
    have ey : y = u := by
      have h2 : its.toArray[i]? = some u := by simpa using hu
      exact Option.some.inj (hy.symm.trans h2)
    subst ey
    refine ⟨_, rfl, wpAny_letOwnedTupleGo_enum (s := { s with heap := h', toks := tk + 1 }) ho fun h'' he' sb => ?_⟩
    have hT2 : h''.get? s.heap.objs.size = some { cls := .type "tuple", data := .seq #[.int i tk, y] } := (sb.2 _ (Nat.ne_of_gt hel)).trans hT
    have new : ObjOk X.prog X.w (upd H s.heap.objs.size (.tup [.int (i : Nat), x])) h'' s.heap.objs.size (.tup [.int (i : Nat), x]) :=
      ⟨by show 2 ≤ sizeLine; decide, [.int i tk, y], .cons ⟨_, rfl⟩ (.cons ru .nil), ⟨_, hT2, rfl, _, rfl⟩⟩
    have I1 : Inv X pins σ (upd H s.heap.objs.size (.tup [.int (i : Nat), x])) { s with heap := h'', toks := tk + 1 } :=
      I.turnedNew (ch := [e, it]) (fun b ob hb q => (sb.2 b (fun z => hb (by simp [z]))).trans (hk b ob (fun z => hb (by simp [z])) (fun z => hb (by simp [z])) q)) hf (Nat.le_refl _) new
    refine ⟨.ref s.heap.objs.size, _, I1, rfl, ⟨_, x, rfl, I.hok.fresh (Nat.le_refl _), rfl, fun ys hy2 => by rw [I.tuple_inj hy2 hq]; exact hx⟩, ⟨⟨y, ?_⟩, hst'.1.at fun o q => (sb.2 it (Ne.symm hne)).trans q, hne⟩, fun b hb => ?_⟩
    · have e1 : ((i + 1 : Nat) : Int) = (i : Int) + 1 := by omega
      rw [e1]
      exact he'
    · have hb' : b < s.heap.objs.size := by
        rcases List.mem_cons.mp hb with z | z
        · rw [z]
          exact hel
        · rw [List.mem_singleton.mp z]
          exact hil
      rw [upd_ne (Nat.ne_of_lt hb')]
      exact (hf b hb).1
  done := by
    intro X hP hw hK hc i pins s σ H E I hf st hg
    subst hP hw hK
    obtain ⟨⟨old, he⟩, hit, hne⟩ := st
    obtain ⟨xs, hq, hx⟩ := hg
    obtain ⟨its, rv, p, hz⟩ := I.tuple hq
    obtain ⟨f0, f1, f2, f3, f4, f5⟩ := hf it (by simp)
    have hl := rv.length
    have D := Draws.tuple (prog := X.prog) (w := X.w) (A := X.A.in1) (I.ok.hd hc) it a hai its.toArray
    have hT : s.TypeIs (.ref e) "enumerate" := ⟨_, he, rfl⟩
    unfold pyNext
    refine wpAny_bind (wpAny_attempt (wpAny_callSpecial?_slot (name := Str.ofString "__next__") hT F.slot_enumerate_next (wpAny_call_entry F.slot_enumerate_next hT F.entry_enumerate_next ?_ (F.args_enumerate_next_1 _))))
    show wpAny _ _ (field (.ref e) 2 >>= _) _ _ _
    refine wpAny_bind (wpAny_field he rfl (x := .ref it) rfl ?_)
    refine wpAny_bind (wpAny_nextOf_tuple_end (A := X.A.in1) (I.ok.hd hc) hit p (by simp; omega) fun h' z hx1 hx2 => ?_)
    obtain ⟨o, ho, hcl⟩ := hx2
    refine wpAny_bind (wpAny_isInstance (T := "StopIteration") (b := true) ⟨o, ho, hcl⟩ isSubtype_stop ?_)
    exact wpAny_pure ⟨rfl, I.turned (t' := s.toks) (fun b o hb q => hx1 b o hb q) f0 f1 f3 f4 f5⟩
  self := fun A i s Q E st h => by
    obtain ⟨⟨_, he⟩, _⟩ := st
    exact wpAny_pyIter_enum he h
def iEnumT (K : PySem.W.Frag) (ta : TA) : TI := fun σ H R => ta σ H fun vs H1 => ∃ a xs, vs = [.ref a] ∧ SqT K H1 a xs ∧ R (IteT K a) H1
theorem pi_enumT {X : Cx} {e : Expr} {ta : TA} {p pos tpos : Pos} {elts : List Expr} {kk : Nat} (hg : Gl X "enumerate") (hm : X.mg "enumerate" = none) (ha : PA X [e] ta) (hs : starEach [e] X.env = [(false, eval e X.env)] := by rfl) :
    PI X (.Tuple elts kk tpos) (.Call (.Name "enumerate" p) [e] [] pos) (iEnumT X.K ta) := by
  refine ⟨fun pins s σ H R I h => ?_⟩
  refine Call_ (ld_blt I hg hm boot_enumerate (PyProof.Rows.callWith_type1 (thn (ha.run pos pins s σ H _ I h) fun us s1 ⟨vs, H1, I1, r1, q1⟩ => ?_) hs rfl))
  obtain ⟨a, xs, ex, hq, q⟩ := q1
  subst ex
  cases r1 with
  | cons r rr =>
    cases rr
    cases r
    obtain ⟨its, rv, p', hz⟩ := I1.tuple hq
    have hal : a < s1.heap.objs.size := p'.lt
    refine enum_begins1 (begins_tuple a its.toArray) p' fun h' he ho hk => wpAny_pyIter_enum he ?_
    have I2 : Inv X pins σ H1 { s1 with heap := h' } := I1.kept (t' := s1.toks) hk
    refine ⟨s1.heap.objs.size + 1, [s1.heap.objs.size + 1, s1.heap.objs.size], _, _, H1, rfl, I2, turn_enumT a (s1.heap.objs.size + 1) s1.heap.objs.size (Nat.ne_of_lt hal) (Nat.ne_of_lt (Nat.lt_succ_of_lt hal)), ⟨⟨.none, he⟩, ⟨_, ho, rfl, rfl⟩, Nat.succ_ne_self _⟩, fun b hb => ?_, q⟩
    have hle : s1.heap.objs.size ≤ b := by
      rcases List.mem_cons.mp hb with z | z
      · rw [z]
        exact Nat.le_add_right _ _
      · rw [List.mem_singleton.mp z]
        exact Nat.le_refl _
    exact I1.fpOk hle (I1.hok.fresh hle)
end Sw
set_option Elab.async false
set_option linter.all false
set_option maxRecDepth 100000
set_option maxHeartbeats 1000000
/-! Lists that grow by append, enumerate, calls by name. -/
namespace Sw
open PySem PySem.Spec PyProof.Rows L2
section
variable {K : PySem.W.Frag} {σ : L2.St} {H H0 H' : Hp} {te : TE} {ta : TA} {r : Rp} {rs : List Rp} {B : Bs} {D : Ends} {L : Addr}
abbrev tApp (K : PySem.W.Frag) (tl te : TE) : TS := tDrop (tBM K "list" rAppend tl (tCons te tNil))
theorem s_app {k : Nat} (c : Cz B H0 L rs H') (hs : σ[k]? = some (some (.ref L))) (he : Ev te σ (hd (B.add L) H') r) (hl : rs.length < 90000) (q : ∀ H2, Cz B H0 L (rs ++ [r]) H2 → Same (hd (B.add L) H') (hd (B.add L) H2) → D.nx σ H2) : tApp K (tVar k) te D σ H' := by
  obtain ⟨vs, hL, hv⟩ := c.here
  refine ⟨.ref L, hs, .inl ⟨rfl, _, SqL.of hL⟩, he _ H' (Same.refl _) c.domA _ fun v H2 e2 hv2 => ?_⟩
  obtain ⟨acc, a1, a2, a3⟩ := (c.up e2).push hv2 (by omega)
  refine ⟨L, acc, v, rfl, rfl, a1, a2, q _ a3 ?_⟩
  rw [hd_upd (add_self B L)]
  exact hd_same e2
theorem q_app {tz : TS} {k : Nat} (c : Cz B H0 L rs H') (hs : σ[k]? = some (some (.ref L))) (he : Ev te σ (hd (B.add L) H') r) (hl : rs.length < 90000) (q : ∀ H2, Cz B H0 L (rs ++ [r]) H2 → Same (hd (B.add L) H') (hd (B.add L) H2) → tz D σ H2) : tSeq (tApp K (tVar k) te) tz D σ H' := s_app (D := { D with nx := tz D }) c hs he hl q
/-- x = [] -/
theorem q_nil {tz : TS} {k : Nat} (d : Dom B H) (q : ∀ L, Cz B H L [] (upd H L (.lst [])) → tz D (σ.set k (some (.ref L))) (upd H L (.lst []))) : tSeq (tAsg (tLst tNil) (gName k)) tz D σ H := ⟨Nat.zero_le _, fun L hL => q L (Cz.start d hL)⟩
theorem ei_enumP {p : List Nat} (h : EvA ta σ H [RP p]) : EvI (iEnumT K ta) σ H ((List.range p.length).map fun c => RT [RN c, RN (p.getD c 0)]) := fun B H1 e d R q => h B H1 e d _ fun vs H2 e2 hvs => by
  obtain ⟨v, ev, hv⟩ := hvs.one
  obtain ⟨a, rfl, ha⟩ := rp_at hv
  have st : ∀ B' H', Same (hd B H2) (hd B' H') → H' a = some (.tup (p.map vN)) := fun B' H' s => (hd_in (s _ _ ha)).1
  refine ⟨a, p.map vN, ev, SqT.of (hd_in ha).1, q _ H2 e2 ⟨fun i B' H' hi s => ?_, fun i B' H' x H3 s d' y => ?_, fun i B' H' hi s => ?_⟩⟩
  · have hl : i < (p.map vN).length := by simpa using hi
    exact ⟨_, _, SqT.of (st _ _ s), List.getElem?_eq_getElem hl⟩
  · obtain ⟨T, u, rfl, hT, rfl, f⟩ := y
    have h3 := f _ (SqT.of (st _ _ s))
    refine ⟨same_upd hT, fun r hr => ?_⟩
    rw [List.getElem?_map] at hr h3
    cases hp : p[i]? with
    | none =>
      rw [hp] at h3
      cases h3
    | some n =>
      rw [hp] at h3
      have eu : vN n = u := Option.some.inj h3
      have hi : i < p.length := (List.getElem?_eq_some_iff.mp hp).1
      have er : (List.range p.length)[i]? = some i := by simp [hi]
      rw [er] at hr
      have er2 : RT [RN i, RN (p.getD i 0)] = r := Option.some.inj hr
      have eg : p.getD i 0 = n := by rw [List.getD_eq_getElem?_getD, hp]; rfl
      rw [← er2, eg, ← eu]
      exact ⟨T, _, rfl, hd_new d' hT, .cons rfl (.cons rfl .nil)⟩
  · exact ⟨_, SqT.of (st _ _ s), by simpa using hi⟩
/-- a pair of numbers -/
abbrev RPr (p : Nat × Nat) : Rp := RT [RN p.1, RN p.2]
theorem ev_pr {ta tb : TE} {a b : Nat} (ha : Ev ta σ H (RN a)) (hb : Ev tb σ H (RN b)) : Ev (tTup (tCons ta (tCons tb tNil))) σ H (RPr (a, b)) := ev_tup (ea_cons ha (ea_cons hb ea_nil)) (by decide : 2 ≤ 100000)
end
/-! natural numbers -/
section
variable {σ : L2.St} {H : Hp} {ta tb : TE} {a b : Nat}
theorem ev_addN (ha : Ev ta σ H (RN a)) (hb : Ev tb σ H (RN b)) : Ev (tOp (rI0 fun i j => .int (i + j)) ta tb) σ H (RN (a + b)) := ev_is (ev_add ha hb) (by show RI _ = RI _; rw [Int.natCast_add])
theorem ev_mulN (ha : Ev ta σ H (RN a)) (hb : Ev tb σ H (RN b)) (hl : a ≤ 100000) : Ev (tOp (rI CMul fun i j => .int (i * j)) ta tb) σ H (RN (a * b)) := ev_is (ev_I (rc := RI ((a : Int) * (b : Int))) ha hb (.inl ⟨by omega, by omega⟩) rfl) (by show RI _ = RI _; rw [Int.natCast_mul])
theorem ev_divN (ha : Ev ta σ H (RN a)) (hb : Ev tb σ H (RN b)) (h0 : 0 < b) (hl : b ≤ 100000) : Ev (tOp (rI CDiv fun i j => .int (i / j)) ta tb) σ H (RN (a / b)) := ev_is (ev_I (rc := RI ((a : Int) / (b : Int))) ha hb ⟨by omega, by omega⟩ rfl) (by show RI _ = RI _; rw [Int.natCast_ediv])
theorem ev_subN (ha : Ev ta σ H (RN a)) (hb : Ev tb σ H (RN b)) (h : b ≤ a) : Ev (tOp (rI0 fun i j => .int (i - j)) ta tb) σ H (RN (a - b)) := ev_is (ev_sub ha hb) (by show RI _ = RI _; rw [Int.ofNat_sub h])
theorem ev_ltN (ha : Ev ta σ H (RN a)) (hb : Ev tb σ H (RN b)) : Ev (tOp (rI0 fun i j => .bl (decide (i < j))) ta tb) σ H (RB (decide (a < b))) := ev_is (ev_cmpI (g := fun i j => decide (i < j)) ha hb) (by congr 1; exact decide_eq_decide.mpr Int.ofNat_lt)
theorem ev_leN (ha : Ev ta σ H (RN a)) (hb : Ev tb σ H (RN b)) : Ev (tOp (rI0 fun i j => .bl (decide (i ≤ j))) ta tb) σ H (RB (decide (a ≤ b))) := ev_is (ev_cmpI (g := fun i j => decide (i ≤ j)) ha hb) (by congr 1; exact decide_eq_decide.mpr Int.ofNat_le)
theorem ev_eqN (ha : Ev ta σ H (RN a)) (hb : Ev tb σ H (RN b)) : Ev (tOp rEq ta tb) σ H (RB (decide (a = b))) := ev_is (ev_eqI ha hb) (by congr 1; exact decide_eq_decide.mpr Int.ofNat_inj)
theorem ev_neN (ha : Ev ta σ H (RN a)) (hb : Ev tb σ H (RN b)) : Ev (tOp rNe ta tb) σ H (RB (!decide (a = b))) := ev_is (ev_neI ha hb) (by congr 2; exact decide_eq_decide.mpr Int.ofNat_inj)
theorem ev_nat {n : Nat} : Ev (tC (.int (n : Int))) σ H (RN n) := ev_c rfl
end
end Sw
set_option Elab.async false
set_option linter.all false
set_option maxRecDepth 100000
set_option maxHeartbeats 1000000
/-! sides, all_marks. -/
namespace Sw
open PySem PySem.Spec PyProof.Rows L2
theorem hu64 {k : Nat} {A : Around} (hr : Room k A) : A.units + 64 < cLine := hr.units
theorem hu65 {k : Nat} {A : Around} (hr : Room k A) : A.units + 65 < cLine := by have := hr.un; unfold cLine at *; omega
theorem hu1 {k : Nat} {A : Around} (hr : Room k A) : A.units + 1 < cLine := hu_of hr
section
variable {P : Program} {w : World} {K : PySem.W.Frag} {mg : Str → Option Value} {base : Heap}
def spSides : Sp := SpOf (α := Nat × Nat) (fun a => [RN a.1, RN a.2]) (fun a => 1 ≤ a.1 ∧ a.1 ≤ 9 ∧ a.2 ≤ 9) fun a => RL ((sides a.1 a.2).map RPr)
theorem sc23 : FnScope ["width", "height", "found", "cell"] ["width", "height"] (C8.fnScope (topS 23)) := C8.fnScope_by (by decide +kernel)
theorem take_flat {α β : Type} {f : α → List β} {xs : List α} {i : Nat} {x : α} (h : xs[i]? = some x) : (xs.take (i + 1)).flatMap f = (xs.take i).flatMap f ++ f x := by
  rw [List.take_add_one, h, List.flatMap_append]
  simp
theorem range_at {n i : Nat} (h : i < n) : (List.range n)[i]? = some i := by simp [h]
theorem map_at {α β : Type} {f : α → β} {l : List α} {i : Nat} {r : β} (h : (l.map f)[i]? = some r) : ∃ x, l[i]? = some x ∧ f x = r := by
  rw [List.getElem?_map] at h
  cases e : l[i]? with
  | none => rw [e] at h; cases h
  | some x => rw [e] at h; exact ⟨x, rfl, Option.some.inj h⟩
theorem rng_at {β : Type} {f : Nat → β} {n i : Nat} {r : β} (h : ((List.range n).map f)[i]? = some r) : i < n ∧ f i = r := by
  obtain ⟨x, h1, h2⟩ := map_at h
  obtain ⟨h3, h4⟩ := List.getElem?_eq_some_iff.mp h1
  rw [List.getElem_range] at h4
  subst h4
  exact ⟨by simpa using h3, h2⟩
theorem sides_len (w h c : Nat) : (sidesAt w h c).length ≤ 2 := by
  unfold sidesAt
  split <;> split <;> simp
theorem flat_len {α β : Type} {f : α → List β} {k : Nat} (h : ∀ a, (f a).length ≤ k) : ∀ l : List α, (l.flatMap f).length ≤ l.length * k
  | [] => by simp
  | a :: r => by
    rw [List.flatMap_cons, List.length_append, List.length_cons, Nat.add_mul]
    have := flat_len h r
    have := h a
    omega
theorem c23 (T : Txt K mg) : C8.Cal P w K mg base 1 "sides" spSides [] := by
  refine cal_of T.d23 sc23 (len_of (n := 2) fun _ => rfl) fun f _ cdv A outer s H vs Q E hr h => ?_
  obtain ⟨⟨a, b⟩, B, dm, hvs, ⟨h1, h2, h3⟩, q⟩ := h
  dsimp only at h1 h2 h3
  obtain ⟨x, y, rfl, hx, hy⟩ := hvs.two
  refine ⟨_, (pss_cons (ps_set (i := 2) sc23.nd rfl (by first | exact .inl rfl | exact .inr rfl) (pe_lst pa_nil))
      (pss_cons (ps_for PassesOwn.never rfl (pi_range1 (by rfl) (T.no "range") (pa_cons (pe_op op_mul (pv 0) (pv 1)) pa_nil)) (pg_name (i := 3) sc23.nd rfl (by first | exact .inl rfl | exact .inr rfl)) (pss_cons (ps_if (pt_cmpR op_lt (pe_op op_sub (pv 3) (pe_op op_mul (pe_op op_fdiv (pv 3) (pv 0)) (pv 0))) (pe_op op_sub (pv 0) pe_int) (nomark _)) (pss_one (ps_expr (pe_bm PySem.F.plainAttrs_list PySem.F.slot_list_append PySem.F.type_list_append mt_append (pv 2) (pa_cons (pe_tup (pa_cons (pv 3) (pa_cons (pe_op op_add (pv 3) pe_int) pa_nil))) pa_nil)))) pss_nil)
      (pss_one (ps_if (pt_cmpR op_lt (pe_op op_add (pv 3) (pv 0)) (pe_op op_mul (pv 0) (pv 1)) (nomark _)) (pss_one (ps_expr (pe_bm PySem.F.plainAttrs_list PySem.F.slot_list_append PySem.F.type_list_append mt_append (pv 2) (pa_cons (pe_tup (pa_cons (pv 3) (pa_cons (pe_op op_add (pv 3) (pv 0)) pa_nil))) pa_nil)))) pss_nil))))
      (pss_one (ps_ret (pv 2))))), ?_⟩
  have hab : a * b ≤ 81 := Nat.le_trans (Nat.mul_le_mul h2 h3) (by decide)
  refine q_nil dm fun L c0 => ?_
  have k0 : Same (hd B H) (hd (B.add L) (upd H L (.lst []))) := c0.known (Same.refl _)
  have mul {σ : L2.St} {Hz : Hp} (e0 : σ[0]? = some (some x)) (e1 : σ[1]? = some (some y)) (s : Same (hd B H) Hz) : Ev (tOp (rI CMul fun (i j : Int) => V.int (i * j)) (tVar 0) (tVar 1)) σ Hz (RN (a * b)) := ev_mulN (ev_var e0 ((RN a).mono s hx)) (ev_var e1 ((RN b).mono s hy)) (by omega)
  refine q_for c0.domA (ei_rng1 (ea_cons (mul rfl rfl k0) ea_nil) (by omega)) fun H2 e2 d2 => ?_
  refine ⟨B.add L, fun i σ' H' => (∃ cv, σ' = [some x, some y, some (.ref L), cv]) ∧ Cz B H L (((List.range (a * b)).take i).flatMap fun c => (sidesAt a (a * b) c).map RPr) H' ∧ Same (hd (B.add L) H2) (hd (B.add L) H'), ⟨⟨_, rfl⟩, c0.up e2, Same.refl _⟩, fun i σ' H' _ ⟨_, c, sm⟩ => ⟨c.domA, sm⟩, ?_, ?_⟩
  · rintro i r v σ' H' H3 hr0 ⟨⟨cv, rfl⟩, c, sm⟩ e3 hv
    obtain ⟨hi, er⟩ := rng_at hr0
    subst er
    have c3 := c.up e3
    have tk : ∀ H', Cz B H L ((((List.range (a * b)).take i).flatMap fun c => (sidesAt a (a * b) c).map RPr) ++ (sidesAt a (a * b) i).map RPr) H' → Cz B H L (((List.range (a * b)).take (i + 1)).flatMap fun c => (sidesAt a (a * b) c).map RPr) H' := fun H' c => by
      rw [take_flat (range_at hi)]
      exact c
    have hl : (((List.range (a * b)).take i).flatMap fun c => (sidesAt a (a * b) c).map RPr).length ≤ 162 := by
      have := flat_len (f := fun c => (sidesAt a (a * b) c).map RPr) (k := 2) (fun c => by rw [List.length_map]; exact sides_len _ _ _) ((List.range (a * b)).take i)
      rw [List.length_take, List.length_range] at this
      omega
    have hvi : v = .int (i : Int) := hv
    subst hvi
    have hcel : i - i / a * a ≤ i := Nat.sub_le _ _
    have ex {Hz : Hp} (s : Same (hd B H) Hz) : Ev (tVar 0) [some x, some y, some (.ref L), some (V.int (i : Int))] Hz (RN a) := ev_var rfl ((RN a).mono s hx)
    have ei {Hz : Hp} : Ev (tVar 3) [some x, some y, some (.ref L), some (V.int (i : Int))] Hz (RN i) := ev_var rfl rfl
    have s3 := c3.known (Same.refl (hd B H))
    have hdm : i / a * a ≤ i := Nat.div_mul_le_self i a
    show tSeq _ _ _ ([some x, some y, some (.ref L), some (V.int (i : Int))] : L2.St) H3
    refine q_if c3.domA (et_test (ev_ltN (ev_subN ei (ev_mulN (ev_divN ei (ex s3) (by omega) (by omega)) (ex s3) (Nat.le_trans (Nat.div_le_self _ _) (by omega))) hdm) (ev_subN (ex s3) (ev_nat (n := 1)) h1))) ?_ ?_
    · intro hb H4 e4 d4
      have c4 := c3.up e4
      refine s_app (r := RPr (i, i + 1)) c4 rfl (ev_pr ei (ev_addN ei (ev_nat (n := 1)))) (by omega) fun H5 c5 e5 => ?_
      have s5 := c5.known (Same.refl (hd B H))
      refine s_if c5.domA (et_test (ev_ltN (ev_addN ei (ex s5)) (mul rfl rfl s5))) ?_ ?_
      · intro hb2 H6 e6 d6
        refine s_app (r := RPr (i, i + a)) (c5.up e6) rfl (ev_pr ei (ev_addN ei (ex (s5.trans (hd_same e6))))) (by rw [List.length_append, List.length_singleton]; omega) fun H7 c7 e7 => ?_
        refine ⟨⟨_, rfl⟩, tk H7 ?_, (((sm.trans (hd_same (e3.trans e4))).trans e5).trans (hd_same e6)).trans e7⟩
        unfold sidesAt
        rw [if_pos (of_decide_eq_true hb), if_pos (of_decide_eq_true hb2)]
        rw [List.append_assoc] at c7
        exact c7
      · intro hb2 H6 e6 d6
        refine ⟨⟨_, rfl⟩, tk H6 ?_, (((sm.trans (hd_same (e3.trans e4))).trans e5).trans (hd_same e6))⟩
        unfold sidesAt
        rw [if_pos (of_decide_eq_true hb), if_neg (of_decide_eq_false hb2)]
        exact c5.up e6
    · intro hb H4 e4 d4
      have c4 := c3.up e4
      have s5 := c4.known (Same.refl (hd B H))
      refine s_if c4.domA (et_test (ev_ltN (ev_addN ei (ex s5)) (mul rfl rfl s5))) ?_ ?_
      · intro hb2 H6 e6 d6
        refine s_app (r := RPr (i, i + a)) (c4.up e6) rfl (ev_pr ei (ev_addN ei (ex (s5.trans (hd_same e6))))) (by omega) fun H7 c7 e7 => ?_
        refine ⟨⟨_, rfl⟩, tk H7 ?_, (((sm.trans (hd_same (e3.trans e4)))).trans (hd_same e6)).trans e7⟩
        unfold sidesAt
        rw [if_neg (of_decide_eq_false hb), if_pos (of_decide_eq_true hb2)]
        exact c7
      · intro hb2 H6 e6 d6
        refine ⟨⟨_, rfl⟩, tk H6 ?_, (((sm.trans (hd_same (e3.trans e4)))).trans (hd_same e6))⟩
        have es : sidesAt a (a * b) i = [] := by
          unfold sidesAt
          rw [if_neg (of_decide_eq_false hb), if_neg (of_decide_eq_false hb2)]
          rfl
        rw [es, List.map_nil, List.append_nil]
        exact c4.up e6
  · rintro σ' H' ⟨⟨cv, rfl⟩, c, sm⟩
    rw [List.length_map, List.length_range, show (List.range (a * b)).take (a * b) = List.range (a * b) from List.take_of_length_le (by simp)] at c
    refine s_ret (B := B) (c.dom.same c.same) (ev_var rfl c.done) (q.go c.same |> fun z => ?_)
    have el : (sides a b).map RPr = (List.range (a * b)).flatMap fun c => (sidesAt a (a * b) c).map RPr := by
      unfold sides
      rw [List.map_flatMap]
    show Ret B (RL (((List.range (a * b)).flatMap fun c => (sidesAt a (a * b) c).map RPr))) H' _
    rw [← el]
    exact z
end
end Sw
set_option Elab.async false
set_option linter.all false
set_option maxRecDepth 100000
set_option maxHeartbeats 1000000
/-! all_marks. -/
namespace Sw
open PySem PySem.Spec PyProof.Rows L2
/-- the fragment's max of two -/
theorem ev_max2 {σ : L2.St} {H : Hp} {ta tb : TE} {a b : Nat} (ha : Ev ta σ H (RN a)) (hb : Ev tb σ H (RN b)) : Ev (tCB (fun xs H Q => ∃ i j, xs = [V.int i, V.int j] ∧ Q (V.int (if j > i then j else i)) H) (tCons ta (tCons tb tNil))) σ H (RN (max a b)) :=
  ev_cb (ea_cons ha (ea_cons hb ea_nil)) fun B H1 vs _ _ hvs _ q => by
    obtain ⟨v, u, e, hv, hu⟩ := hvs.two
    have e1 : v = .int (a : Int) := hv
    have e2 : u = .int (b : Int) := hu
    subst e1
    subst e2
    refine ⟨_, _, e, q _ H1 (Same.refl H1) ?_⟩
    show V.int _ = V.int _
    congr 1
    omega
/-- a tuple one item longer -/
theorem ev_snocP {K : PySem.W.Frag} {σ : L2.St} {H : Hp} {ta tb : TE} {p : List Nat} {n : Nat} (ha : Ev ta σ H (RP p)) (hb : Ev tb σ H (RN n)) (hl : p.length ≤ 90000) : Ev (tTup (StX.tStar K ta (tCons tb tNil))) σ H (RP (p ++ [n])) :=
  ev_is (ev_tup (ea_star ha (ea_cons hb ea_nil)) (by rw [List.length_append, List.length_map, List.length_singleton]; omega)) (by rw [← List.map_singleton (f := RN), ← List.map_append])
abbrev RRow (r : List Nat × Nat) : Rp := RT [RP r.1, RN r.2]
theorem rows_few : ∀ n ∈ List.range 5, (marksRows n).length ≤ 60 ∧ ∀ r ∈ marksRows n, r.2 ≤ 4 ∧ r.1.length ≤ 4 := by decide +kernel
theorem sum_le {α : Type} {f : α → Nat} {k : Nat} : ∀ l : List α, (∀ a ∈ l, f a ≤ k) → (l.map f).sum ≤ l.length * k
  | [], _ => by simp
  | a :: r, h => by
    rw [List.map_cons, List.sum_cons, List.length_cons, Nat.add_mul]
    have := sum_le r fun b hb => h b (List.mem_cons_of_mem _ hb)
    have := h a List.mem_cons_self
    omega
theorem fm_some {α β : Type} (f : α → β) : ∀ l : List α, l.filterMap (fun x => some (f x)) = l.map f
  | [] => rfl
  | a :: r => by rw [List.filterMap_cons, List.map_cons, fm_some f r]
section
variable {P : Program} {w : World} {K : PySem.W.Frag} {mg : Str → Option Value} {base : Heap}
def spMarks : Sp := SpOf (α := Nat) (fun a => [RN a]) (fun a => a ≤ 4) fun a => RL ((allMarks a).map RP)
theorem sc25 : FnScope ["size", "rows", "cell", "row", "count", "piece"] ["size"] (C8.fnScope (topS 25)) := C8.fnScope_by (by decide +kernel)
theorem c25 (T : Txt K mg) : C8.Cal P w K mg base 1 "all_marks" spMarks [] := by
  refine cal_of T.d25 sc25 (len_of (n := 1) fun _ => rfl) fun f _ cdv A outer s H vs Q E hr h => ?_
  obtain ⟨n, B, dm, hvs, hn, q⟩ := h
  have hn : n ≤ 4 := hn
  obtain ⟨x, rfl, hx⟩ := hvs.one
  refine ⟨_, (pss_cons (ps_set (i := 1) sc25.nd rfl (by first | exact .inl rfl | exact .inr rfl) (pe_lst (pa_cons (pe_tup (pa_cons (pe_tup pa_nil) (pa_cons pe_int pa_nil))) pa_nil)))
      (pss_cons (ps_for PassesOwn.never rfl (pi_range1 (by rfl) (T.no "range") (pa_cons (pv 0) pa_nil)) (pg_name (i := 2) sc25.nd rfl (by first | exact .inl rfl | exact .inr rfl)) (pss_one (ps_setLc2 (own := [("row", 3), ("count", 4), ("piece", 5)]) (g := (gTup K 2 (gCons (gName 3) (gCons (gName 4) gNil)))) (g1 := (gName 5)) (tt := tYes) (tt1 := tYes) (vs1 := [5]) (i := 1) rfl sc25.nd rfl rfl rfl (show PI _ _ _ (iList K _) from (pi_list (pv 1))) (blkOk_by (N := ["size", "rows", "cell", "row", "count", "piece"]) (sc := C8.fnScope (topS 25)) (by decide +kernel)) (by decide) (fun _ _ _ _ _ => (pg_tup rfl (pgs_cons (pg_name (i := 3) sc25.nd rfl (by first | exact .inl rfl | exact .inr rfl)) (pgs_cons (pg_name (i := 4) sc25.nd rfl (by first | exact .inl rfl | exact .inr rfl)) pgs_nil)))) (fun _ _ _ _ _ => pts_nil) (fun _ _ _ _ _ => (pi_range1 (by rfl) (T.no "range") (pa_cons (pe_op op_add (pv 4) pe_int) pa_nil))) (fun _ _ _ _ _ => (pg_name (i := 5) sc25.nd rfl (by first | exact .inl rfl | exact .inr rfl))) (fun _ _ _ _ _ => pts_nil) (fun _ _ _ _ _ => (pe_tup (pa_cons (pe_tup (show PA _ _ (StX.tStar K _ _) from StX.pa_star (pv 3) (pa_cons (pv 5) pa_nil))) (pa_cons (pe_callB (call_max2 rfl) (by rfl) (T.no "max") bt_max (pa_cons (pv 4) (pa_cons (pe_op op_add (pv 5) pe_int) pa_nil))) pa_nil)))))))
      (pss_one (ps_ret (pe_lc (own := [("row", 3), ("count", 4)]) (g := (gTup K 2 (gCons (gName 3) (gCons (gName 4) gNil)))) (tt := tYes) rfl sc25.nd (show PI _ _ _ (iList K _) from (pi_list (pv 1))) (blkOk_by (N := ["size", "rows", "cell", "row", "count", "piece"]) (sc := C8.fnScope (topS 25)) (by decide +kernel)) (fun _ _ _ _ _ => (pg_tup rfl (pgs_cons (pg_name (i := 3) sc25.nd rfl (by first | exact .inl rfl | exact .inr rfl)) (pgs_cons (pg_name (i := 4) sc25.nd rfl (by first | exact .inl rfl | exact .inr rfl)) pgs_nil)))) (fun _ _ _ _ _ => pts_nil) (fun _ _ _ _ _ => (pv 3))))))), ?_⟩
  refine q_set (r := RL ((marksRows 0).map RRow)) dm (ev_lst (ea_cons (ev_tup (ea_cons (ev_tup ea_nil (by decide)) (ea_cons (ev_nat (n := 0)) ea_nil)) (by decide)) ea_nil) (by decide)) fun v1 H1 e1 d1 hv1 => ?_
  refine q_for (rs := (List.range n).map RN) d1 (ei_rng1 (ea_cons (ev_var rfl ((RN n).mono (hd_same e1) hx)) ea_nil) (by omega)) fun H2 e2 d2 => ?_
  refine ⟨B, fun i σ' H' => (∃ rv c2 c3 c4 c5, σ' = [some x, some rv, c2, c3, c4, c5] ∧ (RL ((marksRows i).map RRow)).at_ (hd B H') rv) ∧ Same H2 H', ⟨⟨v1, none, none, none, none, rfl, Rp.mono _ (hd_same e2) hv1⟩, Same.refl _⟩, fun i σ' H' _ ⟨_, sm⟩ => ⟨d2.same sm, hd_same sm⟩, ?_, ?_⟩
  · rintro i r v σ' H' H3 hr0 ⟨⟨rv, c2, c3, c4, c5, rfl, hrv⟩, sm⟩ e3 hv
    obtain ⟨hi, er⟩ := rng_at hr0
    have hm := rows_few i (List.mem_range.mpr (by omega))
    have hm2 := rows_few (i + 1) (List.mem_range.mpr (by omega))
    have d3 : Dom B H3 := (d2.same sm).same e3
    refine s_set (r := RL ((marksRows (i + 1)).map RRow)) d3 (ev_is (ev_lc2 (xs := marksRows i) (ρ := RRow) (ys := fun r => List.range (r.2 + 1)) (ρ1 := fun _ p => RN p) (fun r p => some (RRow (r.1 ++ [p], max r.2 (p + 1)))) (ei_list (ev_var rfl (Rp.mono _ (hd_same e3) hrv))) ?_ ?_ gTwo_mono) ?_) fun v4 H4 e4 d4 hv4 => ⟨⟨v4, _, _, _, _, rfl, hv4⟩, sm.trans (e3.trans e4)⟩
    · intro j hj
      have := sum_le (f := fun r : List Nat × Nat => (List.range (r.2 + 1)).length) (k := 5) ((marksRows i).take j) fun r hr => by
        rw [List.length_range]
        have := (hm.2 r (List.mem_of_mem_take hr)).1
        omega
      rw [List.length_take] at this
      have := hm.1
      omega
    · intro B4 r v H4 hr1 s4 d4 hv4
      refine tg_two hv4 fun va vb ha hb => ⟨rfl, rfl, ei_rng1 (n := r.2 + 1) (ea_cons (ev_addN (ev_var rfl hb) (ev_nat (n := 1))) ea_nil) (by have := (hm.2 r hr1).1; omega), fun _ => rfl, fun _ _ _ _ _ _ => et_yes, fun p u H5 rp hp s5 hu hrp => ?_⟩
      have erp := Option.some.inj hrp
      rw [← erp]
      exact ev_tup (ea_cons (ev_snocP (ev_var rfl (Rp.mono _ s5 ha)) (ev_var rfl hu) (by have := (hm.2 r hr1).2; omega)) (ea_cons (ev_max2 (ev_var rfl (Rp.mono _ s5 hb)) (ev_addN (ev_var rfl hu) (ev_nat (n := 1)))) ea_nil)) (by show 2 ≤ 100000; decide)
    · show RL _ = RL ((marksStep (marksRows i)).map RRow)
      unfold marksStep
      rw [List.map_flatMap]
      refine congrArg RL (congrArg (fun f => (marksRows i).flatMap f) (funext fun r => ?_))
      rw [List.map_map]
      exact fm_some _ _
  · rintro σ' H' ⟨⟨rv, c2, c3, c4, c5, rfl, hrv⟩, sm⟩
    rw [List.length_map, List.length_range] at hrv
    have hm := rows_few n (List.mem_range.mpr (by omega))
    refine s_ret (d2.same sm) (ev_is (ev_lcP (xs := marksRows n) (ρ1 := fun r => RP r.1) (ρ2 := fun r => RN r.2) (fun r => some (RP r.1)) (ei_list (ev_var rfl hrv)) (by have := hm.1; omega) (fun _ _ => rfl) (fun _ _ _ _ _ _ _ _ => et_yes) fun r v u H5 rp _ s5 h1 h2 hrp => ?_) ?_) (q.go (e1.trans (e2.trans sm)))
    · rw [← Option.some.inj hrp]
      exact ev_var rfl h1
    · show RL _ = RL (((marksRows n).map (·.1)).map RP)
      rw [List.map_map]
      exact congrArg RL (fm_some _ _)
end
end Sw
set_option Elab.async false
set_option linter.all false
set_option maxRecDepth 100000
set_option maxHeartbeats 1000000
/-! The dict of lists and the dict of numbers in parted. -/
namespace Sw
open PySem PySem.Spec PyProof.Rows L2
def Bs.addL (B : Bs) (as : List Addr) : Bs := fun a => B a || decide (a ∈ as)
theorem addL_in {B : Bs} {as : List Addr} {a : Addr} (h : a ∈ as) : B.addL as a = true := by simp [Bs.addL, h]
theorem addL_ne {B : Bs} {as : List Addr} {a : Addr} (h : a ∉ as) : B.addL as a = B a := by simp [Bs.addL, h]
theorem addL_known {B : Bs} {Hk H0 H' : Hp} {as : List Addr} (k : Same Hk (hd B H0)) (s : Same H0 H') (n : ∀ a ∈ as, H0 a = none) : Same Hk (hd (B.addL as) H') := fun b o q => by
  obtain ⟨h1, h2⟩ := hd_in (k _ _ q)
  refine hd_of (s _ _ h1) ((addL_ne fun m => ?_).trans h2)
  rw [n b m] at h1
  cases h1
theorem addL_dom {B : Bs} {H0 H' : Hp} {as : List Addr} (d : Dom B H0) (s : Same H0 H') (n : ∀ a ∈ as, H' a ≠ none ∧ ∀ xs, H' a ≠ some (.tup xs)) : Dom (B.addL as) H' := fun a q => by
  by_cases e : a ∈ as
  · exact n a e
  · rw [addL_ne e] at q
    exact (d.same s) a q
/-- a store to an object that is not known -/
theorem same_at {A : Hp} {B : Bs} {H' : Hp} {w : Addr} {o : HO} (s : Same A (hd B H')) (h : A w = none) : Same A (hd B (upd H' w o)) := fun b x q => by
  obtain ⟨h1, h2⟩ := hd_in (s _ _ q)
  refine hd_of ?_ h2
  rw [upd_ne (ne_of_none q h)]
  exact h1
def nkv (n : Nat) (la : Nat → Addr) : List (Key × V) := (List.range n).map fun c : Nat => ((Sum.inl (c : Int) : Key), V.ref (la c))
def nrL (n : Nat) (N : Addr) (la : Nat → Addr) : List Addr := N :: (List.range n).map la
theorem in_nrL {n : Nat} {N : Addr} {la : Nat → Addr} {c : Nat} (h : c < n) : la c ∈ nrL n N la := List.mem_cons_of_mem _ (List.mem_map.mpr ⟨c, List.mem_range.mpr h, rfl⟩)
/-- the dict at N of lists of numbers, the one of c at la c -/
structure Nr (H0 : Hp) (n : Nat) (N : Addr) (la : Nat → Addr) (nb : Nat → List Nat) (H' : Hp) : Prop where
  same : Same H0 H'
  nN : H0 N = none
  nL : ∀ c, c < n → H0 (la c) = none
  dict : H' N = some (.dK (nkv n la))
  lst : ∀ c, c < n → H' (la c) = some (.lst ((nb c).map vN))
  inj : ∀ c d, c < n → d < n → la c = la d → c = d
section
variable {B : Bs} {H0 H' H2 Hk : Hp} {n : Nat} {N F w : Addr} {la : Nat → Addr} {nb : Nat → List Nat} {f : List (Nat × Nat)}
theorem Nr.non (r : Nr H0 n N la nb H') : ∀ a ∈ nrL n N la, H0 a = none := fun a h => by
  rcases List.mem_cons.mp h with h | h
  · rw [h]
    exact r.nN
  · obtain ⟨c, hc, e⟩ := List.mem_map.mp h
    rw [← e]
    exact r.nL c (List.mem_range.mp hc)
theorem Nr.som (r : Nr H0 n N la nb H') : ∀ a ∈ nrL n N la, H' a ≠ none := fun a h z => by
  rcases List.mem_cons.mp h with h | h
  · rw [h, r.dict] at z
    cases z
  · obtain ⟨c, hc, e⟩ := List.mem_map.mp h
    rw [← e, r.lst c (List.mem_range.mp hc)] at z
    cases z
theorem Nr.nt (r : Nr H0 n N la nb H') : ∀ a ∈ nrL n N la, ∀ xs, H' a ≠ some (.tup xs) := fun a h xs z => by
  rcases List.mem_cons.mp h with h | h
  · rw [h, r.dict] at z
    cases z
  · obtain ⟨c, hc, e⟩ := List.mem_map.mp h
    rw [← e, r.lst c (List.mem_range.mp hc)] at z
    cases z
theorem Nr.up (r : Nr H0 n N la nb H') (e : Same H' H2) : Nr H0 n N la nb H2 := ⟨r.same.trans e, r.nN, r.nL, e _ _ r.dict, fun c h => e _ _ (r.lst c h), r.inj⟩
theorem Nr.known (r : Nr H0 n N la nb H') (k : Same Hk (hd B H0)) : Same Hk (hd (B.addL (nrL n N la)) H') := addL_known k r.same r.non
theorem Nr.dom (r : Nr H0 n N la nb H') (d : Dom B H0) : Dom (B.addL (nrL n N la)) H' := addL_dom d r.same fun a h => ⟨r.som a h, r.nt a h⟩
theorem nkv_get : ∀ (l : List Nat) (la : Nat → Addr) (c : Nat), valV (l.map fun c : Nat => ((Sum.inl (c : Int) : Key), V.ref (la c))) (Sum.inl (c : Int)) = if c ∈ l then some (V.ref (la c)) else none
  | [], _, _ => by simp [valV]
  | d :: r, la, c => by
    by_cases e : d = c
    · subst e
      rw [List.map_cons, valV_pos rfl, if_pos List.mem_cons_self]
    · rw [List.map_cons, valV_neg (fun q => e (Int.ofNat.inj (Sum.inl.inj q))), nkv_get r la c]
      have e2 : (c ∈ d :: r) = (c ∈ r) := by simp [Ne.symm e]
      simp only [e2]
theorem Nr.get (r : Nr H0 n N la nb H') {c : Nat} (h : c < n) : DGet H' N (vN c) (some (V.ref (la c))) := by
  have z := DGet.k (k := Sum.inl (c : Int)) r.dict
  unfold nkv at z
  rw [nkv_get, if_pos (List.mem_range.mpr h)] at z
  exact z
theorem Nr.ne (r : Nr H0 n N la nb H') {c : Nat} (h : c < n) : la c ≠ N := fun e => by
  have z := r.lst c h
  rw [e, r.dict] at z
  cases z
theorem Nr.app (r : Nr H0 n N la nb H') {o m : Nat} (h : o < n) : Nr H0 n N la (fun d => nb d ++ if d = o then [m] else []) (upd H' (la o) (.lst ((nb o).map vN ++ [vN m]))) where
  same := fun b x q => by
    rw [upd_ne (ne_of_none q (r.nL o h))]
    exact r.same _ _ q
  nN := r.nN
  nL := r.nL
  dict := by
    rw [upd_ne (Ne.symm (r.ne h))]
    exact r.dict
  lst := fun c hc => by
    by_cases e : c = o
    · subst e
      rw [upd_same, if_pos rfl, List.map_append]
      rfl
    · rw [upd_ne (fun q => e (r.inj c o hc h q)), if_neg e, List.append_nil]
      exact r.lst c hc
  inj := r.inj
/-- near[o].append(m) -/
theorem s_nrapp {K : PySem.W.Frag} {σ : L2.St} {D : Ends} {kn ko kp o m : Nat} (r : Nr H0 n N la nb H') (hn : σ[kn]? = some (some (.ref N))) (ho : σ[ko]? = some (some (vN o))) (hp : σ[kp]? = some (some (vN m))) (h : o < n) (hl : (nb o).length < 90000)
    (q : ∀ H2, Nr H0 n N la (fun d => nb d ++ if d = o then [m] else []) H2 → Same (hd (B.addL (nrL n N la)) H') (hd (B.addL (nrL n N la)) H2) → D.nx σ H2) : tDrop (tBM K "list" rAppend (tDGet (tVar kn) (tVar ko)) (tCons (tVar kp) tNil)) D σ H' :=
  ⟨.ref N, hn, vN o, ho, N, .ref (la o), rfl, r.get h, .inl ⟨rfl, _, SqL.of (r.lst o h)⟩, vN m, hp, la o, _, vN m, rfl, rfl, r.lst o h, Nat.lt_of_lt_of_le (by rw [List.length_map]; exact hl) (by decide : 90000 ≤ sizeLine), q _ (r.app h) (by
    rw [hd_upd (addL_in (in_nrL h))]
    exact Same.refl _)⟩
/-- near = {cell: [] for cell in range(n)} -/
theorem q_near {σ : L2.St} {D : Ends} {ta : TA} {tz : TS} {j k : Nat} {H : Hp} (d : Dom B H) (h : EvA ta σ (hd B H) [RN n]) (hn : n ≤ 90000) (hj : j < σ.length) (hw : ∀ v, wipe ((wipe σ [j]).set j (some v)) [j] = wipe σ [j])
    (q : ∀ N la H1, Nr H n N la (fun _ => []) H1 → tz D (σ.set k (some (.ref N))) H1) : tSeq (tAsg (tDc (iRng1 ta) (gName j) tYes (tVar j) (tLst tNil) [j]) (gName k)) tz D σ H := by
  unfold tSeq tAsg tDc
  refine ei_rng1 h (by omega) B H (Same.refl _) d _ fun J H2 e2 w => ?_
  intro N hN
  have d2 := d.same e2
  refine ⟨fun i m H' => m = n - i ∧ i ≤ n ∧ ∃ la, Nr H2 i N la (fun _ => []) H', ⟨_, rfl, Nat.zero_le _, fun _ => N, same_upd hN, hN, fun c hc => by omega, upd_same, fun c hc => by omega, fun c _ hc => by omega⟩, ?_⟩
  rintro i m H' ⟨rfl, hi, la, r⟩
  have sm : Same (hd B H2) (hd (B.addL (nrL i N la)) H') := r.known (Same.refl _)
  by_cases hlt : i < n
  · refine .inr ⟨w.go i _ H' (by simpa using hlt) sm, fun H3 => ∃ la, Nr H2 (i + 1) N la (fun _ => []) H3, fun H3 p => ⟨n - (i + 1), by omega, rfl, hlt, p⟩, fun v H3 y => ?_⟩
    obtain ⟨s3, fy⟩ := w.yld i _ H' v H3 sm (r.dom d2) y
    have hv := fy (RN i) (by rw [List.getElem?_map, range_at hlt]; rfl)
    have hv : v = vN i := hv
    subst hv
    have r3 := r.up s3
    refine ⟨hw _, ?_⟩
    unfold tYes
    dsimp only
    rw [if_pos rfl]
    refine ⟨vN i, ?_, Nat.zero_le _, fun p hp => ⟨nkv i la, Sum.inl (i : Int), rfl, ?_, ?_, ?_⟩⟩
    · rw [List.getElem?_set_self]
      rw [wipe_length]
      exact hj
    · rw [upd_ne (ne_of_none r3.dict hp)]
      exact r3.dict
    · unfold nkv
      rw [List.length_map, List.length_range]
      exact Nat.lt_of_lt_of_le (by omega : i < 100000) (by decide)
    · have hi0 : valV (nkv i la) (Sum.inl (i : Int)) = none := by
        unfold nkv
        rw [nkv_get, if_neg (by simp)]
      rw [putK_new _ hi0]
      have hpN : p ≠ N := fun e => by
        rw [e, r3.dict] at hp
        cases hp
      have hpc : ∀ c, c < i → la c ≠ p := fun c hc e => by
        have z := r3.lst c hc
        rw [e, hp] at z
        cases z
      have hp2 : H2 p = none := by
        cases z : H2 p with
        | none => rfl
        | some o =>
          rw [r3.same _ _ z] at hp
          cases hp
      refine ⟨fun c => if c = i then p else la c, ?_, r.nN, ?_, ?_, ?_, ?_⟩
      · intro b x z
        rw [upd_ne (ne_of_none z r.nN), upd_ne (ne_of_none z hp2)]
        exact r3.same _ _ z
      · intro c hc
        split
        · exact hp2
        · exact r.nL c (by omega)
      · rw [upd_same]
        unfold nkv
        rw [List.range_succ, List.map_append, List.map_singleton]
        dsimp only
        rw [if_pos rfl]
        refine congrArg (fun l => some (HO.dK (l ++ _))) (List.map_congr_left fun c hc => ?_)
        rw [if_neg (Nat.ne_of_lt (List.mem_range.mp hc))]
      · intro c hc
        split
        · rw [upd_ne hpN, upd_same]
          rfl
        · rename_i hne
          rw [upd_ne (r3.ne (by omega)), upd_ne (hpc c (by omega))]
          exact r3.lst c (by omega)
      · intro c e hc he hq
        split at hq <;> split at hq
        · omega
        · exact absurd hq.symm (hpc e (by omega))
        · exact absurd hq (hpc c (by omega))
        · exact r.inj c e (by omega) (by omega) hq
  · have ei : i = n := by omega
    subst ei
    refine .inl ⟨w.stop _ _ H' (by simp) sm, q N la H' ⟨e2.trans r.same, ?_, ?_, r.dict, r.lst, r.inj⟩⟩
    · cases z : H N with
      | none => rfl
      | some o =>
        have := r.nN
        rw [e2 _ _ z] at this
        cases this
    · intro c hc
      cases z : H (la c) with
      | none => rfl
      | some o =>
        have := r.nL c hc
        rw [e2 _ _ z] at this
        cases this
/-! ### the dict of numbers -/
def fkv (f : List (Nat × Nat)) : List (Key × V) := f.map fun p => ((Sum.inl (p.1 : Int) : Key), vN p.2)
theorem fkv_get : ∀ (f : List (Nat × Nat)) (c : Nat), valV (fkv f) (Sum.inl (c : Int)) = (lookN f c).map vN
  | [], _ => rfl
  | p :: r, c => by
    unfold fkv lookN
    by_cases e : p.1 = c
    · rw [List.map_cons, valV_pos (by rw [← e]), List.find?_cons_of_pos (by simpa using e)]
      rfl
    · rw [List.map_cons, valV_neg (fun q => e (Int.ofNat.inj (Sum.inl.inj q))), List.find?_cons_of_neg (by simpa using e)]
      exact fkv_get r c
def RDk (kvs : List (Key × V)) : Rp := ⟨fun H v => ∃ a, v = .ref a ∧ H a = some (.dK kvs), fun e ⟨a, x, y⟩ => ⟨a, x, e _ _ y⟩⟩
theorem fkv_dget {H : Hp} {a : Addr} {c : Nat} (h : H a = some (.dK (fkv f))) : DGet H a (vN c) ((lookN f c).map vN) := by
  have z := DGet.k (k := Sum.inl (c : Int)) h
  rw [fkv_get] at z
  exact z
theorem ev_dgetN {σ : L2.St} {H : Hp} {td ty : TE} {c m : Nat} (hd' : Ev td σ H (RDk (fkv f))) (hy : Ev ty σ H (RN c)) (hm : lookN f c = some m) : Ev (tDGet td ty) σ H (RN m) := fun B H1 e d Q q =>
  hd' B H1 e d _ fun x H2 e2 ⟨a, ex, ha⟩ => hy B H2 (e.trans (hd_same e2)) (d.same e2) _ fun y H3 e3 hyv => by
    have ey : y = vN c := hyv
    subst ey
    refine ⟨a, vN m, ex, ?_, q _ H3 (e2.trans e3) rfl⟩
    have z := fkv_dget (c := c) (e3 _ _ (hd_in ha).1)
    rw [hm] at z
    exact z
theorem fkv_put {c m : Nat} (h : lookN f c = none) : putK (fkv f) (Sum.inl (c : Int)) (vN m) = fkv (f ++ [(c, m)]) := by
  rw [putK_new _ (by rw [fkv_get, h]; rfl)]
  unfold fkv
  rw [List.map_append]
  rfl
structure Pt (H0 : Hp) (n : Nat) (N : Addr) (la : Nat → Addr) (nb : Nat → List Nat) (F : Addr) (f : List (Nat × Nat)) (H' : Hp) : Prop where
  nr : Nr H0 n N la nb H'
  fF : H0 F = none
  fN : F ∉ nrL n N la
  fd : H' F = some (.dK (fkv f))
theorem Pt.up (r : Pt H0 n N la nb F f H') (e : Same H' H2) : Pt H0 n N la nb F f H2 := ⟨r.nr.up e, r.fF, r.fN, e _ _ r.fd⟩
theorem Pt.non (r : Pt H0 n N la nb F f H') : ∀ a ∈ F :: nrL n N la, H0 a = none := fun a h => by
  rcases List.mem_cons.mp h with h | h
  · rw [h]
    exact r.fF
  · exact r.nr.non a h
theorem Pt.som (r : Pt H0 n N la nb F f H') : ∀ a ∈ F :: nrL n N la, H' a ≠ none := fun a h z => by
  rcases List.mem_cons.mp h with h | h
  · rw [h, r.fd] at z
    cases z
  · exact r.nr.som a h z
theorem Pt.nt (r : Pt H0 n N la nb F f H') : ∀ a ∈ F :: nrL n N la, ∀ xs, H' a ≠ some (.tup xs) := fun a h xs z => by
  rcases List.mem_cons.mp h with h | h
  · rw [h, r.fd] at z
    cases z
  · exact r.nr.nt a h xs z
theorem Pt.known (r : Pt H0 n N la nb F f H') (k : Same Hk (hd B H0)) : Same Hk (hd (B.addL (F :: nrL n N la)) H') := addL_known k r.nr.same r.non
theorem Pt.dom (r : Pt H0 n N la nb F f H') (d : Dom B H0) : Dom (B.addL (F :: nrL n N la)) H' := addL_dom d r.nr.same fun a h => ⟨r.som a h, r.nt a h⟩
/-- a store elsewhere -/
theorem Pt.out (r : Pt H0 n N la nb F f H') {o : HO} (h0 : H0 w = none) (hw : w ∉ F :: nrL n N la) : Pt H0 n N la nb F f (upd H' w o) := by
  have hF : F ≠ w := fun e => hw (by rw [e]; exact List.mem_cons_self)
  have hx : ∀ a ∈ nrL n N la, a ≠ w := fun a ha e => hw (List.mem_cons_of_mem _ (by rw [← e]; exact ha))
  refine ⟨⟨fun b x q => ?_, r.nr.nN, r.nr.nL, ?_, fun c hc => ?_, r.nr.inj⟩, r.fF, r.fN, ?_⟩
  · rw [upd_ne (ne_of_none q h0)]
    exact r.nr.same _ _ q
  · rw [upd_ne (hx _ List.mem_cons_self)]
    exact r.nr.dict
  · rw [upd_ne (hx _ (in_nrL hc))]
    exact r.nr.lst c hc
  · rw [upd_ne hF]
    exact r.fd
theorem Pt.put (r : Pt H0 n N la nb F f H') {c m : Nat} (h : lookN f c = none) : Pt H0 n N la nb F (f ++ [(c, m)]) (upd H' F (.dK (putK (fkv f) (Sum.inl (c : Int)) (vN m)))) := by
  have hx : ∀ a ∈ nrL n N la, a ≠ F := fun a ha e => r.fN (by rw [← e]; exact ha)
  refine ⟨⟨fun b x q => ?_, r.nr.nN, r.nr.nL, ?_, fun c hc => ?_, r.nr.inj⟩, r.fF, r.fN, ?_⟩
  · rw [upd_ne (ne_of_none q r.fF)]
    exact r.nr.same _ _ q
  · rw [upd_ne (hx _ List.mem_cons_self)]
    exact r.nr.dict
  · rw [upd_ne (hx _ (in_nrL hc))]
    exact r.nr.lst c hc
  · rw [upd_same, fkv_put h]
end
end Sw
set_option Elab.async false
set_option linter.all false
set_option maxRecDepth 100000
set_option maxHeartbeats 1000000
/-! name = {key: value for ..}, the name a local that is stored before the comprehension's end. -/
namespace Sw
open PySem PySem.Spec PyProof.Rows L2
section
variable {X : Cx}
theorem ps_setDc {i : Nat} {y : Str} {py : Pos} {kx vx tg iter : Expr} {ifs : List Expr} {scope : Scope} {own : List (Str × Nat)} {pos spos : Pos} {wi : TI} {g : TG} {tt : TT} {tk tv : TE} (hc : X.calm = true) (hN : X.N.Nodup) (hy : X.N[i]? = some y) (hyl : X.env.scope.names.lookup y = some .local)
    (hsw : swapsWith (.DictComp kx vx [⟨tg, iter, ifs, 0⟩] scope pos) (some (.Name y py)) spos.line X.env = pure true) (hi : PI X tg iter wi) (ok : BlkOk X.N X.env.scope scope own)
    (hg : ∀ (s : Shared) (H : Hp) (C : Addr) (cl : List (Str × Addr)) (fp : List Addr), PG (X.blk s H scope (compEnvC scope cl C X.env) fp) tg g) (ht : ∀ (s : Shared) (H : Hp) (C : Addr) (cl : List (Str × Addr)) (fp : List Addr), PTs (X.blk s H scope (compEnvC scope cl C X.env) fp) ifs tt)
    (hk : ∀ (s : Shared) (H : Hp) (C : Addr) (cl : List (Str × Addr)) (fp : List Addr), PE (X.blk s H scope (compEnvC scope cl C X.env) fp) kx tk)
    (he : ∀ (s : Shared) (H : Hp) (C : Addr) (cl : List (Str × Addr)) (fp : List Addr), PE (X.blk s H scope (compEnvC scope cl C X.env) fp) vx tv) (hs : ∀ x, foldedSetIterable iter X.env x = pure x := by intro _; rfl) :
    PS X (.Assign [.Name y py] (.DictComp kx vx [⟨tg, iter, ifs, 0⟩] scope pos) spos) (tAsg (tDc wi g tt tk tv (own.map (·.2))) (gName i)) := by
  refine ⟨fun pins s σ H D I h => ?_⟩
  rw [exec_Assign_Name_used _ _ _ _ hsw]
  refine wpAny_bind (wpAny_standAt (wpAny_bind ?_))
  show wpAny _ X.A (do let _ ← comprehension (.DictComp kx vx [⟨tg, iter, ifs, 0⟩] scope pos) scope X.env (firstIterPos [⟨tg, iter, ifs, 0⟩] pos) newDict false (eval iter X.env) (some (assign (.Name y py) X.env))) _ _ s
  have h : tDc wi g tt tk tv (own.map (·.2)) σ H (fun x H1 => gName i x σ H1 D.nx) := h
  refine wpAny_bind (thn (dc_core (Qf := fun _ s' => SP X pins D .next s') hc hN I hi ok hg ht hk he hs h fun L C s' m H' I' q hn f => ?_) fun _ s' hq => wpAny_pure (wpAny_pure hq))
  show wpAny _ _ (assign (.Name y py) X.env (.ref L)) _ _ _
  refine wpAny_assign_Name (store_ok2 (v := V.ref L) I' hN hy (.inl hyl) rfl (fun s2 I2 ⟨a, sb, ha⟩ => ?_) (.inr hyl))
  obtain ⟨f0, f1, f2, f3, f4, f5⟩ := f
  have haC : C ≠ a := by
    rcases ha with z | z
    · rw [z]
      exact f1
    · exact fun e => f4 y a z e.symm
  refine ⟨m, hn.sameBut sb haC, fun h3 sb3 => ?_⟩
  exact ⟨_, H', I2.turned (t' := s2.toks) (fun b o hb e => (sb3.2 b hb).trans e) f0 f1 f3 f4 f5, q⟩
end
end Sw
set_option Elab.async false
set_option linter.all false
set_option maxRecDepth 100000
set_option maxHeartbeats 1000000
/-! parted. -/
namespace Sw
open PySem PySem.Spec PyProof.Rows L2
theorem snoc_cases {α : Type} : ∀ l : List α, l = [] ∨ ∃ r a, l = r ++ [a]
  | [] => .inl rfl
  | a :: r => by
    rcases snoc_cases r with h | ⟨s, b, h⟩
    · exact .inr ⟨[], a, by rw [h]; rfl⟩
    · exact .inr ⟨a :: s, b, by rw [h]; rfl⟩
theorem dfs_len {nr : Nat → List Nat} {cnt : Nat} : ∀ {m : Nat} {f : List (Nat × Nat)} {ws : List Nat} {r : List (Nat × Nat)}, dfs nr cnt m f ws = some r → ws.length ≤ m ∧ r.length ≤ f.length + m
  | 0, f, ws, r, h => by
    unfold dfs at h
    split at h
    · rename_i e
      rw [e, Option.some.inj h]
      exact ⟨Nat.le_refl _, by omega⟩
    · cases h
  | m + 1, f, ws, r, h => by
    unfold dfs at h
    split at h
    · cases h
    · split at h
      · have z := dfs_len h
        rw [List.length_dropLast] at z
        exact ⟨by omega, by omega⟩
      · have z := dfs_len h
        rw [List.length_append, List.length_append, List.length_dropLast, List.length_singleton] at z
        exact ⟨by omega, by omega⟩
theorem dfsAny_some {nr : Nat → List Nat} {cnt : Nat} {f : List (Nat × Nat)} {ws : List Nat} {r : List (Nat × Nat)} : ∀ {k : Nat}, dfsAny nr cnt f ws k = some r → ∃ m, m ≤ k ∧ dfs nr cnt m f ws = some r
  | 0, h => ⟨0, Nat.le_refl _, h⟩
  | k + 1, h => by
    unfold dfsAny at h
    cases e : dfs nr cnt (k + 1) f ws with
    | some q =>
      rw [e] at h
      have := Option.some.inj h
      subst this
      exact ⟨k + 1, Nat.le_refl _, e⟩
    | none =>
      rw [e] at h
      obtain ⟨m, h1, h2⟩ := dfsAny_some h
      exact ⟨m, by omega, h2⟩
section
variable {B : Bs} {H0 H A : Hp} {n : Nat} {N F w : Addr} {la : Nat → Addr} {nr : Nat → List Nat} {K : PySem.W.Frag} {D : Ends}
/-- the walk from one cell -/
theorem s_dfs {x y z c4 c5 c6 c0 : Option V} {cnt fuel : Nat} {f f' : List (Nat × Nat)} {ws : List Nat} (hnr : ∀ c, c < n → (nr c).length ≤ 1000 ∧ ∀ d ∈ nr c, d < n) (hf : dfs nr cnt fuel f ws = some f') (p : Pt H0 n N la nr F f H) (hw : H w = some (.lst (ws.map vN))) (hw0 : H0 w = none)
    (hwN : w ∉ F :: nrL n N la) (hws : ∀ c ∈ ws, c < n) (hl : f.length + fuel ≤ 80000) (sA : Same A (hd (B.addL (F :: nrL n N la)) H)) (hA : A w = none)
    (q : ∀ c1 H2, Pt H0 n N la nr F f' H2 → Same A (hd (B.addL (F :: nrL n N la)) H2) → D.nx [x, y, z, some (.ref N), c4, c5, c6, some (.ref F), some (vN cnt), some (.ref w), c1] H2) :
    tWhile (tTest (tOp (rNeD K) (tVar 9) (tLst tNil))) (tSeq (tAsg (tBM0 K "list" rPop (tVar 9)) (gName 10)) (tIfS (tB (tDNotIn (tVar 10) (tVar 7))) (tSeq (sDPut (tVar 7) (tVar 10) (tVar 8)) (tDrop (tBM K "list" rExtend (tVar 9) (tCons (tDGet (tVar 3) (tVar 10)) tNil)))) tNext)) D
      [x, y, z, some (.ref N), c4, c5, c6, some (.ref F), some (vN cnt), some (.ref w), c0] H := by
  refine ⟨fun m σ' H' => ∃ f1 ws1 c1, dfs nr cnt m f1 ws1 = some f' ∧ f1.length + m ≤ 80000 ∧ (∀ c ∈ ws1, c < n) ∧ σ' = [x, y, z, some (.ref N), c4, c5, c6, some (.ref F), some (vN cnt), some (.ref w), c1] ∧ Pt H0 n N la nr F f1 H' ∧ H' w = some (.lst (ws1.map vN)) ∧ Same A (hd (B.addL (F :: nrL n N la)) H'),
    ⟨fuel, f, ws, c0, hf, hl, hws, rfl, p, hw, sA⟩, ?_⟩
  rintro m σ' H' ⟨f1, ws1, c1, h1, h2, h3, rfl, p1, w1, s1⟩
  refine ⟨.ref w, rfl, Nat.zero_le _, fun e he => ?_⟩
  have p2 := p1.up (same_upd (o := .lst []) he)
  have w2 : upd H' e (.lst []) w = some (.lst (ws1.map vN)) := (same_upd he) _ _ w1
  have s2 : Same A (hd (B.addL (F :: nrL n N la)) (upd H' e (.lst []))) := s1.trans (hd_same (same_upd he))
  refine ⟨dLN ws1, dLN [], dat_LN ws1 K _ _ ⟨w, _, rfl, w2, nat_al ws1⟩, dat_LN [] K _ _ ⟨e, [], rfl, upd_same, .nil⟩, sh_LN _, sh_LN _, _, rfl, ?_⟩
  rw [eqv_LN]
  rcases snoc_cases ws1 with e0 | ⟨l, here, e0⟩
  · subst e0
    rw [if_neg (by simp)]
    have ef : f1 = f' := by
      cases m with
      | zero => exact Option.some.inj h1
      | succ k => cases h1
    subst ef
    exact q _ _ p2 s2
  · subst e0
    rw [if_pos (by simp)]
    have hl := dfs_len h1
    cases m with
    | zero =>
      rw [List.length_append, List.length_singleton] at hl
      omega
    | succ k =>
      have hh : here < n := h3 here (by simp)
      have hll : ∀ c ∈ l, c < n := fun c hc => h3 c (List.mem_append_left _ hc)
      rw [List.length_append, List.length_singleton] at hl
      have hstep : (if (lookN f1 here).isSome = true then dfs nr cnt k f1 l else dfs nr cnt k (f1 ++ [(here, cnt)]) (l ++ nr here)) = some f' := by
        unfold dfs at h1
        rw [if_neg (by simp), List.getLastD_concat, List.dropLast_concat] at h1
        exact h1
      refine ⟨fun σ2 H2 => ∃ f1 ws1 c1, dfs nr cnt k f1 ws1 = some f' ∧ f1.length + k ≤ 80000 ∧ (∀ c ∈ ws1, c < n) ∧ σ2 = [x, y, z, some (.ref N), c4, c5, c6, some (.ref F), some (vN cnt), some (.ref w), c1] ∧ Pt H0 n N la nr F f1 H2 ∧ H2 w = some (.lst (ws1.map vN)) ∧ Same A (hd (B.addL (F :: nrL n N la)) H2), fun σ2 H2 h => ⟨k, Nat.lt_succ_self _, h⟩, ?_⟩
      refine ⟨.ref w, rfl, .inl ⟨rfl, _, SqL.of w2⟩, w, (l ++ [here]).map vN, vN here, rfl, rfl, w2, by simp, ?_⟩
      have ed : ((l ++ [here]).map vN).dropLast = l.map vN := by rw [List.map_append, List.map_singleton, List.dropLast_concat]
      rw [ed]
      have p3 := p2.out (o := .lst (l.map vN)) hw0 hwN
      have s3 := same_at (o := .lst (l.map vN)) s2 hA
      generalize hH3 : upd (upd H' e (.lst [])) w (.lst (l.map vN)) = H3 at p3 s3 ⊢
      have w3 : H3 w = some (.lst (l.map vN)) := by rw [← hH3]; exact upd_same
      refine ⟨vN here, rfl, .ref F, rfl, F, _, rfl, fkv_dget p3.fd, _, rfl, ?_⟩
      cases eh : lookN f1 here with
      | some v =>
        rw [if_neg (by simp)]
        rw [eh] at hstep
        exact ⟨f1, l, _, hstep, by omega, hll, rfl, p3, w3, s3⟩
      | none =>
        rw [if_pos (by rfl)]
        rw [eh] at hstep
        refine ⟨vN cnt, rfl, .ref F, rfl, vN here, rfl, F, _, rfl, DPut.k (k := Sum.inl (here : Int)) p3.fd (Nat.lt_of_lt_of_le (by unfold fkv; rw [List.length_map]; omega : _ < 90000) (by decide)), ?_⟩
        have p4 := p3.put (m := cnt) eh
        have s4 : Same A (hd (B.addL (F :: nrL n N la)) (upd H3 F (.dK (putK (fkv f1) (Sum.inl (here : Int)) (vN cnt))))) := by
          rw [hd_upd (addL_in List.mem_cons_self)]
          exact s3
        have hwF : w ≠ F := fun e => hwN (by rw [e]; exact List.mem_cons_self)
        have w4 : upd H3 F (.dK (putK (fkv f1) (Sum.inl (here : Int)) (vN cnt))) w = some (.lst (l.map vN)) := by
          rw [upd_ne hwF]
          exact w3
        generalize upd H3 F (.dK (putK (fkv f1) (Sum.inl (here : Int)) (vN cnt))) = H4 at p4 s4 w4 ⊢
        refine ⟨.ref w, rfl, .inl ⟨rfl, _, SqL.of w4⟩, .ref N, rfl, vN here, rfl, N, .ref (la here), rfl, p4.nr.get hh, w, la here, _, _, rfl, rfl, w4, p4.nr.lst here hh, ?_, ?_⟩
        · have := (hnr here hh).1
          rw [List.length_map, List.length_map]
          exact Nat.le_trans (by omega : _ ≤ 100000) (by decide)
        · refine ⟨f1 ++ [(here, cnt)], l ++ nr here, _, hstep, by rw [List.length_append, List.length_singleton]; omega, fun c hc => ?_, rfl, p4.out hw0 hwN, ?_, same_at s4 hA⟩
          · rcases List.mem_append.mp hc with hc | hc
            · exact hll c hc
            · exact (hnr here hh).2 c hc
          · rw [upd_same, List.map_append]
end
/-! ### the turns over the cells -/
def paAt (nr : Nat → List Nat) (n i : Nat) : Option (List (Nat × Nat) × Nat) := ((List.range n).take i).foldl (partStep nr) (some ([], 0))
theorem part_none (nr : Nat → List Nat) : ∀ l : List Nat, l.foldl (partStep nr) none = none
  | [] => rfl
  | _ :: r => part_none nr r
theorem paAt_some {nr : Nat → List Nat} {n i : Nat} (hi : i ≤ n) (h : (partAll nr n).isSome = true) : ∃ f cnt, paAt nr n i = some (f, cnt) := by
  cases e : paAt nr n i with
  | some p => exact ⟨p.1, p.2, rfl⟩
  | none =>
    have z : partAll nr n = none := by
      unfold partAll
      unfold paAt at e
      rw [← List.take_append_drop i (List.range n), List.foldl_append, e]
      exact part_none nr _
    rw [z] at h
    cases h
theorem paAt_succ {nr : Nat → List Nat} {n i : Nat} (hi : i < n) : paAt nr n (i + 1) = partStep nr (paAt nr n i) i := by
  unfold paAt
  rw [List.take_add_one, range_at hi, List.foldl_append]
  rfl
theorem allSome_get {α : Type} : ∀ {l : List (Option α)} {r : List α}, allSome l = some r → l = r.map some
  | [], r, h => by
    have := Option.some.inj h
    subst this
    rfl
  | none :: _, _, h => by cases h
  | some x :: t, r, h => by
    unfold allSome at h
    cases e : allSome t with
    | none =>
      rw [e] at h
      cases h
    | some s =>
      rw [e] at h
      have := Option.some.inj h
      subst this
      rw [allSome_get e]
      rfl
theorem parted_part {w h : Nat} {marks r : List Nat} (e : parted w h marks = some r) : ∃ f cnt, partAll (nearOf marks (sides w h)) (w * h) = some (f, cnt) ∧ r.length = w * h ∧ ∀ c, c < w * h → lookN f c = some (r.getD c 0) := by
  unfold parted at e
  cases ep : partAll (nearOf marks (sides w h)) (w * h) with
  | none =>
    rw [ep] at e
    cases e
  | some p =>
    rw [ep] at e
    have z := allSome_get e
    have hl : r.length = w * h := by
      have := congrArg List.length z
      simpa using this.symm
    refine ⟨p.1, p.2, rfl, hl, fun c hc => ?_⟩
    have y := congrArg (fun l => l[c]?) z
    simp only [List.getElem?_map, range_at hc, Option.map_some] at y
    have hg : r[c]? = some (r.getD c 0) := by
      rw [List.getD_eq_getElem?_getD, List.getElem?_eq_getElem (by omega)]
      rfl
    rw [hg] at y
    exact Option.some.inj y
theorem near_in {marks : List Nat} {ss : List (Nat × Nat)} {n c d : Nat} (h : ∀ p ∈ ss, p.1 < n ∧ p.2 < n) (hd' : d ∈ nearOf marks ss c) : d < n := by
  unfold nearOf at hd'
  obtain ⟨p, hp, hq⟩ := List.mem_flatMap.mp hd'
  have := h p hp
  split at hq
  · rcases List.mem_append.mp hq with hq | hq
    · split at hq
      · rw [List.mem_singleton.mp hq]
        exact this.2
      · cases hq
    · split at hq
      · rw [List.mem_singleton.mp hq]
        exact this.1
      · cases hq
  · cases hq
theorem near_len (marks : List Nat) (ss : List (Nat × Nat)) (c : Nat) : (nearOf marks ss c).length ≤ ss.length * 2 := flat_len (fun p => by
  split
  · rw [List.length_append]
    split <;> split <;> simp
  · simp) ss
theorem shapes_in : ∀ s ∈ shapes, 1 ≤ s.1 ∧ s.1 ≤ 4 ∧ 1 ≤ s.2 ∧ s.2 ≤ 4 ∧ s.1 * s.2 ≤ 4 ∧ (sides s.1 s.2).length ≤ 8 ∧ ∀ p ∈ sides s.1 s.2, p.1 < s.1 * s.2 ∧ p.2 < s.1 * s.2 := by decide +kernel
theorem ev_ixP {K : PySem.W.Frag} {σ : L2.St} {H : Hp} {ta tb : TE} {p : List Nat} {k : Nat} (ha : Ev ta σ H (RP p)) (hb : Ev tb σ H (RN k)) (hk : k < p.length) : Ev (tOp (rIxT K) ta tb) σ H (RN (p.getD k 0)) :=
  ev_ixT ha hb rfl (by rw [List.getElem?_map, List.getElem?_eq_getElem hk, List.getD_eq_getElem?_getD, List.getElem?_eq_getElem hk]; rfl)
section
variable {P : Program} {w : World} {K : PySem.W.Frag} {mg : Str → Option Value} {base : Heap}
def spParted : Sp := SpOf (α := (Nat × Nat) × List Nat × List Nat) (fun a => [RN a.1.1, RN a.1.2, RP a.2.1]) (fun a => a.1 ∈ shapes ∧ a.2.1.length = a.1.1 * a.1.2 ∧ parted a.1.1 a.1.2 a.2.1 = some a.2.2) fun a => RP a.2.2
theorem sc24 : FnScope ["width", "height", "marks", "near", "cell", "one", "other", "found", "count", "waiting", "here"] ["width", "height", "marks"] (C8.fnScope (topS 24)) := C8.fnScope_by (by decide +kernel)
theorem c24 (T : Txt K mg) : C8.Cal P w K mg base 2 "parted" spParted [] := by
  refine cal_of T.d24 sc24 (len_of (n := 3) fun _ => rfl) fun f _ cdv A outer s H vs Q E hr h => ?_
  obtain ⟨⟨⟨a, b⟩, marks, r⟩, B, dm, hvs, ⟨hsh, hml, hpr⟩, q⟩ := h
  dsimp only at hml hpr
  obtain ⟨h1, h2, h3, h4, h5, h6, h7⟩ := shapes_in _ hsh
  dsimp only at h1 h2 h3 h4 h5 h6 h7
  obtain ⟨x, y, z, rfl, hx, hy, hz⟩ := hvs.three
  have hx : (RN a).at_ (hd B H) x := hx
  have hy : (RN b).at_ (hd B H) y := hy
  have hz : (RP marks).at_ (hd B H) z := hz
  obtain ⟨ff, fc, hpa, hrl, hget⟩ := parted_part hpr
  have c23 := c23 (P := P) (w := w) (base := base) T
  refine ⟨_, (pss_cons (ps_setDc (own := [("cell", 4)]) (g := (gName 4)) (tt := tYes) (i := 3) rfl sc24.nd rfl rfl rfl (pi_range1 (by rfl) (T.no "range") (pa_cons (pe_op op_mul (pv 0) (pv 1)) pa_nil)) (blkOk_by (N := ["width", "height", "marks", "near", "cell", "one", "other", "found", "count", "waiting", "here"]) (sc := C8.fnScope (topS 24)) (by decide +kernel)) (fun _ _ _ _ _ => (pg_name (i := 4) sc24.nd rfl (by first | exact .inl rfl | exact .inr rfl))) (fun _ _ _ _ _ => pts_nil) (fun _ _ _ _ _ => (pv 4)) (fun _ _ _ _ _ => (pe_lst pa_nil)))
      (pss_cons (ps_for PassesOwn.never rfl (show PI _ _ _ (iList K _) from (pi_list (C8.pe_c c23 hr (by decide) (by rfl) (pa_cons (pv 0) (pa_cons (pv 1) pa_nil))))) (pg_tup rfl (pgs_cons (pg_name (i := 5) sc24.nd rfl (by first | exact .inl rfl | exact .inr rfl)) (pgs_cons (pg_name (i := 6) sc24.nd rfl (by first | exact .inl rfl | exact .inr rfl)) pgs_nil))) (pss_one (ps_if (pt_cmpR op_eq (show PE _ _ (tOp (rIxT K) _ _) from (pe_ix ix_tup (pv 2) (pv 5) (fun _ _ => rfl))) (show PE _ _ (tOp (rIxT K) _ _) from (pe_ix ix_tup (pv 2) (pv 6) (fun _ _ => rfl))) (nomark _)) (pss_cons (ps_expr (pe_bm PySem.F.plainAttrs_list PySem.F.slot_list_append PySem.F.type_list_append mt_append (pe_dget (hu1 hr) (pv 3) (pv 5) (fun _ _ => rfl)) (pa_cons (pv 6) pa_nil)))
      (pss_one (ps_expr (pe_bm PySem.F.plainAttrs_list PySem.F.slot_list_append PySem.F.type_list_append mt_append (pe_dget (hu1 hr) (pv 3) (pv 6) (fun _ _ => rfl)) (pa_cons (pv 5) pa_nil))))) pss_nil)))
      (pss_cons (ps_asg (pe_tup (pa_cons pe_dnewK (pa_cons pe_int pa_nil))) (pg_tup rfl (pgs_cons (pg_name (i := 7) sc24.nd rfl (by first | exact .inl rfl | exact .inr rfl)) (pgs_cons (pg_name (i := 8) sc24.nd rfl (by first | exact .inl rfl | exact .inr rfl)) pgs_nil))))
      (pss_cons (ps_for PassesOwn.never rfl (pi_range1 (by rfl) (T.no "range") (pa_cons (pe_op op_mul (pv 0) (pv 1)) pa_nil)) (pg_name (i := 4) sc24.nd rfl (by first | exact .inl rfl | exact .inr rfl)) (pss_one (ps_if (pt_cmp (pc_dnotin (hu1 hr) (pv 4) (pv 7))) (pss_cons (ps_set (i := 9) sc24.nd rfl (by first | exact .inl rfl | exact .inr rfl) (pe_lst (pa_cons (pv 4) pa_nil)))
      (pss_cons (ps_while PassesOwn.never (show PT _ _ (tTest (tOp (rNeD K) _ _)) from (pt_cmpR (op_neD (hu64 hr)) (pv 9) (pe_lst pa_nil) (nomark _))) (pss_cons (ps_set (i := 10) sc24.nd rfl (by first | exact .inl rfl | exact .inr rfl) (pe_bm0 PySem.F.plainAttrs_list PySem.F.slot_list_pop PySem.F.type_list_pop mt_pop (pv 9)))
      (pss_one (ps_if (pt_cmp (pc_dnotin (hu1 hr) (pv 10) (pv 7))) (pss_cons (ps_dput (hu1 hr) (pv 7) (pv 10) (pv 8) rfl)
      (pss_one (ps_expr (pe_bm PySem.F.plainAttrs_list PySem.F.slot_list_extend PySem.F.type_list_extend mt_extend (pv 9) (pa_cons (pe_dget (hu1 hr) (pv 3) (pv 10) (fun _ _ => rfl)) pa_nil))))) pss_nil))))
      (pss_one (ps_aug (i := 8) sc24.nd rfl (by first | exact .inl rfl | exact .inr rfl) pe_int ip_add)))) pss_nil)))
      (pss_one (ps_ret (show PE _ _ (tThen _ (kTup K)) from pe_tupleOf (by rfl) (T.no "tuple") (pe_lc (own := [("cell", 4)]) (g := (gName 4)) (tt := tYes) rfl sc24.nd (pi_range1 (by rfl) (T.no "range") (pa_cons (pe_op op_mul (pv 0) (pv 1)) pa_nil)) (blkOk_by (N := ["width", "height", "marks", "near", "cell", "one", "other", "found", "count", "waiting", "here"]) (sc := C8.fnScope (topS 24)) (by decide +kernel)) (fun _ _ _ _ _ => (pg_name (i := 4) sc24.nd rfl (by first | exact .inl rfl | exact .inr rfl))) (fun _ _ _ _ _ => pts_nil) (fun _ _ _ _ _ => (pe_dget (hu1 hr) (pv 7) (pv 4) (fun _ _ => rfl))))))))))), ?_⟩
  have mul {σ : L2.St} {Hz : Hp} (e0 : σ[0]? = some (some x)) (e1 : σ[1]? = some (some y)) (s : Same (hd B H) Hz) : Ev (tOp (rI CMul fun (i j : Int) => V.int (i * j)) (tVar 0) (tVar 1)) σ Hz (RN (a * b)) := ev_mulN (ev_var e0 ((RN a).mono s hx)) (ev_var e1 ((RN b).mono s hy)) (by omega)
  refine q_near (n := a * b) dm (ea_cons (mul rfl rfl (Same.refl _)) ea_nil) (by omega) (by show 4 < 11; decide) (fun _ => rfl) fun N la H1 n1 => ?_
  show tSeq _ _ _ ([some x, some y, some z, some (.ref N), none, none, none, none, none, none, none] : L2.St) H1
  have k1 : Same (hd B H) (hd (B.addL (nrL (a * b) N la)) H1) := n1.known (Same.refl _)
  refine q_for (n1.dom dm) (ei_list (ev_call (α := Nat × Nat) (a, b) (ea_cons (ev_var rfl ((RN a).mono k1 hx)) (ea_cons (ev_var rfl ((RN b).mono k1 hy)) ea_nil)) ⟨h1, by dsimp only; omega, by dsimp only; omega⟩)) fun H2 e2 d2 => ?_
  refine ⟨B.addL (nrL (a * b) N la), fun i σ' H' => (∃ c4 c5 c6, σ' = [some x, some y, some z, some (.ref N), c4, c5, c6, none, none, none, none]) ∧ Nr H (a * b) N la (nearOf marks ((sides a b).take i)) H' ∧ Same (hd (B.addL (nrL (a * b) N la)) H2) (hd (B.addL (nrL (a * b) N la)) H'), ⟨⟨_, _, _, rfl⟩, n1.up e2, Same.refl _⟩, fun i σ' H' _ ⟨_, c, sm⟩ => ⟨c.dom dm, sm⟩, ?_, ?_⟩
  · rintro i r0 v σ' H' H3 hr0 ⟨⟨c4, c5, c6, rfl⟩, c, sm⟩ e3 hv
    obtain ⟨p, hp, er⟩ := map_at hr0
    subst er
    obtain ⟨hp1, hp2⟩ := h7 p (List.mem_of_getElem? hp)
    refine tg_two hv fun v1 v2 hv1 hv2 => ?_
    have e1 : v1 = vN p.1 := hv1
    have e4 : v2 = vN p.2 := hv2
    subst e1
    subst e4
    have c3 := c.up e3
    have nl : ∀ o, (nearOf marks ((sides a b).take i) o).length ≤ 16 := fun o => by
      have := near_len marks ((sides a b).take i) o
      rw [List.length_take] at this
      omega
    show tIfS _ _ _ _ ([some x, some y, some z, some (.ref N), c4, some (vN p.1), some (vN p.2), none, none, none, none] : L2.St) H3
    have s3 := c3.known (Same.refl (hd B H))
    refine s_if (c3.dom dm) (et_test (ev_eqN (ev_ixP (ev_var rfl (Rp.mono _ s3 hz)) (ev_var rfl rfl) (by omega)) (ev_ixP (ev_var rfl (Rp.mono _ s3 hz)) (ev_var rfl rfl) (by omega)))) ?_ ?_
    · intro hb H4 e4 d4
      have c4' := c3.up e4
      refine s_nrapp (B := B) (σ := [some x, some y, some z, some (.ref N), c4, some (vN p.1), some (vN p.2), none, none, none, none]) c4' rfl rfl rfl hp1 (by have := nl p.1; omega) fun H5 c5' s5 => ?_
      refine s_nrapp (B := B) (σ := [some x, some y, some z, some (.ref N), c4, some (vN p.1), some (vN p.2), none, none, none, none]) c5' rfl rfl rfl hp2 (by have := nl p.2; rw [List.length_append]; split <;> simp <;> omega) fun H6 c6' s6 => ?_
      refine ⟨⟨_, _, _, rfl⟩, ?_, ((sm.trans (hd_same (e3.trans e4))).trans s5).trans s6⟩
      have en : nearOf marks ((sides a b).take (i + 1)) = fun d => (nearOf marks ((sides a b).take i) d ++ if d = p.1 then [p.2] else []) ++ if d = p.2 then [p.1] else [] := by
        funext d
        unfold nearOf
        rw [take_flat hp, if_pos (of_decide_eq_true hb), List.append_assoc]
      rw [en]
      exact c6'
    · intro hb H4 e4 d4
      refine ⟨⟨_, _, _, rfl⟩, ?_, sm.trans (hd_same (e3.trans e4))⟩
      have en : nearOf marks ((sides a b).take (i + 1)) = nearOf marks ((sides a b).take i) := by
        funext d
        unfold nearOf
        rw [take_flat hp, if_neg (of_decide_eq_false hb), List.append_nil]
      rw [en]
      exact c3.up e4
  · rintro σ' H' ⟨⟨c4, c5, c6, rfl⟩, c, sm⟩
    rw [List.length_map, List.take_length] at c
    intro F hF
    refine ⟨(by show 2 ≤ sizeLine; decide), fun p2 hp2 => ?_⟩
    have hFp : F ≠ p2 := fun e => by
      subst e
      rw [upd_same] at hp2
      cases hp2
    refine ⟨p2, [.ref F, vN 0], rfl, SqT.of upd_same, rfl, _, [vN 0], rfl, _, [], rfl, rfl, ?_⟩
    have hF0 : H F = none := by
      cases q : H F with
      | none => rfl
      | some o =>
        rw [c.same _ _ q] at hF
        cases hF
    have pt : Pt H (a * b) N la (nearOf marks (sides a b)) F [] (upd (upd H' F (.dK [])) p2 (.tup [.ref F, vN 0])) := by
      refine ⟨(c.up (same_upd hF)).up (same_upd hp2), hF0, fun hm => ?_, ?_⟩
      · exact c.som F hm hF
      · rw [upd_ne hFp, upd_same]
        rfl
    generalize upd (upd H' F (.dK [])) p2 (.tup [.ref F, vN 0]) = H5 at pt
    show tSeq _ _ _ ([some x, some y, some z, some (.ref N), c4, c5, c6, some (.ref F), some (vN 0), none, none] : L2.St) H5
    have k5 := pt.known (Same.refl (hd B H))
    have hnr : ∀ c, c < a * b → (nearOf marks (sides a b) c).length ≤ 1000 ∧ ∀ d ∈ nearOf marks (sides a b) c, d < a * b := fun c _ => ⟨by have := near_len marks (sides a b) c; omega, fun d hd' => near_in h7 hd'⟩
    refine q_for (pt.dom dm) (ei_rng1 (ea_cons (mul rfl rfl k5) ea_nil) (by omega)) fun H6 e6 d6 => ?_
    refine ⟨B.addL (F :: nrL (a * b) N la), fun i σ' H' => (∃ f cnt c4 c5 c6 c9 c10, paAt (nearOf marks (sides a b)) (a * b) i = some (f, cnt) ∧ f.length ≤ 40 * i ∧ σ' = [some x, some y, some z, some (.ref N), c4, c5, c6, some (.ref F), some (vN cnt), c9, c10] ∧ Pt H (a * b) N la (nearOf marks (sides a b)) F f H') ∧ Same (hd (B.addL (F :: nrL (a * b) N la)) H6) (hd (B.addL (F :: nrL (a * b) N la)) H'),
      ⟨⟨[], 0, _, _, _, _, _, rfl, Nat.zero_le _, rfl, pt.up e6⟩, Same.refl _⟩, fun i σ' H' _ ⟨⟨f, cnt, _, _, _, _, _, _, _, _, p⟩, sm⟩ => ⟨p.dom dm, sm⟩, ?_, ?_⟩
    · rintro i r0 v σ' H' H7 hr0 ⟨⟨f, cnt, c4, c5, c6, c9, c10, hpi, hfl, rfl, p⟩, sm⟩ e7 hv
      obtain ⟨hi, er⟩ := rng_at hr0
      subst er
      have hvi : v = vN i := hv
      subst hvi
      have p7 := p.up e7
      obtain ⟨f2, cnt2, hp2⟩ := paAt_some (i := i + 1) (n := a * b) (by omega) (by rw [hpa]; rfl)
      have hst := hp2
      rw [paAt_succ hi, hpi] at hst
      unfold partStep at hst
      dsimp only at hst
      refine ⟨vN i, rfl, .ref F, rfl, F, _, rfl, fkv_dget p7.fd, _, rfl, ?_⟩
      have sm7 := sm.trans (hd_same e7)
      dsimp only
      cases el : lookN f i with
      | some u =>
        rw [if_neg (by simp)]
        rw [el, if_pos (by rfl)] at hst
        refine ⟨⟨f, cnt, _, _, _, _, _, ?_, by omega, rfl, p7⟩, sm7⟩
        rw [hp2, hst]
      | none =>
        rw [if_pos (by rfl)]
        rw [el, if_neg (by simp)] at hst
        cases ed : dfsAny (nearOf marks (sides a b)) cnt f [i] 40 with
        | none =>
          rw [ed] at hst
          cases hst
        | some f3 =>
          rw [ed] at hst
          obtain ⟨m, hm, hdf⟩ := dfsAny_some ed
          have hst := Option.some.inj hst
          refine ⟨vN i, rfl, (by show 1 ≤ sizeLine; decide), fun wt hwt => ?_⟩
          have hw0 : H wt = none := by
            cases q : H wt with
            | none => rfl
            | some o =>
              rw [p7.nr.same _ _ q] at hwt
              cases hwt
          have hA : hd (B.addL (F :: nrL (a * b) N la)) H6 wt = none := by
            cases q : hd (B.addL (F :: nrL (a * b) N la)) H6 wt with
            | none => rfl
            | some o =>
              rw [(hd_in (sm7 _ _ q)).1] at hwt
              cases hwt
          refine s_dfs (B := B) (A := hd (B.addL (F :: nrL (a * b) N la)) H6) (H0 := H) (ws := [i]) hnr hdf (p7.up (same_upd hwt)) upd_same hw0 (fun hm => p7.som wt hm hwt) (fun c hc => by rw [List.mem_singleton.mp hc]; exact hi) (by omega) (sm7.trans (hd_same (same_upd hwt))) hA fun c1 H8 p8 s8 => ?_
          refine ⟨vN cnt, rfl, (cnt : Int), 1, rfl, rfl, ⟨f3, cnt + 1, _, _, _, _, _, ?_, ?_, rfl, p8⟩, s8⟩
          · rw [hp2, hst]
          · have := (dfs_len hdf).2
            omega
    · rintro σ' H' ⟨⟨f, cnt, c4, c5, c6, c9, c10, hpi, hfl, rfl, p⟩, sm⟩
      rw [List.length_map, List.length_range] at hpi
      have hff : f = ff := by
        unfold paAt at hpi
        rw [List.take_of_length_le (by simp)] at hpi
        unfold partAll at hpa
        rw [hpi] at hpa
        exact congrArg Prod.fst (Option.some.inj hpa)
      subst hff
      have k9 : Same (hd B H) (hd B H') := hd_same p.nr.same
      have hB : B F = false := dm.fresh p.fF
      refine s_ret (dm.same p.nr.same) (ev_is (ev_tupOf (ev_lcM (xs := List.range (a * b)) (ρ := RN) (fun c => RN (r.getD c 0)) (ei_rng1 (ea_cons (mul rfl rfl k9) ea_nil) (by omega)) (by rw [List.length_range]; omega) (fun _ => rfl) fun c v H9 hc s9 hv => ?_)) ?_) (q.go p.nr.same)
      · exact ev_dgetN (f := f) (ev_var rfl ⟨F, rfl, s9 _ _ (hd_of p.fd hB)⟩) (ev_var rfl hv) (hget c (List.mem_range.mp hc))
      · show RT _ = RT (r.map RN)
        refine congrArg RT (List.ext_getElem (by simp [hrl]) fun k hk1 hk2 => ?_)
        rw [List.getElem_map, List.getElem_map, List.getElem_range]
        have hk : k < r.length := by simpa using hk2
        rw [List.getD_eq_getElem?_getD, List.getElem?_eq_getElem hk]
        rfl
end
end Sw
set_option Elab.async false
set_option linter.all false
set_option maxRecDepth 100000
set_option maxHeartbeats 1000000
/-! all_patterns, relaid, layers, all_orders. -/
namespace Sw
open PySem PySem.Spec PyProof.Rows L2
theorem filter_fm {α β : Type} (p : α → Bool) (f : α → β) : ∀ l : List α, l.filterMap (fun x => if p x = true then some (f x) else none) = (l.filter p).map f
  | [] => rfl
  | a :: r => by
    cases h : p a <;> simp [List.filterMap_cons, List.filter_cons, h, filter_fm p f r]
theorem et_eqP {K : PySem.W.Frag} {σ : L2.St} {H : Hp} {ta tb : TE} {p q : List Nat} (ha : Ev ta σ H (RP p)) (hb : Ev tb σ H (RP q)) : EvT (tTest (tOp (rEqD K) ta tb)) σ H (decide (p = q)) :=
  et_is (et_test (ev_eqD ha hb (dat_P p) (dat_P q) (sh_P p) (sh_P q))) (eqv_P p q)
theorem shapes_marks : ∀ s ∈ shapes, (allMarks (s.1 * s.2)).length ≤ 60 := by decide +kernel
section
variable {P : Program} {w : World} {K : PySem.W.Frag} {mg : Str → Option Value} {base : Heap}
def spPats : Sp := SpOf (α := Nat × Nat) (fun a => [RN a.1, RN a.2]) (fun a => a ∈ shapes) fun a => RL ((patterns a.1 a.2).map RP)
theorem sc26 : FnScope ["width", "height", "row"] ["width", "height"] (C8.fnScope (topS 26)) := C8.fnScope_by (by decide +kernel)
theorem c26 (T : Txt K mg) : C8.Cal P w K mg base 3 "all_patterns" spPats [] := by
  refine cal_of T.d26 sc26 (len_of (n := 2) fun _ => rfl) fun f _ cdv A outer s H vs Q E hr h => ?_
  obtain ⟨⟨a, b⟩, B, dm, hvs, hsh, q⟩ := h
  obtain ⟨h1, h2, h3, h4, h5, h6, h7⟩ := shapes_in _ hsh
  have hsl := shapes_len _ hsh
  have hsm := shapes_marks _ hsh
  have hsp := shapes_part _ hsh
  dsimp only at h1 h2 h3 h4 h5 h6 h7 hsl hsm hsp
  obtain ⟨x, y, rfl, hx, hy⟩ := hvs.two
  have hx : (RN a).at_ (hd B H) x := hx
  have hy : (RN b).at_ (hd B H) y := hy
  have c25 := c25 (P := P) (w := w) (base := base) T
  have c24 := c24 (P := P) (w := w) (base := base) T
  refine ⟨_, (pss_one (ps_ret (pe_lc (own := [("row", 2)]) (g := (gName 2)) rfl sc26.nd (show PI _ _ _ (iList K _) from (pi_list (C8.pe_c c25 hr (by decide) (by rfl) (pa_cons (pe_op op_mul (pv 0) (pv 1)) pa_nil)))) (blkOk_by (N := ["width", "height", "row"]) (sc := C8.fnScope (topS 26)) (by decide +kernel)) (fun _ _ _ _ _ => (pg_name (i := 2) sc26.nd rfl (by first | exact .inl rfl | exact .inr rfl))) (fun _ _ _ _ _ => (pts_one (show PT _ _ (tTest (tOp (rEqD K) _ _)) from (pt_cmpR (op_eqD (hu64 hr)) (C8.pe_c c24 hr (by decide) (by rfl) (pa_cons (pv 0) (pa_cons (pv 1) (pa_cons (pv 2) pa_nil)))) (pv 2) (nomark _))))) (fun _ _ _ _ _ => (pv 2))))), ?_⟩
  refine s_ret dm (ev_is (ev_lcN (xs := allMarks (a * b)) (ρ := RP) (fun r => if decide (parted a b r = some r) = true then some (RP r) else none) (ei_list (ev_call (α := Nat) (a * b) (ea_cons (ev_mulN (ev_var rfl hx) (ev_var rfl hy) (by omega)) ea_nil) h5)) (by omega) (fun _ => rfl) (fun r v H1 hr1 s1 hv => ?_) fun r v H1 rp hr1 s1 hv hrp => ?_) ?_) q
  · obtain ⟨r2, hr2⟩ := Option.isSome_iff_exists.mp (hsp r hr1)
    refine et_is (et_eqP (ev_call (α := (Nat × Nat) × List Nat × List Nat) ((a, b), r, r2) (ea_cons (ev_var rfl ((RN a).mono s1 hx)) (ea_cons (ev_var rfl ((RN b).mono s1 hy)) (ea_cons (ev_var rfl hv) ea_nil))) ⟨hsh, (hsl r hr1).1, hr2⟩) (ev_var rfl hv)) ?_
    dsimp only
    rw [hr2]
    by_cases e : r2 = r
    · subst e
      simp
    · rw [decide_eq_false e, decide_eq_false fun q => e (Option.some.inj q)]
      rfl
  · split at hrp
    · rw [← Option.some.inj hrp]
      exact ev_var rfl hv
    · cases hrp
  · rw [filter_fm]
    rfl
end
end Sw
set_option Elab.async false
set_option linter.all false
set_option maxRecDepth 100000
set_option maxHeartbeats 1000000
/-! Indices, join, membership, plus of lists and tuples, told by descriptions. -/
namespace Sw
open PySem PySem.Spec PyProof.Rows L2
section
variable {K : PySem.W.Frag} {σ : L2.St} {H : Hp} {ta tb te to : TE} {r : Rp}
theorem get_map {α β : Type} (f : α → β) {l : List α} {k : Nat} (d : α) (hk : k < l.length) : (l.map f)[k]? = some (f (l.getD k d)) := by
  rw [List.getElem?_map, List.getElem?_eq_getElem hk, List.getD_eq_getElem?_getD, List.getElem?_eq_getElem hk]
  rfl
theorem getD_mem {α : Type} {l : List α} {k : Nat} (d : α) (hk : k < l.length) : l.getD k d ∈ l := by
  rw [List.getD_eq_getElem?_getD, List.getElem?_eq_getElem hk]
  exact List.getElem_mem hk
theorem ev_ixM {α : Type} (f : α → Rp) (d : α) {l : List α} {k : Nat} (ha : Ev ta σ H (RT (l.map f))) (hb : Ev tb σ H (RN k)) (hk : k < l.length) : Ev (tOp (rIxT K) ta tb) σ H (f (l.getD k d)) := ev_ixT ha hb rfl (get_map f d hk)
theorem ev_ixLM {α : Type} (f : α → Rp) (d : α) {l : List α} {k : Nat} (ha : Ev ta σ H (RL (l.map f))) (hb : Ev tb σ H (RN k)) (hk : k < l.length) : Ev (tOp (rIxL K) ta tb) σ H (f (l.getD k d)) := ev_ixL ha hb rfl (get_map f d hk)
theorem ev_ixC {l : List Nat} {k : Nat} (ha : Ev ta σ H (RS l)) (hb : Ev tb σ H (RN k)) (hk : k < l.length) (hl : l.length ≤ 100000) : Ev (tOp rIxS ta tb) σ H (RS [l.getD k 0]) :=
  ev_ixS ha hb rfl (by rw [List.getD_eq_getElem?_getD, List.getElem?_eq_getElem hk]; rfl) hl
/-! join -/
abbrev rJoinK (K : PySem.W.Frag) : V → List V → Hp → VK → Prop := fun x xs H Q => ∃ a p, ∃ ys : List Str, x = .str a ∧ xs = [.ref p] ∧ (SqL K H p (ys.map V.str) ∨ SqT K H p (ys.map V.str)) ∧
      (ys.map (·.length)).sum + ys.length * a.length ≤ 16777216 ∧ Q (.str (Txt.join a ys)) H
theorem joinL_nil : ∀ ls : List (List Nat), TL.joinL [] ls = ls.flatten
  | [] => rfl
  | [p] => by
    show p = _
    simp
  | p :: q :: r => by
    show p ++ ([] ++ TL.joinL [] (q :: r)) = _
    rw [joinL_nil (q :: r)]
    simp
theorem ev_join {ls : List (List Nat)} (ho : Ev to σ H (RS [])) (he : Ev te σ H (RL (ls.map RS))) (hl : (ls.map List.length).sum ≤ 100000) : Ev (tM1 (rJoinK K) to te) σ H (RS ls.flatten) := fun B H1 e d Q q =>
  ho B H1 e d _ fun x H2 e2 hx => ⟨⟨_, hx⟩, he B H2 (e.trans (hd_same e2)) (d.same e2) _ fun y H3 e3 ⟨a, vs, ey, ha, hv⟩ => by
    subst ey
    have ex : x = .str (tx []) := hx
    subst ex
    rw [al_str hv] at ha
    refine ⟨tx [], a, ls.map tx, rfl, rfl, .inl (by rw [List.map_map]; exact SqL.of (hd_in ha).1), ?_, ?_⟩
    · have e1 : ((ls.map tx).map (·.length)) = ls.map List.length := by
        rw [List.map_map]
        exact List.map_congr_left fun l _ => SX.S_len l
      rw [e1]
      have e2 : (tx []).length = 0 := rfl
      rw [e2]
      omega
    · have z := SX.join_S [] ls
      rw [joinL_nil] at z
      rw [show Txt.join (tx []) (ls.map tx) = tx ls.flatten from z]
      exact q _ _ (e2.trans e3) rfl⟩
theorem sum_const {α : Type} (l : List α) (k : Nat) : (l.map fun _ => k).sum = l.length * k := by
  induction l with
  | nil => simp
  | cons a r ih => rw [List.map_cons, List.sum_cons, ih, List.length_cons, Nat.add_mul]; omega
theorem flat_one {α β : Type} (g : α → β) : ∀ l : List α, (l.map fun a => [g a]).flatten = l.map g
  | [] => rfl
  | a :: r => by
    rw [List.map_cons, List.flatten_cons, flat_one g r]
    rfl
/-- signs joined -/
theorem ev_joinC {α : Type} {l : List α} {g : α → Nat} (ho : Ev to σ H (RS [])) (he : Ev te σ H (RL (l.map fun a => RS [g a]))) (hl : l.length ≤ 100000) : Ev (tM1 (rJoinK K) to te) σ H (RS (l.map g)) := by
  refine ev_is (ev_join (ls := l.map fun a => [g a]) ho (ev_is he (by rw [List.map_map]; rfl)) ?_) ?_
  · rw [List.map_map, show (List.length ∘ fun a => [g a]) = fun _ => 1 from rfl, sum_const]
    omega
  · rw [flat_one]
theorem ev_nils {H : Hp} {σ : L2.St} : Ev (tC (.str (Str.ofString ""))) σ H (RS []) := ev_c rfl
/-! in, not in -/
theorem inV_nat (k : Nat) : ∀ p : List Nat, inV (vN k) (p.map vN) = decide (k ∈ p)
  | [] => by simp [inV]
  | a :: r => by
    have h := inV_nat k r
    unfold inV at h ⊢
    rw [List.map_cons, List.any_cons, h]
    have e1 : eqV (vN a) (vN k) = decide (a = k) := by
      show ((a : Int) == (k : Int)) = _
      by_cases e : a = k
      · subst e
        simp
      · rw [decide_eq_false e]
        exact beq_eq_false_iff_ne.mpr fun q => e (Int.ofNat.inj q)
    rw [e1]
    by_cases e : a = k
    · subst e
      simp
    · have : ¬ k = a := fun q => e q.symm
      simp [e, this]
theorem flat_nat (p : List Nat) : (p.map vN).all flatV = true := List.all_eq_true.mpr fun v hv => by
  obtain ⟨n, _, e⟩ := List.mem_map.mp hv
  rw [← e]
  rfl
theorem ev_notInP {k : Nat} {p : List Nat} (ha : Ev ta σ H (RN k)) (hb : Ev tb σ H (RP p)) : Ev (tOp (rIn K true) ta tb) σ H (RB (!decide (k ∈ p))) :=
  ev_op ha hb fun B H1 x y _ _ hx hy _ q => by
    have ex : x = vN k := hx
    subst ex
    obtain ⟨a, ey, ha⟩ := rp_at hy
    subst ey
    refine ⟨a, p.map vN, rfl, .inr (SqT.of (hd_in ha).1), rfl, flat_nat p, ?_⟩
    rw [inV_nat]
    exact q _ H1 (Same.refl H1) rfl
theorem ev_inP {k : Nat} {p : List Nat} (ha : Ev ta σ H (RN k)) (hb : Ev tb σ H (RP p)) : Ev (tOp (rIn K false) ta tb) σ H (RB (decide (k ∈ p))) :=
  ev_op ha hb fun B H1 x y _ _ hx hy _ q => by
    have ex : x = vN k := hx
    subst ex
    obtain ⟨a, ey, ha⟩ := rp_at hy
    subst ey
    refine ⟨a, p.map vN, rfl, .inr (SqT.of (hd_in ha).1), rfl, flat_nat p, ?_⟩
    rw [inV_nat]
    exact q _ H1 (Same.refl H1) rfl
/-! plus -/
theorem ev_catL {rs rs' : List Rp} (ha : Ev ta σ H (RL rs)) (hb : Ev tb σ H (RL rs')) (hl : rs.length + rs'.length ≤ 100000) : Ev (tOp rCat ta tb) σ H (RL (rs ++ rs')) :=
  ev_op ha hb fun B H1 x y _ d ⟨a, xs, ex, hxa, hx⟩ ⟨b, ys, ey, hyb, hy⟩ _ q =>
    ⟨a, b, xs, ys, ex, ey, (hd_in hxa).1, (hd_in hyb).1, Nat.le_trans (by rw [hx.len, hy.len]; exact hl) (by decide), fun p hp => q _ _ (same_upd hp) ⟨p, _, rfl, hd_new d hp, (hx.mono (hd_same (same_upd hp))).app (hy.mono (hd_same (same_upd hp)))⟩⟩
theorem ev_catT {rs rs' : List Rp} (ha : Ev ta σ H (RT rs)) (hb : Ev tb σ H (RT rs')) (hl : rs.length + rs'.length ≤ 100000) : Ev (tOp (rCatA K) ta tb) σ H (RT (rs ++ rs')) :=
  ev_op ha hb fun B H1 x y _ d ⟨a, xs, ex, hxa, hx⟩ ⟨b, ys, ey, hyb, hy⟩ _ q => by
    refine ⟨a, b, xs, ys, ex, ey, SqT.of (hd_in hxa).1, SqT.of (hd_in hyb).1, Nat.le_trans (by rw [hx.len, hy.len]; exact hl) (by decide), fun e => ?_, fun _ e => ?_, fun _ _ p hp => q _ _ (same_upd hp) ⟨p, _, rfl, hd_new d hp, (hx.mono (hd_same (same_upd hp))).app (hy.mono (hd_same (same_upd hp)))⟩⟩
    · refine q _ H1 (Same.refl H1) ⟨b, xs ++ ys, rfl, ?_, hx.app hy⟩
      rw [e]
      exact hyb
    · refine q _ H1 (Same.refl H1) ⟨a, xs ++ ys, rfl, ?_, hx.app hy⟩
      rw [e, List.append_nil]
      exact hxa
theorem any_eqv {α : Type} [DecidableEq α] {f : α → PyData} (h : ∀ a b, PyData.eqv (f a) (f b) = decide (a = b)) (a : α) : ∀ l : List α, ((l.map f).any fun z => PyData.eqv z (f a)) = decide (a ∈ l)
  | [] => by simp
  | b :: r => by
    rw [List.map_cons, List.any_cons, any_eqv h a r, h]
    by_cases e : b = a
    · subst e
      simp
    · have : ¬ a = b := fun q => e q.symm
      simp [e, this]
/-- sheets in a list of such -/
theorem ev_inLS {s : List (List Nat)} {ls : List (List (List Nat))} (ha : Ev ta σ H (RSh s)) (hb : Ev tb σ H (RL (ls.map RSh))) (ok : okS s) (okl : ∀ s ∈ ls, okS s) : Ev (tOp (rInD K) ta tb) σ H (RB (decide (s ∈ ls))) :=
  ev_is (ev_inD ha hb (dat_Sh s) (dat_LS ls) (sh_S ok) (sh_LS okl)) (by rw [any_eqv eqv_S]; exact congrArg RB (decide_eq_decide.mpr Iff.rfl))
theorem ev_notInLS {s : List (List Nat)} {ls : List (List (List Nat))} (ha : Ev ta σ H (RSh s)) (hb : Ev tb σ H (RL (ls.map RSh))) (ok : okS s) (okl : ∀ s ∈ ls, okS s) : Ev (tOp (rNotInD K) ta tb) σ H (RB (!decide (s ∈ ls))) :=
  ev_is (ev_notInD ha hb (dat_Sh s) (dat_LS ls) (sh_S ok) (sh_LS okl)) (by rw [any_eqv eqv_S]; exact congrArg (fun b => RB !b) (decide_eq_decide.mpr Iff.rfl))
theorem ev_eqSh {s t : List (List Nat)} (ha : Ev ta σ H (RSh s)) (hb : Ev tb σ H (RSh t)) (ok : okS s) (okt : okS t) : Ev (tOp (rEqD K) ta tb) σ H (RB (decide (s = t))) :=
  ev_is (ev_eqD ha hb (dat_Sh s) (dat_Sh t) (sh_S ok) (sh_S okt)) (by rw [eqv_S])
theorem ev_neLT {s t : List (List Nat)} (ha : Ev ta σ H (RL (s.map RS))) (hb : Ev tb σ H (RL (t.map RS))) (ok : okS s) (okt : okS t) : Ev (tOp (rNeD K) ta tb) σ H (RB (!decide (s = t))) :=
  ev_is (ev_neD ha hb (dat_LT s) (dat_LT t) (sh_LT ok) (sh_LT okt)) (by rw [eqv_LT])
end
def cScope : Expr → Scope
  | .ListComp _ _ s _ => s
  | .DictComp _ _ _ s _ => s
  | _ => ⟨.function, [], false, false, []⟩
def lastRet (st : Stmt) : Expr := match (C8.fnBody st).getLast? with
  | some (.Return (some e) _) => e
  | _ => .Name "" ⟨0, 0, 0, 0⟩
end Sw
set_option Elab.async false
set_option linter.all false
set_option maxRecDepth 100000
set_option maxHeartbeats 1000000
/-! relaid, layers, all_orders. -/
namespace Sw
open PySem PySem.Spec PyProof.Rows L2
/-- the sheets behind orders -/
def relAt (ss : List (List Nat)) (pat : List Nat) (os : List (List Nat)) (n c : Nat) : Nat := (ss.getD ((os.getD (pat.getD c 0) []).getD n 0) []).getD c 0
def rel (ss : List (List Nat)) (pat : List Nat) (os : List (List Nat)) : List (List Nat) := (List.range ss.length).map fun n => (List.range pat.length).map (relAt ss pat os n)
def okO (k : Nat) (o : List Nat) : Prop := o.length = k ∧ ∀ n ∈ o, n < k
def okRel (ss : List (List Nat)) (pat : List Nat) (os : List (List Nat)) : Prop := (∀ c ∈ pat, c < os.length) ∧ (∀ o ∈ os, okO ss.length o) ∧ (∀ l ∈ ss, l.length = pat.length) ∧ ss.length ≤ 1000 ∧ pat.length ≤ 1000
def layerAt (cells : List Nat) (l : List Nat) : List Nat := cells.map fun c => l.getD c 0
def layersOf (ss : List (List Nat)) (cells : List Nat) : List (List Nat) := ss.map (layerAt cells)
def ordStep (k : Nat) (os : List (List Nat)) : List (List Nat) := os.flatMap fun o => ((List.range k).filter fun n => !decide (n ∈ o)).map fun n => o ++ [n]
def ordRows (k i : Nat) : List (List Nat) := iter (ordStep k) i [[]]
def orders (k : Nat) : List (List Nat) := ordRows k k
theorem orders_few : ∀ k ∈ List.range 4, ∀ i ∈ List.range 4, (ordRows k i).length ≤ 6 ∧ ∀ o ∈ ordRows k i, o.length ≤ 3 := by decide +kernel
section
variable {P : Program} {w : World} {K : PySem.W.Frag} {mg : Str → Option Value} {base : Heap}
def spRelaid : Sp := SpOf (α := List (List Nat) × List Nat × List (List Nat)) (fun a => [RSh a.1, RP a.2.1, RT (a.2.2.map RP)]) (fun a => okRel a.1 a.2.1 a.2.2) fun a => RSh (rel a.1 a.2.1 a.2.2)
theorem sc30 : FnScope ["sheets", "pattern", "orders", "found", "number", "letters", "cell", "piece"] ["sheets", "pattern", "orders"] (C8.fnScope (topS 30)) := C8.fnScope_by (by decide +kernel)
theorem c30 (T : Txt K mg) : C8.Cal P w K mg base 1 "relaid" spRelaid [] := by
  refine cal_of T.d30 sc30 (len_of (n := 3) fun _ => rfl) fun f _ cdv A outer s H vs Q E hr h => ?_
  obtain ⟨⟨ss, pat, os⟩, B, dm, hvs, ⟨k1, k2, k3, k4, k5⟩, q⟩ := h
  dsimp only at k1 k2 k3 k4 k5
  obtain ⟨x, y, z, rfl, hx, hy, hz⟩ := hvs.three
  have hx : (RSh ss).at_ (hd B H) x := hx
  have hy : (RP pat).at_ (hd B H) y := hy
  have hz : (RT (os.map RP)).at_ (hd B H) z := hz
  refine ⟨_, (pss_cons (ps_set (i := 3) sc30.nd rfl (by first | exact .inl rfl | exact .inr rfl) (pe_lst pa_nil))
      (pss_cons (ps_for PassesOwn.never rfl (pi_range1 (by rfl) (T.no "range") (pa_cons (show PE _ _ (tCB (rLenK K) _) from (pe_callB call_len (by rfl) (T.no "len") bt_len (pa_cons (pv 0) pa_nil))) pa_nil)) (pg_name (i := 4) sc30.nd rfl (by first | exact .inl rfl | exact .inr rfl)) (pss_cons (ps_setLc (own := [("cell", 6), ("piece", 7)]) (g := (gTup K 2 (gCons (gName 6) (gCons (gName 7) gNil)))) (tt := tYes) (i := 5) rfl sc30.nd rfl rfl rfl (pi_enumT (by rfl) (T.no "enumerate") (pa_cons (pv 1) pa_nil)) (blkOk_by (N := ["sheets", "pattern", "orders", "found", "number", "letters", "cell", "piece"]) (sc := C8.fnScope (topS 30)) (by decide +kernel)) (fun _ _ _ _ _ => (pg_tup rfl (pgs_cons (pg_name (i := 6) sc30.nd rfl (by first | exact .inl rfl | exact .inr rfl)) (pgs_cons (pg_name (i := 7) sc30.nd rfl (by first | exact .inl rfl | exact .inr rfl)) pgs_nil)))) (fun _ _ _ _ _ => pts_nil) (fun _ _ _ _ _ => (pe_ix ix_str (show PE _ _ (tOp (rIxT K) _ _) from (pe_ix ix_tup (pv 0) (show PE _ _ (tOp (rIxT K) _ _) from (pe_ix ix_tup (show PE _ _ (tOp (rIxT K) _ _) from (pe_ix ix_tup (pv 2) (pv 7) (fun _ _ => rfl))) (pv 4) (fun _ _ => rfl))) (fun _ _ => rfl))) (pv 6) (fun _ _ => rfl))))
      (pss_one (ps_expr (pe_bm PySem.F.plainAttrs_list PySem.F.slot_list_append PySem.F.type_list_append mt_append (pv 3) (pa_cons (show PE _ _ (tM1 (rJoinK K) _ _) from pe_join pe_str (pv 5)) pa_nil))))))
      (pss_one (ps_ret (show PE _ _ (tThen _ (kTup K)) from pe_tupleOf (by rfl) (T.no "tuple") (pv 3)))))), ?_⟩
  refine q_nil dm fun L c0 => ?_
  show tSeq _ _ _ ([some x, some y, some z, some (.ref L), none, none, none, none] : L2.St) _
  have s0 : Same (hd B H) (hd (B.add L) (upd H L (.lst []))) := c0.known (Same.refl _)
  refine q_for c0.domA (ei_rng1 (ea_cons (ev_is (ev_lenT (ev_var rfl (Rp.mono _ s0 hx))) (by rw [List.length_map])) ea_nil) (by omega)) fun H2 e2 d2 => ?_
  refine ⟨B.add L, fun i σ' H' => (∃ c4 c5, σ' = [some x, some y, some z, some (.ref L), c4, c5, none, none]) ∧ Cz B H L (((List.range ss.length).take i).map fun n => RS ((List.range pat.length).map (relAt ss pat os n))) H' ∧ Same (hd (B.add L) H2) (hd (B.add L) H'), ⟨⟨_, _, rfl⟩, c0.up e2, Same.refl _⟩, fun i σ' H' _ ⟨_, c, sm⟩ => ⟨c.domA, sm⟩, ?_, ?_⟩
  · rintro i r v σ' H' H3 hr0 ⟨⟨c4, c5, rfl⟩, c, sm⟩ e3 hv
    obtain ⟨hi, er⟩ := rng_at hr0
    subst er
    have hvi : v = vN i := hv
    subst hvi
    have c3 := c.up e3
    have s3 := c3.known (Same.refl (hd B H))
    show tSeq _ _ _ ([some x, some y, some z, some (.ref L), some (vN i), c5, none, none] : L2.St) H3
    refine q_set (B := B.add L) c3.domA (ev_lcP (xs := List.range pat.length) (ρ1 := RN) (ρ2 := fun c => RN (pat.getD c 0)) (fun c => some (RS [relAt ss pat os i c])) (ei_enumP (ea_cons (ev_var rfl (Rp.mono _ s3 hy)) ea_nil)) (by rw [List.length_range]; omega) (fun _ _ => rfl) (fun _ _ _ _ _ _ _ _ => et_yes) fun c v u H5 rp hc s5 hv hu hrp => ?_) fun v4 H4 e4 d4 hv4 => ?_
    · rw [← Option.some.inj hrp]
      have hc : c < pat.length := List.mem_range.mp hc
      have h1 : pat.getD c 0 < os.length := k1 _ (getD_mem 0 hc)
      obtain ⟨h2, h3⟩ := k2 _ (getD_mem [] h1)
      have h4 : (os.getD (pat.getD c 0) []).getD i 0 < ss.length := h3 _ (getD_mem 0 (by omega))
      have h5 := k3 _ (getD_mem [] h4)
      exact ev_ixC (ev_ixM RS [] (ev_var rfl (Rp.mono _ (s3.trans s5) hx)) (ev_ixM RN 0 (ev_ixM RP [] (ev_var rfl (Rp.mono _ (s3.trans s5) hz)) (ev_var rfl hu) h1) (ev_var rfl rfl) (by omega)) h4) (ev_var rfl hv) (by omega) (by omega)
    · rw [fm_some] at hv4
      refine s_app (r := RS ((List.range pat.length).map (relAt ss pat os i))) (c3.up e4) rfl (ev_joinC ev_nils (ev_var rfl hv4) (by rw [List.length_range]; omega)) (by rw [List.length_map, List.length_take, List.length_range]; omega) fun H5 c5 e5 => ?_
      refine ⟨⟨_, _, rfl⟩, ?_, (sm.trans (hd_same (e3.trans e4))).trans e5⟩
      rw [List.take_add_one, range_at hi, List.map_append]
      exact c5
  · rintro σ' H' ⟨⟨c4, c5, rfl⟩, c, sm⟩
    rw [List.length_map, List.length_range, show (List.range ss.length).take ss.length = List.range ss.length from List.take_of_length_le (by simp)] at c
    refine s_ret (B := B) (c.dom.same c.same) (ev_is (ev_tupOf (ev_var rfl c.done)) ?_) (q.go c.same)
    show RT _ = RT ((rel ss pat os).map RS)
    unfold rel
    rw [List.map_map]
    rfl
def spLayers : Sp := SpOf (α := List (List Nat) × List Nat) (fun a => [RSh a.1, RP a.2]) (fun a => (∀ l ∈ a.1, ∀ c ∈ a.2, c < l.length) ∧ (∀ l ∈ a.1, l.length ≤ 1000) ∧ a.1.length ≤ 1000 ∧ a.2.length ≤ 1000) fun a => RL ((layersOf a.1 a.2).map RS)
theorem sc31 : FnScope ["sheets", "cells", "cell", "sheet"] ["sheets", "cells"] (C8.fnScope (topS 31)) := C8.fnScope_by (by decide +kernel)
theorem c31 (T : Txt K mg) : C8.Cal P w K mg base 1 "layers" spLayers [] := by
  refine cal_of T.d31 sc31 (len_of (n := 2) fun _ => rfl) fun f _ cdv A outer s H vs Q E hr h => ?_
  obtain ⟨⟨ss, cells⟩, B, dm, hvs, ⟨k1, k2, k3, k4⟩, q⟩ := h
  dsimp only at k1 k2 k3 k4
  obtain ⟨x, y, rfl, hx, hy⟩ := hvs.two
  have hx : (RSh ss).at_ (hd B H) x := hx
  have hy : (RP cells).at_ (hd B H) y := hy
  refine ⟨_, (pss_one (ps_ret (pe_lc (own := [("sheet", 3)]) (g := (gName 3)) (tt := tYes) rfl sc31.nd (show PI _ _ _ (iTup K _) from (pi_tup (pv 0))) (blkOk_by (N := ["sheets", "cells", "cell", "sheet"]) (sc := C8.fnScope (topS 31)) (by decide +kernel)) (fun _ _ _ _ _ => (pg_name (i := 3) sc31.nd rfl (by first | exact .inl rfl | exact .inr rfl))) (fun _ _ _ _ _ => pts_nil) (fun _ _ _ _ _ => (show PE _ _ (tM1 (rJoinK K) _ _) from pe_join pe_str (pe_lc (own := [("cell", 2)]) (g := (gName 2)) (tt := tYes) rfl sc31.nd (show PI _ _ _ (iTup K _) from (pi_tup (pv 1))) (blkOk_by (by rfl)) (fun _ _ _ _ _ => (pg_name (i := 2) sc31.nd rfl (by first | exact .inl rfl | exact .inr rfl))) (fun _ _ _ _ _ => pts_nil) (fun _ _ _ _ _ => (pe_ix ix_str (pv 3) (pv 2) (fun _ _ => rfl))))))))), ?_⟩
  refine s_ret dm (ev_is (ev_lcM (xs := ss) (ρ := RS) (fun l => RS (layerAt cells l)) (ei_tup (ev_var rfl hx)) (by omega) (fun _ => rfl) fun l v H1 hl s1 hv => ?_) ?_) q
  · refine ev_joinC ev_nils (ev_lcM (xs := cells) (ρ := RN) (fun c => RS [l.getD c 0]) (ei_tup (ev_var rfl (Rp.mono _ s1 hy))) (by omega) (fun _ => rfl) fun c u H2 hc s2 hu => ?_) (by omega)
    exact ev_ixC (ev_var rfl (Rp.mono _ s2 hv)) (ev_var rfl hu) (k1 l hl c hc) (by have := k2 l hl; omega)
  · show RL _ = RL ((layersOf ss cells).map RS)
    unfold layersOf
    rw [List.map_map]
    rfl
def spOrders : Sp := SpOf (α := Nat) (fun a => [RN a]) (fun a => a ≤ 3) fun a => RL ((orders a).map RP)
theorem sc41 : FnScope ["count", "found", "turn", "row", "number"] ["count"] (C8.fnScope (topS 41)) := C8.fnScope_by (by decide +kernel)
theorem c41 (T : Txt K mg) : C8.Cal P w K mg base 1 "all_orders" spOrders [] := by
  refine cal_of T.d41 sc41 (len_of (n := 1) fun _ => rfl) fun f _ cdv A outer s H vs Q E hr h => ?_
  obtain ⟨n, B, dm, hvs, hn, q⟩ := h
  have hn : n ≤ 3 := hn
  obtain ⟨x, rfl, hx⟩ := hvs.one
  have hx : (RN n).at_ (hd B H) x := hx
  refine ⟨_, (pss_cons (ps_set (i := 1) sc41.nd rfl (by first | exact .inl rfl | exact .inr rfl) (pe_lst (pa_cons (pe_tup pa_nil) pa_nil)))
      (pss_cons (ps_for PassesOwn.never rfl (pi_range1 (by rfl) (T.no "range") (pa_cons (pv 0) pa_nil)) (pg_name (i := 2) sc41.nd rfl (by first | exact .inl rfl | exact .inr rfl)) (pss_one (ps_setLc2 (own := [("row", 3), ("number", 4)]) (g := (gName 3)) (g1 := (gName 4)) (tt := tYes) (vs1 := [4]) (i := 1) rfl sc41.nd rfl rfl rfl (show PI _ _ _ (iList K _) from (pi_list (pv 1))) (blkOk_by (N := ["count", "found", "turn", "row", "number"]) (sc := C8.fnScope (topS 41)) (by decide +kernel)) (by decide) (fun _ _ _ _ _ => (pg_name (i := 3) sc41.nd rfl (by first | exact .inl rfl | exact .inr rfl))) (fun _ _ _ _ _ => pts_nil) (fun _ _ _ _ _ => (pi_range1 (by rfl) (T.no "range") (pa_cons (pv 0) pa_nil))) (fun _ _ _ _ _ => (pg_name (i := 4) sc41.nd rfl (by first | exact .inl rfl | exact .inr rfl))) (fun _ _ _ _ _ => (pts_one (show PT _ _ (tTest (tOp (rIn K true) _ _)) from (pt_cmpR op_notIn_seq (pv 4) (pv 3) rfl)))) (fun _ _ _ _ _ => (pe_tup (show PA _ _ (StX.tStar K _ _) from StX.pa_star (pv 3) (pa_cons (pv 4) pa_nil)))))))
      (pss_one (ps_ret (pv 1))))), ?_⟩
  refine q_set (r := RL ((ordRows n 0).map RP)) dm (ev_lst (rs := [RP []]) (ea_cons (ev_tup ea_nil (by decide)) ea_nil) (by show 1 ≤ 100000; decide)) fun v1 H1 e1 d1 hv1 => ?_
  refine q_for (rs := (List.range n).map RN) d1 (ei_rng1 (ea_cons (ev_var rfl (Rp.mono _ (hd_same e1) hx)) ea_nil) (by omega)) fun H2 e2 d2 => ?_
  refine ⟨B, fun i σ' H' => (∃ rv c2, σ' = [some x, some rv, c2, none, none] ∧ (RL ((ordRows n i).map RP)).at_ (hd B H') rv) ∧ Same H2 H', ⟨⟨v1, none, rfl, Rp.mono _ (hd_same e2) hv1⟩, Same.refl _⟩, fun i σ' H' _ ⟨_, sm⟩ => ⟨d2.same sm, hd_same sm⟩, ?_, ?_⟩
  · rintro i r v σ' H' H3 hr0 ⟨⟨rv, c2, rfl, hrv⟩, sm⟩ e3 hv
    obtain ⟨hi, er⟩ := rng_at hr0
    have hm := orders_few n (List.mem_range.mpr (by omega)) i (List.mem_range.mpr (by omega))
    have d3 : Dom B H3 := (d2.same sm).same e3
    have hx3 : (RN n).at_ (hd B H3) x := hx
    refine s_set (r := RL ((ordRows n (i + 1)).map RP)) d3 (ev_is (ev_lc2 (xs := ordRows n i) (ρ := RP) (ys := fun _ => List.range n) (ρ1 := fun _ p => RN p) (fun o p => if (!decide (p ∈ o)) = true then some (RP (o ++ [p])) else none) (ei_list (ev_var rfl (Rp.mono _ (hd_same e3) hrv))) ?_ ?_ gName_mono) ?_) fun v4 H4 e4 d4 hv4 => ⟨⟨v4, _, rfl, hv4⟩, sm.trans (e3.trans e4)⟩
    · intro j hj
      rw [List.length_range, sum_const, List.length_take]
      have := hm.1
      have : min j (ordRows n i).length * n ≤ 6 * 3 := Nat.mul_le_mul (by omega) hn
      omega
    · intro B4 o v H4 ho s4 d4 hv4
      refine ⟨rfl, rfl, ei_rng1 (n := n) (ea_cons (ev_var rfl (Rp.mono _ s4 hx3)) ea_nil) (by omega), fun _ => rfl, fun p u H5 hp s5 hu => ?_, fun p u H5 rp hp s5 hu hrp => ?_⟩
      · refine et_is (et_test (ev_notInP (ev_var rfl hu) (ev_var rfl (Rp.mono _ s5 hv4)))) ?_
        by_cases e : p ∈ o <;> simp [e]
      · split at hrp
        · rw [← Option.some.inj hrp]
          exact ev_snocP (ev_var rfl (Rp.mono _ s5 hv4)) (ev_var rfl hu) (by have := hm.2 o ho; omega)
        · cases hrp
    · show RL _ = RL ((ordStep n (ordRows n i)).map RP)
      unfold ordStep
      rw [List.map_flatMap]
      refine congrArg RL (congrArg (fun f => (ordRows n i).flatMap f) (funext fun o => ?_))
      rw [filter_fm, List.map_map]
      rfl
  · rintro σ' H' ⟨⟨rv, c2, rfl, hrv⟩, sm⟩
    rw [List.length_map, List.length_range] at hrv
    exact s_ret (d2.same sm) (ev_var rfl hrv) (q.go (e1.trans (e2.trans sm)))
end
end Sw
set_option Elab.async false
set_option linter.all false
set_option maxRecDepth 100000
set_option maxHeartbeats 1000000
/-! max of a tuple of numbers, min of a list of (number, tuple). -/
namespace Sw
open PySem PySem.Spec PyProof.Rows L2 PySem.W
theorem alike_ints (p : List Nat) : AlikeAll (p.map fun n : Nat => PyData.int (n : Int)) := by
  refine ⟨fun x hx y hy => ?_, fun x hx e => ?_⟩
  · obtain ⟨a, _, rfl⟩ := List.mem_map.mp hx
    obtain ⟨b, _, rfl⟩ := List.mem_map.mp hy
    simp only [PySem.W.alike]
  · obtain ⟨a, _, rfl⟩ := List.mem_map.mp hx
    cases e
theorem foldl_max_nat : ∀ (r : List Nat) (x : Nat), (r.map fun n : Nat => (n : Int)).foldl max (x : Int) = ((r.foldl max x : Nat) : Int)
  | [], _ => rfl
  | a :: r, x => by
    rw [List.map_cons, List.foldl_cons, List.foldl_cons, show max (x : Int) (a : Int) = ((max x a : Nat) : Int) by omega]
    exact foldl_max_nat r _
def rMaxT (K : PySem.W.Frag) : List V → Hp → VK → Prop := fun vs H Q => ∃ (a : Addr) (p : List Nat), vs = [V.ref a] ∧ SqT K H a (p.map vN) ∧ p ≠ [] ∧ Q (vN (top p)) H
theorem cr_maxT {X : Cx} (hc : X.calm = true) (hu : X.A.units + 64 < cLine) : CallR X (.builtin "max") (rMaxT X.K) := by
  intro pins s σ H vs us Q I r h
  obtain ⟨a, p, rfl, hs, hne, q⟩ := h
  obtain ⟨its, rv, hl, _⟩ := I.tuple hs
  rw [Vals.ref1 r]
  obtain ⟨as, hr⟩ := Dp.readsAll I _ _ _ (dats (paired_map (fun n : Nat => dat_I (n : Int)) p) X.K H (nat_al p)) rv
  cases p with
  | nil => exact absurd rfl hne
  | cons x t =>
    refine max_tuple_data (I.ok.hd hc) hl (by rw [List.toList_toArray]; exact hr) (alike_ints (x :: t)) ?_ fun i v h' tk bs hi rd hk => ?_
    · have z := (flat_lay (x :: t) fun a _ => int_flat a).2
      rw [List.map_cons] at z
      rw [z]
      omega
    · have e : maxD (PyData.int (x : Int)) (t.map fun n : Nat => PyData.int (n : Int)) = .int ((top (x :: t) : Nat) : Int) := by
        have z := maxD_ints (x : Int) (t.map fun n : Nat => (n : Int))
        rw [List.map_map, foldl_max_nat] at z
        refine Eq.trans z ?_
        unfold top
        rw [List.foldl_cons, Nat.zero_max]
      have rd : Reads h' v (.int ((top (x :: t) : Nat) : Int)) bs := by rw [← e]; exact rd
      obtain ⟨t', rfl, _⟩ := PyProof.Rows.reads_int_inv rd
      exact ⟨vN (top (x :: t)), H, I.kept hk, ⟨_, rfl⟩, q⟩
/-! min -/
def dq (x : Nat × List Nat) : PyData := .tuple [.int (x.1 : Int), dP x.2]
theorem dq_inj {x y : Nat × List Nat} (h : dq x = dq y) : x.1 = y.1 := by
  unfold dq at h
  injection h with h
  injection h with h _
  injection h with h
  exact Int.ofNat.inj h
theorem alikeAll_nat : ∀ p q : List Nat, alikeAll (p.map fun n : Nat => PyData.int (n : Int)) (q.map fun n : Nat => PyData.int (n : Int)) = true
  | [], _ => by rw [List.map_nil, alikeAll]
  | _ :: _, [] => by rw [List.map_nil, List.map_cons, alikeAll]
  | x :: xs, y :: ys => by
    rw [List.map_cons, List.map_cons, alikeAll, alikeAll_nat xs ys]
    simp only [PySem.W.alike, Bool.and_self]
theorem alike_dq (x y : Nat × List Nat) : alike (dq x) (dq y) = true := by
  unfold dq
  simp only [PySem.W.alike, alikeAll, Bool.true_and]
  unfold dP
  simp only [PySem.W.alike]
  rw [alikeAll_nat]
  rfl
theorem lt_dq {x y : Nat × List Nat} (h : x.1 ≠ y.1) : dataLt (dq x) (dq y) = decide (x.1 < y.1) := by
  unfold dataLt dq
  simp only [keyToks, keyToksAll]
  rw [lex_self (O := itemOrd)]
  show lexLt itemOrd (Sum.inl (x.1 : Int) :: _) (Sum.inl (y.1 : Int) :: _) = _
  have hne : (Sum.inl (x.1 : Int) : Int ⊕ List Nat) ≠ Sum.inl (y.1 : Int) := fun e => h (Int.ofNat.inj (Sum.inl.inj e))
  rw [lex_diff (O := itemOrd) hne]
  have z := lex_diff (O := itemOrd) (r := []) (t := []) hne
  have z2 := dataLt_int (x.1 : Int) (y.1 : Int)
  unfold dataLt at z2
  simp only [keyToks] at z2
  rw [← z, z2]
  exact decide_eq_decide.mpr Int.ofNat_lt
theorem min_dq : ∀ (r : List (Nat × List Nat)) (x : Nat × List Nat), ∃ m, minD (dq x) (r.map dq) = dq m ∧ ∀ y ∈ x :: r, m.1 ≤ y.1
  | [], x => ⟨x, rfl, fun y hy => by rw [List.mem_singleton.mp hy]; exact Nat.le_refl _⟩
  | a :: r, x => by
    have e : minD (dq x) ((a :: r).map dq) = minD (if dataLt (dq a) (dq x) = true then dq a else dq x) (r.map dq) := rfl
    by_cases h : dataLt (dq a) (dq x) = true
    · obtain ⟨m, h1, h2⟩ := min_dq r a
      refine ⟨m, by rw [e, if_pos h, h1], fun y hy => ?_⟩
      rcases List.mem_cons.mp hy with rfl | hy
      · refine Nat.le_trans (h2 a List.mem_cons_self) ?_
        by_cases q : a.1 = y.1
        · omega
        · rw [lt_dq q] at h
          exact Nat.le_of_lt (of_decide_eq_true h)
      · exact h2 y hy
    · obtain ⟨m, h1, h2⟩ := min_dq r x
      refine ⟨m, by rw [e, if_neg h, h1], fun y hy => ?_⟩
      rcases List.mem_cons.mp hy with rfl | hy
      · exact h2 y List.mem_cons_self
      · rcases List.mem_cons.mp hy with rfl | hy
        · refine Nat.le_trans (h2 x List.mem_cons_self) ?_
          by_cases q : y.1 = x.1
          · omega
          · rw [lt_dq q] at h
            have : ¬ y.1 < x.1 := fun z => h (decide_eq_true z)
            omega
        · exact h2 y (List.mem_cons_of_mem _ hy)
theorem lay_dq (x : Nat × List Nat) : (dq x).depth = 2 := by
  unfold dq
  rw [PyData.depth]
  simp only [PyData.depthAll, (lay_P x.2).2, PyData.depth]
  rfl
theorem depth_dq : ∀ l : List (Nat × List Nat), PyData.depthAll (l.map dq) ≤ 2
  | [] => by simp [PyData.depthAll]
  | a :: r => by
    have := depth_dq r
    rw [List.map_cons]
    simp only [PyData.depthAll, lay_dq]
    omega
theorem vals_at : ∀ {xs : List V} {us : List Value} {i : Nat} {u : Value}, Vals xs us → us[i]? = some u → ∃ x, xs[i]? = some x ∧ RelV x u
  | _, _, i, _, .nil, e => by simp at e
  | x :: _, _, 0, _, .cons r _, e => ⟨x, rfl, by
    have q := Option.some.inj (by simpa using e : some _ = some _)
    rw [← q]
    exact r⟩
  | _ :: _, _, i + 1, _, .cons _ t, e => by
    obtain ⟨x, h1, h2⟩ := vals_at (i := i) t (by simpa using e)
    exact ⟨x, by simpa using h1, h2⟩
def rMinP (K : PySem.W.Frag) : List V → Hp → VK → Prop := fun vs H Q => ∃ (a : Addr) (ws : List V) (xs : List (Nat × List Nat)), vs = [V.ref a] ∧ SqL K H a ws ∧ DpAll K H ws (xs.map dq) ∧ xs ≠ [] ∧ ∀ (i : Nat) (v : V) (x : Nat × List Nat), ws[i]? = some v → xs[i]? = some x → (∀ y ∈ xs, x.1 ≤ y.1) → Q v H
theorem cr_minP {X : Cx} (hc : X.calm = true) (hu : X.A.units + 64 < cLine) : CallR X (.builtin "min") (rMinP X.K) := by
  intro pins s σ H vs us Q I r h
  obtain ⟨a, ws, xs, rfl, hs, hd, hne, q⟩ := h
  obtain ⟨its, rv, hl, _⟩ := I.list hs
  rw [Vals.ref1 r]
  obtain ⟨as, hr⟩ := Dp.readsAll I _ _ _ hd rv
  cases xs with
  | nil => exact absurd rfl hne
  | cons x t =>
    obtain ⟨m, hm, hmin⟩ := min_dq t x
    refine min_list_data (I.ok.hd hc) hl.isList (by rw [List.toList_toArray]; exact hr) ⟨fun y hy z hz => ?_, fun y hy e => ?_⟩ ?_ fun i v h' tk bs hi rd hk => ?_
    · obtain ⟨a, _, rfl⟩ := List.mem_map.mp (show y ∈ (x :: t).map dq from hy)
      obtain ⟨b, _, rfl⟩ := List.mem_map.mp (show z ∈ (x :: t).map dq from hz)
      exact alike_dq a b
    · obtain ⟨a, _, rfl⟩ := List.mem_map.mp (show y ∈ (x :: t).map dq from hy)
      cases e
    · have := depth_dq (x :: t)
      rw [List.map_cons] at this
      omega
    · rw [hm] at rd
      have hi : its[i]? = some v := by simpa using hi
      obtain ⟨cs, rc, hlt, _⟩ := readsAll_at hr i v hi
      obtain ⟨e, _⟩ := reads_det (h := s.heap) (h' := h') (fun b o eb _ => hk b o eb) rc rd
      obtain ⟨wv, hw, rel⟩ := vals_at rv hi
      rw [List.length_map] at hlt
      have hxi : (x :: t)[i]? = some ((x :: t)[i]'hlt) := List.getElem?_eq_getElem hlt
      have eg : ((x :: t).map dq).getD i .none = dq ((x :: t)[i]'hlt) := by
        rw [List.getD_eq_getElem?_getD, List.getElem?_map, hxi]
        rfl
      rw [eg] at e
      have e1 := dq_inj e
      exact ⟨wv, H, I.kept hk, rel, q i wv _ hw hxi fun y hy => by rw [← e1]; exact hmin y hy⟩
/-! told by descriptions -/
section
variable {K : PySem.W.Frag} {σ : L2.St} {H : Hp} {te : TE}
theorem ev_maxT {p : List Nat} (h : Ev te σ H (RP p)) (hne : p ≠ []) : Ev (tCB (rMaxT K) (tCons te tNil)) σ H (RN (top p)) :=
  ev_cb (ea_cons h ea_nil) fun B H1 vs _ _ hvs _ q => by
    obtain ⟨v, e, hv⟩ := hvs.one
    obtain ⟨a, rfl, ha⟩ := rp_at hv
    exact ⟨a, p, e, SqT.of (hd_in ha).1, hne, q _ H1 (Same.refl H1) rfl⟩
abbrev RLP (x : Nat × List Nat) : Rp := RT [RN x.1, RP x.2]
/-- the least length, with any of its patterns -/
def RMin (n : Nat) : Rp := ⟨fun H v => ∃ p, (RLP (n, p)).at_ H v, fun e ⟨p, h⟩ => ⟨p, (RLP (n, p)).mono e h⟩⟩
theorem dat_q (x : Nat × List Nat) : Dat (RLP x) (dq x) := dat_T (.cons (dat_I _) (.cons (dat_P _) .nil))
theorem ev_minP {xs : List (Nat × List Nat)} {n : Nat} (h : Ev te σ H (RL (xs.map RLP))) (hne : xs ≠ []) (hn : ∀ x ∈ xs, (∀ y ∈ xs, x.1 ≤ y.1) → x.1 = n) : Ev (tCB (rMinP K) (tCons te tNil)) σ H (RMin n) :=
  ev_cb (ea_cons h ea_nil) fun B H1 vs _ _ hvs _ q => by
    obtain ⟨v, e, a, ws, ev, ha, hw⟩ := hvs.one
    subst ev
    refine ⟨a, ws, xs, e, SqL.of (hd_in ha).1, dats (paired_map dat_q xs) K H1 (hw.mono hd_all), hne, fun i v x hv hx hmin => q _ H1 (Same.refl H1) ?_⟩
    obtain ⟨r, h1, h2⟩ := hw.back hv
    obtain ⟨x', h3, h4⟩ := map_at h1
    rw [hx] at h3
    have h3 := Option.some.inj h3
    subst h3
    subst h4
    refine ⟨x.2, ?_⟩
    have := hn x (List.mem_of_getElem? hx) hmin
    rw [← this]
    exact h2
end
end Sw
set_option Elab.async false
set_option linter.all false
set_option maxRecDepth 100000
set_option maxHeartbeats 1000000
/-! A list of lists that grow. -/
namespace Sw
open PySem PySem.Spec PyProof.Rows L2
def nlv (n : Nat) (la : Nat → Addr) : List V := (List.range n).map fun c : Nat => V.ref (la c)
/-- the list at N of lists of numbers, the one of c at la c -/
structure Nl (H0 : Hp) (n : Nat) (N : Addr) (la : Nat → Addr) (nb : Nat → List Nat) (H' : Hp) : Prop where
  same : Same H0 H'
  nN : H0 N = none
  nL : ∀ c, c < n → H0 (la c) = none
  box : H' N = some (.lst (nlv n la))
  lst : ∀ c, c < n → H' (la c) = some (.lst ((nb c).map vN))
  inj : ∀ c d, c < n → d < n → la c = la d → c = d
  ne : ∀ c, c < n → la c ≠ N
section
variable {B : Bs} {H0 H' H2 Hk : Hp} {n : Nat} {N : Addr} {la : Nat → Addr} {nb : Nat → List Nat}
theorem Nl.non (r : Nl H0 n N la nb H') : ∀ a ∈ nrL n N la, H0 a = none := fun a h => by
  rcases List.mem_cons.mp h with h | h
  · rw [h]
    exact r.nN
  · obtain ⟨c, hc, e⟩ := List.mem_map.mp h
    rw [← e]
    exact r.nL c (List.mem_range.mp hc)
theorem Nl.som (r : Nl H0 n N la nb H') : ∀ a ∈ nrL n N la, H' a ≠ none := fun a h z => by
  rcases List.mem_cons.mp h with h | h
  · rw [h, r.box] at z
    cases z
  · obtain ⟨c, hc, e⟩ := List.mem_map.mp h
    rw [← e, r.lst c (List.mem_range.mp hc)] at z
    cases z
theorem Nl.nt (r : Nl H0 n N la nb H') : ∀ a ∈ nrL n N la, ∀ xs, H' a ≠ some (.tup xs) := fun a h xs z => by
  rcases List.mem_cons.mp h with h | h
  · rw [h, r.box] at z
    cases z
  · obtain ⟨c, hc, e⟩ := List.mem_map.mp h
    rw [← e, r.lst c (List.mem_range.mp hc)] at z
    cases z
theorem Nl.up (r : Nl H0 n N la nb H') (e : Same H' H2) : Nl H0 n N la nb H2 := ⟨r.same.trans e, r.nN, r.nL, e _ _ r.box, fun c h => e _ _ (r.lst c h), r.inj, r.ne⟩
theorem Nl.known (r : Nl H0 n N la nb H') (k : Same Hk (hd B H0)) : Same Hk (hd (B.addL (nrL n N la)) H') := addL_known k r.same r.non
theorem Nl.dom (r : Nl H0 n N la nb H') (d : Dom B H0) : Dom (B.addL (nrL n N la)) H' := addL_dom d r.same fun a h => ⟨r.som a h, r.nt a h⟩
theorem nlv_at {o : Nat} (h : o < n) : (nlv n la)[o]? = some (V.ref (la o)) := by
  unfold nlv
  rw [List.getElem?_map, range_at h]
  rfl
theorem Nl.app (r : Nl H0 n N la nb H') {o m : Nat} (h : o < n) : Nl H0 n N la (fun d => nb d ++ if d = o then [m] else []) (upd H' (la o) (.lst ((nb o).map vN ++ [vN m]))) where
  same := fun b x q => by
    rw [upd_ne (ne_of_none q (r.nL o h))]
    exact r.same _ _ q
  nN := r.nN
  nL := r.nL
  box := by
    rw [upd_ne (Ne.symm (r.ne o h))]
    exact r.box
  lst := fun c hc => by
    by_cases e : c = o
    · subst e
      rw [upd_same, if_pos rfl, List.map_append]
      rfl
    · rw [upd_ne (fun q => e (r.inj c o hc h q)), if_neg e, List.append_nil]
      exact r.lst c hc
  inj := r.inj
  ne := r.ne
/-- found[o].append(m) -/
theorem s_nlapp {K : PySem.W.Frag} {σ : L2.St} {D : Ends} {kn ko kp o m : Nat} (r : Nl H0 n N la nb H') (hn : σ[kn]? = some (some (.ref N))) (ho : σ[ko]? = some (some (vN o))) (hp : σ[kp]? = some (some (vN m))) (h : o < n) (hl : (nb o).length < 90000)
    (q : ∀ H2, Nl H0 n N la (fun d => nb d ++ if d = o then [m] else []) H2 → Same (hd (B.addL (nrL n N la)) H') (hd (B.addL (nrL n N la)) H2) → D.nx σ H2) : tDrop (tBM K "list" rAppend (tOp (rIxL K) (tVar kn) (tVar ko)) (tCons (tVar kp) tNil)) D σ H' :=
  ⟨.ref N, hn, vN o, ho, N, nlv n la, (o : Int), .ref (la o), rfl, rfl, SqL.of r.box, atI_nat (nlv_at h), .inl ⟨rfl, _, SqL.of (r.lst o h)⟩, vN m, hp, la o, _, vN m, rfl, rfl, r.lst o h, Nat.lt_of_lt_of_le (by rw [List.length_map]; exact hl) (by decide : 90000 ≤ sizeLine), q _ (r.app h) (by
    rw [hd_upd (addL_in (in_nrL h))]
    exact Same.refl _)⟩
/-- what it is in the end -/
theorem Nl.done (r : Nl H0 n N la nb H') (d : Dom B H0) : (RL ((List.range n).map fun c => RL ((nb c).map RN))).at_ (hd B H') (.ref N) := by
  refine ⟨N, nlv n la, rfl, hd_of r.box (d.fresh r.nN), ?_⟩
  unfold nlv
  have z : ∀ l : List Nat, (∀ c ∈ l, c < n) → Al (hd B H') (l.map fun c => RL ((nb c).map RN)) (l.map fun c : Nat => V.ref (la c)) := by
    intro l
    induction l with
    | nil => exact fun _ => .nil
    | cons c t ih =>
      intro hl
      have hc := hl c List.mem_cons_self
      exact .cons ⟨la c, _, rfl, hd_of (r.lst c hc) (d.fresh (r.nL c hc)), nat_al _⟩ (ih fun e he => hl e (List.mem_cons_of_mem _ he))
  exact z _ fun c hc => List.mem_range.mp hc
/-- found = [[] for piece in range(n)] -/
theorem q_lists {σ : L2.St} {D : Ends} {ta : TA} {tz : TS} {j k : Nat} {H : Hp} (d : Dom B H) (h : EvA ta σ (hd B H) [RN n]) (hn : n ≤ 90000) (hw : ∀ v, wipe ((wipe σ [j]).set j (some v)) [j] = wipe σ [j])
    (q : ∀ N la H1, Nl H n N la (fun _ => []) H1 → tz D (σ.set k (some (.ref N))) H1) : tSeq (tAsg (tLc (iRng1 ta) (gName j) tYes (tLst tNil) [j]) (gName k)) tz D σ H := by
  unfold tSeq tAsg tLc
  refine ei_rng1 h (by omega) B H (Same.refl _) d _ fun J H2 e2 w => ?_
  intro N hN
  have d2 := d.same e2
  refine ⟨fun i m H' => m = n - i ∧ i ≤ n ∧ ∃ la, Nl H2 i N la (fun _ => []) H', ⟨_, rfl, Nat.zero_le _, fun _ => N, same_upd hN, hN, fun c hc => by omega, upd_same, fun c hc => by omega, fun c _ hc => by omega, fun c hc => by omega⟩, ?_⟩
  rintro i m H' ⟨rfl, hi, la, r⟩
  have sm : Same (hd B H2) (hd (B.addL (nrL i N la)) H') := r.known (Same.refl _)
  by_cases hlt : i < n
  · refine .inr ⟨w.go i _ H' (by simpa using hlt) sm, fun H3 => ∃ la, Nl H2 (i + 1) N la (fun _ => []) H3, fun H3 p => ⟨n - (i + 1), by omega, rfl, hlt, p⟩, fun v H3 y => ?_⟩
    obtain ⟨s3, fy⟩ := w.yld i _ H' v H3 sm (r.dom d2) y
    have r3 := r.up s3
    refine ⟨hw _, ?_⟩
    unfold tYes
    dsimp only
    rw [if_pos rfl]
    refine ⟨Nat.zero_le _, fun p hp => ⟨nlv i la, ?_, ?_, ?_⟩⟩
    · rw [upd_ne (ne_of_none r3.box hp)]
      exact r3.box
    · unfold nlv
      rw [List.length_map, List.length_range]
      exact Nat.lt_of_lt_of_le (by omega : i < 100000) (by decide)
    · have hpN : p ≠ N := fun e => by
        rw [e, r3.box] at hp
        cases hp
      have hpc : ∀ c, c < i → la c ≠ p := fun c hc e => by
        have z := r3.lst c hc
        rw [e, hp] at z
        cases z
      have hp2 : H2 p = none := by
        cases z : H2 p with
        | none => rfl
        | some o =>
          rw [r3.same _ _ z] at hp
          cases hp
      refine ⟨fun c => if c = i then p else la c, ?_, r.nN, ?_, ?_, ?_, ?_, ?_⟩
      · intro b x z
        rw [upd_ne (ne_of_none z r.nN), upd_ne (ne_of_none z hp2)]
        exact r3.same _ _ z
      · intro c hc
        split
        · exact hp2
        · exact r.nL c (by omega)
      · rw [upd_same]
        unfold nlv
        rw [List.range_succ, List.map_append, List.map_singleton]
        dsimp only
        rw [if_pos rfl]
        refine congrArg (fun l => some (HO.lst (l ++ _))) (List.map_congr_left fun c hc => ?_)
        rw [if_neg (Nat.ne_of_lt (List.mem_range.mp hc))]
      · intro c hc
        split
        · rw [upd_ne hpN, upd_same]
          rfl
        · rename_i hne
          rw [upd_ne (r3.ne c (by omega)), upd_ne (hpc c (by omega))]
          exact r3.lst c (by omega)
      · intro c e hc he hq
        split at hq <;> split at hq
        · omega
        · exact absurd hq.symm (hpc e (by omega))
        · exact absurd hq (hpc c (by omega))
        · exact r.inj c e (by omega) (by omega) hq
      · intro c hc
        split
        · exact hpN
        · exact r.ne c (by omega)
  · have ei : i = n := by omega
    subst ei
    refine .inl ⟨w.stop _ _ H' (by simp) sm, q N la H' ⟨e2.trans r.same, ?_, ?_, r.box, r.lst, r.inj, r.ne⟩⟩
    · cases z : H N with
      | none => rfl
      | some o =>
        have := r.nN
        rw [e2 _ _ z] at this
        cases this
    · intro c hc
      cases z : H (la c) with
      | none => rfl
      | some o =>
        have := r.nL c hc
        rw [e2 _ _ z] at this
        cases this
end
end Sw
set_option Elab.async false
set_option linter.all false
set_option maxRecDepth 100000
set_option maxHeartbeats 1000000
/-! pieces_of. -/
namespace Sw
open PySem PySem.Spec PyProof.Rows L2
theorem foldl_max_le : ∀ (l : List Nat) (x c : Nat), (c = x ∨ c ∈ l) → c ≤ l.foldl max x
  | [], x, c, h => by
    rcases h with h | h
    · rw [h]
      exact Nat.le_refl _
    · cases h
  | a :: r, x, c, h => by
    rw [List.foldl_cons]
    rcases h with h | h
    · subst h
      exact Nat.le_trans (Nat.le_max_left c a) (foldl_max_le r _ _ (.inl rfl))
    · rcases List.mem_cons.mp h with h | h
      · subst h
        exact Nat.le_trans (Nat.le_max_right x c) (foldl_max_le r _ _ (.inl rfl))
      · exact foldl_max_le r _ _ (.inr h)
theorem le_top {p : List Nat} {c : Nat} (h : c ∈ p) : c ≤ top p := foldl_max_le p 0 c (.inr h)
section
variable {P : Program} {w : World} {K : PySem.W.Frag} {mg : Str → Option Value} {base : Heap}
def spPieces : Sp := SpOf (α := List Nat) (fun a => [RP a]) (fun a => a ≠ [] ∧ a.length ≤ 100 ∧ top a ≤ 100) fun a => RT ((piecesOf a).map RP)
theorem sc27 : FnScope ["pattern", "found", "piece", "cell", "cells"] ["pattern"] (C8.fnScope (topS 27)) := C8.fnScope_by (by decide +kernel)
theorem c27 (T : Txt K mg) : C8.Cal P w K mg base 1 "pieces_of" spPieces [] := by
  refine cal_of T.d27 sc27 (len_of (n := 1) fun _ => rfl) fun f _ cdv A outer s H vs Q E hr h => ?_
  obtain ⟨pat, B, dm, hvs, ⟨hne, hl, ht⟩, q⟩ := h
  obtain ⟨x, rfl, hx⟩ := hvs.one
  have hx : (RP pat).at_ (hd B H) x := hx
  refine ⟨_, (pss_cons (ps_setLc (own := [("piece", 2)]) (g := (gName 2)) (tt := tYes) (i := 1) rfl sc27.nd rfl rfl rfl (pi_range1 (by rfl) (T.no "range") (pa_cons (pe_op op_add (show PE _ _ (tCB (rMaxT K) _) from (pe_callB (cr_maxT rfl (hu64 hr)) (by rfl) (T.no "max") bt_max (pa_cons (pv 0) pa_nil))) pe_int) pa_nil)) (blkOk_by (N := ["pattern", "found", "piece", "cell", "cells"]) (sc := C8.fnScope (topS 27)) (by decide +kernel)) (fun _ _ _ _ _ => (pg_name (i := 2) sc27.nd rfl (by first | exact .inl rfl | exact .inr rfl))) (fun _ _ _ _ _ => pts_nil) (fun _ _ _ _ _ => (pe_lst pa_nil)))
      (pss_cons (ps_for PassesOwn.never rfl (pi_enumT (by rfl) (T.no "enumerate") (pa_cons (pv 0) pa_nil)) (pg_tup rfl (pgs_cons (pg_name (i := 3) sc27.nd rfl (by first | exact .inl rfl | exact .inr rfl)) (pgs_cons (pg_name (i := 2) sc27.nd rfl (by first | exact .inl rfl | exact .inr rfl)) pgs_nil))) (pss_one (ps_expr (pe_bm PySem.F.plainAttrs_list PySem.F.slot_list_append PySem.F.type_list_append mt_append (show PE _ _ (tOp (rIxL K) _ _) from (pe_ix ix_list (pv 1) (pv 2) (fun _ _ => rfl))) (pa_cons (pv 3) pa_nil)))))
      (pss_one (ps_ret (show PE _ _ (tThen _ (kTup K)) from pe_tupleOf (by rfl) (T.no "tuple") (pe_lc (own := [("cells", 4)]) (g := (gName 4)) (tt := tYes) rfl sc27.nd (show PI _ _ _ (iList K _) from (pi_list (pv 1))) (blkOk_by (N := ["pattern", "found", "piece", "cell", "cells"]) (sc := C8.fnScope (topS 27)) (by decide +kernel)) (fun _ _ _ _ _ => (pg_name (i := 4) sc27.nd rfl (by first | exact .inl rfl | exact .inr rfl))) (fun _ _ _ _ _ => pts_nil) (fun _ _ _ _ _ => (show PE _ _ (tThen _ (kTup K)) from pe_tupleOf (by rfl) (T.no "tuple") (pv 4))))))))), ?_⟩
  refine q_lists (n := top pat + 1) dm (ea_cons (ev_addN (ev_maxT (ev_var rfl hx) hne) (ev_nat (n := 1))) ea_nil) (by omega) (fun _ => rfl) fun N la H1 n1 => ?_
  show tSeq _ _ _ ([some x, some (.ref N), none, none, none] : L2.St) H1
  have k1 := n1.known (Same.refl (hd B H))
  refine q_for (n1.dom dm) (ei_enumP (ea_cons (ev_var rfl (Rp.mono _ k1 hx)) ea_nil)) fun H2 e2 d2 => ?_
  refine ⟨B.addL (nrL (top pat + 1) N la), fun i σ' H' => (∃ c2 c3, σ' = [some x, some (.ref N), c2, c3, none]) ∧ Nl H (top pat + 1) N la (fun p => ((List.range pat.length).take i).filter fun c => decide (pat.getD c 0 = p)) H' ∧ Same (hd (B.addL (nrL (top pat + 1) N la)) H2) (hd (B.addL (nrL (top pat + 1) N la)) H'), ⟨⟨_, _, rfl⟩, n1.up e2, Same.refl _⟩, fun i σ' H' _ ⟨_, c, sm⟩ => ⟨c.dom dm, sm⟩, ?_, ?_⟩
  · rintro i r0 v σ' H' H3 hr0 ⟨⟨c2, c3, rfl⟩, c, sm⟩ e3 hv
    obtain ⟨hi, er⟩ := rng_at hr0
    subst er
    refine tg_two hv fun v1 v2 hv1 hv2 => ?_
    have e1 : v1 = vN i := hv1
    have e4 : v2 = vN (pat.getD i 0) := hv2
    subst e1
    subst e4
    have hp : pat.getD i 0 < top pat + 1 := Nat.lt_succ_of_le (le_top (getD_mem 0 hi))
    refine s_nlapp (B := B) (σ := [some x, some (.ref N), some (vN (pat.getD i 0)), some (vN i), none]) (c.up e3) rfl rfl rfl hp ?_ fun H5 c5 s5 => ⟨⟨_, _, rfl⟩, ?_, (sm.trans (hd_same e3)).trans s5⟩
    · refine Nat.lt_of_le_of_lt (List.length_filter_le _ _) ?_
      rw [List.length_take, List.length_range]
      omega
    · have en : (fun p => ((List.range pat.length).take (i + 1)).filter fun c => decide (pat.getD c 0 = p)) = fun d => ((List.range pat.length).take i).filter (fun c => decide (pat.getD c 0 = d)) ++ if d = pat.getD i 0 then [i] else [] := by
        funext d
        rw [List.take_add_one, range_at hi, List.filter_append]
        congr 1
        show List.filter _ [i] = _
        rw [List.filter_cons]
        by_cases e : pat.getD i 0 = d
        · rw [if_pos (decide_eq_true e), if_pos e.symm]
          rfl
        · rw [if_neg (by simpa using e), if_neg (fun q => e q.symm)]
          rfl
      rw [en]
      exact c5
  · rintro σ' H' ⟨⟨c2, c3, rfl⟩, c, sm⟩
    rw [List.length_map, List.length_range, show (List.range pat.length).take pat.length = List.range pat.length from List.take_of_length_le (by simp)] at c
    refine s_ret (dm.same c.same) (ev_is (ev_tupOf (ev_lcM (xs := List.range (top pat + 1)) (ρ := fun p => RL ((cellsOf pat p).map RN)) (fun p => RP (cellsOf pat p)) (ei_list (ev_var rfl (c.done dm))) (by rw [List.length_range]; omega) (fun _ => rfl) fun p v H9 hc s9 hv => ev_tupOf (ev_var rfl hv))) ?_) (q.go c.same)
    show RT _ = RT ((piecesOf pat).map RP)
    unfold piecesOf
    rw [List.map_map]
    rfl
end
end Sw
set_option Elab.async false
set_option linter.all false
set_option maxRecDepth 100000
set_option maxHeartbeats 1000000
/-! The class Packet. -/
namespace Sw
open PySem PySem.Spec PyProof.Rows L2
def pkS (i : Nat) : Stmt := (C8.clsBody (topS 22)).getD i (.Pass ⟨0, 0, 0, 0⟩)
/-- the property x, its getter the i-th statement of the class -/
def PrpB (K : PySem.W.Frag) (C : Addr) (x qual : Str) (i : Nat) : Prop := ∃ p g fd, PySem.W.findIn K (.ref C) x = some (some (.ref p)) ∧ PySem.W.specialIn K (.ref p) "__get__" = some (some (.builtin "property.__get__")) ∧ PySem.W.takesIn K (.ref p) = some true ∧
  (∃ rest, PySem.W.recIn K p "property" = some (.ref g :: rest)) ∧ C8.Fun K x qual (pkS i) g fd ∧ Binds K fd ["self"] []
structure Pkt (K : PySem.W.Frag) (mg : Str → Option Value) (C : Addr) : Prop where
  gC : mg "Packet" = some (.ref C)
  cls : SlX.SCls K C
  slot : ∃ p, SlX.Slot1 K C "parts" p 0
  init : ∃ f fd, Mk K C f ∧ C8.Fun K "__init__" "Packet.__init__" (pkS 1) f fd ∧ Binds K fd ["self", "width", "height", "sheets"] []
  width : PrpB K C "width" "Packet.width" 2
  height : PrpB K C "height" "Packet.height" 3
  sheets : PrpB K C "sheets" "Packet.sheets" 4
  cells : PrpB K C "cells" "Packet.cells" 5
  len : ∃ g fd, PySem.W.findIn K (.ref C) "__len__" = some (some (.ref g)) ∧ PySem.W.isFn K (.ref g) = true ∧ C8.Fun K "__len__" "Packet.__len__" (pkS 6) g fd ∧ Binds K fd ["self"] []
abbrev RPt (w h : Nat) (ss : List (List Nat)) : Rp := RT [RN w, RN h, RSh ss]
def RPk (C : Addr) (w h : Nat) (ss : List (List Nat)) : Rp := ⟨fun H v => ∃ a dx t, v = .ref a ∧ H a = some (SlX.SlO a C dx [some t]) ∧ H dx = some (.xd []) ∧ (RPt w h ss).at_ H t, fun e ⟨a, dx, t, x, y, z, u⟩ => ⟨a, dx, t, x, e _ _ y, e _ _ z, (RPt w h ss).mono e u⟩⟩
section
variable {K : PySem.W.Frag} {mg : Str → Option Value} {C : Addr} {σ : L2.St} {H : Hp} {te : TE} {w h : Nat} {ss : List (List Nat)}
theorem ev_parts (pk : Pkt K mg C) (he : Ev te σ H (RPk C w h ss)) : Ev (SlX.tSl K te "parts") σ H (RPt w h ss) := fun B H1 e d Q q =>
  he B H1 e d _ fun v H2 e2 ⟨a, dx, t, ev, ha, hx, ht⟩ => by
    obtain ⟨p, sl⟩ := pk.slot
    exact ⟨a, C, dx, p, [some t], 0, t, ev, .inr ⟨(hd_in ha).1, (hd_in hx).1⟩, pk.cls, sl, rfl, q _ H2 e2 ht⟩
/-- own __len__ -/
def rLenOwn (C : Addr) (sp : Sp) (E : XK) : List V → Hp → VK → Prop := fun xs H Q => ∃ a dx vs, xs = [V.ref a] ∧ SlX.Slt H a C dx vs ∧ sp [.ref a] H (fun z H' => ∃ n : Nat, z = vN n ∧ n < 1000000 ∧ Q z H') E
theorem call_lenOwn {X : Cx} {CX : CXT} {g : Addr} {n : Nat} {sp : Sp} {E : XK} (hs : PySem.W.findIn X.K (.ref C) "__len__" = some (some (.ref g))) (hf : PySem.W.isFn X.K (.ref g) = true) (F : FnR X.prog X.w X.K X.mg X.base CX n g sp) (hr : Room (n + 1) X.A) (hx : Passes CX X E) : CallR X (.builtin "len") (rLenOwn C sp E) := by
  intro pins s σ H xs us Q I r h
  obtain ⟨a, dx, vs, rfl, hsl, q⟩ := h
  rw [Vals.ref1 r]
  obtain ⟨sl, od, _, J, _⟩ := SlX.slt_inst I hsl
  obtain ⟨m, hF⟩ := I.fr
  refine PySem.W.len_K hF I.ok.mod.kin J hs hf (wpAny_mono (wpAny_call (SlX.run_at (us := [.ref a]) (ws := [.ref a]) F (Room.in1 hr) I.env0.in1 hx I (.cons rfl .nil) q)) (fun w s' z => ?_) fun _ _ x => x)
  obtain ⟨z', H', I', rz, n, ez, hn, qz⟩ := z
  subst ez
  obtain ⟨t, e⟩ := (show ∃ t, w = Value.int (n : Int) t from rz)
  subst e
  exact ⟨⟨by omega, by omega⟩, vN n, H', I'.tok _, ⟨_, rfl⟩, qz⟩
end
section
variable {P : Program} {w : World} {K : PySem.W.Frag} {mg : Str → Option Value} {base : Heap} {C : Addr}
/-- what a getter answers -/
def spGet (C : Addr) (f : Nat → Nat → List (List Nat) → Rp) : Sp := SpOf (α := Nat × Nat × List (List Nat)) (fun a => [RPk C a.1 a.2.1 a.2.2]) (fun a => a.1 ≤ 100 ∧ a.2.1 ≤ 100 ∧ a.2.2.length ≤ 100) fun a => f a.1 a.2.1 a.2.2
/-- a getter, from its body -/
theorem get_of {x qual : Str} {i : Nat} {g : Addr} {fd : FuncData} {f : Nat → Nat → List (List Nat) → Rp} {t : TE} {e : Expr} {pos : Pos} (F : C8.Fun K x qual (pkS i) g fd) (b : Binds K fd ["self"] []) (S : FnScope ["self"] ["self"] (C8.fnScope (pkS i))) (hb : C8.fnBody (pkS i) = [.Return (some e) pos])
    (hp : ∀ (cdv : Value) (A : Around) (outer : List Env) (s : Shared) (H : Hp) (E : XK), PE (cxOf C8.CX0 P w K mg base ["self"] qual (C8.fnScope (pkS i)) g cdv A outer s H E).nox e t)
    (he : ∀ (v : V) (H : Hp) a b ss, a ≤ 100 → b ≤ 100 → (RPk C a b ss).at_ H v → Ev t [some v] H (f a b ss)) : FnR P w K mg base C8.CX0 1 g (spGet C f) := by
  have z := (C8.fn0 (P := P) (w := w) (mg := mg) (base := base) (k := 0) (sp := spGet C f) F S (len_of (n := 1) fun _ => rfl) fun cdv A outer s H vs Q E hr h => by
    obtain ⟨⟨a, b2, ss⟩, B, dm, hvs, ⟨h1, h2, _⟩, q⟩ := h
    obtain ⟨v, rfl, hv⟩ := hvs.one
    rw [hb]
    exact ⟨_, pss_one (ps_ret (hp cdv A outer s H E)), s_ret dm (he v _ a b2 ss h1 h2 hv) q⟩).raw b (.nil)
  refine z.imp fun vs H Q E h => ?_
  rw [List.append_nil]
  exact h
structure Prp (P : Program) (w : World) (K : PySem.W.Frag) (mg : Str → Option Value) (base : Heap) (C : Addr) (x : Str) (f : Nat → Nat → List (List Nat) → Rp) : Prop where
  ex : ∃ p g, PySem.W.findIn K (.ref C) x = some (some (.ref p)) ∧ PySem.W.specialIn K (.ref p) "__get__" = some (some (.builtin "property.__get__")) ∧ PySem.W.takesIn K (.ref p) = some true ∧ (∃ rest, PySem.W.recIn K p "property" = some (.ref g :: rest)) ∧ FnR P w K mg base C8.CX0 1 g (spGet C f)
theorem pe_prp {X : Cx} {f : Nat → Nat → List (List Nat) → Rp} {x : Str} {j : Nat} {e : Expr} {pos : Pos} {te : TE} (pk : Pkt X.K X.mg C) (p : Prp X.prog X.w X.K X.mg X.base C x f) (hr : Room j X.A) (hk : 2 ≤ j) (he : PE X e te) (hb : attributeBase e x X.env (eval e X.env) = eval e X.env := by rfl) : PE X (.Attribute e x pos) (SlX.tPropSl C (spGet C f) C8.E0 te) := by
  obtain ⟨p, g, h1, h2, h3, h4, h5⟩ := p.ex
  exact SlX.pe_propSl he pk.cls h1 h2 h3 h4 h5 (hr.mono hk) (fun _ _ _ _ h => h) hb
theorem ev_prp {σ : L2.St} {H : Hp} {te : TE} {f : Nat → Nat → List (List Nat) → Rp} {a b : Nat} {ss : List (List Nat)} (he : Ev te σ H (RPk C a b ss)) (h1 : a ≤ 100) (h2 : b ≤ 100) (h3 : ss.length ≤ 100) : Ev (SlX.tPropSl C (spGet C f) C8.E0 te) σ H (f a b ss) := fun B H1 e d Q q =>
  he B H1 e d _ fun v H2 e2 hv => by
    obtain ⟨x, dx, t, ev, ha, hx, ht⟩ := hv
    subst ev
    exact ⟨x, dx, [some t], rfl, .inr ⟨(hd_in ha).1, (hd_in hx).1⟩, (a, b, ss), B, d.same e2, .cons ⟨x, dx, t, rfl, ha, hx, ht⟩ .nil, ⟨h1, h2, h3⟩, q.go e2⟩
theorem scG (i : Nat) (h : i = 2 ∨ i = 3 ∨ i = 4 ∨ i = 5 ∨ i = 6) : FnScope ["self"] ["self"] (C8.fnScope (pkS i)) := C8.fnScope_by (by rcases h with rfl | rfl | rfl | rfl | rfl <;> decide +kernel)
theorem ev_pt {σ : L2.St} {H : Hp} {te : TE} {a b : Nat} {ss : List (List Nat)} {k : Nat} {r : Rp} (pk : Pkt K mg C) (he : Ev te σ H (RPk C a b ss)) (hk : [RN a, RN b, RSh ss][k]? = some r) : Ev (tOp (rIxT K) (SlX.tSl K te "parts") (tC (.int (k : Int)))) σ H r := ev_ixT (ev_parts pk he) (ev_nat (n := k)) rfl hk
theorem pWidth (pk : Pkt K mg C) : Prp P w K mg base C "width" fun a _ _ => RN a := by
  obtain ⟨p, g, fd, h1, h2, h3, h4, F, b⟩ := pk.width
  exact ⟨p, g, h1, h2, h3, h4, get_of F b (scG 2 (by decide)) rfl (fun _ _ _ _ _ _ => pe_ix ix_tup (SlX.pe_sl (pv 0)) pe_int (fun _ _ => rfl)) fun v H a b ss _ _ hv => ev_pt (k := 0) pk (ev_var rfl hv) rfl⟩
theorem pHeight (pk : Pkt K mg C) : Prp P w K mg base C "height" fun _ b _ => RN b := by
  obtain ⟨p, g, fd, h1, h2, h3, h4, F, b⟩ := pk.height
  exact ⟨p, g, h1, h2, h3, h4, get_of F b (scG 3 (by decide)) rfl (fun _ _ _ _ _ _ => pe_ix ix_tup (SlX.pe_sl (pv 0)) pe_int (fun _ _ => rfl)) fun v H a b ss _ _ hv => ev_pt (k := 1) pk (ev_var rfl hv) rfl⟩
theorem pSheets (pk : Pkt K mg C) : Prp P w K mg base C "sheets" fun _ _ ss => RSh ss := by
  obtain ⟨p, g, fd, h1, h2, h3, h4, F, b⟩ := pk.sheets
  exact ⟨p, g, h1, h2, h3, h4, get_of F b (scG 4 (by decide)) rfl (fun _ _ _ _ _ _ => pe_ix ix_tup (SlX.pe_sl (pv 0)) pe_int (fun _ _ => rfl)) fun v H a b ss _ _ hv => ev_pt (k := 2) pk (ev_var rfl hv) rfl⟩
theorem pCells (pk : Pkt K mg C) : Prp P w K mg base C "cells" fun a b _ => RN (a * b) := by
  obtain ⟨p, g, fd, h1, h2, h3, h4, F, b⟩ := pk.cells
  exact ⟨p, g, h1, h2, h3, h4, get_of F b (scG 5 (by decide)) rfl (fun _ _ _ _ _ _ => pe_op op_mul (pe_ix ix_tup (SlX.pe_sl (pv 0)) pe_int (fun _ _ => rfl)) (pe_ix ix_tup (SlX.pe_sl (pv 0)) pe_int (fun _ _ => rfl))) fun v H a b ss h1 h2 hv =>
    ev_mulN (ev_pt (k := 0) pk (ev_var rfl hv) rfl) (ev_pt (k := 1) pk (ev_var rfl hv) rfl) (by omega)⟩
structure Plen (P : Program) (w : World) (K : PySem.W.Frag) (mg : Str → Option Value) (base : Heap) (C : Addr) : Prop where
  ex : ∃ g, PySem.W.findIn K (.ref C) "__len__" = some (some (.ref g)) ∧ PySem.W.isFn K (.ref g) = true ∧ FnR P w K mg base C8.CX0 1 g (spGet C fun _ _ ss => RN ss.length)
theorem pLen (T : Txt K mg) (pk : Pkt K mg C) : Plen P w K mg base C := by
  obtain ⟨g, fd, h1, h2, F, b⟩ := pk.len
  exact ⟨g, h1, h2, get_of F b (scG 6 (by decide)) rfl (fun _ _ _ _ _ _ => pe_callB call_len (by rfl) (T.no "len") bt_len (pa_cons (pe_ix ix_tup (SlX.pe_sl (pv 0)) pe_int (fun _ _ => rfl)) pa_nil)) fun v H a b ss _ _ hv =>
    ev_is (ev_lenT (ev_pt (k := 2) pk (ev_var rfl hv) rfl)) (by rw [List.length_map])⟩
theorem pe_plen {X : Cx} {j : Nat} {e : Expr} {p pos : Pos} {te : TE} (T : Txt X.K X.mg) (L : Plen X.prog X.w X.K X.mg X.base C) (hr : Room j X.A) (hk : 2 ≤ j) (hg : Gl X "len") (he : PE X e te) (hs : starEach [e] X.env = [(false, eval e X.env)] := by rfl) (hpl : (backTo pos (starEach [] X.env)).any (·.1) = false := by rfl) :
    PE X (.Call (.Name "len" p) [e] [] pos) (tCB (rLenOwn C (spGet C fun _ _ ss => RN ss.length) C8.E0) (tCons te tNil)) := by
  obtain ⟨g, h1, h2, h3⟩ := L.ex
  exact pe_callB (call_lenOwn h1 h2 h3 (hr.mono hk) C8.pass0) hg (T.no "len") bt_len (pa_cons he pa_nil hs) (he := hs) (hpl := hpl)
theorem ev_plen {σ : L2.St} {H : Hp} {te : TE} {a b : Nat} {ss : List (List Nat)} (he : Ev te σ H (RPk C a b ss)) (h1 : a ≤ 100) (h2 : b ≤ 100) (h3 : ss.length ≤ 100) : Ev (tCB (rLenOwn C (spGet C fun _ _ ss => RN ss.length) C8.E0) (tCons te tNil)) σ H (RN ss.length) :=
  ev_cb (ea_cons he ea_nil) fun B H1 vs _ d hvs Q q => by
    obtain ⟨v, e, x, dx, t, ev, ha, hx, ht⟩ := hvs.one
    subst ev
    refine ⟨x, dx, [some t], e, .inr ⟨(hd_in ha).1, (hd_in hx).1⟩, (a, b, ss), B, d, .cons ⟨x, dx, t, rfl, ha, hx, ht⟩ .nil, ⟨h1, h2, h3⟩, fun v2 H2 e2 hv2 => ?_⟩
    exact ⟨ss.length, hv2, by omega, q _ H2 e2 hv2⟩
/-! ### made -/
def okPk (w h : Nat) (ss : List (List Nat)) : Prop := 1 ≤ w ∧ w ≤ 4 ∧ 1 ≤ h ∧ h ≤ 4 ∧ w * h ≤ 9 ∧ okSh ss ∧ (∀ l ∈ ss, l.length = w * h) ∧ 1 ≤ ss.length ∧ ss.length ≤ 4
def spInit (C : Addr) : Sp := fun vs H Q _ => ∃ (w h : Nat) (ss : List (List Nat)) (B : Bs) (x dx : Addr) (us : List V), vs = .ref x :: us ∧ Dom B H ∧ B x = true ∧ B dx = true ∧ dx ≠ x ∧ H x = some (.ins C dx []) ∧ Al (hd B H) [RN w, RN h, RSh ss] us ∧ okPk w h ss ∧
  ∀ H2 t, Same H H2 → (RPt w h ss).at_ (hd B H2) t → Q .non (SlX.slH H2 x C dx [some t])
theorem scI : FnScope ["self", "width", "height", "sheets"] ["self", "width", "height", "sheets"] (C8.fnScope (pkS 1)) := C8.fnScope_by (by decide +kernel)
theorem mkPk (T : Txt K mg) (pk : Pkt K mg C) : C8.Mak P w K mg base 3 "Packet" C (spInit C) [] := by
  obtain ⟨f, fd, M, F, b⟩ := pk.init
  refine C8.mak0 M pk.gC F b .nil scI (fun vs H Q E ⟨_, _, _, _, _, _, us, e, _, _, _, _, _, hv, _, _⟩ => by rw [e, List.length_cons, hv.len]; rfl) fun cdv A outer s H vs Q E hr h => ?_
  obtain ⟨a, b2, ss, B, x, dx, us, rfl, dm, bx, bd, hne, hx, hvs, ⟨h1, h2, h3, h4, h5, h6, h7, h8, h9⟩, q⟩ := h
  obtain ⟨u1, u2, u3, rfl, hu1, hu2, hu3⟩ := hvs.three
  have c18 := c18 (P := P) (w := w) (base := base) T
  have c20 := c20 (P := P) (w := w) (base := base) T
  have c21 := c21 (P := P) (w := w) (base := base) T
  refine ⟨_, (pss_cons (ps_if (pt_not (pt_val (C8.pe_c c18 hr (by decide) (by rfl) (pa_cons (pv 1) (pa_cons pe_int (pa_cons (pe_k (by rfl) T.side) pa_nil)))))) pss_never pss_nil)
      (pss_cons (ps_if (pt_not (pt_val (C8.pe_c c21 hr (by decide) (by rfl) (pa_cons (pv 1) (pa_cons (pv 2) pa_nil))))) pss_never pss_nil)
      (pss_cons (ps_if (pw_or (pt_not (pt_val (C8.pe_c c20 hr (by decide) (by rfl) (pa_cons (pe_op op_mul (pv 1) (pv 2)) (pa_cons (pv 3) pa_nil))))) (pw_or1 (pt_not (pt_chain op_le op_le pe_int (pe_callB call_len (by rfl) (T.no "len") bt_len (pa_cons (pv 3) pa_nil)) (pe_k (by rfl) T.msheets))))).pt pss_never pss_nil)
      (pss_one (SlX.ps_sl (pv 0) (pe_tup (pa_cons (pv 1) (pa_cons (pv 2) (pa_cons (pv 3) pa_nil))))))))), ?_⟩
  have e1 {Hz : Hp} (s : Same (hd B H) Hz) : Ev (tVar 1) [some (.ref x), some u1, some u2, some u3] Hz (RN a) := ev_var rfl (Rp.mono _ s hu1)
  have e2 {Hz : Hp} (s : Same (hd B H) Hz) : Ev (tVar 2) [some (.ref x), some u1, some u2, some u3] Hz (RN b2) := ev_var rfl (Rp.mono _ s hu2)
  have e3 {Hz : Hp} (s : Same (hd B H) Hz) : Ev (tVar 3) [some (.ref x), some u1, some u2, some u3] Hz (RSh ss) := ev_var rfl (Rp.mono _ s hu3)
  refine q_if (b := false) dm (et_is (et_not (et_B (ev_call (α := Int × Int × Int) ((a : Int), 1, 4) (ea_cons (e1 (Same.refl _)) (ea_cons ev_int (ea_cons ev_int ea_nil))) trivial))) ?_) (fun h => nomatch h) fun _ H1 s1 d1 => ?_
  · dsimp only
    rw [decide_eq_true (show (1 : Int) ≤ (a : Int) by omega), decide_eq_true (show (a : Int) ≤ 4 by omega)]
    rfl
  have hc : Ev (tCall spSize [] C8.E0 (tCons (tVar 1) (tCons (tVar 2) tNil))) [some (.ref x), some u1, some u2, some u3] (hd B H1) (RB true) := ev_call (α := Nat × Nat) (a, b2) (ea_cons (e1 (hd_same s1)) (ea_cons (e2 (hd_same s1)) ea_nil)) ⟨h1, h2, h3, h4, h5⟩
  refine q_if (b := false) d1 (et_not (a := true) (et_B hc)) (fun h => nomatch h) fun _ H2 s2 d2 => ?_
  have k2 : Same (hd B H) (hd B H2) := hd_same (s1.trans s2)
  have hc2 : Ev (tCall spPics [] C8.E0 (tCons (tOp (rI CMul fun (i j : Int) => V.int (i * j)) (tVar 1) (tVar 2)) (tCons (tVar 3) tNil))) [some (.ref x), some u1, some u2, some u3] (hd B H2) (RB true) := ev_call (α := Nat × List (List Nat)) (a * b2, ss) (ea_cons (ev_mulN (e1 k2) (e2 k2) (by omega)) (ea_cons (e3 k2) ea_nil)) ⟨h6, h7, by dsimp only; omega, by dsimp only; omega⟩
  refine q_if (b := false) d2 (et_is (et_or (et_not (a := true) (et_B hc2)) fun _ => et_not (et_test (ev_chain (ev_int (k := 1)) (ev_lenT (e3 k2)) (ev_int (k := 4))))) ?_) (fun h => nomatch h) fun _ H3 s3 d3 => ?_
  · rw [List.length_map, decide_eq_true (show (1 : Int) ≤ ((ss.length : Nat) : Int) by omega), decide_eq_true (show ((ss.length : Nat) : Int) ≤ 4 by omega)]
    rfl
  have k3 : Same (hd B H) (hd B H3) := k2.trans (hd_same s3)
  have s03 : Same H H3 := (s1.trans s2).trans s3
  unfold tNext SlX.sSl
  dsimp only
  refine ev_tup (ea_cons (e1 k3) (ea_cons (e2 k3) (ea_cons (e3 k3) ea_nil))) (by show 3 ≤ 100000; decide) B H3 (Same.refl _) d3 _ fun t H4 s4 ht => ?_
  obtain ⟨p, sl⟩ := pk.slot
  exact ⟨.ref x, rfl, x, C, dx, p, [], 0, rfl, .inl ⟨s4 _ _ (s03 _ _ hx), rfl⟩, pk.cls, sl, q H4 t (s03.trans s4) ht⟩
theorem ev_mk {σ : L2.St} {H : Hp} {t : TA} {a b : Nat} {ss : List (List Nat)} (h : EvA t σ H [RN a, RN b, RSh ss]) (ok : okPk a b ss) : Ev (tMake C (spInit C) [] C8.E0 t) σ H (RPk C a b ss) := fun B H1 e d Q q =>
  h B H1 e d _ fun vs H2 e2 hvs => by
    intro x dx hx hdx hne
    have d2 := d.same e2
    have hx1 : upd H2 dx (.own x) x = none := by rw [upd_ne (Ne.symm hne)]; exact hx
    have s3 : Same H2 (upd (upd H2 dx (.own x)) x (.ins C dx [])) := (same_upd hdx).trans (same_upd hx1)
    have hn : ∀ y ∈ [x, dx], H2 y = none := fun y hy => by
      rcases List.mem_cons.mp hy with rfl | hy
      · exact hx
      · rw [List.mem_singleton.mp hy]
        exact hdx
    have hs : ∀ y ∈ [x, dx], upd (upd H2 dx (.own x)) x (.ins C dx []) y ≠ none ∧ ∀ xs, upd (upd H2 dx (.own x)) x (.ins C dx []) y ≠ some (.tup xs) := fun y hy => by
      rcases List.mem_cons.mp hy with rfl | hy
      · rw [upd_same]
        exact ⟨fun z => (nomatch z), fun _ z => nomatch z⟩
      · rw [List.mem_singleton.mp hy, upd_ne hne, upd_same]
        exact ⟨fun z => (nomatch z), fun _ z => nomatch z⟩
    refine ⟨a, b, ss, B.addL [x, dx], x, dx, vs ++ [], rfl, addL_dom d2 s3 hs, addL_in (by simp), addL_in (by simp), hne, upd_same, ?_, ok, fun H4 t s4 ht => ⟨rfl, ?_⟩⟩
    · rw [List.append_nil]
      exact hvs.mono (addL_known (Same.refl _) s3 hn)
    · have s5 : Same H2 (SlX.slH H4 x C dx [some t]) := fun y o hy => by
        rw [SlX.slH_ne (ne_of_none hy hx) (ne_of_none hy hdx)]
        exact s4 _ _ (s3 _ _ hy)
      refine q _ _ (e2.trans s5) ⟨x, dx, t, rfl, ?_, ?_, ?_⟩
      · refine hd_of ?_ (d2.fresh hx)
        unfold SlX.slH
        rw [upd_same]
      · refine hd_of ?_ (d2.fresh hdx)
        unfold SlX.slH
        rw [upd_ne hne, upd_same]
      · refine Rp.mono _ (fun y o hy => ?_) ht
        obtain ⟨g1, g2⟩ := hd_in hy
        have n1 : y ∉ [x, dx] := fun hm => by
          rw [addL_in hm] at g2
          cases g2
        rw [addL_ne n1] at g2
        refine hd_of ?_ g2
        rw [SlX.slH_ne (fun e => n1 (by rw [e]; simp)) (fun e => n1 (by rw [e]; simp))]
        exact g1
end
end Sw
set_option Elab.async false
set_option linter.all false
set_option maxRecDepth 100000
set_option maxHeartbeats 1000000
/-! sorted lists of texts. -/
namespace Sw
open PySem PySem.Spec PyProof.Rows L2
def srtd (l : List (List Nat)) : Prop := l.Pairwise fun a b => ¬ b < a
theorem rising_pw : ∀ (p : List Nat) (l : List (List Nat)), risingS (tx p) (l.map tx) = true → srtd (p :: l)
  | p, [], _ => List.pairwise_singleton _ _
  | p, x :: r, h => by
    have h : (!ltCps x p && risingS (tx x) (r.map tx)) = true := by simpa [risingS] using h
    rw [Bool.and_eq_true] at h
    have hx : ¬ x < p := by
      have := h.1
      rw [ltCps_eq] at this
      simpa using this
    have ih := rising_pw x r h.2
    refine List.pairwise_cons.mpr ⟨fun y hy => ?_, ih⟩
    rcases List.mem_cons.mp hy with rfl | hy
    · exact hx
    · have hxy : ¬ y < x := (List.pairwise_cons.mp ih).1 y hy
      exact fun hyp => hx (by
        have h1 : p ≤ x := List.not_lt.mp hx
        have h2 : x ≤ y := List.not_lt.mp hxy
        exact absurd hyp (List.not_lt.mpr (List.le_trans h1 h2)))
theorem sorted_pw : ∀ l : List (List Nat), sortedS (l.map tx) = true → srtd l
  | [], _ => .nil
  | x :: r, h => rising_pw x r h
theorem srtd_uniq : ∀ (l m : List (List Nat)), l.Perm m → srtd l → srtd m → l = m
  | [], m, p, _, _ => (List.perm_nil.mp p.symm).symm ▸ rfl
  | a :: r, [], p, _, _ => by
    have := p.length_eq
    simp at this
  | a :: r, b :: s, p, hl, hm => by
    obtain ⟨h1, h2⟩ := List.pairwise_cons.mp hl
    obtain ⟨h3, h4⟩ := List.pairwise_cons.mp hm
    have e : a = b := by
      have ha : a ∈ b :: s := p.mem_iff.mp List.mem_cons_self
      have hb : b ∈ a :: r := p.mem_iff.mpr List.mem_cons_self
      rcases List.mem_cons.mp ha with e | ha
      · exact e
      rcases List.mem_cons.mp hb with e | hb
      · exact e.symm
      exact List.le_antisymm (List.not_lt.mp (h1 b hb)) (List.not_lt.mp (h3 a ha))
    subst e
    rw [srtd_uniq r s ((List.perm_cons a).mp p) h2 h4]
/-- what sorted answers -/
def RSrt (A : List (List Nat)) : Rp := ⟨fun H v => ∃ ys, ys.Perm A ∧ srtd ys ∧ (RL (ys.map RS)).at_ H v, fun e ⟨ys, x, y, z⟩ => ⟨ys, x, y, Rp.mono _ e z⟩⟩
section
variable {K : PySem.W.Frag} {σ : L2.St} {H : Hp} {ta tb te : TE}
theorem codes_tx (l : List (List Nat)) : (l.map tx).map (fun x : Str => x.cps.toList) = l := by
  rw [List.map_map]
  have : ((fun x : Str => x.cps.toList) ∘ tx) = id := funext fun l => by simp [tx]
  rw [this, List.map_id]
theorem tx_codes : ∀ l : List Str, (l.map fun x : Str => x.cps.toList).map tx = l
  | [] => rfl
  | x :: r => by
    rw [List.map_cons, List.map_cons, tx_codes r]
theorem ev_sorted {A : List (List Nat)} (h : Ev te σ H (RL (A.map RS))) (hl : A.length < 64) : Ev (tCB (rSortedS K) (tCons te tNil)) σ H (RSrt A) :=
  ev_cb (ea_cons h ea_nil) fun B H1 vs _ d hvs Q q => by
    obtain ⟨v, e, a, ws, ev, ha, hw⟩ := hvs.one
    subst ev
    rw [al_str hw] at ha
    refine ⟨a, A.map tx, e, by rw [List.map_map]; exact SqL.of (hd_in ha).1, by rw [List.length_map]; exact hl, fun ys p hp hs hf => ?_⟩
    have hp2 := hp.map fun x : Str => x.cps.toList
    rw [codes_tx] at hp2
    refine q _ _ (same_upd hf) ⟨ys.map fun x : Str => x.cps.toList, hp2, sorted_pw _ (by rw [tx_codes]; exact hs), p, ys.map V.str, rfl, hd_new d hf, ?_⟩
    have z := str_al (H := hd B (upd H1 p (.lst (ys.map V.str)))) (ys.map fun x : Str => x.cps.toList)
    have e2 : (ys.map fun x : Str => x.cps.toList).map vS = ys.map V.str := by
      rw [List.map_map]
      exact List.map_congr_left fun x _ => rfl
    rw [e2] at z
    exact z
theorem okS_perm {A B : List (List Nat)} (p : A.Perm B) (ok : okS B) : okS A := fun l hl => ok l (p.mem_iff.mp hl)
theorem ev_neSrt {A B0 : List (List Nat)} (ha : Ev ta σ H (RSrt A)) (hb : Ev tb σ H (RSrt B0)) (oa : okS A) (ob : okS B0) : Ev (tOp (rNeD K) ta tb) σ H (RB (!decide (A.Perm B0))) :=
  ev_op ha hb fun B H1 x y _ _ ⟨ys, p1, s1, hx⟩ ⟨zs, p2, s2, hy⟩ _ q => by
    refine ⟨dLT ys, dLT zs, dp_same hd_all (dat_LT ys K _ _ hx), dp_same hd_all (dat_LT zs K _ _ hy), sh_LT (okS_perm p1 oa), sh_LT (okS_perm p2 ob), q _ H1 (Same.refl H1) ?_⟩
    show V.bl _ = V.bl _
    congr 1
    rw [eqv_LT]
    congr 1
    refine decide_eq_decide.mpr ⟨fun e => ?_, fun p => ?_⟩
    · subst e
      exact p1.symm.trans p2
    · exact srtd_uniq ys zs (p1.trans (p.trans p2.symm)) s1 s2
end
end Sw
set_option Elab.async false
set_option linter.all false
set_option maxRecDepth 100000
set_option maxHeartbeats 1000000
/-! length_of, check_goals, does_give. -/
namespace Sw
open PySem PySem.Spec PyProof.Rows L2
abbrev PkA := Nat × Nat × List (List Nat)
abbrev RPkA (C : Addr) (a : PkA) : Rp := RPk C a.1 a.2.1 a.2.2
/-- a packet of this law: up to four cells, three sheets -/
def fewPk (a : PkA) : Prop := (a.1, a.2.1) ∈ shapes ∧ okSh a.2.2 ∧ (∀ l ∈ a.2.2, l.length = a.1 * a.2.1) ∧ 1 ≤ a.2.2.length ∧ a.2.2.length ≤ 3
def okGoals (a : PkA) (gs : List (List Nat)) : Prop := okSh gs ∧ (∀ l ∈ gs, l.length = a.1 * a.2.1) ∧ gs.length = a.2.2.length
def gives (ss gs : List (List Nat)) (pat : List Nat) : Bool := (piecesOf pat).all fun cells => decide ((layersOf ss cells).Perm (layersOf gs cells))
theorem cellsOf_in {pat : List Nat} {p c : Nat} (h : c ∈ cellsOf pat p) : c < pat.length := List.mem_range.mp (List.mem_filter.mp h).1
theorem pieces_in {pat cells : List Nat} (h : cells ∈ piecesOf pat) : (∀ c ∈ cells, c < pat.length) ∧ cells.length ≤ pat.length := by
  obtain ⟨p, _, rfl⟩ := List.mem_map.mp h
  refine ⟨fun c hc => cellsOf_in hc, ?_⟩
  have := List.length_filter_le (fun c => decide (pat.getD c 0 = p)) (List.range pat.length)
  rw [List.length_range] at this
  exact this
theorem layers_ok {ss : List (List Nat)} {cells : List Nat} {n : Nat} (ok : okSh ss) (hl : ∀ l ∈ ss, l.length = n) (hc : ∀ c ∈ cells, c < n) : okSh (layersOf ss cells) := fun l hl2 c hc2 => by
  obtain ⟨s, hs, rfl⟩ := List.mem_map.mp hl2
  obtain ⟨k, hk, rfl⟩ := List.mem_map.mp hc2
  exact ok s hs _ (getD_mem 0 (by rw [hl s hs]; exact hc k hk))
section
variable {P : Program} {w : World} {K : PySem.W.Frag} {mg : Str → Option Value} {base : Heap} {C : Addr}
def spLen (C : Addr) : Sp := SpOf (α := PkA × List Nat) (fun a => [RPkA C a.1, RP a.2]) (fun a => fewPk a.1 ∧ a.2.length = a.1.1 * a.1.2.1) fun a => RN (lenOf a.1.1 a.1.2.1 a.2)
theorem sc28 : FnScope ["packet", "pattern", "one", "other"] ["packet", "pattern"] (C8.fnScope (topS 28)) := C8.fnScope_by (by decide +kernel)
theorem c28 (T : Txt K mg) (pk : Pkt K mg C) : C8.Cal P w K mg base 3 "length_of" (spLen C) [] := by
  refine cal_of T.d28 sc28 (len_of (n := 2) fun _ => rfl) fun f _ cdv A outer s H vs Q E hr h => ?_
  obtain ⟨⟨⟨a, b, ss⟩, pat⟩, B, dm, hvs, ⟨⟨hsh, k1, k2, k3, k4⟩, hpl⟩, q⟩ := h
  obtain ⟨h1, h2, h3, h4, h5, h6, h7⟩ := shapes_in _ hsh
  dsimp only at h1 h2 h3 h4 h5 h6 h7 k1 k2 k3 k4 hpl
  obtain ⟨x, y, rfl, hx, hy⟩ := hvs.two
  have hx : (RPk C a b ss).at_ (hd B H) x := hx
  have hy : (RP pat).at_ (hd B H) y := hy
  have c23 := c23 (P := P) (w := w) (base := base) T
  refine ⟨_, (pss_one (ps_ret (show PE _ _ (tCB (rLenK K) _) from (pe_callB call_len (by rfl) (T.no "len") bt_len (pa_cons (pe_lc (own := [("one", 2), ("other", 3)]) (g := (gTup K 2 (gCons (gName 2) (gCons (gName 3) gNil)))) rfl sc28.nd (show PI _ _ _ (iList K _) from (pi_list (C8.pe_c c23 hr (by decide) (by rfl) (pa_cons (pe_prp pk (pWidth (P := P) (w := w) (base := base) pk) hr (by decide) (pv 0)) (pa_cons (pe_prp pk (pHeight (P := P) (w := w) (base := base) pk) hr (by decide) (pv 0)) pa_nil))))) (blkOk_by (N := ["packet", "pattern", "one", "other"]) (sc := C8.fnScope (topS 28)) (by decide +kernel)) (fun _ _ _ _ _ => (pg_tup rfl (pgs_cons (pg_name (i := 2) sc28.nd rfl (by first | exact .inl rfl | exact .inr rfl)) (pgs_cons (pg_name (i := 3) sc28.nd rfl (by first | exact .inl rfl | exact .inr rfl)) pgs_nil)))) (fun _ _ _ _ _ => (pts_one (pt_cmpR op_ne (show PE _ _ (tOp (rIxT K) _ _) from (pe_ix ix_tup (pv 1) (pv 2) (fun _ _ => rfl))) (show PE _ _ (tOp (rIxT K) _ _) from (pe_ix ix_tup (pv 1) (pv 3) (fun _ _ => rfl))) (nomark _)))) (fun _ _ _ _ _ => pe_int)) pa_nil))))), ?_⟩
  have ex : Ev (tVar 0) (start ["packet", "pattern", "one", "other"] [x, y]) (hd B H) (RPk C a b ss) := ev_var rfl hx
  refine s_ret dm (ev_is (ev_lenL (ev_lcP (xs := sides a b) (ρ1 := fun p => RN p.1) (ρ2 := fun p => RN p.2) (fun p => if (!decide (pat.getD p.1 0 = pat.getD p.2 0)) = true then some (RN 1) else none) (ei_list (ev_call (α := Nat × Nat) (a, b) (ea_cons (ev_prp ex (by omega) (by omega) (by omega)) (ea_cons (ev_prp ex (by omega) (by omega) (by omega)) ea_nil)) ⟨h1, by dsimp only; omega, by dsimp only; omega⟩)) (by omega) (fun _ _ => rfl) (fun p v u H1 hp s1 hv hu => ?_) fun p v u H1 rp hp s1 hv hu hrp => ?_)) ?_) q
  · obtain ⟨g1, g2⟩ := h7 p hp
    refine et_is (et_test (ev_neN (ev_ixP (ev_var rfl (Rp.mono _ s1 hy)) (ev_var rfl hv) (by omega)) (ev_ixP (ev_var rfl (Rp.mono _ s1 hy)) (ev_var rfl hu) (by omega)))) ?_
    by_cases e : pat.getD p.1 0 = pat.getD p.2 0
    · rw [decide_eq_true e]
      rfl
    · rw [decide_eq_false e]
      rfl
  · split at hrp
    · rw [← Option.some.inj hrp]
      exact ev_nat
    · cases hrp
  · show RN _ = RN (lenOf a b pat)
    unfold lenOf
    rw [filter_fm, List.length_map]
def spGoals (C : Addr) : Sp := SpOf (α := PkA × List (List Nat)) (fun a => [RPkA C a.1, RSh a.2]) (fun a => fewPk a.1 ∧ okGoals a.1 a.2) fun _ => RO
theorem sc37 : FnScope ["packet", "goals"] ["packet", "goals"] (C8.fnScope (topS 37)) := C8.fnScope_by (by decide +kernel)
theorem c37 (T : Txt K mg) (pk : Pkt K mg C) : C8.Cal P w K mg base 3 "check_goals" (spGoals C) [] := by
  refine cal_of T.d37 sc37 (len_of (n := 2) fun _ => rfl) fun f _ cdv A outer s H vs Q E hr h => ?_
  obtain ⟨⟨⟨a, b, ss⟩, gs⟩, B, dm, hvs, ⟨⟨hsh, k1, k2, k3, k4⟩, ⟨g1, g2, g3⟩⟩, q⟩ := h
  obtain ⟨h1, h2, h3, h4, h5, h6, h7⟩ := shapes_in _ hsh
  dsimp only at h1 h2 h3 h4 h5 h6 h7 k1 k2 k3 k4 g1 g2 g3
  obtain ⟨x, y, rfl, hx, hy⟩ := hvs.two
  have hx : (RPk C a b ss).at_ (hd B H) x := hx
  have hy : (RSh gs).at_ (hd B H) y := hy
  have c20 := c20 (P := P) (w := w) (base := base) T
  refine ⟨_, (pss_one (ps_if (pw_or (pt_not (pt_val (C8.pe_c c20 hr (by decide) (by rfl) (pa_cons (pe_prp pk (pCells (P := P) (w := w) (base := base) pk) hr (by decide) (pv 0)) (pa_cons (pv 1) pa_nil))))) (pw_or1 (pt_cmpR op_ne (show PE _ _ (tCB (rLenK K) _) from (pe_callB call_len (by rfl) (T.no "len") bt_len (pa_cons (pv 1) pa_nil))) (pe_plen T (pLen (P := P) (w := w) (base := base) T pk) hr (by decide) (by rfl) (pv 0)) (nomark _)))).pt pss_never pss_nil)), ?_⟩
  have ex : Ev (tVar 0) (start ["packet", "goals"] [x, y]) (hd B H) (RPk C a b ss) := ev_var rfl hx
  have ey : Ev (tVar 1) (start ["packet", "goals"] [x, y]) (hd B H) (RSh gs) := ev_var rfl hy
  have hc : Ev (tCall spPics [] C8.E0 (tCons (SlX.tPropSl C (spGet C fun a b _ => RN (a * b)) C8.E0 (tVar 0)) (tCons (tVar 1) tNil))) (start ["packet", "goals"] [x, y]) (hd B H) (RB true) := ev_call (α := Nat × List (List Nat)) (a * b, gs) (ea_cons (ev_prp ex (by omega) (by omega) (by omega)) (ea_cons ey ea_nil)) ⟨g1, g2, by dsimp only; omega, by dsimp only; omega⟩
  refine s_if (b := false) dm (et_is (et_or (et_not (a := true) (et_B hc)) fun _ => et_test (ev_neN (ev_lenT ey) (ev_plen ex (by omega) (by omega) (by omega)))) ?_) (fun h => nomatch h) fun _ H1 s1 d1 => q _ H1 s1 rfl
  rw [List.length_map, g3, decide_eq_true rfl]
  rfl
def spGive (C : Addr) : Sp := SpOf (α := PkA × List Nat × List (List Nat)) (fun a => [RPkA C a.1, RP a.2.1, RSh a.2.2]) (fun a => fewPk a.1 ∧ okGoals a.1 a.2.2 ∧ a.2.1.length = a.1.1 * a.1.2.1 ∧ a.2.1 ≠ [] ∧ top a.2.1 ≤ 100) fun a => RB (gives a.1.2.2 a.2.2 a.2.1)
theorem sc38 : FnScope ["packet", "pattern", "goals", "cells"] ["packet", "pattern", "goals"] (C8.fnScope (topS 38)) := C8.fnScope_by (by decide +kernel)
theorem c38 (T : Txt K mg) (pk : Pkt K mg C) : C8.Cal P w K mg base 3 "does_give" (spGive C) [] := by
  refine cal_of T.d38 sc38 (len_of (n := 3) fun _ => rfl) fun f _ cdv A outer s H vs Q E hr h => ?_
  obtain ⟨⟨⟨a, b, ss⟩, pat, gs⟩, B, dm, hvs, ⟨⟨hsh, k1, k2, k3, k4⟩, ⟨g1, g2, g3⟩, hpl, hne, ht⟩, q⟩ := h
  obtain ⟨h1, h2, h3, h4, h5, h6, h7⟩ := shapes_in _ hsh
  dsimp only at h1 h2 h3 h4 h5 h6 h7 k1 k2 k3 k4 g1 g2 g3 hpl hne ht
  obtain ⟨x, y, z, rfl, hx, hy, hz⟩ := hvs.three
  have hx : (RPk C a b ss).at_ (hd B H) x := hx
  have hy : (RP pat).at_ (hd B H) y := hy
  have hz : (RSh gs).at_ (hd B H) z := hz
  have q : Ret B (RB (gives ss gs pat)) H Q := q
  have c27 := c27 (P := P) (w := w) (base := base) T
  have c31 := c31 (P := P) (w := w) (base := base) T
  refine ⟨_, (pss_cons (ps_for PassesOwn.never rfl (show PI _ _ _ (iTup K _) from (pi_tup (C8.pe_c c27 hr (by decide) (by rfl) (pa_cons (pv 1) pa_nil)))) (pg_name (i := 3) sc38.nd rfl (by first | exact .inl rfl | exact .inr rfl)) (pss_one (ps_if (show PT _ _ (tTest (tOp (rNeD K) _ _)) from (pt_cmpR (op_neD (hu64 hr)) (show PE _ _ (tCB (rSortedS K) _) from (pe_callB cr_sortedS (by rfl) (T.no "sorted") bt_sorted (pa_cons (C8.pe_c c31 hr (by decide) (by rfl) (pa_cons (pe_prp pk (pSheets (P := P) (w := w) (base := base) pk) hr (by decide) (pv 0)) (pa_cons (pv 3) pa_nil))) pa_nil))) (show PE _ _ (tCB (rSortedS K) _) from (pe_callB cr_sortedS (by rfl) (T.no "sorted") bt_sorted (pa_cons (C8.pe_c c31 hr (by decide) (by rfl) (pa_cons (pv 2) (pa_cons (pv 3) pa_nil))) pa_nil))) (nomark _))) (pss_one (ps_ret pe_bl)) pss_nil)))
      (pss_one (ps_ret pe_bl))), ?_⟩
  refine q_for dm (ei_tup (ev_call (α := List Nat) pat (ea_cons (ev_var rfl hy) ea_nil) ⟨hne, by show pat.length ≤ 100; omega, ht⟩)) fun H2 e2 d2 => ?_
  refine ⟨B, fun i σ' H' => (∃ c, σ' = [some x, some y, some z, c]) ∧ Same H2 H' ∧ (((piecesOf pat).take i).all fun cells => decide ((layersOf ss cells).Perm (layersOf gs cells))) = true, ⟨⟨_, rfl⟩, Same.refl _, rfl⟩, fun i σ' H' _ ⟨_, sm, _⟩ => ⟨d2.same sm, hd_same sm⟩, ?_, ?_⟩
  · rintro i r v σ' H' H3 hr0 ⟨⟨c, rfl⟩, sm, hall⟩ e3 hv
    obtain ⟨cells, hcl, er⟩ := map_at hr0
    subst er
    have hm := List.mem_of_getElem? hcl
    obtain ⟨hc1, hc2⟩ := pieces_in hm
    have s03 : Same H H3 := (e2.trans sm).trans e3
    have d3 := dm.same s03
    show tIfS _ _ _ _ ([some x, some y, some z, some v] : L2.St) H3
    have ex : Ev (tVar 0) [some x, some y, some z, some v] (hd B H3) (RPk C a b ss) := ev_var rfl (Rp.mono _ (hd_same s03) hx)
    have ez : Ev (tVar 2) [some x, some y, some z, some v] (hd B H3) (RSh gs) := ev_var rfl (Rp.mono _ (hd_same s03) hz)
    have ec : Ev (tVar 3) [some x, some y, some z, some v] (hd B H3) (RP cells) := ev_var rfl hv
    have l1 : Ev (tCall spLayers [] C8.E0 (tCons (SlX.tPropSl C (spGet C fun _ _ ss => RSh ss) C8.E0 (tVar 0)) (tCons (tVar 3) tNil))) [some x, some y, some z, some v] (hd B H3) (RL ((layersOf ss cells).map RS)) :=
      ev_call (α := List (List Nat) × List Nat) (ss, cells) (ea_cons (ev_prp (ss := ss) ex (by omega) (by omega) (by omega)) (ea_cons ec ea_nil)) ⟨fun l hl c hc => by rw [k2 l hl, ← hpl]; exact hc1 c hc, fun l hl => by rw [k2 l hl]; omega, by show ss.length ≤ 1000; omega, by show cells.length ≤ 1000; omega⟩
    have l2 : Ev (tCall spLayers [] C8.E0 (tCons (tVar 2) (tCons (tVar 3) tNil))) [some x, some y, some z, some v] (hd B H3) (RL ((layersOf gs cells).map RS)) :=
      ev_call (α := List (List Nat) × List Nat) (gs, cells) (ea_cons ez (ea_cons ec ea_nil)) ⟨fun l hl c hc => by rw [g2 l hl, ← hpl]; exact hc1 c hc, fun l hl => by rw [g2 l hl]; omega, by show gs.length ≤ 1000; omega, by show cells.length ≤ 1000; omega⟩
    have ok1 := layers_ok k1 (n := a * b) k2 (fun c hc => by rw [← hpl]; exact hc1 c hc)
    have ok2 := layers_ok g1 (n := a * b) g2 (fun c hc => by rw [← hpl]; exact hc1 c hc)
    refine s_if d3 (et_test (ev_neSrt (ev_sorted l1 (by unfold layersOf; rw [List.length_map]; omega)) (ev_sorted l2 (by unfold layersOf; rw [List.length_map]; omega)) ok1.t ok2.t)) ?_ ?_
    · intro hb H4 e4 d4
      have hn : ¬ (layersOf ss cells).Perm (layersOf gs cells) := fun p => by
        rw [decide_eq_true p] at hb
        cases hb
      refine s_ret d4 (ev_c (r := RB (gives ss gs pat)) ?_) (q.go (s03.trans e4))
      show V.bl false = V.bl (gives ss gs pat)
      congr 1
      symm
      refine List.all_eq_false.mpr ⟨cells, hm, ?_⟩
      rw [decide_eq_false hn]
      exact Bool.false_ne_true
    · intro hb H4 e4 d4
      have hp : (layersOf ss cells).Perm (layersOf gs cells) := Decidable.byContradiction fun hn => by
        rw [decide_eq_false hn] at hb
        cases hb
      refine ⟨⟨_, rfl⟩, (sm.trans e3).trans e4, ?_⟩
      rw [List.take_add_one, hcl, List.all_append, hall]
      simpa using hp
  · rintro σ' H' ⟨⟨c, rfl⟩, sm, hall⟩
    rw [List.length_map, List.take_length] at hall
    refine s_ret (d2.same sm) (ev_c (r := RB (gives ss gs pat)) ?_) (q.go (e2.trans sm))
    show V.bl true = V.bl (gives ss gs pat)
    rw [← hall]
    rfl
end
end Sw
set_option Elab.async false
set_option linter.all false
set_option maxRecDepth 100000
set_option maxHeartbeats 1000000
/-! {key: value for target in source}, the keys tuples. -/
namespace Sw
open PySem PySem.Spec PyProof.Rows L2
section
variable {X : Cx} {pins : List (Addr × Obj)} {σ : L2.St} {H : Hp} {s : Shared}
/-- a store by a comprehension, the key a tuple -/
theorem set_tupKey {E : Value → Shared → Prop} {D b : Addr} {kvs : List (List Key × V)} {k : List Key} {v : V} {r : Value} {Q : Unit → Shared → Prop} (hu : X.A.units + 1 < cLine) (I : Inv X pins σ H s) (hD : H D = some (.dT kvs)) (hb : H b = some (.tup (k.map kV))) (hz : kvs.length < sizeLine) (rv : RelV v r)
    (h : ∀ s', Inv X pins σ (upd H D (.dT (putK kvs k v))) s' → Q () s') : wpAny (model X.prog X.w) X.A (dictSet D (.ref b) r) Q E s := by
  obtain ⟨z, hd, xs, rel, dd⟩ := dt_of I.hok hD
  have hx : xs.length ≤ sizeLine := by rw [← Paired.length rel]; exact z
  have hl : (putK kvs k v).length ≤ sizeLine := by have := length_putK kvs k v; omega
  refine wpAny_dictSet_heap (hsz := hx) (show X.A.units < cLine from Nat.lt_of_succ_lt hu) (key_of I.hok hb) dd fun h' dd' hs => h _ ?_
  obtain ⟨q, es, ep, hq, h2, h3, h4, _, h5⟩ := dd'
  refine d_write I (by rw [hD]; exact True.intro) hs ⟨q, hq⟩ ⟨hl, hd, _, (rel.put k hb rv).keeps fun c ys ec => ?_, q, es, ep, hq, h2, h3, h4, h5⟩
  rw [upd_ne (ne_of ec hD (fun z => nomatch z))]
  exact ec
end
def tDcT (wi : TI) (g : TG) (tt : TT) (tk tv : TE) (vs : List Nat) : TE := fun σ H Q => wi σ H fun J H1 => ∀ D, H1 D = none → ∃ W : Nat → Nat → Hp → Prop, (∃ m, W 0 m (upd H1 D (.dT []))) ∧ ∀ i m H, W i m H →
  (J.stop i H ∧ Q (.ref D) H) ∨ (J.go i H ∧ ∃ Nx : Hp → Prop, (∀ H', Nx H' → ∃ m', m' < m ∧ W (i + 1) m' H') ∧ ∀ x H', J.yld i H x H' → g x (wipe σ vs) H' fun σ2 H2 => wipe σ2 vs = wipe σ vs ∧ tt σ2 H2 fun b H3 =>
    if b = true then tk σ2 H3 fun y H4 => tv σ2 H4 fun z H5 => ∃ kvs k a, y = .ref a ∧ H5 a = some (.tup (k.map kV)) ∧ H5 D = some (.dT kvs) ∧ kvs.length < sizeLine ∧ Nx (upd H5 D (.dT (putK kvs k z))) else Nx H3)
section
variable {X : Cx}
theorem pe_dcT {kx vx tg iter : Expr} {ifs : List Expr} {scope : Scope} {own : List (Str × Nat)} {pos : Pos} {wi : TI} {g : TG} {tt : TT} {tk tv : TE} (hu : X.A.units + 1 < cLine) (hc : X.calm = true) (hN : X.N.Nodup) (hi : PI X tg iter wi) (ok : BlkOk X.N X.env.scope scope own)
    (hg : ∀ (s : Shared) (H : Hp) (C : Addr) (cl : List (Str × Addr)) (fp : List Addr), PG (X.blk s H scope (compEnvC scope cl C X.env) fp) tg g) (ht : ∀ (s : Shared) (H : Hp) (C : Addr) (cl : List (Str × Addr)) (fp : List Addr), PTs (X.blk s H scope (compEnvC scope cl C X.env) fp) ifs tt)
    (hk : ∀ (s : Shared) (H : Hp) (C : Addr) (cl : List (Str × Addr)) (fp : List Addr), PE (X.blk s H scope (compEnvC scope cl C X.env) fp) kx tk)
    (he : ∀ (s : Shared) (H : Hp) (C : Addr) (cl : List (Str × Addr)) (fp : List Addr), PE (X.blk s H scope (compEnvC scope cl C X.env) fp) vx tv) (hs : ∀ x, foldedSetIterable iter X.env x = pure x := by intro _; rfl) :
    PE X (.DictComp kx vx [⟨tg, iter, ifs, 0⟩] scope pos) (tDcT wi g tt tk tv (own.map (·.2))) := by
  refine ⟨fun pins s σ H Q I h => ?_⟩
  rw [arm_eval_DictComp]
  have fv : ∀ y ∈ scope.names, y.2 = .free → ∃ c, X.env.cells.lookup y.1 = some c := fun y hy e => (ok.free y hy e).elim (fun k => I.ok.has _ (.inl k)) fun k => I.ok.has _ (.inr k)
  refine wpAny_comprehension_free (use := none) rfl hs (closure_ok fv) ok.kind (fun y hy e => by rw [ok.uniq y hy, e]) (thn (hi.run pins s σ H _ I h) fun xv s1 hx => thn hx fun itv s2 h2 => ?_)
  obtain ⟨it, fp, tn, J, H2, rfl, I2, T, st2, f2, q⟩ := h2
  refine wpAny_newObj_type (newEnv_comp ?_)
  generalize hD : s2.heap.objs.size = D
  obtain ⟨W, ⟨m0, w0⟩, turn⟩ := q D (I2.hok.fresh (Nat.le_of_eq hD))
  generalize hs3 : ({ s2 with heap := s2.heap.push { cls := .type "dict", data := .dict #[] } } : Shared) = s3
  have h3 : s3.heap = s2.heap.push { cls := .type "dict", data := .dict #[] } := by rw [← hs3]
  have I3 : Inv X pins σ (upd H2 D (.dT [])) s3 := by
    rw [← hs3]
    refine I2.laid (t' := s2.toks) (fun b o e => Heap.get?_push_of_some _ e) (Nat.le_of_eq hD) ?_
    rw [← hD]
    exact dt_empty s2.heap I2.big
  have f3 : ∀ b ∈ fp, FpOk X pins (upd H2 D (.dT [])) b ∧ b < s3.heap.objs.size := fun b hb => by
    obtain ⟨o, e, _⟩ := T.obj _ _ st2 b hb
    have hlt := Heap.lt_size e
    refine ⟨⟨?_, (f2 b hb).2⟩, by rw [h3, Heap.size_push]; exact Nat.lt_succ_of_lt hlt⟩
    rw [upd_ne (by rw [← hD]; exact Nat.ne_of_lt hlt)]
    exact (f2 b hb).1
  have st3 : tn 0 s3.heap := T.keep _ _ _ st2 fun b _ o e => by rw [h3]; exact Heap.get?_push_of_some _ e
  have I4 := block_start I3 ok hN f3
  have pg := hg s3 (upd H2 D (.dT [])) s3.heap.objs.size (cellsFrom (s3.heap.objs.size + 1) scope.names (cloFrom X.env.cells scope.names [])) fp
  have pt := ht s3 (upd H2 D (.dT [])) s3.heap.objs.size (cellsFrom (s3.heap.objs.size + 1) scope.names (cloFrom X.env.cells scope.names [])) fp
  have pk := hk s3 (upd H2 D (.dT [])) s3.heap.objs.size (cellsFrom (s3.heap.objs.size + 1) scope.names (cloFrom X.env.cells scope.names [])) fp
  have pe := he s3 (upd H2 D (.dT [])) s3.heap.objs.size (cellsFrom (s3.heap.objs.size + 1) scope.names (cloFrom X.env.cells scope.names [])) fp
  have nfp : ∀ b ∈ fp, (upd H2 D (.dT [])) b = none := fun b hb => (f3 b hb).1.1
  show codeAny _ _ (.compStart (.DictComp kx vx [⟨tg, iter, ifs, 0⟩] scope pos) 0 (.ref it) (.ref D) (compEnvC scope (cellsFrom (s3.heap.objs.size + 1) scope.names (cloFrom X.env.cells scope.names [])) s3.heap.objs.size X.env)) _ { s3 with heap := pushCells (s3.heap.push { cls := .type "dict", data := .dict #[] }) scope.names }
  generalize hce : compEnvC scope (cellsFrom (s3.heap.objs.size + 1) scope.names (cloFrom X.env.cells scope.names [])) s3.heap.objs.size X.env = ce at I4 pg pt pk pe ⊢
  have cL : ce.locals = s3.heap.objs.size := by rw [← hce]; rfl
  generalize hH3 : upd H2 D (.dT []) = H3 at I3 I4 pg pt pk pe w0 nfp f3
  generalize hs4 : ({ s3 with heap := pushCells (s3.heap.push { cls := .type "dict", data := .dict #[] }) scope.names } : Shared) = s4 at I4 ⊢
  have st4 : tn 0 s4.heap := T.keep _ _ _ st3 fun b _ o e => by rw [← hs4]; exact pushCells_keeps _ _ _ _ (Heap.get?_push_of_some _ e)
  have stat : ∀ {σ' : L2.St} {H' : Hp} {s' : Shared}, Inv (X.blk s3 H3 scope ce fp) [] σ' H' s' → (∀ b ∈ fp, H' b = none) → ∀ b ∈ fp, FpOk (X.blk s3 H3 scope ce fp) [] H' b := fun {σ' H' s'} I' hn b hb =>
    ⟨hn b hb, (I'.ok.exf b hb).1, I'.ok.exfs b hb, .inl hb, fun x c e => (I'.ok.exf b hb).2 x c e, fun p hp => absurd (show p ∈ ([] : List (Addr × Obj)) ++ [] from hp) (by simp)⟩
  have loop : codeAny (model X.prog X.w) X.A (.compLoop (.DictComp kx vx [⟨tg, iter, ifs, 0⟩] scope pos) 0 (.ref it) (.ref D) ce) (compPost (model X.prog X.w) X.A X.xe none (EP X pins σ Q) (.ref D) s3.heap.objs.size) s4 := by
    refine compLoop_anyD (fun n s' => ∃ i H', Inv (X.blk s3 H3 scope ce fp) [] (wipe σ (own.map (·.2))) H' s' ∧ tn i s'.heap ∧ (∀ b ∈ fp, H' b = none) ∧ W i n H') ?_ m0 ⟨0, H3, I4, st4, nfp, w0⟩
    rintro n s5 ⟨i, H5, I5, st5, n5, w5⟩
    rcases turn i n H5 w5 with ⟨stop, qq⟩ | ⟨go, Nx, hNx, step⟩
    · have td := T.done (X.blk s3 H3 scope ce fp) rfl rfl rfl hc i [] s5 _ H5 (fun _ _ => False) I5 (stat I5 n5) st5 stop
      refine thnF td fun r s6 ⟨hr, I6⟩ => ?_
      subst hr
      have I7 : Inv X pins σ H5 s6 := I3.call' (ch := fp) I6.os I6.base I6.hok I6.bare fun b hb => ⟨(f3 b hb).1.2.2.2.1, (f3 b hb).1.2.1, (f3 b hb).1.2.2.2.2.1, (f3 b hb).1.2.2.2.2.2⟩
      have nC : H5 s3.heap.objs.size = none := by
        have z : H5 ce.locals = none := I6.free
        rw [cL] at z
        exact z
      obtain ⟨m, hn, _⟩ := I6.loc
      have hn : s6.heap.Ns ce.locals m := hn
      rw [cL] at hn
      refine ⟨m, hn, fun h'' sb => ?_⟩
      obtain ⟨f0, f1, _, f3', f4, f5⟩ := I3.fpOk (pins := pins) (Nat.le_refl _) nC
      exact ⟨.ref D, H5, I7.turned (t' := s6.toks) (fun b o hb e => (sb.2 b hb).trans e) f0 f1 f3' f4 f5, rfl, qq⟩
    · have ti := T.item (X.blk s3 H3 scope ce fp) rfl rfl rfl hc i [] s5 _ H5 (fun _ _ => False) I5 (stat I5 n5) st5 go
      refine thnF ti fun r s6 ⟨u, hr, h6⟩ => ?_
      subst hr
      refine thnF h6 fun _ s7 ⟨x, H7, I7, r7, y7, st7, n7⟩ => ?_
      refine thnF (pg.run _ s7 _ H7 x u _ (I7.pinned (stat I7 n7) (T.obj _ _ st7)) r7 (step x H7 y7)) fun _ s8 ⟨σ8, H8, I8, hw8, q8⟩ => ?_
      refine thnF (pt.run _ s8 σ8 H8 _ I8 q8) fun b s9 ⟨H9, I9, q9⟩ => ?_
      have fin : ∀ {s' : Shared} {H' : Hp}, Inv (X.blk s3 H3 scope ce fp) ([] ++ pinsAt fp s7.heap) σ8 H' s' → Nx H' → ∃ m, m < n ∧ ∃ i H', Inv (X.blk s3 H3 scope ce fp) [] (wipe σ (own.map (·.2))) H' s' ∧ tn i s'.heap ∧ (∀ b ∈ fp, H' b = none) ∧ W i m H' := fun {s' H'} I' nx => by
        obtain ⟨m', hm, w'⟩ := hNx H' nx
        have pin' : ∀ b ∈ fp, ∀ o, s7.heap.get? b = some o → s'.heap.get? b = some o ∧ H' b = none := fun b hb o e =>
          let z := I'.pin (b, o) (List.mem_append_right _ (List.mem_append_right _ (mem_pinsAt hb e)))
          ⟨z.1, z.2.1⟩
        refine ⟨m', hm, i + 1, H', (I'.unpinned (pins := [])).weak (by rw [← hw8, wipe_length]) (fun j v e => ?_), T.keep _ _ _ st7 fun b hb o e => (pin' b hb o e).1, fun b hb => ?_, w'⟩
        · rw [← hw8] at e
          exact (wipe_some e).1
        · obtain ⟨o, e, _⟩ := T.obj _ _ st7 b hb
          exact (pin' b hb o e).2
      cases b with
      | false =>
        simp only [Bool.false_eq_true, if_false] at q9 ⊢
        exact fin I9 q9
      | true =>
        simp only [if_true] at q9 ⊢
        refine thnF (pk.run _ s9 σ8 H9 _ I9 q9) fun z s10 ⟨yk, H10, I10, r10, q10⟩ => ?_
        refine thnF (pe.run _ s10 σ8 H10 _ I10 q10) fun z2 s11 ⟨yv, H11, I11, r11, kvs, k, a, ek, ha, hD11, hz11, nx⟩ => ?_
        subst ek
        cases (show z = Value.ref a from r10)
        exact set_tupKey (X := X.blk s3 H3 scope ce fp) hu I11 hD11 ha hz11 r11 fun s12 I12 => fin I12 nx
  exact codeAny_compStart_dict loop (T.self X.A 0 _ _ _ st4 loop)
end
end Sw
set_option Elab.async false
set_option linter.all false
set_option maxRecDepth 100000
set_option maxHeartbeats 1000000
/-! all_laid. -/
namespace Sw
open PySem PySem.Spec PyProof.Rows L2
abbrev Shs := List (List Nat)
def dkStep (acc : List Shs) (s : Shs) : List Shs := if s ∈ acc then acc else acc ++ [s]
def dkeys (l : List Shs) : List Shs := l.foldl dkStep []
def kSh (s : Shs) : List Key := s.map fun l => Sum.inr (tx l)
def dtv (acc : List Shs) : List (List Key × V) := acc.map fun s => (kSh s, V.bl true)
theorem kSh_v (s : Shs) : (kSh s).map kV = s.map vS := by
  unfold kSh
  rw [List.map_map]
  rfl
theorem kSh_inj : ∀ {s t : Shs}, kSh s = kSh t → s = t
  | [], [], _ => rfl
  | [], _ :: _, h => by cases h
  | _ :: _, [], h => by cases h
  | a :: r, b :: s, h => by
    unfold kSh at h
    rw [List.map_cons, List.map_cons] at h
    injection h with h1 h2
    rw [tx_inj (Sum.inr.inj h1), kSh_inj (s := r) (t := s) h2]
theorem dtv_get (s : Shs) : ∀ acc : List Shs, valV (dtv acc) (kSh s) = if s ∈ acc then some (V.bl true) else none
  | [] => by simp [dtv, valV]
  | a :: r => by
    unfold dtv
    by_cases e : a = s
    · subst e
      rw [List.map_cons, valV_pos rfl, if_pos List.mem_cons_self]
    · rw [List.map_cons, valV_neg (fun q => e (kSh_inj q))]
      have z := dtv_get s r
      unfold dtv at z
      rw [z]
      have : (s ∈ a :: r) = (s ∈ r) := by simp [Ne.symm e]
      simp only [this]
theorem dtv_put (s : Shs) (acc : List Shs) : putK (dtv acc) (kSh s) (V.bl true) = dtv (dkStep acc s) := by
  unfold dkStep
  by_cases e : s ∈ acc
  · rw [if_pos e]
    unfold putK
    rw [valV_any, dtv_get, if_pos e, if_pos (by rfl)]
    unfold dtv
    rw [List.map_map]
    refine List.map_congr_left fun a _ => ?_
    show (if kSh a = kSh s then (kSh a, V.bl true) else (kSh a, V.bl true)) = _
    split <;> rfl
  · rw [if_neg e, putK_new _ (by rw [dtv_get, if_neg e])]
    unfold dtv
    rw [List.map_append]
    rfl
theorem dk_len : ∀ (l acc : List Shs), (l.foldl dkStep acc).length ≤ acc.length + l.length
  | [], acc => by simp
  | a :: r, acc => by
    rw [List.foldl_cons]
    have := dk_len r (dkStep acc a)
    have h2 : (dkStep acc a).length ≤ acc.length + 1 := by
      unfold dkStep
      split
      · omega
      · rw [List.length_append, List.length_singleton]
        omega
    rw [List.length_cons]
    omega
/-- a dict with tuple keys -/
def RDT (kvs : List (List Key × V)) : Rp := ⟨fun H v => ∃ a, v = .ref a ∧ H a = some (.dT kvs), fun e ⟨a, x, y⟩ => ⟨a, x, e _ _ y⟩⟩
section
variable {K : PySem.W.Frag} {σ : L2.St} {H : Hp} {te tk : TE} {wi : TI} {vs : List Nat}
abbrev rListDT : List V → Hp → VK → Prop := fun xs H Q => ∃ d kvs, xs = [V.ref d] ∧ Rd H d (.dT kvs) ∧ ∀ p bs, H p = none → IsKeys H kvs bs → Q (.ref p) (upd H p (.lst (bs.map V.ref)))
theorem keys_al {B : Bs} {H : Hp} (d : Dom B H) : ∀ {acc : List Shs} {bs : List Addr}, IsKeys H (dtv acc) bs → Al (hd B H) (acc.map RSh) (bs.map V.ref)
  | [], _, h => by
    cases h
    exact .nil
  | s :: r, _, h => by
    cases h with
    | cons h1 h2 =>
      rename_i b t
      have h1 : H b = some (.tup ((kSh s).map kV)) := h1
      rw [kSh_v] at h1
      exact .cons ⟨b, s.map vS, rfl, hd_of h1 (d.tup h1), str_al s⟩ (keys_al d (acc := r) h2)
theorem ev_listDT {acc : List Shs} (h : Ev te σ H (RDT (dtv acc))) : Ev (tCB rListDT (tCons te tNil)) σ H (RL (acc.map RSh)) :=
  ev_cb (ea_cons h ea_nil) fun B H1 ws _ d hvs Q q => by
    obtain ⟨v, e, a, ev, ha⟩ := hvs.one
    subst ev
    refine ⟨a, dtv acc, e, .inl (hd_in ha).1, fun p bs hp hk => q _ _ (same_upd hp) ⟨p, _, rfl, hd_new d hp, ?_⟩⟩
    exact (keys_al d hk).mono (hd_same (same_upd hp))
theorem take_dk {α : Type} {f : α → Shs} {xs : List α} {i : Nat} {x : α} (h : xs[i]? = some x) : dkeys ((xs.take (i + 1)).map f) = dkStep (dkeys ((xs.take i).map f)) (f x) := by
  unfold dkeys
  rw [List.take_add_one, h, List.map_append, List.foldl_append]
  rfl
theorem ev_dcSh {α : Type} {xs : List α} {ρ : α → Rp} {j : Nat} (f : α → Shs) (h : EvI wi σ H (xs.map ρ)) (hz : xs.length ≤ 80000) (hw : ∀ v, wipe ((wipe σ vs).set j (some v)) vs = wipe σ vs)
    (he : ∀ x v H1, x ∈ xs → Same H H1 → (ρ x).at_ H1 v → Ev tk ((wipe σ vs).set j (some v)) H1 (RSh (f x))) : Ev (tDcT wi (gName j) tYes tk (tC (.bl true)) vs) σ H (RDT (dtv (dkeys (xs.map f)))) := fun B H0 e d Q q => h B H0 e d _ fun J H1 e1 w => by
  intro D hD
  have d1 := d.same e1
  have hB : B D = false := d1.fresh hD
  refine ⟨fun i m H' => m = xs.length - i ∧ i ≤ xs.length ∧ Same H1 H' ∧ H' D = some (.dT (dtv (dkeys ((xs.take i).map f)))), ⟨_, rfl, Nat.zero_le _, same_upd hD, upd_same⟩, ?_⟩
  rintro i m H' ⟨rfl, hi, s1, hd1⟩
  have dA : Dom (B.add D) H' := (d1.same s1).add hd1 fun _ z => nomatch z
  have hD0 : hd B H1 D = none := by
    unfold hd
    split
    · rfl
    · exact hD
  have sm : Same (hd B H1) (hd (B.add D) H') := hd_add (hd_same s1) hD0
  by_cases hlt : i < xs.length
  · have hl : i < (xs.map ρ).length := by rw [List.length_map]; exact hlt
    refine .inr ⟨w.go i _ H' hl sm, fun H3 => Same H1 H3 ∧ H3 D = some (.dT (dtv (dkeys ((xs.take (i + 1)).map f)))), fun H3 p => ⟨xs.length - (i + 1), by omega, rfl, hlt, p⟩, fun v H3 y => ?_⟩
    obtain ⟨s3, fy⟩ := w.yld i _ H' v H3 sm dA y
    have hxi : xs[i]? = some xs[i] := List.getElem?_eq_getElem hlt
    have hv := fy (ρ xs[i]) (by rw [List.getElem?_map, hxi]; rfl)
    refine ⟨hw v, ?_⟩
    unfold tYes
    dsimp only
    rw [if_pos rfl]
    have k3 : Same H (hd (B.add D) H3) := (e.trans (hd_same e1)).trans (sm.trans (hd_same s3))
    refine he xs[i] v _ (List.getElem_mem hlt) k3 hv _ H3 (Same.refl _) (dA.same s3) _ fun y4 H4 s4 hy4 => ?_
    obtain ⟨a, rfl, ha⟩ := rsh_at hy4
    have hD4 : H4 D = some (.dT (dtv (dkeys ((xs.take i).map f)))) := s4 _ _ (s3 _ _ hd1)
    refine ⟨dtv (dkeys ((xs.take i).map f)), kSh (f xs[i]), a, rfl, by rw [kSh_v]; exact (hd_in ha).1, hD4, ?_, fun b o hb => ?_, ?_⟩
    · have := dk_len ((xs.take i).map f) []
      rw [List.length_map, List.length_take] at this
      refine Nat.lt_of_le_of_lt (?_ : _ ≤ 80000) (by decide)
      unfold dtv dkeys
      rw [List.length_map]
      simp only [List.length_nil] at this
      omega
    · rw [upd_ne (ne_of_none hb hD)]
      exact s4 _ _ (s3 _ _ (s1 _ _ hb))
    · rw [upd_same, dtv_put, take_dk hxi]
  · have ei : i = xs.length := by omega
    subst ei
    rw [List.take_length] at hd1
    exact .inl ⟨w.stop _ _ H' (by rw [List.length_map]; exact Nat.le_refl _) sm, q _ _ (e1.trans s1) ⟨D, rfl, hd_of hd1 hB⟩⟩
end
/-! the rows of orders -/
def laidStep (k : Nat) (rows : List Shs) : List Shs := rows.flatMap fun r => (orders k).map fun o => r ++ [o]
def laidRows (k n : Nat) : List Shs := iter (laidStep k) n [[]]
def allLaid (ss : Shs) (pat : List Nat) : List Shs := dkeys ((laidRows ss.length (top pat + 1)).map (rel ss pat))
theorem orders_six : ∀ k ∈ List.range 4, (orders k).length ≤ 6 ∧ ∀ o ∈ orders k, okO k o := by
  have h : ∀ k ∈ List.range 4, (orders k).length ≤ 6 ∧ ∀ o ∈ orders k, o.length = k ∧ ∀ n ∈ o, n < k := by decide +kernel
  exact h
theorem laid_len {k : Nat} (hk : k ≤ 3) : ∀ n, (laidRows k n).length ≤ 6 ^ n
  | 0 => Nat.le_refl _
  | n + 1 => by
    show (laidStep k (laidRows k n)).length ≤ _
    unfold laidStep
    have h1 := flat_len (f := fun r : Shs => (orders k).map fun o => r ++ [o]) (k := 6) (fun r => by rw [List.length_map]; exact (orders_six k (List.mem_range.mpr (by omega))).1) (laidRows k n)
    have h2 := laid_len hk n
    have h3 : (laidRows k n).length * 6 ≤ 6 ^ n * 6 := Nat.mul_le_mul_right 6 h2
    rw [Nat.pow_succ]
    omega
theorem laid_in {k : Nat} (hk : k ≤ 3) : ∀ n, ∀ r ∈ laidRows k n, r.length = n ∧ ∀ o ∈ r, okO k o
  | 0, r, h => by
    rw [List.mem_singleton.mp (show r ∈ [[]] from h)]
    exact ⟨rfl, fun _ h => nomatch h⟩
  | n + 1, r, h => by
    obtain ⟨q, hq, h2⟩ := List.mem_flatMap.mp (show r ∈ laidStep k (laidRows k n) from h)
    obtain ⟨o, ho, rfl⟩ := List.mem_map.mp h2
    obtain ⟨i1, i2⟩ := laid_in hk n q hq
    refine ⟨by rw [List.length_append, i1]; rfl, fun p hp => ?_⟩
    rcases List.mem_append.mp hp with hp | hp
    · exact i2 p hp
    · rw [List.mem_singleton.mp hp]
      exact (orders_six k (List.mem_range.mpr (by omega))).2 o ho
theorem ev_snocR {K : PySem.W.Frag} {σ : L2.St} {H : Hp} {ta tb : TE} {p : Shs} {o : List Nat} (ha : Ev ta σ H (RT (p.map RP))) (hb : Ev tb σ H (RP o)) (hl : p.length ≤ 90000) : Ev (tTup (StX.tStar K ta (tCons tb tNil))) σ H (RT ((p ++ [o]).map RP)) :=
  ev_is (ev_tup (ea_star ha (ea_cons hb ea_nil)) (by rw [List.length_append, List.length_map, List.length_singleton]; omega)) (by rw [← List.map_singleton (f := RP), ← List.map_append])
section
variable {P : Program} {w : World} {K : PySem.W.Frag} {mg : Str → Option Value} {base : Heap}
def spLaid : Sp := SpOf (α := Shs × List Nat) (fun a => [RSh a.1, RP a.2]) (fun a => a.2 ≠ [] ∧ top a.2 ≤ 3 ∧ a.1.length ≤ 3 ∧ (∀ l ∈ a.1, l.length = a.2.length) ∧ a.2.length ≤ 100) fun a => RL ((allLaid a.1 a.2).map RSh)
theorem sc42 : FnScope ["sheets", "pattern", "rows", "piece", "row", "order", "orders"] ["sheets", "pattern"] (C8.fnScope (topS 42)) := C8.fnScope_by (by decide +kernel)
theorem c42 (T : Txt K mg) : C8.Cal P w K mg base 2 "all_laid" spLaid [] := by
  refine cal_of T.d42 sc42 (len_of (n := 2) fun _ => rfl) fun f _ cdv A outer s H vs Q E hr h => ?_
  obtain ⟨⟨ss, pat⟩, B, dm, hvs, ⟨k1, k2, k3, k4, k5⟩, q⟩ := h
  obtain ⟨x, y, rfl, hx, hy⟩ := hvs.two
  have hx : (RSh ss).at_ (hd B H) x := hx
  have hy : (RP pat).at_ (hd B H) y := hy
  have k1 : pat ≠ [] := k1
  have k2 : top pat ≤ 3 := k2
  have k3 : ss.length ≤ 3 := k3
  have k4 : ∀ l ∈ ss, l.length = pat.length := k4
  have k5 : pat.length ≤ 100 := k5
  have c41 := c41 (P := P) (w := w) (base := base) T
  have c30 := c30 (P := P) (w := w) (base := base) T
  refine ⟨_, (pss_cons (ps_set (i := 2) sc42.nd rfl (by first | exact .inl rfl | exact .inr rfl) (pe_lst (pa_cons (pe_tup pa_nil) pa_nil)))
      (pss_cons (ps_for PassesOwn.never rfl (pi_range1 (by rfl) (T.no "range") (pa_cons (pe_op op_add (show PE _ _ (tCB (rMaxT K) _) from (pe_callB (cr_maxT rfl (hu64 hr)) (by rfl) (T.no "max") bt_max (pa_cons (pv 1) pa_nil))) pe_int) pa_nil)) (pg_name (i := 3) sc42.nd rfl (by first | exact .inl rfl | exact .inr rfl)) (pss_one (ps_setLc2 (own := [("row", 4), ("order", 5)]) (g := (gName 4)) (g1 := (gName 5)) (tt := tYes) (tt1 := tYes) (vs1 := [5]) (i := 2) rfl sc42.nd rfl rfl rfl (show PI _ _ _ (iList K _) from (pi_list (pv 2))) (blkOk_by (N := ["sheets", "pattern", "rows", "piece", "row", "order", "orders"]) (sc := C8.fnScope (topS 42)) (by decide +kernel)) (by decide) (fun _ _ _ _ _ => (pg_name (i := 4) sc42.nd rfl (by first | exact .inl rfl | exact .inr rfl))) (fun _ _ _ _ _ => pts_nil) (fun _ _ _ _ _ => (show PI _ _ _ (iList K _) from (pi_list (C8.pe_c c41 hr (by decide) (by rfl) (pa_cons (show PE _ _ (tCB (rLenK K) _) from (pe_callB call_len (by rfl) (T.no "len") bt_len (pa_cons (pv 0) pa_nil))) pa_nil))))) (fun _ _ _ _ _ => (pg_name (i := 5) sc42.nd rfl (by first | exact .inl rfl | exact .inr rfl))) (fun _ _ _ _ _ => pts_nil) (fun _ _ _ _ _ => (pe_tup (show PA _ _ (StX.tStar K _ _) from StX.pa_star (pv 4) (pa_cons (pv 5) pa_nil)))))))
      (pss_one (ps_ret (pe_callTy (call_list_dT rfl) (by rfl) (T.no "list") bt_list (pa_cons (pe_dcT (hu1 hr) (own := [("orders", 6)]) (g := (gName 6)) (tt := tYes) rfl sc42.nd (show PI _ _ _ (iList K _) from (pi_list (pv 2))) (blkOk_by (N := ["sheets", "pattern", "rows", "piece", "row", "order", "orders"]) (sc := C8.fnScope (topS 42)) (by decide +kernel)) (fun _ _ _ _ _ => (pg_name (i := 6) sc42.nd rfl (by first | exact .inl rfl | exact .inr rfl))) (fun _ _ _ _ _ => pts_nil) (fun _ _ _ _ _ => (C8.pe_c c30 hr (by decide) (by rfl) (pa_cons (pv 0) (pa_cons (pv 1) (pa_cons (pv 6) pa_nil))))) (fun _ _ _ _ _ => pe_bl)) pa_nil)))))), ?_⟩
  have ho := orders_six ss.length (List.mem_range.mpr (by omega))
  refine q_set (r := RL ((laidRows ss.length 0).map fun r => RT (r.map RP))) dm (ev_lst (rs := [RT []]) (ea_cons (ev_tup ea_nil (by decide)) ea_nil) (by show 1 ≤ 100000; decide)) fun v1 H1 e1 d1 hv1 => ?_
  refine q_for (rs := (List.range (top pat + 1)).map RN) d1 (ei_rng1 (ea_cons (ev_addN (ev_maxT (ev_var rfl (Rp.mono _ (hd_same e1) hy)) k1) (ev_nat (n := 1))) ea_nil) (by omega)) fun H2 e2 d2 => ?_
  refine ⟨B, fun i σ' H' => (∃ rv c3, σ' = [some x, some y, some rv, c3, none, none, none] ∧ (RL ((laidRows ss.length i).map fun r => RT (r.map RP))).at_ (hd B H') rv) ∧ Same H2 H', ⟨⟨v1, none, rfl, Rp.mono _ (hd_same e2) hv1⟩, Same.refl _⟩, fun i σ' H' _ ⟨_, sm⟩ => ⟨d2.same sm, hd_same sm⟩, ?_, ?_⟩
  · rintro i r v σ' H' H3 hr0 ⟨⟨rv, c3, rfl, hrv⟩, sm⟩ e3 hv
    obtain ⟨hi, er⟩ := rng_at hr0
    have d3 : Dom B H3 := (d2.same sm).same e3
    have s03 : Same H H3 := ((e1.trans e2).trans sm).trans e3
    have hx3 : (RSh ss).at_ (hd B H3) x := Rp.mono _ (hd_same s03) hx
    have hlen := laid_len k3 i
    have h6 : 6 ^ i ≤ 6 ^ 3 := Nat.pow_le_pow_right (by decide) (by omega)
    have h216 : (6 : Nat) ^ 3 = 216 := by decide
    refine s_set (r := RL ((laidRows ss.length (i + 1)).map fun r => RT (r.map RP))) d3 (ev_is (ev_lc2 (xs := laidRows ss.length i) (ρ := fun r => RT (r.map RP)) (ys := fun _ => orders ss.length) (ρ1 := fun _ o => RP o) (fun r o => some (RT ((r ++ [o]).map RP))) (ei_list (ev_var rfl (Rp.mono _ (hd_same e3) hrv))) ?_ ?_ gName_mono) ?_) fun v4 H4 e4 d4 hv4 => ⟨⟨v4, _, rfl, hv4⟩, sm.trans (e3.trans e4)⟩
    · intro j hj
      rw [sum_const, List.length_take]
      have : min j (laidRows ss.length i).length * (orders ss.length).length ≤ 216 * 6 := Nat.mul_le_mul (by omega) ho.1
      omega
    · intro B4 o v H4 ho4 s4 d4 hv4
      have hlr := (laid_in k3 i o ho4).1
      refine ⟨rfl, rfl, ei_list (ev_call (α := Nat) ss.length (ea_cons (ev_is (ev_lenT (ev_var rfl (Rp.mono _ s4 hx3))) (by rw [List.length_map])) ea_nil) k3), fun _ => rfl, fun _ _ _ _ _ _ => et_yes, fun p u H5 rp hp s5 hu hrp => ?_⟩
      rw [← Option.some.inj hrp]
      exact ev_snocR (ev_var rfl (Rp.mono _ s5 hv4)) (ev_var rfl hu) (by omega)
    · show RL _ = RL ((laidStep ss.length (laidRows ss.length i)).map fun r => RT (r.map RP))
      unfold laidStep
      rw [List.map_flatMap]
      refine congrArg RL (congrArg (fun f => (laidRows ss.length i).flatMap f) (funext fun o => ?_))
      rw [fm_some, List.map_map]
      rfl
  · rintro σ' H' ⟨⟨rv, c3, rfl, hrv⟩, sm⟩
    rw [List.length_map, List.length_range] at hrv
    have s03 : Same H H' := (e1.trans e2).trans sm
    have hlen := laid_len k3 (top pat + 1)
    have h6 : 6 ^ (top pat + 1) ≤ 6 ^ 4 := Nat.pow_le_pow_right (by decide) (by omega)
    have h1296 : (6 : Nat) ^ 4 = 1296 := by decide
    refine s_ret (d2.same sm) (ev_listDT (ev_dcSh (xs := laidRows ss.length (top pat + 1)) (ρ := fun r => RT (r.map RP)) (rel ss pat) (ei_list (ev_var rfl hrv)) (by omega) (fun _ => rfl) fun os v H5 hos s5 hv => ?_)) (q.go s03)
    obtain ⟨l1, l2⟩ := laid_in k3 _ os hos
    exact ev_call (α := Shs × List Nat × Shs) (ss, pat, os) (ea_cons (ev_var rfl (Rp.mono _ ((hd_same s03).trans s5) hx)) (ea_cons (ev_var rfl (Rp.mono _ ((hd_same s03).trans s5) hy)) (ea_cons (ev_var rfl hv) ea_nil))) ⟨fun c hc => by rw [l1]; exact Nat.lt_succ_of_le (le_top hc), l2, k4, by show ss.length ≤ 1000; omega, by show pat.length ≤ 1000; omega⟩
end
end Sw
set_option Elab.async false
set_option linter.all false
set_option maxRecDepth 100000
set_option maxHeartbeats 1000000
/-! {key: value} of one pair, the key a tuple. -/
namespace Sw
open PySem PySem.Spec PyProof.Rows L2
def tDisp1 (tk tv : TE) : TE := fun σ H Q => ∀ p, H p = none → tk σ (upd H p (.dT [])) fun x H1 => tv σ H1 fun y H2 => ∃ k a, x = .ref a ∧ H2 a = some (.tup (k.map kV)) ∧ H2 p = some (.dT []) ∧ Q (.ref p) (upd H2 p (.dT [(k, y)]))
theorem pe_disp1 {X : Cx} {k v : Expr} {pos : Pos} {tk tv : TE} (hu : X.A.units + 1 < cLine) (hk : PE X k tk) (hv : PE X v tv) : PE X (.Dict [some k] [v] pos) (tDisp1 tk tv) := by
  refine ⟨fun pins s σ H Q I q => ?_⟩
  have hn := I.hok.fresh (Nat.le_refl s.heap.objs.size)
  have I1 := I.laid (a := s.heap.objs.size) (o := .dT []) (h' := s.heap.push { cls := .type "dict", data := .dict #[] }) (t' := s.toks) (fun _ _ q => Heap.get?_push_of_some _ q) (Nat.le_refl _) (dt_empty s.heap I.big)
  have sh := zip_pairTrees [some k] [v] X.env pos rfl rfl
  rw [arm_eval_Dict, sh, dictDisplay_pairs (pairTrees [some k] [v] X.env pos) (fun e => by cases e) (by show 1 < 17; decide)]
  refine wpAny_bind (wpAny_standAt (wpAny_bind (wpAny_subDictH (knd := tupleKind (mixKind X.prog X.w)) (show X.A.units < cLine from Nat.lt_of_succ_lt hu) (by show 1 ≤ 15; decide) ?_)))
  refine pairTrees_cons_walk (thn (hk.run pins _ σ _ _ I1 (q _ hn)) fun u s1 ⟨x, H1, I2, rx, q1⟩ => thn (hv.run pins s1 σ H1 _ I2 q1) fun w2 s2 ⟨y, H2, I3, ry, ks, a, ex, ha, hp, q2⟩ => pairTrees_nil_walk ?_)
  subst ex
  cases (show u = Value.ref a from rx)
  obtain ⟨z, hd, xs, rel, dd⟩ := dt_of I3.hok hp
  cases rel
  refine ⟨[(ks, a, w2)], ⟨rfl, rfl, key_of I3.hok ha, trivial⟩, dd, fun h' tk dd' hs => wpAny_pure ⟨.ref s.heap.objs.size, _, ?_, rfl, q2⟩⟩
  obtain ⟨o, es, ep, ho, h2, h3, h4, h5, h6⟩ := dd'
  refine d_write (t' := tk) I3 (by rw [hp]; exact True.intro) hs ⟨o, ho⟩ ⟨(by show 1 ≤ sizeLine; decide), hd, [(ks, a, w2)], .cons ⟨rfl, ?_, ry⟩ .nil, o, es, ep, ho, h2, h3, h4, h6⟩
  rw [upd_ne (ne_of ha hp (fun z => nomatch z))]
  exact ha
end Sw
set_option Elab.async false
set_option linter.all false
set_option maxRecDepth 100000
set_option maxHeartbeats 1000000
/-! fewest_cuts, plainly. -/
namespace Sw
def rowsOf (w h lo : Nat) : List (List Nat) := (patterns w h).filter fun p => decide (lenOf w h p ≤ lo)
abbrev St2 := List Shs × List Shs
def addOne (st : St2) (o : Shs) : St2 := if o ∈ st.1 then st else (st.1 ++ [o], st.2 ++ [o])
def addAll (met : List Shs) (l : List Shs) : St2 := l.foldl addOne (met, [])
def laidBy (rows : List (List Nat)) (s : Shs) : List Shs := rows.flatMap (allLaid s)
def nextLv (rows : List (List Nat)) (met level : List Shs) : St2 := addAll met (level.flatMap (laidBy rows))
def stAt (rows : List (List Nat)) (s0 : Shs) (mo : Nat) : Nat → St2
  | 0 => ([s0], [s0])
  | i + 1 => nextLv rows (stAt rows s0 mo i).1 (if i < mo then (stAt rows s0 mo i).2 else [])
def fewest (rows : List (List Nat)) (s0 gs : Shs) (mo : Nat) : Option Nat := (List.range (mo + 1)).find? fun c => decide (gs ∈ (stAt rows s0 mo c).1)
/-! ### lengths -/
theorem addAll_len : ∀ (l : List Shs) (st : St2), (l.foldl addOne st).1.length ≤ st.1.length + l.length ∧ (l.foldl addOne st).2.length ≤ st.2.length + l.length
  | [], st => by simp
  | a :: r, st => by
    rw [List.foldl_cons, List.length_cons]
    have h := addAll_len r (addOne st a)
    have h2 : (addOne st a).1.length ≤ st.1.length + 1 ∧ (addOne st a).2.length ≤ st.2.length + 1 := by
      unfold addOne
      split
      · exact ⟨by omega, by omega⟩
      · rw [List.length_append, List.length_append, List.length_singleton]
        exact ⟨Nat.le_refl _, Nat.le_refl _⟩
    exact ⟨by omega, by omega⟩
theorem addAll_in {o : Shs} : ∀ (l : List Shs) (st : St2), (o ∈ (l.foldl addOne st).1 ↔ o ∈ st.1 ∨ o ∈ l) ∧ (o ∈ (l.foldl addOne st).2 → o ∈ st.2 ∨ o ∈ l)
  | [], st => by simp
  | a :: r, st => by
    rw [List.foldl_cons]
    obtain ⟨h1, h2⟩ := addAll_in (o := o) r (addOne st a)
    have e1 : o ∈ (addOne st a).1 ↔ o ∈ st.1 ∨ o = a := by
      unfold addOne
      split
      · rename_i hm
        exact ⟨.inl, fun h => h.elim id fun e => by rw [e]; exact hm⟩
      · simp
    have e2 : o ∈ (addOne st a).2 → o ∈ st.2 ∨ o = a := by
      unfold addOne
      split
      · exact .inl
      · simp
    constructor
    · rw [h1, e1, List.mem_cons]
      constructor
      · rintro ((h | h) | h)
        · exact .inl h
        · exact .inr (.inl h)
        · exact .inr (.inr h)
      · rintro (h | h | h)
        · exact .inl (.inl h)
        · exact .inl (.inr h)
        · exact .inr h
    · intro h
      rcases h2 h with h | h
      · rcases e2 h with h | h
        · exact .inl h
        · exact .inr (by rw [h]; exact List.mem_cons_self)
      · exact .inr (List.mem_cons_of_mem _ h)
theorem flat_lenM {α β : Type} {f : α → List β} {k : Nat} : ∀ l : List α, (∀ a ∈ l, (f a).length ≤ k) → (l.flatMap f).length ≤ l.length * k
  | [], _ => by simp
  | a :: r, h => by
    rw [List.flatMap_cons, List.length_append, List.length_cons, Nat.add_mul]
    have := flat_lenM r fun b hb => h b (List.mem_cons_of_mem _ hb)
    have := h a List.mem_cons_self
    omega
/-- sheets of n cells, k of them -/
def vld (n k : Nat) (s : Shs) : Prop := (∀ l ∈ s, l.length = n) ∧ s.length = k
theorem dk_in {o : Shs} : ∀ (l acc : List Shs), o ∈ l.foldl dkStep acc ↔ o ∈ acc ∨ o ∈ l
  | [], acc => by simp
  | a :: r, acc => by
    rw [List.foldl_cons, dk_in r (dkStep acc a), List.mem_cons]
    have e1 : o ∈ dkStep acc a ↔ o ∈ acc ∨ o = a := by
      unfold dkStep
      split
      · rename_i hm
        exact ⟨.inl, fun h => h.elim id fun e => by rw [e]; exact hm⟩
      · simp
    rw [e1]
    constructor
    · rintro ((h | h) | h)
      · exact .inl h
      · exact .inr (.inl h)
      · exact .inr (.inr h)
    · rintro (h | h | h)
      · exact .inl (.inl h)
      · exact .inl (.inr h)
      · exact .inr h
theorem laid_mem {ss o : Shs} {pat : List Nat} : o ∈ allLaid ss pat ↔ ∃ os ∈ laidRows ss.length (top pat + 1), rel ss pat os = o := by
  unfold allLaid dkeys
  rw [dk_in]
  simp
theorem rel_vld (ss : Shs) (pat : List Nat) (os : Shs) : vld pat.length ss.length (rel ss pat os) := by
  refine ⟨fun l hl => ?_, by simp [rel]⟩
  obtain ⟨n, _, rfl⟩ := List.mem_map.mp hl
  simp
theorem laid_vld {ss o : Shs} {pat : List Nat} (h : o ∈ allLaid ss pat) : vld pat.length ss.length o := by
  obtain ⟨os, _, rfl⟩ := laid_mem.mp h
  exact rel_vld ss pat os
/-! ### how many -/
def fewS (w h k : Nat) : Prop := (w, h) ∈ shapes ∧ 1 ≤ k ∧ k ≤ 3 ∧ (w * h ≤ 2 ∨ k ≤ 2)
def cap (w h : Nat) : Nat := if w * h ≤ 2 then 36 else 16
theorem rows_cap : ∀ s ∈ shapes, (patterns s.1 s.2).length * cap s.1 s.2 ≤ 240 ∧ ∀ p ∈ patterns s.1 s.2, p.length = s.1 * s.2 ∧ p ≠ [] ∧ top p ≤ 3 ∧ (s.1 * s.2 ≤ 2 → top p ≤ 1) := by decide +kernel
theorem ord_pow {k c : Nat} (h : (orders k).length ≤ c) : ∀ n, (laidRows k n).length ≤ c ^ n
  | 0 => Nat.le_refl _
  | n + 1 => by
    show (laidStep k (laidRows k n)).length ≤ _
    unfold laidStep
    have h1 := flat_len (f := fun r : Shs => (orders k).map fun o => r ++ [o]) (k := c) (fun r => by rw [List.length_map]; exact h) (laidRows k n)
    have h3 : (laidRows k n).length * c ≤ c ^ n * c := Nat.mul_le_mul_right c (ord_pow h n)
    rw [Nat.pow_succ]
    omega
theorem orders_two : ∀ k ∈ List.range 3, (orders k).length ≤ 2 := by decide +kernel
theorem laid_cap {w h : Nat} {ss : Shs} {pat : List Nat} (f : fewS w h ss.length) (hp : pat ∈ patterns w h) : (allLaid ss pat).length ≤ cap w h := by
  obtain ⟨hs, k1, k3, hk⟩ := f
  obtain ⟨_, hpp⟩ := rows_cap _ hs
  obtain ⟨_, _, t3, t1⟩ := hpp pat hp
  dsimp only at t3 t1
  have h1 : (allLaid ss pat).length ≤ (laidRows ss.length (top pat + 1)).length := by
    have := dk_len ((laidRows ss.length (top pat + 1)).map (rel ss pat)) []
    rw [List.length_map] at this
    unfold allLaid dkeys
    simp only [List.length_nil] at this
    omega
  refine Nat.le_trans h1 ?_
  unfold cap
  split
  · rename_i hw
    refine Nat.le_trans (laid_len k3 (top pat + 1)) ?_
    exact Nat.le_trans (Nat.pow_le_pow_right (j := 2) (by decide) (by have := t1 hw; omega)) (by decide)
  · rename_i hw
    have hk2 : ss.length ≤ 2 := hk.resolve_left hw
    refine Nat.le_trans (ord_pow (orders_two _ (List.mem_range.mpr (by omega))) (top pat + 1)) ?_
    exact Nat.le_trans (Nat.pow_le_pow_right (j := 4) (by decide) (by omega)) (by decide)
theorem rowsOf_in {w h lo : Nat} {p : List Nat} (hp : p ∈ rowsOf w h lo) : p ∈ patterns w h := (List.mem_filter.mp hp).1
theorem rowsOf_len (w h lo : Nat) : (rowsOf w h lo).length ≤ (patterns w h).length := List.length_filter_le _ _
theorem by_cap {w h lo : Nat} {s : Shs} (f : fewS w h s.length) : (rowsOf w h lo).length * cap w h ≤ 240 ∧ (laidBy (rowsOf w h lo) s).length ≤ 240 := by
  have h1 := (rows_cap _ f.1).1
  dsimp only at h1
  have h2 : (rowsOf w h lo).length * cap w h ≤ 240 := Nat.le_trans (Nat.mul_le_mul_right _ (rowsOf_len w h lo)) h1
  refine ⟨h2, Nat.le_trans (flat_lenM (k := cap w h) _ fun p hp => laid_cap f (rowsOf_in hp)) h2⟩
theorem laidBy_vld {w h lo : Nat} {s o : Shs} (f : fewS w h s.length) (ho : o ∈ laidBy (rowsOf w h lo) s) : vld (w * h) s.length o := by
  obtain ⟨p, hp, h2⟩ := List.mem_flatMap.mp ho
  have hv := laid_vld h2
  rw [((rows_cap _ f.1).2 p (rowsOf_in hp)).1] at hv
  exact hv
/-- what holds of the state at turn i -/
theorem stAt_ok {w h lo mo : Nat} {s0 : Shs} (f : fewS w h s0.length) (h0 : vld (w * h) s0.length s0) (hmo : mo ≤ 2) : ∀ i, i ≤ mo → (∀ s ∈ (stAt (rowsOf w h lo) s0 mo i).1, vld (w * h) s0.length s) ∧ (∀ s ∈ (stAt (rowsOf w h lo) s0 mo i).2, vld (w * h) s0.length s) ∧
    (stAt (rowsOf w h lo) s0 mo i).2.length ≤ 240 ^ i ∧ (stAt (rowsOf w h lo) s0 mo i).1.length ≤ 1000 * i + 240 ^ i
  | 0, _ => ⟨fun s hs => by rw [List.mem_singleton.mp hs]; exact h0, fun s hs => by rw [List.mem_singleton.mp hs]; exact h0, Nat.le_refl _, Nat.le_refl _⟩
  | i + 1, hi => by
    obtain ⟨a1, a2, a3, a4⟩ := stAt_ok f h0 hmo (lo := lo) i (by omega)
    have e : stAt (rowsOf w h lo) s0 mo (i + 1) = addAll (stAt (rowsOf w h lo) s0 mo i).1 ((stAt (rowsOf w h lo) s0 mo i).2.flatMap (laidBy (rowsOf w h lo))) := by
      show nextLv _ _ _ = _
      rw [if_pos (by omega)]
      rfl
    have hv : ∀ o ∈ (stAt (rowsOf w h lo) s0 mo i).2.flatMap (laidBy (rowsOf w h lo)), vld (w * h) s0.length o := fun o ho => by
      obtain ⟨s, hs, h2⟩ := List.mem_flatMap.mp ho
      have := a2 s hs
      have f2 : fewS w h s.length := by rw [this.2]; exact f
      have z := laidBy_vld f2 h2
      rw [this.2] at z
      exact z
    have hl : ((stAt (rowsOf w h lo) s0 mo i).2.flatMap (laidBy (rowsOf w h lo))).length ≤ 240 ^ (i + 1) := by
      have := flat_lenM (f := laidBy (rowsOf w h lo)) (k := 240) (stAt (rowsOf w h lo) s0 mo i).2 fun s hs => by
        have := a2 s hs
        exact (by_cap (by rw [this.2]; exact f)).2
      have h3 := Nat.mul_le_mul_right 240 a3
      rw [Nat.pow_succ]
      omega
    rw [e]
    unfold addAll
    have hlen := addAll_len ((stAt (rowsOf w h lo) s0 mo i).2.flatMap (laidBy (rowsOf w h lo))) ((stAt (rowsOf w h lo) s0 mo i).1, [])
    refine ⟨fun s hs => ?_, fun s hs => ?_, ?_, ?_⟩
    · rcases (addAll_in _ _).1.mp hs with h | h
      · exact a1 s h
      · exact hv s h
    · rcases (addAll_in _ _).2 hs with h | h
      · cases h
      · exact hv s h
    · have := hlen.2
      simp only [List.length_nil] at this
      omega
    · have := hlen.1
      dsimp only at this
      have h240 : 240 ^ i ≤ 240 ^ 1 := Nat.pow_le_pow_right (by decide) (by omega)
      have : 240 ^ 1 = 240 := by decide
      omega
end Sw
set_option Elab.async false
set_option linter.all false
set_option maxRecDepth 100000
set_option maxHeartbeats 1000000
/-! fewest_cuts. -/
namespace Sw
open PySem PySem.Spec PyProof.Rows L2
/-- the dict of what was met -/
structure Mt (H0 : Hp) (M : Addr) (met : List Shs) (H' : Hp) : Prop where
  same : Same H0 H'
  nM : H0 M = none
  at_ : H' M = some (.dT (dtv met))
/-- .. and the list of what is new -/
structure Ml (B : Bs) (H0 : Hp) (M L : Addr) (st : St2) (H' : Hp) : Prop where
  mt : Mt H0 M st.1 H'
  nL : H0 L = none
  ne : L ≠ M
  lst : ∃ vs, H' L = some (.lst vs) ∧ Al (hd (B.addL [M, L]) H') (st.2.map RSh) vs
section
variable {B : Bs} {H0 H' H2 Hk : Hp} {M L : Addr} {met : List Shs} {st : St2}
theorem Mt.up (r : Mt H0 M met H') (e : Same H' H2) : Mt H0 M met H2 := ⟨r.same.trans e, r.nM, e _ _ r.at_⟩
theorem Mt.known (r : Mt H0 M met H') (k : Same Hk (hd B H0)) : Same Hk (hd (B.addL [M]) H') := addL_known k r.same fun a ha => by rw [List.mem_singleton.mp ha]; exact r.nM
theorem Mt.dom (r : Mt H0 M met H') (d : Dom B H0) : Dom (B.addL [M]) H' := addL_dom d r.same fun a ha => by
  rw [List.mem_singleton.mp ha, r.at_]
  exact ⟨fun z => (nomatch z), fun _ z => nomatch z⟩
theorem Ml.up (r : Ml B H0 M L st H') (e : Same H' H2) : Ml B H0 M L st H2 := by
  obtain ⟨m, n, ne, vs, h1, h2⟩ := r
  exact ⟨m.up e, n, ne, vs, e _ _ h1, h2.mono (hd_same e)⟩
theorem Ml.known (r : Ml B H0 M L st H') (k : Same Hk (hd B H0)) : Same Hk (hd (B.addL [M, L]) H') := addL_known k r.mt.same fun a ha => by
  rcases List.mem_cons.mp ha with h | h
  · rw [h]
    exact r.mt.nM
  · rw [List.mem_singleton.mp h]
    exact r.nL
theorem Ml.dom (r : Ml B H0 M L st H') (d : Dom B H0) : Dom (B.addL [M, L]) H' := addL_dom d r.mt.same fun a ha => by
  rcases List.mem_cons.mp ha with h | h
  · rw [h, r.mt.at_]
    exact ⟨fun z => (nomatch z), fun _ z => nomatch z⟩
  · obtain ⟨vs, h1, _⟩ := r.lst
    rw [List.mem_singleton.mp h, h1]
    exact ⟨fun z => (nomatch z), fun _ z => nomatch z⟩
/-- if other not in met: .. -/
theorem s_addOne {K : PySem.W.Frag} {σ : L2.St} {D : Ends} {kM kL kO : Nat} {o : Shs} {v : V} (r : Ml B H0 M L st H') (hM : σ[kM]? = some (some (.ref M))) (hL : σ[kL]? = some (some (.ref L))) (hO : σ[kO]? = some (some v)) (hv : (RSh o).at_ (hd (B.addL [M, L]) H') v) (l1 : st.1.length < 90000) (l2 : st.2.length < 90000)
    (q : ∀ H2, Ml B H0 M L (addOne st o) H2 → hd (B.addL [M, L]) H2 = hd (B.addL [M, L]) H' → D.nx σ H2) :
    tIfS (tB (tDNotIn (tVar kO) (tVar kM))) (tSeq (sDPut (tVar kM) (tVar kO) (tC (.bl true))) (tDrop (tBM K "list" rAppend (tVar kL) (tCons (tVar kO) tNil)))) tNext D σ H' := by
  obtain ⟨a, rfl, ha⟩ := rsh_at hv
  have ha2 : H' a = some (.tup ((kSh o).map kV)) := by rw [kSh_v]; exact (hd_in ha).1
  refine ⟨.ref a, hO, .ref M, hM, M, _, rfl, DGet.t r.mt.at_ ha2, _, rfl, ?_⟩
  rw [dtv_get]
  dsimp only
  by_cases e : o ∈ st.1
  · rw [if_pos e, if_neg (by simp)]
    refine q H' ?_ rfl
    unfold addOne
    rw [if_pos e]
    exact r
  · rw [if_neg e, if_pos (by rfl)]
    obtain ⟨vs, h1, h2⟩ := r.lst
    refine ⟨.ref M, hM, .ref a, hO, M, _, rfl, DPut.t r.mt.at_ ha2 (Nat.lt_of_lt_of_le (by unfold dtv; rw [List.length_map]; exact l1) (by decide : 90000 ≤ sizeLine)), ?_⟩
    rw [dtv_put]
    have e1 : hd (B.addL [M, L]) (upd H' M (.dT (dtv (dkStep st.1 o)))) = hd (B.addL [M, L]) H' := hd_upd (addL_in (by simp))
    have h1' : upd H' M (.dT (dtv (dkStep st.1 o))) L = some (.lst vs) := by rw [upd_ne r.ne]; exact h1
    have ed : dkStep st.1 o = st.1 ++ [o] := by unfold dkStep; rw [if_neg e]
    rw [ed] at e1 h1' ⊢
    have hs1 : Same H0 (upd H' M (.dT (dtv (st.1 ++ [o])))) := fun b x hb => by
      rw [upd_ne (ne_of_none hb r.mt.nM)]
      exact r.mt.same _ _ hb
    have hm1 : upd H' M (.dT (dtv (st.1 ++ [o]))) M = some (.dT (dtv (st.1 ++ [o]))) := upd_same
    generalize upd H' M (.dT (dtv (st.1 ++ [o]))) = H1 at e1 h1' hs1 hm1 ⊢
    refine ⟨.ref L, hL, .inl ⟨rfl, _, SqL.of h1'⟩, .ref a, hO, L, vs, .ref a, rfl, rfl, h1', Nat.lt_of_lt_of_le (by rw [h2.len, List.length_map]; exact l2) (by decide : 90000 ≤ sizeLine), ?_⟩
    have e2 : hd (B.addL [M, L]) (upd H1 L (.lst (vs ++ [.ref a]))) = hd (B.addL [M, L]) H1 := hd_upd (addL_in (by simp))
    refine q _ ?_ (e2.trans e1)
    unfold addOne
    rw [if_neg e]
    refine ⟨⟨fun b x hb => ?_, r.mt.nM, ?_⟩, r.nL, r.ne, vs ++ [.ref a], upd_same, ?_⟩
    · rw [upd_ne (ne_of_none hb r.nL)]
      exact hs1 _ _ hb
    · rw [upd_ne (Ne.symm r.ne)]
      exact hm1
    · rw [e2, e1, List.map_append]
      exact h2.app (.cons ⟨a, o.map vS, rfl, ha, str_al o⟩ .nil)
end
def ROpt : Option Nat → Rp
  | some n => RN n
  | none => RO
theorem find_first {p : Nat → Bool} {n i : Nat} (hi : i < n) (h : p i = true) (hn : ∀ j, j < i → p j = false) : (List.range n).find? p = some i := by
  have e : List.range n = List.range i ++ (List.range (n - i)).map (i + ·) := by
    rw [← List.range_add]
    congr 1
    omega
  rw [e, List.find?_append, List.find?_eq_none.mpr fun x hx => by rw [hn x (List.mem_range.mp hx)]; exact Bool.false_ne_true]
  have e2 : List.range (n - i) = 0 :: (List.range (n - i - 1)).map (· + 1) := by
    have : n - i = (n - i - 1) + 1 := by omega
    rw [this, List.range_succ_eq_map]
    rfl
  rw [e2, List.map_cons, List.find?_cons_of_pos (by simpa using h)]
  rfl
theorem take_flat_len {α β : Type} (f : α → List β) (l : List α) (i : Nat) : ((l.take i).flatMap f).length ≤ (l.flatMap f).length := by
  conv => rhs; rw [← List.take_append_drop i l, List.flatMap_append, List.length_append]
  omega
theorem addAll_app (met : List Shs) (l : List Shs) (o : Shs) : addAll met (l ++ [o]) = addOne (addAll met l) o := by
  unfold addAll
  rw [List.foldl_append]
  rfl
section
variable {P : Program} {w : World} {K : PySem.W.Frag} {mg : Str → Option Value} {base : Heap} {C : Addr}
abbrev FwA := PkA × Shs × Nat × Nat
def preF (a : FwA) : Prop := fewPk a.1 ∧ (a.1.1 * a.1.2.1 ≤ 2 ∨ a.1.2.2.length ≤ 2) ∧ okGoals a.1 a.2.1 ∧ a.2.2.1 ≤ 12 ∧ a.2.2.2 ≤ 2
def resF (a : FwA) : Option Nat := fewest (rowsOf a.1.1 a.1.2.1 a.2.2.1) a.1.2.2 a.2.1 a.2.2.2
def spFew (C : Addr) : Sp := SpOf (α := FwA) (fun a => [RPkA C a.1, RSh a.2.1, RN a.2.2.1, RN a.2.2.2]) preF fun a => ROpt (resF a)
theorem sc43 : FnScope ["packet", "goals", "longest", "most", "rows", "one", "met", "level", "count", "later", "sheets", "pattern", "other"] ["packet", "goals", "longest", "most"] (C8.fnScope (topS 43)) := C8.fnScope_by (by decide +kernel)
theorem c43 (T : Txt K mg) (pk : Pkt K mg C) : C8.Cal P w K mg base 4 "fewest_cuts" (spFew C) [] := by
  refine cal_of T.d43 sc43 (len_of (n := 4) fun _ => rfl) fun f _ cdv A outer s H vs Q E hr h => ?_
  obtain ⟨⟨⟨a, b, ss⟩, gs, lo, mo⟩, B, dm, hvs, ⟨⟨hsh, k1, k2, k3, k4⟩, k5, ⟨g1, g2, g3⟩, hlo, hmo⟩, q⟩ := h
  obtain ⟨h1, h2, h3, h4, h5, h6, h7⟩ := shapes_in _ hsh
  dsimp only at h1 h2 h3 h4 h5 h6 h7 k1 k2 k3 k4 k5 g1 g2 g3 hlo hmo
  obtain ⟨x, y, z, u, rfl, hx, hy, hz, hu⟩ := hvs.four
  have hx : (RPk C a b ss).at_ (hd B H) x := hx
  have hy : (RSh gs).at_ (hd B H) y := hy
  have hz : (RN lo).at_ (hd B H) z := hz
  have hu : (RN mo).at_ (hd B H) u := hu
  have q : Ret B (ROpt (fewest (rowsOf a b lo) ss gs mo)) H Q := q
  have ff : fewS a b ss.length := ⟨hsh, k3, k4, k5⟩
  have v0 : vld (a * b) ss.length ss := ⟨k2, rfl⟩
  have hst := stAt_ok (lo := lo) (mo := mo) ff v0 hmo
  have hsm := shapes_many _ hsh
  have c37 := c37 (P := P) (w := w) (base := base) T pk
  have c18 := c18 (P := P) (w := w) (base := base) T
  have c26 := c26 (P := P) (w := w) (base := base) T
  have c28 := c28 (P := P) (w := w) (base := base) T pk
  have c42 := c42 (P := P) (w := w) (base := base) T
  refine ⟨_, (pss_cons (ps_expr (C8.pe_c c37 hr (by decide) (by rfl) (pa_cons (pv 0) (pa_cons (pv 1) pa_nil))))
      (pss_cons (ps_if (pw_or (pt_not (pt_val (C8.pe_c c18 hr (by decide) (by rfl) (pa_cons (pv 2) (pa_cons pe_int (pa_cons (pe_k (by rfl) T.mlen) pa_nil)))))) (pw_or1 (pt_not (pt_val (C8.pe_c c18 hr (by decide) (by rfl) (pa_cons (pv 3) (pa_cons pe_int (pa_cons (pe_k (by rfl) T.mcuts) pa_nil)))))))).pt pss_never pss_nil)
      (pss_cons (ps_if (pw_or (pt_cmpR op_gt (pe_prp pk (pCells (P := P) (w := w) (base := base) pk) hr (by decide) (pv 0)) (pe_k (by rfl) T.fcells) (nomark _)) (pw_or1 (pt_cmpR op_gt (pe_plen T (pLen (P := P) (w := w) (base := base) T pk) hr (by decide) (by rfl) (pv 0)) (pe_k (by rfl) T.fsheets) (nomark _)))).pt pss_never pss_nil)
      (pss_cons (ps_setLc (own := [("one", 5)]) (g := (gName 5)) (i := 4) rfl sc43.nd rfl rfl rfl (show PI _ _ _ (iList K _) from (pi_list (C8.pe_c c26 hr (by decide) (by rfl) (pa_cons (pe_prp pk (pWidth (P := P) (w := w) (base := base) pk) hr (by decide) (pv 0)) (pa_cons (pe_prp pk (pHeight (P := P) (w := w) (base := base) pk) hr (by decide) (pv 0)) pa_nil))))) (blkOk_by (N := ["packet", "goals", "longest", "most", "rows", "one", "met", "level", "count", "later", "sheets", "pattern", "other"]) (sc := C8.fnScope (topS 43)) (by decide +kernel)) (fun _ _ _ _ _ => (pg_name (i := 5) sc43.nd rfl (by first | exact .inl rfl | exact .inr rfl))) (fun _ _ _ _ _ => (pts_one (pt_cmpR op_le (C8.pe_c c28 hr (by decide) (by rfl) (pa_cons (pv 0) (pa_cons (pv 5) pa_nil))) (pv 2) (nomark _)))) (fun _ _ _ _ _ => (pv 5)))
      (pss_cons (ps_par rfl sc43.nd (i := 6) (j := 7) rfl rfl (by decide) rfl rfl (pa_cons (pe_disp1 (hu1 hr) (pe_prp pk (pSheets (P := P) (w := w) (base := base) pk) hr (by decide) (pv 0)) pe_bl) (pa_cons (pe_lst (pa_cons (pe_prp pk (pSheets (P := P) (w := w) (base := base) pk) hr (by decide) (pv 0)) pa_nil)) pa_nil)) rfl)
      (pss_cons (ps_for PassesOwn.never rfl (pi_range1 (by rfl) (T.no "range") (pa_cons (pe_op op_add (pv 3) pe_int) pa_nil)) (pg_name (i := 8) sc43.nd rfl (by first | exact .inl rfl | exact .inr rfl)) (pss_cons (ps_if (pt_cmp (pc_din (hu1 hr) (pv 1) (pv 6))) (pss_one (ps_ret (pv 8))) pss_nil)
      (pss_cons (ps_set (i := 9) sc43.nd rfl (by first | exact .inl rfl | exact .inr rfl) (pe_lst pa_nil))
      (pss_cons (ps_for PassesOwn.never rfl (show PI _ _ _ (iList K _) from (pi_list (pe_ifExp (pt_cmpR op_lt (pv 8) (pv 3) (nomark _)) (pv 7) (pe_lst pa_nil)))) (pg_name (i := 10) sc43.nd rfl (by first | exact .inl rfl | exact .inr rfl)) (pss_one (ps_for PassesOwn.never rfl (show PI _ _ _ (iList K _) from (pi_list (pv 4))) (pg_name (i := 11) sc43.nd rfl (by first | exact .inl rfl | exact .inr rfl)) (pss_one (ps_for PassesOwn.never rfl (show PI _ _ _ (iList K _) from (pi_list (C8.pe_c c42 hr (by decide) (by rfl) (pa_cons (pv 10) (pa_cons (pv 11) pa_nil))))) (pg_name (i := 12) sc43.nd rfl (by first | exact .inl rfl | exact .inr rfl)) (pss_one (ps_if (pt_cmp (pc_dnotin (hu1 hr) (pv 12) (pv 6))) (pss_cons (ps_dput (hu1 hr) (pv 6) (pv 12) pe_bl rfl)
      (pss_one (ps_expr (pe_bm PySem.F.plainAttrs_list PySem.F.slot_list_append PySem.F.type_list_append mt_append (pv 9) (pa_cons (pv 12) pa_nil))))) pss_nil)))))))
      (pss_one (ps_set (i := 7) sc43.nd rfl (by first | exact .inl rfl | exact .inr rfl) (pv 9)))))))
      (pss_one (ps_ret pe_non)))))))), ?_⟩
  let σ0 : L2.St := [some x, some y, some z, some u, none, none, none, none, none, none, none, none, none]
  have ex {Hz : Hp} (s : Same (hd B H) Hz) : Ev (tVar 0) σ0 Hz (RPk C a b ss) := ev_var rfl (Rp.mono _ s hx)
  have ey {Hz : Hp} (s : Same (hd B H) Hz) : Ev (tVar 1) σ0 Hz (RSh gs) := ev_var rfl (Rp.mono _ s hy)
  have ez {Hz : Hp} (s : Same (hd B H) Hz) : Ev (tVar 2) σ0 Hz (RN lo) := ev_var rfl (Rp.mono _ s hz)
  have eu {Hz : Hp} (s : Same (hd B H) Hz) : Ev (tVar 3) σ0 Hz (RN mo) := ev_var rfl (Rp.mono _ s hu)
  have hc1 : Ev (tCall (spGoals C) [] C8.E0 (tCons (tVar 0) (tCons (tVar 1) tNil))) σ0 (hd B H) RO := ev_call (α := PkA × Shs) ((a, b, ss), gs) (ea_cons (ex (Same.refl _)) (ea_cons (ey (Same.refl _)) ea_nil)) ⟨⟨hsh, k1, k2, k3, k4⟩, ⟨g1, g2, g3⟩⟩
  refine q_drop dm hc1 fun H1 s1 d1 => ?_
  have hc2 : Ev (tCall spNum [] C8.E0 (tCons (tVar 2) (tCons (tC (.int 0)) (tCons (tC (.int 12)) tNil)))) σ0 (hd B H1) (RB true) := ev_is (ev_call (α := Int × Int × Int) ((lo : Int), 0, 12) (ea_cons (ez (hd_same s1)) (ea_cons ev_int (ea_cons ev_int ea_nil))) trivial) (by
    show RB (decide ((0 : Int) ≤ (lo : Int)) && decide ((lo : Int) ≤ 12)) = RB true
    rw [decide_eq_true (by omega), decide_eq_true (by omega)]
    rfl)
  have hc3 : Ev (tCall spNum [] C8.E0 (tCons (tVar 3) (tCons (tC (.int 0)) (tCons (tC (.int 3)) tNil)))) σ0 (hd B H1) (RB true) := ev_is (ev_call (α := Int × Int × Int) ((mo : Int), 0, 3) (ea_cons (eu (hd_same s1)) (ea_cons ev_int (ea_cons ev_int ea_nil))) trivial) (by
    show RB (decide ((0 : Int) ≤ (mo : Int)) && decide ((mo : Int) ≤ 3)) = RB true
    rw [decide_eq_true (by omega), decide_eq_true (by omega)]
    rfl)
  refine q_if (b := false) d1 (et_or (et_not (a := true) (et_B hc2)) fun _ => et_not (a := true) (et_B hc3)) (fun h => nomatch h) fun _ H2 s2 d2 => ?_
  have s02 := s1.trans s2
  have hcl : Ev (SlX.tPropSl C (spGet C fun a b _ => RN (a * b)) C8.E0 (tVar 0)) σ0 (hd B H2) (RN (a * b)) := ev_prp (a := a) (b := b) (ss := ss) (ex (hd_same s02)) (by omega) (by omega) (by omega)
  refine q_if (b := false) d2 (et_is (et_or (et_test (ev_cmpI (g := fun i j => decide (j < i)) hcl (ev_int (k := 4)))) fun _ => et_test (ev_cmpI (g := fun i j => decide (j < i)) (ev_plen (a := a) (b := b) (ss := ss) (ex (hd_same s02)) (by omega) (by omega) (by omega)) (ev_int (k := 3)))) ?_) (fun h => nomatch h) fun _ H3 s3 d3 => ?_
  · rw [decide_eq_false (by omega), decide_eq_false (by omega)]
    rfl
  have s03 := s02.trans s3
  have hpn := rows_cap _ hsh
  have hpc : Ev (tCall spPats [] C8.E0 (tCons (SlX.tPropSl C (spGet C fun a _ _ => RN a) C8.E0 (tVar 0)) (tCons (SlX.tPropSl C (spGet C fun _ b _ => RN b) C8.E0 (tVar 0)) tNil))) σ0 (hd B H3) (RL ((patterns a b).map RP)) := ev_call (α := Nat × Nat) (a, b) (ea_cons (ev_prp (ex (hd_same s03)) (by omega) (by omega) (by omega)) (ea_cons (ev_prp (ex (hd_same s03)) (by omega) (by omega) (by omega)) ea_nil)) hsh
  refine q_set (r := RL ((rowsOf a b lo).map RP)) d3 (ev_is (ev_lcN (σ := σ0) (vs := [5]) (j := 5) (xs := patterns a b) (ρ := RP) (fun p => if decide (lenOf a b p ≤ lo) = true then some (RP p) else none) (ei_list hpc) (by dsimp only at hsm; omega) (fun _ => rfl) (fun p v Hz hp sz hv => ?_) fun p v Hz rp hp sz hv hrp => ?_) ?_) fun v4 H4 s4 d4 hv4 => ?_
  · refine et_is (et_test (ev_leN (ev_call (α := PkA × List Nat) ((a, b, ss), p) (ea_cons (ev_var rfl (Rp.mono _ ((hd_same s03).trans sz) hx)) (ea_cons (ev_var rfl hv) ea_nil)) ⟨⟨hsh, k1, k2, k3, k4⟩, (hpn.2 p hp).1⟩) (ev_var rfl (Rp.mono _ ((hd_same s03).trans sz) hz)))) ?_
    by_cases e : lenOf a b p ≤ lo <;> simp [e]
  · split at hrp
    · rw [← Option.some.inj hrp]
      exact ev_var rfl hv
    · cases hrp
  · rw [filter_fm]
    rfl
  have s04 := s03.trans s4
  show tSeq _ _ _ ([some x, some y, some z, some u, some v4, none, none, none, none, none, none, none, none] : L2.St) H4
  intro M hM
  have d4' : Dom B (upd H4 M (.dT [])) := d4.same (same_upd hM)
  have s04' : Same H (upd H4 M (.dT [])) := s04.trans (same_upd hM)
  refine ev_prp (a := a) (b := b) (ss := ss) (ev_var rfl hx) (by omega) (by omega) (by omega) B _ (hd_same s04') d4' _ fun vt H5 s5 ht => ?_
  obtain ⟨at1, rfl, hat⟩ := rsh_at ht
  have hM5 : H5 M = some (.dT []) := s5 _ _ upd_same
  refine ⟨kSh ss, at1, rfl, by rw [kSh_v]; exact (hd_in hat).1, hM5, ?_⟩
  have hM0 : H M = none := by
    cases q0 : H M with
    | none => rfl
    | some o =>
      rw [s04 _ _ q0] at hM
      cases hM
  have m6 : Mt H M [ss] (upd H5 M (.dT [(kSh ss, V.bl true)])) := ⟨fun c o hc => by
    rw [upd_ne (ne_of_none hc hM0)]
    exact s5 _ _ (s04' _ _ hc), hM0, upd_same⟩
  have k46 : Same (hd B H4) (hd (B.addL [M]) (upd H5 M (.dT [(kSh ss, V.bl true)]))) := fun c o hc => by
    obtain ⟨c1, c2⟩ := hd_in hc
    have hcM : c ≠ M := ne_of_none c1 hM
    refine hd_of ?_ ((addL_ne (fun hm => hcM (List.mem_singleton.mp hm))).trans c2)
    rw [upd_ne hcM]
    exact s5 _ _ (same_upd hM _ _ c1)
  generalize upd H5 M (.dT [(kSh ss, V.bl true)]) = H6 at m6 k46
  have d6 := m6.dom dm
  have k6 := m6.known (Same.refl (hd B H))
  refine ev_lst (rs := [RSh ss]) (ea_cons (ev_prp (a := a) (b := b) (ss := ss) (ev_var rfl (Rp.mono _ k6 hx)) (by omega) (by omega) (by omega)) ea_nil) (by show 1 ≤ 100000; decide) (B.addL [M]) H6 (Same.refl _) d6 _ fun vl H7 s7 hl7 => ?_
  refine ⟨_, _, rfl, ?_⟩
  show tSeq _ _ _ ([some x, some y, some z, some u, some v4, none, some (.ref M), some vl, none, none, none, none, none] : L2.St) H7
  have m7 := m6.up s7
  have k7 := m7.known (Same.refl (hd B H))
  have hv7 : (RL ((rowsOf a b lo).map RP)).at_ (hd (B.addL [M]) H7) v4 := Rp.mono _ (k46.trans (hd_same s7)) hv4
  refine q_for (m7.dom dm) (ei_rng1 (n := mo + 1) (ea_cons (ev_addN (ev_var rfl (Rp.mono _ k7 hu)) (ev_nat (n := 1))) ea_nil) (by omega)) fun H8 s8 d8 => ?_
  refine ⟨B.addL [M], fun i σ' H' => (∃ lv c8 c9 c10 c11 c12, σ' = [some x, some y, some z, some u, some v4, none, some (.ref M), some lv, c8, c9, c10, c11, c12] ∧ Mt H M (stAt (rowsOf a b lo) ss mo i).1 H' ∧ (RL ((stAt (rowsOf a b lo) ss mo i).2.map RSh)).at_ (hd (B.addL [M]) H') lv) ∧ Same (hd (B.addL [M]) H8) (hd (B.addL [M]) H') ∧ ∀ j, j < i → gs ∉ (stAt (rowsOf a b lo) ss mo j).1,
    ⟨⟨vl, _, _, _, _, _, rfl, m7.up s8, Rp.mono _ (hd_same s8) hl7⟩, Same.refl _, fun j hj => by omega⟩, fun i σ' H' _ ⟨⟨_, _, _, _, _, _, _, m, _⟩, sm, _⟩ => ⟨m.dom dm, sm⟩, ?_, ?_⟩
  · rintro i r0 v σ' H' H9 hr0 ⟨⟨lv, c8, c9, c10, c11, c12, rfl, m, hlv⟩, sm, hno⟩ e9 hv
    obtain ⟨hi, er⟩ := rng_at hr0
    subst er
    have hvi : v = vN i := hv
    subst hvi
    have m9 := m.up e9
    have k9 := m9.known (Same.refl (hd B H))
    obtain ⟨ag, rfl, hag⟩ := rsh_at hy
    have hag9 : H9 ag = some (.tup ((kSh gs).map kV)) := by rw [kSh_v]; exact (hd_in (k9 _ _ hag)).1
    obtain ⟨w1, w2, w3, w4⟩ := hst i (by omega)
    show tSeq _ _ _ ([some x, some (.ref ag), some z, some u, some v4, none, some (.ref M), some lv, some (vN i), c9, c10, c11, c12] : L2.St) H9
    refine ⟨.ref ag, rfl, .ref M, rfl, M, _, rfl, DGet.t m9.at_ hag9, _, rfl, ?_⟩
    rw [dtv_get]
    dsimp only
    by_cases hin : gs ∈ (stAt (rowsOf a b lo) ss mo i).1
    · rw [if_pos hin, if_pos (by rfl)]
      refine s_ret (dm.same m9.same) (ev_var (r := ROpt (fewest (rowsOf a b lo) ss gs mo)) rfl ?_) (q.go m9.same)
      have e : fewest (rowsOf a b lo) ss gs mo = some i := find_first hi (decide_eq_true hin) fun j hj => decide_eq_false (hno j hj)
      rw [e]
      exact rfl
    · rw [if_neg hin, if_neg (by simp)]
      refine ⟨Nat.zero_le _, fun L hL => ?_⟩
      have hL0 : H L = none := by
        cases q0 : H L with
        | none => rfl
        | some o =>
          rw [m9.same _ _ q0] at hL
          cases hL
      have hLM : L ≠ M := fun e => by
        rw [e, m9.at_] at hL
        cases hL
      have r10 : Ml B H M L ((stAt (rowsOf a b lo) ss mo i).1, []) (upd H9 L (.lst [])) := ⟨m9.up (same_upd hL), hL0, hLM, [], upd_same, .nil⟩
      have kk : Same (hd (B.addL [M]) H9) (hd (B.addL [M, L]) (upd H9 L (.lst []))) := fun c o hc => by
        obtain ⟨c1, c2⟩ := hd_in hc
        have hcL : c ≠ L := ne_of_none c1 hL
        refine hd_of (by rw [upd_ne hcL]; exact c1) ?_
        by_cases e : c = M
        · rw [e, addL_in (by simp)] at c2
          cases c2
        · rw [addL_ne (by simp [e])] at c2
          rw [addL_ne (by simp [e, hcL])]
          exact c2
      generalize upd H9 L (.lst []) = H10 at r10 kk
      show tSeq _ _ _ ([some x, some (.ref ag), some z, some u, some v4, none, some (.ref M), some lv, some (vN i), some (.ref L), c10, c11, c12] : L2.St) H10
      have k10 := r10.known (Same.refl (hd B H))
      have sm10 : Same (hd (B.addL [M]) H8) (hd (B.addL [M, L]) H10) := (sm.trans (hd_same e9)).trans kk
      have hv10 : (RL ((rowsOf a b lo).map RP)).at_ (hd (B.addL [M, L]) H10) v4 := Rp.mono _ ((hd_same s8).trans sm10) hv7
      have hlv10 : (RL ((stAt (rowsOf a b lo) ss mo i).2.map RSh)).at_ (hd (B.addL [M, L]) H10) lv := Rp.mono _ ((hd_same e9).trans kk) hlv
      let lev := if i < mo then (stAt (rowsOf a b lo) ss mo i).2 else []
      have hlev : ∀ s ∈ lev, vld (a * b) ss.length s := fun s hs => by
        show vld _ _ _
        by_cases e : i < mo
        · have hs : s ∈ (if i < mo then (stAt (rowsOf a b lo) ss mo i).2 else []) := hs
          rw [if_pos e] at hs
          exact w2 s hs
        · have hs : s ∈ (if i < mo then (stAt (rowsOf a b lo) ss mo i).2 else []) := hs
          rw [if_neg e] at hs
          cases hs
      have hall : (lev.flatMap (laidBy (rowsOf a b lo))).length ≤ 57600 := by
        have z1 := flat_lenM (f := laidBy (rowsOf a b lo)) (k := 240) lev fun s hs => (by_cap (by rw [(hlev s hs).2]; exact ff)).2
        have z2 : lev.length ≤ 240 := by
          show (if i < mo then (stAt (rowsOf a b lo) ss mo i).2 else []).length ≤ 240
          split
          · refine Nat.le_trans w3 ?_
            exact Nat.le_trans (Nat.pow_le_pow_right (j := 1) (by decide) (by omega)) (by decide)
          · exact Nat.zero_le _
        have := Nat.mul_le_mul_right 240 z2
        omega
      have hmet : (stAt (rowsOf a b lo) ss mo i).1.length ≤ 31000 ∨ lev = [] := by
        by_cases e : i < mo
        · refine .inl (Nat.le_trans w4 ?_)
          have : 240 ^ i ≤ 240 ^ 1 := Nat.pow_le_pow_right (by decide) (by omega)
          have h240 : (240 : Nat) ^ 1 = 240 := by decide
          omega
        · right
          show (if i < mo then (stAt (rowsOf a b lo) ss mo i).2 else []) = []
          rw [if_neg e]
      have hli : Ev (tIf (tTest (tOp (rI0 fun i j => .bl (decide (i < j))) (tVar 8) (tVar 3))) (tVar 7) (tLst tNil)) [some x, some (.ref ag), some z, some u, some v4, none, some (.ref M), some lv, some (vN i), some (.ref L), c10, c11, c12] (hd (B.addL [M, L]) H10) (RL (lev.map RSh)) := by
        refine ev_if (b := decide (i < mo)) (et_test (ev_ltN (ev_var rfl rfl) (ev_var rfl (Rp.mono _ k10 hu)))) (fun hb => ?_) fun hb => ?_
        · show Ev _ _ _ (RL ((if i < mo then (stAt (rowsOf a b lo) ss mo i).2 else []).map RSh))
          rw [if_pos (of_decide_eq_true hb)]
          exact ev_var rfl hlv10
        · show Ev _ _ _ (RL ((if i < mo then (stAt (rowsOf a b lo) ss mo i).2 else []).map RSh))
          rw [if_neg (of_decide_eq_false hb)]
          exact ev_lst ea_nil (by decide)
      refine q_for (r10.dom dm) (ei_list hli) fun H11 s11 d11 => ?_
      refine ⟨B.addL [M, L], fun i1 σ' H' => (∃ c10 c11 c12, σ' = [some x, some (.ref ag), some z, some u, some v4, none, some (.ref M), some lv, some (vN i), some (.ref L), c10, c11, c12]) ∧ Ml B H M L (addAll (stAt (rowsOf a b lo) ss mo i).1 ((lev.take i1).flatMap (laidBy (rowsOf a b lo)))) H' ∧ Same (hd (B.addL [M, L]) H11) (hd (B.addL [M, L]) H'),
        ⟨⟨_, _, _, rfl⟩, r10.up s11, Same.refl _⟩, fun i1 σ' H' _ ⟨_, r, sm⟩ => ⟨r.dom dm, sm⟩, ?_, ?_⟩
      · rintro i1 r1 v1 σ1 H12 H13 hr1 ⟨⟨c10, c11, c12, rfl⟩, r12, sm12⟩ e13 hv1
        obtain ⟨s, hs, er⟩ := map_at hr1
        subst er
        have hsv := hlev s (List.mem_of_getElem? hs)
        have hmet : (stAt (rowsOf a b lo) ss mo i).1.length ≤ 31000 := hmet.resolve_right fun e => by
          rw [e] at hs
          simp at hs
        have r13 := r12.up e13
        have k13 := r13.known (Same.refl (hd B H))
        have sm13 := sm12.trans (hd_same e13)
        have sm1013 : Same (hd (B.addL [M, L]) H10) (hd (B.addL [M, L]) H13) := (hd_same s11).trans sm13
        show tFor _ _ _ _ ([some x, some (.ref ag), some z, some u, some v4, none, some (.ref M), some lv, some (vN i), some (.ref L), some v1, c11, c12] : L2.St) H13
        refine s_for (r13.dom dm) (ei_list (ev_var rfl (Rp.mono _ sm1013 hv10))) fun H14 s14 d14 => ?_
        refine ⟨B.addL [M, L], fun j σ' H' => (∃ c11 c12, σ' = [some x, some (.ref ag), some z, some u, some v4, none, some (.ref M), some lv, some (vN i), some (.ref L), some v1, c11, c12]) ∧ Ml B H M L (addAll (stAt (rowsOf a b lo) ss mo i).1 ((lev.take i1).flatMap (laidBy (rowsOf a b lo)) ++ ((rowsOf a b lo).take j).flatMap (allLaid s))) H' ∧ Same (hd (B.addL [M, L]) H14) (hd (B.addL [M, L]) H'),
          ⟨⟨_, _, rfl⟩, by rw [List.take_zero, List.flatMap_nil, List.append_nil]; exact r13.up s14, Same.refl _⟩, fun j σ' H' _ ⟨_, r, sm⟩ => ⟨r.dom dm, sm⟩, ?_, ?_⟩
        · rintro j r2 v2 σ2 H15 H16 hr2 ⟨⟨c11, c12, rfl⟩, r15, sm15⟩ e16 hv2
          obtain ⟨p, hp, er⟩ := map_at hr2
          subst er
          obtain ⟨p1, p2, p3, _⟩ := hpn.2 p (rowsOf_in (List.mem_of_getElem? hp))
          dsimp only at p1
          have r16 := r15.up e16
          have sm16 := sm15.trans (hd_same e16)
          have sm1316 : Same (hd (B.addL [M, L]) H13) (hd (B.addL [M, L]) H16) := (hd_same s14).trans sm16
          show tFor _ _ _ _ ([some x, some (.ref ag), some z, some u, some v4, none, some (.ref M), some lv, some (vN i), some (.ref L), some v1, some v2, c12] : L2.St) H16
          refine s_for (r16.dom dm) (ei_list (ev_call (α := Shs × List Nat) (s, p) (ea_cons (ev_var rfl (Rp.mono _ sm1316 hv1)) (ea_cons (ev_var rfl hv2) ea_nil)) ⟨p2, p3, by dsimp only; rw [hsv.2]; omega, fun l hl => by dsimp only at hl ⊢; rw [hsv.1 l hl, p1], by dsimp only; omega⟩)) fun H17 s17 d17 => ?_
          refine ⟨B.addL [M, L], fun k σ' H' => (∃ c12, σ' = [some x, some (.ref ag), some z, some u, some v4, none, some (.ref M), some lv, some (vN i), some (.ref L), some v1, some v2, c12]) ∧ Ml B H M L (addAll (stAt (rowsOf a b lo) ss mo i).1 ((lev.take i1).flatMap (laidBy (rowsOf a b lo)) ++ ((rowsOf a b lo).take j).flatMap (allLaid s) ++ (allLaid s p).take k)) H' ∧ Same (hd (B.addL [M, L]) H17) (hd (B.addL [M, L]) H'),
            ⟨⟨_, rfl⟩, by rw [List.take_zero, List.append_nil]; exact r16.up s17, Same.refl _⟩, fun k σ' H' _ ⟨_, r, sm⟩ => ⟨r.dom dm, sm⟩, ?_, ?_⟩
          · rintro k r3 v3 σ3 H18 H19 hr3 ⟨⟨c12, rfl⟩, r18, sm18⟩ e19 hv3
            obtain ⟨o, ho, er⟩ := map_at hr3
            subst er
            have hk := (List.getElem?_eq_some_iff.mp ho).1
            have b1 : ((lev.take i1).flatMap (laidBy (rowsOf a b lo))).length + (laidBy (rowsOf a b lo) s).length ≤ 57600 := by
              have z1 := take_flat_len (laidBy (rowsOf a b lo)) lev (i1 + 1)
              rw [take_flat hs, List.length_append] at z1
              omega
            have b2 : (((rowsOf a b lo).take j).flatMap (allLaid s)).length + (allLaid s p).length ≤ (laidBy (rowsOf a b lo) s).length := by
              have z1 := take_flat_len (allLaid s) (rowsOf a b lo) (j + 1)
              rw [take_flat hp, List.length_append] at z1
              exact z1
            have b3 := addAll_len ((lev.take i1).flatMap (laidBy (rowsOf a b lo)) ++ ((rowsOf a b lo).take j).flatMap (allLaid s) ++ (allLaid s p).take k) ((stAt (rowsOf a b lo) ss mo i).1, [])
            rw [List.length_append, List.length_append, List.length_take] at b3
            dsimp only at b3
            simp only [List.length_nil] at b3
            refine s_addOne (B := B) (σ := [some x, some (.ref ag), some z, some u, some v4, none, some (.ref M), some lv, some (vN i), some (.ref L), some v1, some v2, some v3]) (r18.up e19) rfl rfl rfl hv3 (by unfold addAll; omega) (by unfold addAll; omega) fun H20 r20 e20 => ⟨⟨_, rfl⟩, ?_, ?_⟩
            · rw [List.take_add_one, ho, Option.toList_some, ← List.append_assoc, addAll_app]
              exact r20
            · rw [e20]
              exact sm18.trans (hd_same e19)
          · rintro σ3 H18 ⟨⟨c12, rfl⟩, r18, sm18⟩
            rw [List.length_map, List.take_length] at r18
            refine ⟨⟨_, _, rfl⟩, ?_, sm16.trans ((hd_same s17).trans sm18)⟩
            rw [take_flat hp, ← List.append_assoc]
            exact r18
        · rintro σ2 H15 ⟨⟨c11, c12, rfl⟩, r15, sm15⟩
          rw [List.length_map, List.take_length] at r15
          refine ⟨⟨_, _, _, rfl⟩, ?_, sm13.trans ((hd_same s14).trans sm15)⟩
          rw [take_flat hs]
          exact r15
      · rintro σ1 H12 ⟨⟨c10, c11, c12, rfl⟩, r12, sm12⟩
        rw [List.length_map, List.take_length] at r12
        obtain ⟨vs2, hL2, hal⟩ := r12.lst
        have hBL : (B.addL [M]) L = false := by
          rw [addL_ne (by simp [hLM])]
          exact dm.fresh hL0
        have kl : Same (hd (B.addL [M, L]) H12) (hd (B.addL [M]) H12) := fun c o hc => by
          obtain ⟨c1, c2⟩ := hd_in hc
          refine hd_of c1 ?_
          have hn : c ∉ [M, L] := fun hm => by
            rw [addL_in hm] at c2
            cases c2
          rw [addL_ne hn] at c2
          rw [addL_ne (fun hm => hn (by rw [List.mem_singleton.mp hm]; simp))]
          exact c2
        refine ⟨.ref L, rfl, ⟨.ref L, _, _, _, _, _, rfl, r12.mt, L, vs2, rfl, hd_of hL2 hBL, hal.mono kl⟩, (sm10.trans ((hd_same s11).trans sm12)).trans kl, fun j hj => ?_⟩
        by_cases e : j = i
        · rw [e]
          exact hin
        · exact hno j (by omega)
  · rintro σ' H' ⟨⟨lv, c8, c9, c10, c11, c12, rfl, m, hlv⟩, sm, hno⟩
    rw [List.length_map, List.length_range] at hno
    refine s_ret (dm.same m.same) (ev_c (r := ROpt (fewest (rowsOf a b lo) ss gs mo)) ?_) (q.go m.same)
    have e : fewest (rowsOf a b lo) ss gs mo = none := List.find?_eq_none.mpr fun c hc => by
      rw [decide_eq_false (hno c (List.mem_range.mp hc))]
      exact Bool.false_ne_true
    rw [e]
    exact rfl
end
end Sw
set_option Elab.async false
set_option linter.all false
set_option maxRecDepth 100000
set_option maxHeartbeats 1000000
/-! The law's own: near, cells, orders, all, relaid, long. -/
namespace Sw
open PySem PySem.Spec PyProof.Rows L2
theorem is_ite {α : Type} (b : Bool) (r : α) : b = (if b = true then some r else none).isSome := by cases b <;> rfl
section
variable {K : PySem.W.Frag} {σ : L2.St} {H : Hp} {ta tb te : TE}
theorem ev_neg {i : Int} (h : Ev te σ H (RI i)) : Ev (tUn (rU fun i => .int (-i)) te) σ H (RI (-i)) := fun B H1 e d Q q => h B H1 e d _ fun v H2 e2 hv => ⟨i, hv, q _ H2 e2 rfl⟩
theorem ev_in2 {i j k : Int} (ha : Ev ta σ H (RI i)) (hb : Ev tb σ H (RT [RI j, RI k])) : Ev (tOp (rIn K false) ta tb) σ H (RB (decide (j = i) || decide (k = i))) :=
  ev_op ha hb fun B H1 x y _ _ hx hy _ q => by
    have ex : x = .int i := hx
    subst ex
    obtain ⟨a, vs, ey, hav, hv⟩ := hy
    obtain ⟨u, t, rfl, hu, ht⟩ := hv.two
    have e1 : u = .int j := hu
    have e2 : t = .int k := ht
    subst e1
    subst e2
    subst ey
    refine ⟨a, _, rfl, .inr (SqT.of (hd_in hav).1), rfl, rfl, q _ H1 (Same.refl H1) ?_⟩
    have ei : ∀ a b : Int, (a == b) = decide (a = b) := fun a b => by
      by_cases e : a = b
      · subst e
        simp
      · rw [decide_eq_false e]
        exact beq_eq_false_iff_ne.mpr e
    show V.bl ((j == i) || ((k == i) || false)) = V.bl _
    rw [ei, ei, Bool.or_false]
theorem ev_intB {b : Bool} (h : Ev te σ H (RB b)) : Ev (tCB (fun xs H Q => (∃ i, xs = [V.int i] ∧ Q (V.int i) H) ∨ ∃ k, xs = [V.bl k] ∧ Q (V.int (if k then 1 else 0)) H) (tCons te tNil)) σ H (RN (if b = true then 1 else 0)) :=
  ev_cb (ea_cons h ea_nil) fun B H1 vs _ _ hvs _ q => by
    obtain ⟨v, e, hv⟩ := hvs.one
    have ev : v = .bl b := hv
    subst ev
    refine .inr ⟨b, e, q _ H1 (Same.refl H1) ?_⟩
    cases b <;> rfl
theorem ev_catP {p : List Nat} {n : Nat} (ha : Ev ta σ H (RP p)) (hb : Ev tb σ H (RN n)) (hl : p.length ≤ 90000) : Ev (tOp (rCatA K) ta (tTup (tCons tb tNil))) σ H (RP (p ++ [n])) :=
  ev_is (ev_catT ha (ev_tup (ea_cons hb ea_nil) (by show 1 ≤ 100000; decide)) (by rw [List.length_map]; show p.length + 1 ≤ 100000; omega)) (by rw [← List.map_singleton (f := RN), ← List.map_append])
theorem ev_catR {p : Shs} {o : List Nat} (ha : Ev ta σ H (RT (p.map RP))) (hb : Ev tb σ H (RP o)) (hl : p.length ≤ 90000) : Ev (tOp (rCatA K) ta (tTup (tCons tb tNil))) σ H (RT ((p ++ [o]).map RP)) :=
  ev_is (ev_catT ha (ev_tup (ea_cons hb ea_nil) (by show 1 ≤ 100000; decide)) (by rw [List.length_map]; show p.length + 1 ≤ 100000; omega)) (by rw [← List.map_singleton (f := RP), ← List.map_append])
end
section
variable {P : Program} {w : World} {K : PySem.W.Frag} {mg : Str → Option Value} {base : Heap}
def spNear : Sp := SpOf (α := PkA × Nat × Nat) (fun a => [RPt a.1.1 a.1.2.1 a.1.2.2, RN a.2.1, RN a.2.2]) (fun a => 1 ≤ a.1.1 ∧ a.1.1 ≤ 1000) fun a => RB (near a.1.1 a.2.1 a.2.2)
theorem sc50 : FnScope ["_law_s", "_law_one", "_law_other", "_law_w"] ["_law_s", "_law_one", "_law_other"] (C8.fnScope (topS 50)) := C8.fnScope_by (by decide +kernel)
theorem c50 (T : Txt K mg) : C8.Cal P w K mg base 1 "_law_near" spNear [] := by
  refine cal_of T.d50 sc50 (len_of (n := 3) fun _ => rfl) fun f _ cdv A outer s H vs Q E hr h => ?_
  obtain ⟨⟨⟨wd, hh, ss⟩, a, b⟩, B, dm, hvs, ⟨h1, h2⟩, q⟩ := h
  dsimp only at h1 h2
  obtain ⟨x, y, z, rfl, hx, hy, hz⟩ := hvs.three
  have hx : (RPt wd hh ss).at_ (hd B H) x := hx
  have hy : (RN a).at_ (hd B H) y := hy
  have hz : (RN b).at_ (hd B H) z := hz
  have q : Ret B (RB (near wd a b)) H Q := q
  refine ⟨_, (pss_cons (ps_set (i := 3) sc50.nd rfl (by first | exact .inl rfl | exact .inr rfl) (show PE _ _ (tOp (rIxT K) _ _) from (pe_ix ix_tup (pv 0) pe_int (fun _ _ => rfl))))
      (pss_cons (ps_if (pt_cmpR op_eq (pe_op op_fdiv (pv 1) (pv 3)) (pe_op op_fdiv (pv 2) (pv 3)) (nomark _)) (pss_one (ps_ret (show PE _ _ (tOp (rIn K false) _ _) from (pe_cmpR op_in_seq (pe_op op_sub (pv 1) (pv 2)) (pe_tup (pa_cons pe_int (pa_cons (pe_un un_neg pe_int) pa_nil))) rfl)))) pss_nil)
      (pss_one (ps_ret (show PE _ _ (tOp (rIn K false) _ _) from (pe_cmpR op_in_seq (pe_op op_sub (pv 1) (pv 2)) (pe_tup (pa_cons (pv 3) (pa_cons (pe_op op_sub pe_int (pv 3)) pa_nil))) rfl)))))), ?_⟩
  refine q_set (r := RN wd) dm (ev_ixT (k := 0) (ev_var rfl hx) ev_int rfl rfl) fun v1 H1 s1 d1 hv1 => ?_
  have e1 : Ev (tVar 1) [some x, some y, some z, some v1] (hd B H1) (RN a) := ev_var rfl hy
  have e2 : Ev (tVar 2) [some x, some y, some z, some v1] (hd B H1) (RN b) := ev_var rfl hz
  have e3 {Hz : Hp} : Ev (tVar 3) [some x, some y, some z, some v1] Hz (RN wd) := ev_var rfl hv1
  refine q_if d1 (et_test (ev_eqN (ev_divN e1 e3 h1 (by omega)) (ev_divN e2 e3 h1 (by omega)))) ?_ ?_
  · intro hb H2 s2 d2
    refine s_ret d2 (ev_is (ev_in2 (ev_sub (ev_var rfl hy) (ev_var rfl hz)) (ev_tup (ea_cons ev_int (ea_cons (ev_neg ev_int) ea_nil)) (by show 2 ≤ 100000; decide))) ?_) (q.go (s1.trans s2))
    unfold near
    rw [if_pos (of_decide_eq_true hb)]
    congr 2
    · exact decide_eq_decide.mpr ⟨fun h => by omega, fun h => by omega⟩
    · exact decide_eq_decide.mpr ⟨fun h => by omega, fun h => by omega⟩
  · intro hb H2 s2 d2
    refine s_ret d2 (ev_is (ev_in2 (ev_sub (ev_var rfl hy) (ev_var rfl hz)) (ev_tup (ea_cons (ev_var rfl hv1) (ea_cons (ev_sub ev_int (ev_var rfl hv1)) ea_nil)) (by show 2 ≤ 100000; decide))) ?_) (q.go (s1.trans s2))
    unfold near
    rw [if_neg (of_decide_eq_false hb)]
    congr 2
    · exact decide_eq_decide.mpr ⟨fun h => by omega, fun h => by omega⟩
    · exact decide_eq_decide.mpr ⟨fun h => by omega, fun h => by omega⟩
def spCells : Sp := SpOf (α := List Nat) (fun a => [RP a]) (fun a => a ≠ [] ∧ a.length ≤ 100 ∧ top a ≤ 100) fun a => RL ((piecesOf a).map fun c => RL (c.map RN))
theorem sc52 : FnScope ["_law_marks", "_law_k", "_law_piece"] ["_law_marks"] (C8.fnScope (topS 52)) := C8.fnScope_by (by decide +kernel)
theorem c52 (T : Txt K mg) : C8.Cal P w K mg base 1 "_law_cells" spCells [] := by
  refine cal_of T.d52 sc52 (len_of (n := 1) fun _ => rfl) fun f _ cdv A outer s H vs Q E hr h => ?_
  obtain ⟨pat, B, dm, hvs, ⟨hne, hl, ht⟩, q⟩ := h
  obtain ⟨x, rfl, hx⟩ := hvs.one
  have hx : (RP pat).at_ (hd B H) x := hx
  refine ⟨_, (pss_one (ps_ret (pe_lc (own := [("_law_piece", 2)]) (g := (gName 2)) (tt := tYes) rfl sc52.nd (pi_range1 (by rfl) (T.no "range") (pa_cons (pe_op op_add (show PE _ _ (tCB (rMaxT K) _) from (pe_callB (cr_maxT rfl (hu64 hr)) (by rfl) (T.no "max") bt_max (pa_cons (pv 0) pa_nil))) pe_int) pa_nil)) (blkOk_by (N := ["_law_marks", "_law_k", "_law_piece"]) (sc := C8.fnScope (topS 52)) (by decide +kernel)) (fun _ _ _ _ _ => (pg_name (i := 2) sc52.nd rfl (by first | exact .inl rfl | exact .inr rfl))) (fun _ _ _ _ _ => pts_nil) (fun _ _ _ _ _ => (pe_lc (own := [("_law_k", 1)]) (g := (gName 1)) rfl sc52.nd (pi_range1 (by rfl) (T.no "range") (pa_cons (show PE _ _ (tCB (rLenK K) _) from (pe_callB call_len (by rfl) (T.no "len") bt_len (pa_cons (pv 0) pa_nil))) pa_nil)) (blkOk_by (by rfl)) (fun _ _ _ _ _ => (pg_name (i := 1) sc52.nd rfl (by first | exact .inl rfl | exact .inr rfl))) (fun _ _ _ _ _ => (pts_one (pt_cmpR op_eq (show PE _ _ (tOp (rIxT K) _ _) from (pe_ix ix_tup (pv 0) (pv 1) (fun _ _ => rfl))) (pv 2) (nomark _)))) (fun _ _ _ _ _ => (pv 1))))))), ?_⟩
  refine s_ret dm (ev_is (ev_lcM (xs := List.range (top pat + 1)) (ρ := RN) (fun p => RL ((cellsOf pat p).map RN)) (ei_rng1 (ea_cons (ev_addN (ev_maxT (ev_var rfl hx) hne) (ev_nat (n := 1))) ea_nil) (by omega)) (by rw [List.length_range]; omega) (fun _ => rfl) fun p v H1 hp s1 hv => ?_) ?_) q
  · refine ev_is (ev_lcN (xs := List.range pat.length) (ρ := RN) (fun c => if decide (pat.getD c 0 = p) = true then some (RN c) else none) (ei_rng1 (ea_cons (ev_is (ev_lenT (ev_var rfl (Rp.mono _ s1 hx))) (by rw [List.length_map])) ea_nil) (by omega)) (by rw [List.length_range]; omega) (fun _ => rfl) (fun c u H2 hc s2 hu => ?_) fun c u H2 rp hc s2 hu hrp => ?_) ?_
    · refine et_is (et_test (ev_eqN (ev_ixP (ev_var rfl (Rp.mono _ (s1.trans s2) hx)) (ev_var rfl hu) (List.mem_range.mp hc)) (ev_var rfl (Rp.mono _ s2 hv)))) (is_ite _ _)
    · split at hrp
      · rw [← Option.some.inj hrp]
        exact ev_var rfl hu
      · cases hrp
    · rw [filter_fm]
      rfl
  · show RL _ = RL ((piecesOf pat).map fun c => RL (c.map RN))
    unfold piecesOf
    rw [List.map_map]
    rfl
theorem sc53 : FnScope ["_law_many", "_law_found", "_law_turn", "_law_longer", "_law_some", "_law_k"] ["_law_many"] (C8.fnScope (topS 53)) := C8.fnScope_by (by decide +kernel)
theorem c53 (T : Txt K mg) : C8.Cal P w K mg base 1 "_law_orders" spOrders [] := by
  refine cal_of T.d53 sc53 (len_of (n := 1) fun _ => rfl) fun f _ cdv A outer s H vs Q E hr h => ?_
  obtain ⟨n, B, dm, hvs, hn, q⟩ := h
  have hn : n ≤ 3 := hn
  obtain ⟨x, rfl, hx⟩ := hvs.one
  have hx : (RN n).at_ (hd B H) x := hx
  refine ⟨_, (pss_cons (ps_set (i := 1) sc53.nd rfl (by first | exact .inl rfl | exact .inr rfl) (pe_lst (pa_cons (pe_tup pa_nil) pa_nil)))
      (pss_cons (ps_for PassesOwn.never rfl (pi_range1 (by rfl) (T.no "range") (pa_cons (pv 0) pa_nil)) (pg_name (i := 2) sc53.nd rfl (by first | exact .inl rfl | exact .inr rfl)) (pss_cons (ps_set (i := 3) sc53.nd rfl (by first | exact .inl rfl | exact .inr rfl) (pe_lst pa_nil))
      (pss_cons (ps_for PassesOwn.never rfl (show PI _ _ _ (iList K _) from (pi_list (pv 1))) (pg_name (i := 4) sc53.nd rfl (by first | exact .inl rfl | exact .inr rfl)) (pss_one (ps_set (i := 3) sc53.nd rfl (by first | exact .inl rfl | exact .inr rfl) (pe_op op_cat (pv 3) (pe_lc (own := [("_law_k", 5)]) (g := (gName 5)) rfl sc53.nd (pi_range1 (by rfl) (T.no "range") (pa_cons (pv 0) pa_nil)) (blkOk_by (N := ["_law_many", "_law_found", "_law_turn", "_law_longer", "_law_some", "_law_k"]) (sc := C8.fnScope (topS 53)) (by decide +kernel)) (fun _ _ _ _ _ => (pg_name (i := 5) sc53.nd rfl (by first | exact .inl rfl | exact .inr rfl))) (fun _ _ _ _ _ => (pts_one (show PT _ _ (tTest (tOp (rIn K true) _ _)) from (pt_cmpR op_notIn_seq (pv 5) (pv 4) rfl)))) (fun _ _ _ _ _ => (show PE _ _ (tOp (rCatA K) _ _) from (pe_op op_catA (pv 4) (pe_tup (pa_cons (pv 5) pa_nil))))))))))
      (pss_one (ps_set (i := 1) sc53.nd rfl (by first | exact .inl rfl | exact .inr rfl) (pv 3))))))
      (pss_one (ps_ret (pv 1))))), ?_⟩
  refine q_set (r := RL ((ordRows n 0).map RP)) dm (ev_lst (rs := [RP []]) (ea_cons (ev_tup ea_nil (by decide)) ea_nil) (by show 1 ≤ 100000; decide)) fun v1 H1 e1 d1 hv1 => ?_
  refine q_for (rs := (List.range n).map RN) d1 (ei_rng1 (ea_cons (ev_var rfl (Rp.mono _ (hd_same e1) hx)) ea_nil) (by omega)) fun H2 e2 d2 => ?_
  refine ⟨B, fun i σ' H' => (∃ rv c2 c3 c4, σ' = [some x, some rv, c2, c3, c4, none] ∧ (RL ((ordRows n i).map RP)).at_ (hd B H') rv) ∧ Same H2 H', ⟨⟨v1, _, _, _, rfl, Rp.mono _ (hd_same e2) hv1⟩, Same.refl _⟩, fun i σ' H' _ ⟨_, sm⟩ => ⟨d2.same sm, hd_same sm⟩, ?_, ?_⟩
  · rintro i r v σ' H' H3 hr0 ⟨⟨rv, c2, c3, c4, rfl, hrv⟩, sm⟩ e3 hv
    obtain ⟨hi, er⟩ := rng_at hr0
    have hm := orders_few n (List.mem_range.mpr (by omega)) i (List.mem_range.mpr (by omega))
    have hm2 := orders_few n (List.mem_range.mpr (by omega)) (i + 1)
    have d3 : Dom B H3 := (d2.same sm).same e3
    have hx3 : (RN n).at_ (hd B H3) x := hx
    refine q_set (r := RL []) d3 (ev_lst ea_nil (by decide)) fun v4 H4 e4 d4 hv4 => ?_
    show tSeq _ _ _ ([some x, some rv, some v, some v4, c4, none] : L2.St) H4
    have hrv4 : (RL ((ordRows n i).map RP)).at_ (hd B H4) rv := Rp.mono _ (hd_same (e3.trans e4)) hrv
    refine q_for d4 (ei_list (ev_var rfl hrv4)) fun H5 e5 d5 => ?_
    refine ⟨B, fun j σ' H' => (∃ lv c4, σ' = [some x, some rv, some v, some lv, c4, none] ∧ (RL ((ordStep n ((ordRows n i).take j)).map RP)).at_ (hd B H') lv) ∧ Same H5 H', ⟨⟨v4, _, rfl, Rp.mono _ (hd_same e5) hv4⟩, Same.refl _⟩, fun j σ' H' _ ⟨_, sm⟩ => ⟨d5.same sm, hd_same sm⟩, ?_, ?_⟩
    · rintro j r2 v2 σ2 H6 H7 hr2 ⟨⟨lv, c4, rfl, hlv⟩, sm2⟩ e7 hv2
      obtain ⟨o, ho, er⟩ := map_at hr2
      subst er
      have hom := List.mem_of_getElem? ho
      have hjl : j < (ordRows n i).length := (List.getElem?_eq_some_iff.mp ho).1
      have d7 : Dom B H7 := (d5.same sm2).same e7
      refine s_set (r := RL ((ordStep n ((ordRows n i).take (j + 1))).map RP)) d7 (ev_is (ev_catL (ev_var rfl (Rp.mono _ (hd_same e7) hlv)) (ev_lcN (xs := List.range n) (ρ := RN) (fun k => if (!decide (k ∈ o)) = true then some (RP (o ++ [k])) else none) (ei_rng1 (ea_cons (ev_var rfl hx) ea_nil) (by omega)) (by rw [List.length_range]; omega) (fun _ => rfl) (fun k u H8 hk s8 hu => ?_) fun k u H8 rp hk s8 hu hrp => ?_) ?_) ?_) fun v9 H9 e9 d9 hv9 => ⟨⟨v9, _, rfl, hv9⟩, sm2.trans (e7.trans e9)⟩
      · refine et_is (et_test (ev_notInP (ev_var rfl hu) (ev_var rfl (Rp.mono _ s8 hv2)))) (is_ite _ _)
      · split at hrp
        · rw [← Option.some.inj hrp]
          exact ev_catP (ev_var rfl (Rp.mono _ s8 hv2)) (ev_var rfl hu) (by have := hm.2 o hom; omega)
        · cases hrp
      · rw [filter_fm, List.length_map, List.length_map]
        have h1 : (ordStep n ((ordRows n i).take j)).length ≤ ((ordRows n i).take j).length * 3 := flat_lenM _ fun o _ => by
          rw [List.length_map]
          exact Nat.le_trans (List.length_filter_le _ _) (by rw [List.length_range]; exact hn)
        rw [List.length_take] at h1
        have h2 := List.length_filter_le (fun k => !decide (k ∈ o)) (List.range n)
        rw [List.length_range] at h2
        have := hm.1
        omega
      · unfold ordStep
        rw [take_flat ho, List.map_append, filter_fm, List.map_map]
        rfl
    · rintro σ2 H6 ⟨⟨lv, c4, rfl, hlv⟩, sm2⟩
      rw [List.length_map, List.take_length] at hlv
      exact ⟨lv, rfl, ⟨lv, _, _, _, rfl, hlv⟩, sm.trans (e3.trans (e4.trans (e5.trans sm2)))⟩
  · rintro σ' H' ⟨⟨rv, c2, c3, c4, rfl, hrv⟩, sm⟩
    rw [List.length_map, List.length_range] at hrv
    exact s_ret (d2.same sm) (ev_var rfl hrv) (q.go (e1.trans (e2.trans sm)))
def spAll : Sp := SpOf (α := List Nat × Nat) (fun a => [RP a.1, RN a.2]) (fun a => a.1 ≠ [] ∧ top a.1 ≤ 3 ∧ a.2 ≤ 3 ∧ a.1.length ≤ 100) fun a => RL ((laidRows a.2 (top a.1 + 1)).map fun r => RT (r.map RP))
theorem sc54 : FnScope ["_law_marks", "_law_many", "_law_found", "_law_turn", "_law_longer", "_law_some", "_law_order"] ["_law_marks", "_law_many"] (C8.fnScope (topS 54)) := C8.fnScope_by (by decide +kernel)
theorem c54 (T : Txt K mg) : C8.Cal P w K mg base 2 "_law_all" spAll [] := by
  refine cal_of T.d54 sc54 (len_of (n := 2) fun _ => rfl) fun f _ cdv A outer s H vs Q E hr h => ?_
  obtain ⟨⟨pat, n⟩, B, dm, hvs, ⟨k1, k2, k3, k4⟩, q⟩ := h
  have k1 : pat ≠ [] := k1
  have k2 : top pat ≤ 3 := k2
  have hn : n ≤ 3 := k3
  have k4 : pat.length ≤ 100 := k4
  obtain ⟨y, x, rfl, hy, hx⟩ := hvs.two
  have hx : (RN n).at_ (hd B H) x := hx
  have hy : (RP pat).at_ (hd B H) y := hy
  have hsix := orders_six n (List.mem_range.mpr (by omega))
  have c53 := c53 (P := P) (w := w) (base := base) T
  refine ⟨_, (pss_cons (ps_set (i := 2) sc54.nd rfl (by first | exact .inl rfl | exact .inr rfl) (pe_lst (pa_cons (pe_tup pa_nil) pa_nil)))
      (pss_cons (ps_for PassesOwn.never rfl (pi_range1 (by rfl) (T.no "range") (pa_cons (pe_op op_add (show PE _ _ (tCB (rMaxT K) _) from (pe_callB (cr_maxT rfl (hu64 hr)) (by rfl) (T.no "max") bt_max (pa_cons (pv 0) pa_nil))) pe_int) pa_nil)) (pg_name (i := 3) sc54.nd rfl (by first | exact .inl rfl | exact .inr rfl)) (pss_cons (ps_set (i := 4) sc54.nd rfl (by first | exact .inl rfl | exact .inr rfl) (pe_lst pa_nil))
      (pss_cons (ps_for PassesOwn.never rfl (show PI _ _ _ (iList K _) from (pi_list (pv 2))) (pg_name (i := 5) sc54.nd rfl (by first | exact .inl rfl | exact .inr rfl)) (pss_one (ps_set (i := 4) sc54.nd rfl (by first | exact .inl rfl | exact .inr rfl) (pe_op op_cat (pv 4) (pe_lc (own := [("_law_order", 6)]) (g := (gName 6)) (tt := tYes) rfl sc54.nd (show PI _ _ _ (iList K _) from (pi_list (C8.pe_c c53 hr (by decide) (by rfl) (pa_cons (pv 1) pa_nil)))) (blkOk_by (N := ["_law_marks", "_law_many", "_law_found", "_law_turn", "_law_longer", "_law_some", "_law_order"]) (sc := C8.fnScope (topS 54)) (by decide +kernel)) (fun _ _ _ _ _ => (pg_name (i := 6) sc54.nd rfl (by first | exact .inl rfl | exact .inr rfl))) (fun _ _ _ _ _ => pts_nil) (fun _ _ _ _ _ => (show PE _ _ (tOp (rCatA K) _ _) from (pe_op op_catA (pv 5) (pe_tup (pa_cons (pv 6) pa_nil))))))))))
      (pss_one (ps_set (i := 2) sc54.nd rfl (by first | exact .inl rfl | exact .inr rfl) (pv 4))))))
      (pss_one (ps_ret (pv 2))))), ?_⟩
  refine q_set (r := RL ((laidRows n 0).map fun r => RT (r.map RP))) dm (ev_lst (rs := [RT []]) (ea_cons (ev_tup ea_nil (by decide)) ea_nil) (by show 1 ≤ 100000; decide)) fun v1 H1 e1 d1 hv1 => ?_
  refine q_for (rs := (List.range (top pat + 1)).map RN) d1 (ei_rng1 (ea_cons (ev_addN (ev_maxT (ev_var rfl (Rp.mono _ (hd_same e1) hy)) k1) (ev_nat (n := 1))) ea_nil) (by omega)) fun H2 e2 d2 => ?_
  refine ⟨B, fun i σ' H' => (∃ rv c2 c3 c4, σ' = [some y, some x, some rv, c2, c3, c4, none] ∧ (RL ((laidRows n i).map fun r => RT (r.map RP))).at_ (hd B H') rv) ∧ Same H2 H', ⟨⟨v1, _, _, _, rfl, Rp.mono _ (hd_same e2) hv1⟩, Same.refl _⟩, fun i σ' H' _ ⟨_, sm⟩ => ⟨d2.same sm, hd_same sm⟩, ?_, ?_⟩
  · rintro i r v σ' H' H3 hr0 ⟨⟨rv, c2, c3, c4, rfl, hrv⟩, sm⟩ e3 hv
    obtain ⟨hi, er⟩ := rng_at hr0
    have hlen := laid_len hn i
    have h6 : 6 ^ i ≤ 6 ^ 3 := Nat.pow_le_pow_right (by decide) (by omega)
    have h216 : (6 : Nat) ^ 3 = 216 := by decide
    have d3 : Dom B H3 := (d2.same sm).same e3
    refine q_set (r := RL []) d3 (ev_lst ea_nil (by decide)) fun v4 H4 e4 d4 hv4 => ?_
    show tSeq _ _ _ ([some y, some x, some rv, some v, some v4, c4, none] : L2.St) H4
    have hrv4 : (RL ((laidRows n i).map fun r => RT (r.map RP))).at_ (hd B H4) rv := Rp.mono _ (hd_same (e3.trans e4)) hrv
    refine q_for d4 (ei_list (ev_var rfl hrv4)) fun H5 e5 d5 => ?_
    refine ⟨B, fun j σ' H' => (∃ lv c4, σ' = [some y, some x, some rv, some v, some lv, c4, none] ∧ (RL ((laidStep n ((laidRows n i).take j)).map fun r => RT (r.map RP))).at_ (hd B H') lv) ∧ Same H5 H', ⟨⟨v4, _, rfl, Rp.mono _ (hd_same e5) hv4⟩, Same.refl _⟩, fun j σ' H' _ ⟨_, sm⟩ => ⟨d5.same sm, hd_same sm⟩, ?_, ?_⟩
    · rintro j r2 v2 σ2 H6 H7 hr2 ⟨⟨lv, c4, rfl, hlv⟩, sm2⟩ e7 hv2
      obtain ⟨o, ho, er⟩ := map_at hr2
      subst er
      have hom := List.mem_of_getElem? ho
      have hjl : j < (laidRows n i).length := (List.getElem?_eq_some_iff.mp ho).1
      have d7 : Dom B H7 := (d5.same sm2).same e7
      refine s_set (r := RL ((laidStep n ((laidRows n i).take (j + 1))).map fun r => RT (r.map RP))) d7 (ev_is (ev_catL (ev_var rfl (Rp.mono _ (hd_same e7) hlv)) (ev_lcM (xs := orders n) (ρ := RP) (fun k => RT ((o ++ [k]).map RP)) (ei_list (ev_call (α := Nat) n (ea_cons (ev_var rfl hx) ea_nil) hn)) (by have := hsix.1; omega) (fun _ => rfl) fun k u H8 hk s8 hu => ev_catR (ev_var rfl (Rp.mono _ s8 hv2)) (ev_var rfl hu) (by have := (laid_in hn i o hom).1; omega)) ?_) ?_) fun v9 H9 e9 d9 hv9 => ⟨⟨v9, _, rfl, hv9⟩, sm2.trans (e7.trans e9)⟩
      · rw [List.length_map, List.length_map]
        have h1 : (laidStep n ((laidRows n i).take j)).length ≤ ((laidRows n i).take j).length * 6 := flat_lenM _ fun o _ => by
          rw [List.length_map]
          exact hsix.1
        rw [List.length_take] at h1
        have := hsix.1
        omega
      · unfold laidStep
        rw [take_flat ho, List.map_append, List.map_map]
        rfl
    · rintro σ2 H6 ⟨⟨lv, c4, rfl, hlv⟩, sm2⟩
      rw [List.length_map, List.take_length] at hlv
      exact ⟨lv, rfl, ⟨lv, _, _, _, rfl, hlv⟩, sm.trans (e3.trans (e4.trans (e5.trans sm2)))⟩
  · rintro σ' H' ⟨⟨rv, c2, c3, c4, rfl, hrv⟩, sm⟩
    rw [List.length_map, List.length_range] at hrv
    exact s_ret (d2.same sm) (ev_var rfl hrv) (q.go (e1.trans (e2.trans sm)))
theorem sc55 : FnScope ["_law_sheets", "_law_marks", "_law_orders_here", "_law_found", "_law_k", "_law_cell"] ["_law_sheets", "_law_marks", "_law_orders_here"] (C8.fnScope (topS 55)) := C8.fnScope_by (by decide +kernel)
theorem c55 (T : Txt K mg) : C8.Cal P w K mg base 1 "_law_relaid" spRelaid [] := by
  refine cal_of T.d55 sc55 (len_of (n := 3) fun _ => rfl) fun f _ cdv A outer s H vs Q E hr h => ?_
  obtain ⟨⟨ss, pat, os⟩, B, dm, hvs, ⟨k1, k2, k3, k4, k5⟩, q⟩ := h
  dsimp only at k1 k2 k3 k4 k5
  obtain ⟨x, y, z, rfl, hx, hy, hz⟩ := hvs.three
  have hx : (RSh ss).at_ (hd B H) x := hx
  have hy : (RP pat).at_ (hd B H) y := hy
  have hz : (RT (os.map RP)).at_ (hd B H) z := hz
  refine ⟨_, (pss_cons (ps_set (i := 3) sc55.nd rfl (by first | exact .inl rfl | exact .inr rfl) (pe_lst pa_nil))
      (pss_cons (ps_for PassesOwn.never rfl (pi_range1 (by rfl) (T.no "range") (pa_cons (show PE _ _ (tCB (rLenK K) _) from (pe_callB call_len (by rfl) (T.no "len") bt_len (pa_cons (pv 0) pa_nil))) pa_nil)) (pg_name (i := 4) sc55.nd rfl (by first | exact .inl rfl | exact .inr rfl)) (pss_one (ps_expr (pe_bm PySem.F.plainAttrs_list PySem.F.slot_list_append PySem.F.type_list_append mt_append (pv 3) (pa_cons (show PE _ _ (tM1 (rJoinK K) _ _) from pe_join pe_str (pe_lc (own := [("_law_cell", 5)]) (g := (gName 5)) (tt := tYes) rfl sc55.nd (pi_range1 (by rfl) (T.no "range") (pa_cons (show PE _ _ (tCB (rLenK K) _) from (pe_callB call_len (by rfl) (T.no "len") bt_len (pa_cons (pv 1) pa_nil))) pa_nil)) (blkOk_by (N := ["_law_sheets", "_law_marks", "_law_orders_here", "_law_found", "_law_k", "_law_cell"]) (sc := C8.fnScope (topS 55)) (by decide +kernel)) (fun _ _ _ _ _ => (pg_name (i := 5) sc55.nd rfl (by first | exact .inl rfl | exact .inr rfl))) (fun _ _ _ _ _ => pts_nil) (fun _ _ _ _ _ => (pe_ix ix_str (show PE _ _ (tOp (rIxT K) _ _) from (pe_ix ix_tup (pv 0) (show PE _ _ (tOp (rIxT K) _ _) from (pe_ix ix_tup (show PE _ _ (tOp (rIxT K) _ _) from (pe_ix ix_tup (pv 2) (show PE _ _ (tOp (rIxT K) _ _) from (pe_ix ix_tup (pv 1) (pv 5) (fun _ _ => rfl))) (fun _ _ => rfl))) (pv 4) (fun _ _ => rfl))) (fun _ _ => rfl))) (pv 5) (fun _ _ => rfl))))) pa_nil)))))
      (pss_one (ps_ret (show PE _ _ (tThen _ (kTup K)) from pe_tupleOf (by rfl) (T.no "tuple") (pv 3)))))), ?_⟩
  refine q_nil dm fun L c0 => ?_
  show tSeq _ _ _ ([some x, some y, some z, some (.ref L), none, none] : L2.St) _
  have s0 : Same (hd B H) (hd (B.add L) (upd H L (.lst []))) := c0.known (Same.refl _)
  refine q_for c0.domA (ei_rng1 (ea_cons (ev_is (ev_lenT (ev_var rfl (Rp.mono _ s0 hx))) (by rw [List.length_map])) ea_nil) (by omega)) fun H2 e2 d2 => ?_
  refine ⟨B.add L, fun i σ' H' => (∃ c4, σ' = [some x, some y, some z, some (.ref L), c4, none]) ∧ Cz B H L (((List.range ss.length).take i).map fun n => RS ((List.range pat.length).map (relAt ss pat os n))) H' ∧ Same (hd (B.add L) H2) (hd (B.add L) H'), ⟨⟨_, rfl⟩, c0.up e2, Same.refl _⟩, fun i σ' H' _ ⟨_, c, sm⟩ => ⟨c.domA, sm⟩, ?_, ?_⟩
  · rintro i r v σ' H' H3 hr0 ⟨⟨c4, rfl⟩, c, sm⟩ e3 hv
    obtain ⟨hi, er⟩ := rng_at hr0
    subst er
    have hvi : v = vN i := hv
    subst hvi
    have c3 := c.up e3
    have s3 := c3.known (Same.refl (hd B H))
    refine s_app (σ := [some x, some y, some z, some (.ref L), some (vN i), none]) (r := RS ((List.range pat.length).map (relAt ss pat os i))) c3 rfl (ev_joinC ev_nils (ev_lcM (xs := List.range pat.length) (ρ := RN) (fun c => RS [relAt ss pat os i c]) (ei_rng1 (ea_cons (ev_is (ev_lenT (ev_var rfl (Rp.mono _ s3 hy))) (by rw [List.length_map])) ea_nil) (by omega)) (by rw [List.length_range]; omega) (fun _ => rfl) fun c u H5 hc s5 hu => ?_) (by rw [List.length_range]; omega)) (by rw [List.length_map, List.length_take, List.length_range]; omega) fun H5 c5 e5 => ?_
    · have hc : c < pat.length := List.mem_range.mp hc
      have h1 : pat.getD c 0 < os.length := k1 _ (getD_mem 0 hc)
      obtain ⟨h2, h3⟩ := k2 _ (getD_mem [] h1)
      have h4 : (os.getD (pat.getD c 0) []).getD i 0 < ss.length := h3 _ (getD_mem 0 (by omega))
      have h5 := k3 _ (getD_mem [] h4)
      exact ev_ixC (ev_ixM RS [] (ev_var rfl (Rp.mono _ (s3.trans s5) hx)) (ev_ixM RN 0 (ev_ixM RP [] (ev_var rfl (Rp.mono _ (s3.trans s5) hz)) (ev_ixP (ev_var rfl (Rp.mono _ (s3.trans s5) hy)) (ev_var rfl hu) hc) h1) (ev_var rfl rfl) (by omega)) h4) (ev_var rfl hu) (by omega) (by omega)
    · refine ⟨⟨_, rfl⟩, ?_, (sm.trans (hd_same e3)).trans e5⟩
      rw [List.take_add_one, range_at hi, List.map_append]
      exact c5
  · rintro σ' H' ⟨⟨c4, rfl⟩, c, sm⟩
    rw [List.length_map, List.length_range, show (List.range ss.length).take ss.length = List.range ss.length from List.take_of_length_le (by simp)] at c
    refine s_ret (B := B) (c.dom.same c.same) (ev_is (ev_tupOf (ev_var rfl c.done)) ?_) (q.go c.same)
    show RT _ = RT ((rel ss pat os).map RS)
    unfold rel
    rw [List.map_map]
    rfl
end
end Sw
set_option Elab.async false
set_option linter.all false
set_option maxRecDepth 100000
set_option maxHeartbeats 1000000
/-! The law's own: packet, parted, patterns. -/
namespace Sw
open PySem PySem.Spec PyProof.Rows L2
section
variable {P : Program} {w : World} {K : PySem.W.Frag} {mg : Str → Option Value} {base : Heap} {C : Addr}
def spPacket (C : Addr) : Sp := SpOf (α := PkA) (fun a => [RPt a.1 a.2.1 a.2.2]) (fun a => okPk a.1 a.2.1 a.2.2) fun a => RPkA C a
theorem sc49 : FnScope ["_law_s"] ["_law_s"] (C8.fnScope (topS 49)) := C8.fnScope_by (by decide +kernel)
theorem c49 (T : Txt K mg) (pk : Pkt K mg C) : C8.Cal P w K mg base 5 "_law_packet" (spPacket C) [] := by
  refine cal_of T.d49 sc49 (len_of (n := 1) fun _ => rfl) fun f _ cdv A outer s H vs Q E hr h => ?_
  obtain ⟨⟨a, b, ss⟩, B, dm, hvs, ok, q⟩ := h
  obtain ⟨x, rfl, hx⟩ := hvs.one
  have hx : (RPt a b ss).at_ (hd B H) x := hx
  refine ⟨_, pss_one (ps_ret (C8.pe_mk (mkPk (P := P) (w := w) (base := base) T pk) hr (by decide) (by rfl) (pa_cons (pe_ix ix_tup (pv 0) pe_int (fun _ _ => rfl)) (pa_cons (pe_ix ix_tup (pv 0) pe_int (fun _ _ => rfl)) (pa_cons (pe_ix ix_tup (pv 0) pe_int (fun _ _ => rfl)) pa_nil))))), ?_⟩
  exact s_ret dm (ev_mk (ea_cons (ev_ixT (k := 0) (ev_var rfl hx) ev_int rfl rfl) (ea_cons (ev_ixT (k := 1) (ev_var rfl hx) ev_int rfl rfl) (ea_cons (ev_ixT (k := 2) (ev_var rfl hx) ev_int rfl rfl) ea_nil))) ok) q
end
theorem ixN_n {n j : Nat} (hj : j < n) : ixN n (j : Int) = some j := by
  unfold ixN
  rw [if_pos (by omega), if_pos (by omega)]
  rfl
/-! ### parted -/
def vO : Option Nat → V
  | some n => vN n
  | none => .non
def RON : Option Nat → Rp
  | some n => RN n
  | none => RO
theorem on_al {H : Hp} : ∀ p : List (Option Nat), Al H (p.map RON) (p.map vO)
  | [] => .nil
  | none :: r => .cons rfl (on_al r)
  | some _ :: r => .cons rfl (on_al r)
theorem rep_non : ∀ n : Nat, (List.replicate n [V.non]).flatten = (List.replicate n (none : Option Nat)).map vO
  | 0 => rfl
  | n + 1 => by
    rw [List.replicate_succ, List.flatten_cons, rep_non n, List.replicate_succ, List.map_cons]
    rfl
def dO : Option Nat → PyData
  | some n => .int (n : Int)
  | none => .none
theorem dat_ON : ∀ o : Option Nat, Dat (RON o) (dO o)
  | some n => dat_I _
  | none => dat_O
theorem dO_flat (o : Option Nat) : (dO o).canLay0 = true ∧ (dO o).depth = 0 := by
  cases o <;> simp [dO, PyData.canLay0, PyData.depth]
theorem sh_ON (f : List (Option Nat)) : SeqAt.shaped (.tuple (f.map dO)) = true := by
  have h := flat_lay f fun a _ => dO_flat a
  refine shaped_of ?_ ?_
  · rw [PyData.canLay0]
    exact h.1
  · rw [PyData.depth, h.2]
    decide
theorem eqv_ON : ∀ (f : List (Option Nat)) (p : List Nat), PyData.eqvAll (f.map dO) (p.map fun n : Nat => PyData.int (n : Int)) = decide (f = p.map some)
  | [], [] => by simp [PyData.eqvAll]
  | [], _ :: _ => by simp [PyData.eqvAll]
  | _ :: _, [] => by simp [PyData.eqvAll]
  | none :: r, b :: s => by simp [PyData.eqvAll, dO, PyData.eqv]
  | some a :: r, b :: s => by
    rw [List.map_cons, List.map_cons, PyData.eqvAll, eqv_ON r s]
    show (PyData.eqv (.int (a : Int)) (.int (b : Int)) && _) = _
    rw [eqv_int]
    by_cases e : a = b
    · subst e
      simp
    · simp [e]
/-- for x in range(n): whatever the body does -/
theorem s_forN {ta : TA} {n : Nat} {σ : L2.St} {H : Hp} {g : TG} {tb : TS} {D : Ends} (ht : ∀ R : List V → Hp → Prop, (∀ H2, Same H H2 → R [vN n] H2) → ta σ H R) (hn : n ≤ 100000) (Pv : Nat → L2.St → Hp → Prop) (h0 : ∀ H2, Same H H2 → Pv 0 σ H2)
    (step : ∀ i σ' H', i < n → Pv i σ' H' → g (vN i) σ' H' fun σ2 H3 => tb { D with nx := Pv (i + 1), ct := Pv (i + 1), bk := D.nx } σ2 H3) (done : ∀ σ' H', Pv n σ' H' → D.nx σ' H') : tFor (iRng1 ta) g tb D σ H := by
  refine ht _ fun H2 e2 => ⟨(n : Int), rfl, by omega, by omega, fun i m σ' H' => m = n - i ∧ i ≤ n ∧ Pv i σ' H', ⟨_, rfl, Nat.zero_le _, h0 H2 e2⟩, ?_⟩
  rintro i m σ' H' ⟨rfl, hi, p⟩
  by_cases hlt : i < n
  · refine .inr ⟨hlt, Pv (i + 1), fun σ2 H3 p' => ⟨n - (i + 1), by omega, rfl, hlt, p'⟩, ?_⟩
    rintro x H3 ⟨rfl, rfl⟩
    have e : (0 : Int) + (i : Int) = (i : Int) := Int.zero_add _
    rw [e]
    exact step i σ' H3 hlt p
  · have ei : i = n := by omega
    subst ei
    exact .inl ⟨Nat.le_refl _, done σ' H' p⟩
structure Fo (H0 : Hp) (F : Addr) (f : List (Option Nat)) (H' : Hp) : Prop where
  same : Same H0 H'
  nF : H0 F = none
  at_ : H' F = some (.lst (f.map vO))
section
variable {B : Bs} {H0 H' H2 : Hp} {F : Addr} {f : List (Option Nat)} {K : PySem.W.Frag} {σ : L2.St}
theorem Fo.up (r : Fo H0 F f H') (e : Same H' H2) : Fo H0 F f H2 := ⟨r.same.trans e, r.nF, e _ _ r.at_⟩
theorem Fo.known (r : Fo H0 F f H') : Same (hd B H0) (hd (B.add F) H') := hd_add (hd_same r.same) (by unfold hd; split; rfl; exact r.nF)
theorem Fo.dom (r : Fo H0 F f H') (d : Dom B H0) : Dom (B.add F) H' := (d.same r.same).add r.at_ fun _ z => nomatch z
theorem Fo.set (r : Fo H0 F f H') {b n : Nat} : Fo H0 F (f.set b (some n)) (upd H' F (.lst ((f.map vO).set b (vN n)))) := ⟨fun c o hc => by
  rw [upd_ne (ne_of_none hc r.nF)]
  exact r.same _ _ hc, r.nF, by rw [upd_same, List.map_set]; rfl⟩
theorem Fo.len (r : Fo H0 F f H') {k : Nat} (hk : σ[k]? = some (some (.ref F))) : ∀ R : List V → Hp → Prop, (∀ H2, Same H' H2 → R [vN f.length] H2) → tCons (tCB (rLenK K) (tCons (tVar k) tNil)) tNil σ H' R := fun R h =>
  ⟨.ref F, hk, .ref F, f.length, rfl, .inl ⟨_, SqL.of r.at_, by rw [List.length_map]⟩, h _ (Same.refl _)⟩
theorem fo_at {a : Nat} (h : a < f.length) : atI (f.map vO) (a : Int) = some (vO (f.getD a none)) := atI_nat (by
  rw [List.getElem?_map, List.getElem?_eq_getElem h, List.getD_eq_getElem?_getD, List.getElem?_eq_getElem h]
  rfl)
end
theorem lpIn_len (wd : Nat) (marks : List Nat) (cnt a : Nat) (f : List (Option Nat)) (b : Nat) : (lpIn wd marks cnt a f b).length = f.length := by
  unfold lpIn
  split
  · rw [List.length_set]
  · rfl
theorem foldl_len {α β : Type} {g : List α → β → List α} (h : ∀ f b, (g f b).length = f.length) : ∀ (l : List β) (f : List α), (l.foldl g f).length = f.length
  | [], _ => rfl
  | b :: r, f => by rw [List.foldl_cons, foldl_len h r, h]
theorem lpMid_len (wd : Nat) (marks : List Nat) (cnt n : Nat) (f : List (Option Nat)) (a : Nat) : (lpMid wd marks cnt n f a).length = f.length := foldl_len (fun f b => lpIn_len wd marks cnt a f b) _ f
theorem lpTurn_len (wd : Nat) (marks : List Nat) (cnt n : Nat) (f : List (Option Nat)) (t : Nat) : (lpTurn wd marks cnt n f t).length = f.length := foldl_len (fun f b => lpMid_len wd marks cnt n f b) _ f
theorem foldl_take {α β : Type} (g : α → β → α) (x : α) {l : List β} {i : Nat} {b : β} (h : l[i]? = some b) : (l.take (i + 1)).foldl g x = g ((l.take i).foldl g x) b := by
  rw [List.take_add_one, h, List.foldl_append]
  rfl
theorem take_all (n : Nat) : (List.range n).take n = List.range n := List.take_of_length_le (by simp)
theorem lpCell_len (wd : Nat) (marks : List Nat) (n : Nat) (st : List (Option Nat) × Nat) (c : Nat) : (lpCell wd marks n st c).1.length = st.1.length := by
  unfold lpCell
  split
  · dsimp only
    rw [foldl_len (fun f t => lpTurn_len wd marks st.2 n f t), List.length_set]
  · rfl
theorem lpFold_len (wd : Nat) (marks : List Nat) (n : Nat) : ∀ (l : List Nat) (st : List (Option Nat) × Nat), (l.foldl (lpCell wd marks n) st).1.length = st.1.length
  | [], _ => rfl
  | c :: r, st => by rw [List.foldl_cons, lpFold_len wd marks n r, lpCell_len]
section
variable {P : Program} {w : World} {K : PySem.W.Frag} {mg : Str → Option Value} {base : Heap}
def spLParted : Sp := SpOf (α := PkA × List Nat) (fun a => [RPt a.1.1 a.1.2.1 a.1.2.2, RP a.2]) (fun a => 1 ≤ a.1.1 ∧ a.1.1 ≤ 100 ∧ a.1.1 * a.1.2.1 ≤ 100 ∧ a.2.length = a.1.1 * a.1.2.1) fun a => RT ((lawPart a.1.1 a.1.2.1 a.2).map RON)
theorem sc51 : FnScope ["_law_s", "_law_marks", "_law_found", "_law_count", "_law_cell", "_law_turn", "_law_one", "_law_other"] ["_law_s", "_law_marks"] (C8.fnScope (topS 51)) := C8.fnScope_by (by decide +kernel)
theorem c51 (T : Txt K mg) : C8.Cal P w K mg base 2 "_law_parted" spLParted [] := by
  refine cal_of T.d51 sc51 (len_of (n := 2) fun _ => rfl) fun f _ cdv A outer s H vs Q E hr h => ?_
  obtain ⟨⟨⟨wd, hh, ss⟩, marks⟩, B, dm, hvs, ⟨h1, h2, h3, h4⟩, q⟩ := h
  dsimp only at h1 h2 h3 h4
  obtain ⟨x, y, rfl, hx, hy⟩ := hvs.two
  have hx : (RPt wd hh ss).at_ (hd B H) x := hx
  have hy : (RP marks).at_ (hd B H) y := hy
  have q : Ret B (RT ((lawPart wd hh marks).map RON)) H Q := q
  have c50 := c50 (P := P) (w := w) (base := base) T
  refine ⟨_, (pss_cons (ps_par rfl sc51.nd (i := 2) (j := 3) rfl rfl (by decide) rfl rfl (pa_cons (pe_op op_rep (pe_lst (pa_cons pe_non pa_nil)) (pe_op op_mul (show PE _ _ (tOp (rIxT K) _ _) from (pe_ix ix_tup (pv 0) pe_int (fun _ _ => rfl))) (show PE _ _ (tOp (rIxT K) _ _) from (pe_ix ix_tup (pv 0) pe_int (fun _ _ => rfl))))) (pa_cons pe_int pa_nil)) rfl)
      (pss_cons (ps_for PassesOwn.never rfl (pi_range1 (by rfl) (T.no "range") (pa_cons (show PE _ _ (tCB (rLenK K) _) from (pe_callB call_len (by rfl) (T.no "len") bt_len (pa_cons (pv 2) pa_nil))) pa_nil)) (pg_name (i := 4) sc51.nd rfl (by first | exact .inl rfl | exact .inr rfl)) (pss_one (ps_if (pt_cmpR op_isN (show PE _ _ (tOp (rIxL K) _ _) from (pe_ix ix_list (pv 2) (pv 4) (fun _ _ => rfl))) pe_non (nomark _)) (pss_cons (ps_asg (pv 3) (pg_sub (pv 2) (pv 4) set_list (fun _ => rfl)))
      (pss_cons (ps_for PassesOwn.never rfl (pi_range1 (by rfl) (T.no "range") (pa_cons (show PE _ _ (tCB (rLenK K) _) from (pe_callB call_len (by rfl) (T.no "len") bt_len (pa_cons (pv 2) pa_nil))) pa_nil)) (pg_name (i := 5) sc51.nd rfl (by first | exact .inl rfl | exact .inr rfl)) (pss_one (ps_for PassesOwn.never rfl (pi_range1 (by rfl) (T.no "range") (pa_cons (show PE _ _ (tCB (rLenK K) _) from (pe_callB call_len (by rfl) (T.no "len") bt_len (pa_cons (pv 2) pa_nil))) pa_nil)) (pg_name (i := 6) sc51.nd rfl (by first | exact .inl rfl | exact .inr rfl)) (pss_one (ps_for PassesOwn.never rfl (pi_range1 (by rfl) (T.no "range") (pa_cons (show PE _ _ (tCB (rLenK K) _) from (pe_callB call_len (by rfl) (T.no "len") bt_len (pa_cons (pv 2) pa_nil))) pa_nil)) (pg_name (i := 7) sc51.nd rfl (by first | exact .inl rfl | exact .inr rfl)) (pss_one (ps_if (pw_and (pt_cmpR op_eq (show PE _ _ (tOp (rIxL K) _ _) from (pe_ix ix_list (pv 2) (pv 6) (fun _ _ => rfl))) (pv 3) (nomark _)) (pw_and (pt_cmpR op_eq (show PE _ _ (tOp (rIxT K) _ _) from (pe_ix ix_tup (pv 1) (pv 6) (fun _ _ => rfl))) (show PE _ _ (tOp (rIxT K) _ _) from (pe_ix ix_tup (pv 1) (pv 7) (fun _ _ => rfl))) (nomark _)) (pw_and1 (pt_val (C8.pe_c c50 hr (by decide) (by rfl) (pa_cons (pv 0) (pa_cons (pv 6) (pa_cons (pv 7) pa_nil)))))))).pt (pss_one (ps_asg (pv 3) (pg_sub (pv 2) (pv 7) set_list (fun _ => rfl)))) pss_nil)))))))
      (pss_one (ps_set (i := 3) sc51.nd rfl (by first | exact .inl rfl | exact .inr rfl) (pe_op op_add (pv 3) pe_int))))) pss_nil)))
      (pss_one (ps_ret (show PE _ _ (tThen _ (kTup K)) from pe_tupleOf (by rfl) (T.no "tuple") (pv 2)))))), ?_⟩
  generalize hn : wd * hh = n at *
  show tSeq _ _ _ ([some x, some y, none, none, none, none, none, none] : L2.St) H
  -- [None] * (w * h)
  have k0 : Same (hd B H) (hd B H) := Same.refl _
  have mulE {Hz : Hp} (s : Same (hd B H) Hz) : Ev (tOp (rI CMul fun (i j : Int) => V.int (i * j)) (tOp (rIxT K) (tVar 0) (tC (.int 0))) (tOp (rIxT K) (tVar 0) (tC (.int 1)))) [some x, some y, none, none, none, none, none, none] Hz (RN n) := by
    rw [← hn]
    exact ev_mulN (ev_ixT (k := 0) (ev_var rfl (Rp.mono _ s hx)) ev_int rfl rfl) (ev_ixT (k := 1) (ev_var rfl (Rp.mono _ s hx)) ev_int rfl rfl) (by omega)
  refine ⟨by decide, fun p hp => ?_⟩
  have s1 := same_upd (o := .lst [V.non]) hp
  have hp1 : upd H p (.lst [V.non]) p = some (.lst [V.non]) := upd_same
  have d1 := dm.same s1
  generalize upd H p (.lst [V.non]) = H1 at s1 hp1 d1
  refine mulE (hd_same s1) B H1 (Same.refl _) d1 _ fun u H2 s2 hu => ?_
  have hu : u = vN n := hu
  subst hu
  refine ⟨p, (n : Int), [V.non], rfl, rfl, s2 _ _ hp1, by omega, by omega, ?_, fun F hF => ?_⟩
  · show 1 * (n : Int).toNat ≤ sizeLine
    exact Nat.le_trans (by omega : _ ≤ 100) (by decide)
  have hF0 : H F = none := by
    cases q0 : H F with
    | none => rfl
    | some o =>
      rw [s2 _ _ (s1 _ _ q0)] at hF
      cases hF
  have erep : (List.replicate (n : Int).toNat [V.non]).flatten = (List.replicate n (none : Option Nat)).map vO := by
    exact rep_non n
  have r3 : Fo H F (List.replicate n none) (upd H2 F (.lst (List.replicate (n : Int).toNat [V.non]).flatten)) := ⟨(s1.trans s2).trans (same_upd hF), hF0, by rw [upd_same, erep]⟩
  generalize upd H2 F (.lst (List.replicate (n : Int).toNat [V.non]).flatten) = H3 at r3
  refine ⟨.ref F, vN 0, rfl, ?_⟩
  show tSeq _ _ _ ([some x, some y, some (.ref F), some (vN 0), none, none, none, none] : L2.St) H3
  let st (i : Nat) : List (Option Nat) × Nat := ((List.range n).take i).foldl (lpCell wd marks n) (List.replicate n none, 0)
  have stl : ∀ i, (st i).1.length = n := fun i => by
    show (((List.range n).take i).foldl (lpCell wd marks n) (List.replicate n none, 0)).1.length = n
    rw [lpFold_len]
    exact List.length_replicate
  have hlen3 := r3.len (K := K) (σ := [some x, some y, some (.ref F), some (vN 0), none, none, none, none]) (k := 2) rfl
  rw [List.length_replicate] at hlen3
  refine s_forN (n := n) hlen3 (by omega) (fun i σ' H' => ∃ c4 c5 c6 c7, σ' = [some x, some y, some (.ref F), some (vN (st i).2), c4, c5, c6, c7] ∧ Fo H F (st i).1 H') (fun H4 s4 => ⟨_, _, _, _, rfl, r3.up s4⟩) ?_ ?_
  · rintro i σ' H5 hi ⟨c4, c5, c6, c7, rfl, r5⟩
    have est : st (i + 1) = lpCell wd marks n (st i) i := foldl_take _ _ (range_at hi)
    have hl5 := stl i
    generalize hst : st i = sti at r5 est hl5
    obtain ⟨fi, cnt⟩ := sti
    dsimp only at r5 est hl5
    show tIfS _ _ _ _ ([some x, some y, some (.ref F), some (vN cnt), some (vN i), c5, c6, c7] : L2.St) H5
    refine ⟨.ref F, rfl, vN i, rfl, F, _, (i : Int), _, rfl, rfl, SqL.of r5.at_, fo_at (by omega), rfl, _, rfl, ?_⟩
    have edec : decide (vO (fi.getD i none) = V.non) = decide (fi.getD i none = none) := by
      cases fi.getD i none <;> simp [vO]
    dsimp only
    rw [edec]
    by_cases hno : fi.getD i none = none
    · rw [decide_eq_true hno, if_pos rfl]
      have est2 : st (i + 1) = ((List.range n).foldl (lpTurn wd marks cnt n) (fi.set i (some cnt)), cnt + 1) := by
        rw [est]
        unfold lpCell
        rw [if_pos hno]
      refine ⟨vN cnt, rfl, .ref F, rfl, vN i, rfl, F, _, (i : Int), i, rfl, rfl, r5.at_, ixN_n (by rw [List.length_map]; omega), ?_⟩
      have r6 := r5.set (b := i) (n := cnt)
      generalize upd H5 F (.lst ((fi.map vO).set i (vN cnt))) = H6 at r6
      have hl6 : (fi.set i (some cnt)).length = n := by rw [List.length_set]; exact hl5
      generalize fi.set i (some cnt) = f0 at r6 hl6 est2
      show tSeq _ _ _ ([some x, some y, some (.ref F), some (vN cnt), some (vN i), c5, c6, c7] : L2.St) H6
      have hle := r6.len (K := K) (σ := [some x, some y, some (.ref F), some (vN cnt), some (vN i), c5, c6, c7]) (k := 2) rfl
      rw [hl6] at hle
      refine s_forN (n := n) hle (by omega) (fun t σ' H' => ∃ c5 c6 c7, σ' = [some x, some y, some (.ref F), some (vN cnt), some (vN i), c5, c6, c7] ∧ Fo H F (((List.range n).take t).foldl (lpTurn wd marks cnt n) f0) H') (fun H4 s4 => ⟨_, _, _, rfl, r6.up s4⟩) ?_ ?_
      · rintro t σ2 H7 ht ⟨c5, c6, c7, rfl, r7⟩
        have hl7 : (((List.range n).take t).foldl (lpTurn wd marks cnt n) f0).length = n := (foldl_len (fun f t => lpTurn_len wd marks cnt n f t) _ _).trans hl6
        have et : ((List.range n).take (t + 1)).foldl (lpTurn wd marks cnt n) f0 = lpTurn wd marks cnt n (((List.range n).take t).foldl (lpTurn wd marks cnt n) f0) t := foldl_take _ _ (range_at ht)
        rw [et]
        generalize ((List.range n).take t).foldl (lpTurn wd marks cnt n) f0 = f1 at r7 hl7
        show tFor _ _ _ _ ([some x, some y, some (.ref F), some (vN cnt), some (vN i), some (vN t), c6, c7] : L2.St) H7
        have hle := r7.len (K := K) (σ := [some x, some y, some (.ref F), some (vN cnt), some (vN i), some (vN t), c6, c7]) (k := 2) rfl
        rw [hl7] at hle
        refine s_forN (n := n) hle (by omega) (fun a σ' H' => ∃ c6 c7, σ' = [some x, some y, some (.ref F), some (vN cnt), some (vN i), some (vN t), c6, c7] ∧ Fo H F (((List.range n).take a).foldl (lpMid wd marks cnt n) f1) H') (fun H4 s4 => ⟨_, _, rfl, r7.up s4⟩) ?_ ?_
        · rintro a σ3 H8 ha ⟨c6, c7, rfl, r8⟩
          have hl8 : (((List.range n).take a).foldl (lpMid wd marks cnt n) f1).length = n := (foldl_len (fun f t => lpMid_len wd marks cnt n f t) _ _).trans hl7
          have ea : ((List.range n).take (a + 1)).foldl (lpMid wd marks cnt n) f1 = lpMid wd marks cnt n (((List.range n).take a).foldl (lpMid wd marks cnt n) f1) a := foldl_take _ _ (range_at ha)
          rw [ea]
          generalize ((List.range n).take a).foldl (lpMid wd marks cnt n) f1 = f2 at r8 hl8
          show tFor _ _ _ _ ([some x, some y, some (.ref F), some (vN cnt), some (vN i), some (vN t), some (vN a), c7] : L2.St) H8
          have hle := r8.len (K := K) (σ := [some x, some y, some (.ref F), some (vN cnt), some (vN i), some (vN t), some (vN a), c7]) (k := 2) rfl
          rw [hl8] at hle
          refine s_forN (n := n) hle (by omega) (fun b σ' H' => ∃ c7, σ' = [some x, some y, some (.ref F), some (vN cnt), some (vN i), some (vN t), some (vN a), c7] ∧ Fo H F (((List.range n).take b).foldl (lpIn wd marks cnt a) f2) H') (fun H4 s4 => ⟨_, rfl, r8.up s4⟩) ?_ ?_
          · rintro b σ4 H9 hb ⟨c7, rfl, r9⟩
            have hl9 : (((List.range n).take b).foldl (lpIn wd marks cnt a) f2).length = n := (foldl_len (fun f t => lpIn_len wd marks cnt a f t) _ _).trans hl8
            have eb : ((List.range n).take (b + 1)).foldl (lpIn wd marks cnt a) f2 = lpIn wd marks cnt a (((List.range n).take b).foldl (lpIn wd marks cnt a) f2) b := foldl_take _ _ (range_at hb)
            rw [eb]
            generalize ((List.range n).take b).foldl (lpIn wd marks cnt a) f2 = f3 at r9 hl9
            show tIfS _ _ _ _ ([some x, some y, some (.ref F), some (vN cnt), some (vN i), some (vN t), some (vN a), some (vN b)] : L2.St) H9
            have k9 := r9.known (B := B)
            have d9 := r9.dom dm
            have hno9 : lpIn wd marks cnt a f3 b = if (decide (f3.getD a none = some cnt) && (decide (marks.getD a 0 = marks.getD b 0) && near wd a b)) = true then f3.set b (some cnt) else f3 := by
              unfold lpIn
              by_cases e1 : f3.getD a none = some cnt <;> by_cases e2 : marks.getD a 0 = marks.getD b 0 <;> cases e3 : near wd a b <;> simp [e1, e2]
            have test : ∀ (Qz : Bool → Hp → Prop), (∀ H10, Same H9 H10 → Qz (decide (f3.getD a none = some cnt) && (decide (marks.getD a 0 = marks.getD b 0) && near wd a b)) H10) →
                tAnd (tTest (tOp rEq (tOp (rIxL K) (tVar 2) (tVar 6)) (tVar 3))) (tAnd (tTest (tOp rEq (tOp (rIxT K) (tVar 1) (tVar 6)) (tOp (rIxT K) (tVar 1) (tVar 7)))) (tB (tCall spNear [] C8.E0 (tCons (tVar 0) (tCons (tVar 6) (tCons (tVar 7) tNil)))))) [some x, some y, some (.ref F), some (vN cnt), some (vN i), some (vN t), some (vN a), some (vN b)] H9 Qz := fun Qz hq => by
              refine ⟨.ref F, rfl, vN a, rfl, F, _, (a : Int), _, rfl, rfl, SqL.of r9.at_, fo_at (by omega), vN cnt, rfl, ?_, _, rfl, ?_⟩
              · cases f3.getD a none <;> rfl
              · have e1 : decide (vO (f3.getD a none) = vN cnt) = decide (f3.getD a none = some cnt) := by
                  cases f3.getD a none with
                  | none => simp [vO]
                  | some m =>
                    show decide (vN m = vN cnt) = _
                    exact decide_eq_decide.mpr ⟨fun e => by rw [Int.ofNat.inj (V.int.inj e)], fun e => by rw [Option.some.inj e]⟩
                dsimp only
                rw [e1]
                cases hd1 : decide (f3.getD a none = some cnt) with
                | false =>
                  rw [hd1, Bool.false_and] at hq
                  exact hq H9 (Same.refl _)
                | true =>
                  rw [hd1, Bool.true_and] at hq
                  have ev2 : EvT (tAnd (tTest (tOp rEq (tOp (rIxT K) (tVar 1) (tVar 6)) (tOp (rIxT K) (tVar 1) (tVar 7)))) (tB (tCall spNear [] C8.E0 (tCons (tVar 0) (tCons (tVar 6) (tCons (tVar 7) tNil)))))) [some x, some y, some (.ref F), some (vN cnt), some (vN i), some (vN t), some (vN a), some (vN b)] (hd (B.add F) H9) (decide (marks.getD a 0 = marks.getD b 0) && near wd a b) :=
                    et_and (et_test (ev_eqN (ev_ixP (ev_var rfl (Rp.mono _ k9 hy)) (ev_var rfl rfl) (by omega)) (ev_ixP (ev_var rfl (Rp.mono _ k9 hy)) (ev_var rfl rfl) (by omega)))) fun _ => et_B (ev_call (α := PkA × Nat × Nat) ((wd, hh, ss), a, b) (ea_cons (ev_var rfl (Rp.mono _ k9 hx)) (ea_cons (ev_var rfl rfl) (ea_cons (ev_var rfl rfl) ea_nil))) ⟨h1, by dsimp only; omega⟩)
                  rw [if_pos rfl]
                  exact ev2 (B.add F) H9 (Same.refl _) d9 _ hq
            refine test _ fun H10 s10 => ?_
            have r10 := r9.up s10
            rw [hno9]
            dsimp only
            cases hbb : (decide (f3.getD a none = some cnt) && (decide (marks.getD a 0 = marks.getD b 0) && near wd a b)) with
            | true =>
              rw [if_pos rfl, if_pos rfl]
              exact ⟨vN cnt, rfl, .ref F, rfl, vN b, rfl, F, _, (b : Int), b, rfl, rfl, r10.at_, ixN_n (by rw [List.length_map]; omega), _, rfl, r10.set⟩
            | false =>
              rw [if_neg Bool.false_ne_true, if_neg Bool.false_ne_true]
              exact ⟨_, rfl, r10⟩
          · rintro σ4 H9 ⟨c7, rfl, r9⟩
            rw [take_all] at r9
            exact ⟨_, _, rfl, r9⟩
        · rintro σ3 H8 ⟨c6, c7, rfl, r8⟩
          rw [take_all] at r8
          exact ⟨_, _, _, rfl, r8⟩
      · rintro σ2 H7 ⟨c5, c6, c7, rfl, r7⟩
        rw [take_all] at r7
        refine ⟨vN cnt, rfl, (cnt : Int), 1, rfl, rfl, some (vN i), c5, c6, c7, ?_, ?_⟩
        · rw [est2]
          rfl
        · rw [est2]
          exact r7
    · rw [decide_eq_false hno, if_neg Bool.false_ne_true]
      refine ⟨some (vN i), c5, c6, c7, ?_, ?_⟩
      · rw [est]
        unfold lpCell
        rw [if_neg hno]
      · rw [est]
        unfold lpCell
        rw [if_neg hno]
        exact r5
  · rintro σ' H5 ⟨c4, c5, c6, c7, rfl, r5⟩
    have ef : (st n).1 = lawPart wd hh marks := by
      unfold lawPart
      show (((List.range n).take n).foldl (lpCell wd marks n) (List.replicate n none, 0)).1 = _
      rw [take_all, hn]
    rw [ef] at r5
    refine s_ret (dm.same r5.same) (ev_tupOf (ev_var rfl ⟨F, _, rfl, hd_of r5.at_ (dm.fresh r5.nF), on_al _⟩)) (q.go r5.same)
def spLPats : Sp := SpOf (α := PkA) (fun a => [RPt a.1 a.2.1 a.2.2]) (fun a => (a.1, a.2.1) ∈ shapes) fun a => RL ((patterns a.1 a.2.1).map RP)
theorem sc57 : FnScope ["_law_s", "_law_rows", "_law_cell", "_law_longer", "_law_some", "_law_count", "_law_piece"] ["_law_s"] (C8.fnScope (topS 57)) := C8.fnScope_by (by decide +kernel)
theorem c57 (T : Txt K mg) : C8.Cal P w K mg base 3 "_law_patterns" spLPats [] := by
  refine cal_of T.d57 sc57 (len_of (n := 1) fun _ => rfl) fun f _ cdv A outer s H vs Q E hr h => ?_
  obtain ⟨⟨wd, hh, ss⟩, B, dm, hvs, hsh, q⟩ := h
  obtain ⟨h1, h2, h3, h4, h5, h6, h7⟩ := shapes_in _ hsh
  have hsl := shapes_len _ hsh
  have hlaw := shapes_law _ hsh
  dsimp only at h1 h2 h3 h4 h5 h6 h7 hsl hlaw
  obtain ⟨x, rfl, hx⟩ := hvs.one
  have hx : (RPt wd hh ss).at_ (hd B H) x := hx
  have q : Ret B (RL ((patterns wd hh).map RP)) H Q := q
  have c51 := c51 (P := P) (w := w) (base := base) T
  refine ⟨_, (pss_cons (ps_set (i := 1) sc57.nd rfl (by first | exact .inl rfl | exact .inr rfl) (pe_lst (pa_cons (pe_tup (pa_cons (pe_tup pa_nil) (pa_cons pe_int pa_nil))) pa_nil)))
      (pss_cons (ps_for PassesOwn.never rfl (pi_range1 (by rfl) (T.no "range") (pa_cons (pe_op op_mul (show PE _ _ (tOp (rIxT K) _ _) from (pe_ix ix_tup (pv 0) pe_int (fun _ _ => rfl))) (show PE _ _ (tOp (rIxT K) _ _) from (pe_ix ix_tup (pv 0) pe_int (fun _ _ => rfl)))) pa_nil)) (pg_name (i := 2) sc57.nd rfl (by first | exact .inl rfl | exact .inr rfl)) (pss_cons (ps_set (i := 3) sc57.nd rfl (by first | exact .inl rfl | exact .inr rfl) (pe_lst pa_nil))
      (pss_cons (ps_for PassesOwn.never rfl (show PI _ _ _ (iList K _) from (pi_list (pv 1))) (pg_tup rfl (pgs_cons (pg_name (i := 4) sc57.nd rfl (by first | exact .inl rfl | exact .inr rfl)) (pgs_cons (pg_name (i := 5) sc57.nd rfl (by first | exact .inl rfl | exact .inr rfl)) pgs_nil))) (pss_one (ps_set (i := 3) sc57.nd rfl (by first | exact .inl rfl | exact .inr rfl) (pe_op op_cat (pv 3) (pe_lc (own := [("_law_piece", 6)]) (g := (gName 6)) (tt := tYes) rfl sc57.nd (pi_range1 (by rfl) (T.no "range") (pa_cons (pe_op op_add (pv 5) pe_int) pa_nil)) (blkOk_by (N := ["_law_s", "_law_rows", "_law_cell", "_law_longer", "_law_some", "_law_count", "_law_piece"]) (sc := C8.fnScope (topS 57)) (by decide +kernel)) (fun _ _ _ _ _ => (pg_name (i := 6) sc57.nd rfl (by first | exact .inl rfl | exact .inr rfl))) (fun _ _ _ _ _ => pts_nil) (fun _ _ _ _ _ => (pe_tup (pa_cons (show PE _ _ (tOp (rCatA K) _ _) from (pe_op op_catA (pv 4) (pe_tup (pa_cons (pv 6) pa_nil)))) (pa_cons (pe_callB (call_max2 rfl) (by rfl) (T.no "max") bt_max (pa_cons (pv 5) (pa_cons (pe_op op_add (pv 6) pe_int) pa_nil))) pa_nil)))))))))
      (pss_one (ps_set (i := 1) sc57.nd rfl (by first | exact .inl rfl | exact .inr rfl) (pv 3))))))
      (pss_one (ps_ret (pe_lc (own := [("_law_some", 4), ("_law_count", 5)]) (g := (gTup K 2 (gCons (gName 4) (gCons (gName 5) gNil)))) rfl sc57.nd (show PI _ _ _ (iList K _) from (pi_list (pv 1))) (blkOk_by (N := ["_law_s", "_law_rows", "_law_cell", "_law_longer", "_law_some", "_law_count", "_law_piece"]) (sc := C8.fnScope (topS 57)) (by decide +kernel)) (fun _ _ _ _ _ => (pg_tup rfl (pgs_cons (pg_name (i := 4) sc57.nd rfl (by first | exact .inl rfl | exact .inr rfl)) (pgs_cons (pg_name (i := 5) sc57.nd rfl (by first | exact .inl rfl | exact .inr rfl)) pgs_nil)))) (fun _ _ _ _ _ => (pts_one (show PT _ _ (tTest (tOp (rEqD K) _ _)) from (pt_cmpR (op_eqD (hu64 hr)) (C8.pe_c c51 hr (by decide) (by rfl) (pa_cons (pv 0) (pa_cons (pv 4) pa_nil))) (pv 4) (nomark _))))) (fun _ _ _ _ _ => (pv 4))))))), ?_⟩
  generalize hn : wd * hh = n at *
  refine q_set (r := RL ((marksRows 0).map RRow)) dm (ev_lst (rs := [RRow ([], 0)]) (ea_cons (ev_tup (ea_cons (ev_tup ea_nil (by decide)) (ea_cons (ev_nat (n := 0)) ea_nil)) (by decide)) ea_nil) (by show 1 ≤ 100000; decide)) fun v1 H1 e1 d1 hv1 => ?_
  have mulE : Ev (tOp (rI CMul fun (i j : Int) => V.int (i * j)) (tOp (rIxT K) (tVar 0) (tC (.int 0))) (tOp (rIxT K) (tVar 0) (tC (.int 1)))) [some x, some v1, none, none, none, none, none] (hd B H1) (RN n) := by
    rw [← hn]
    exact ev_mulN (ev_ixT (k := 0) (ev_var rfl (Rp.mono _ (hd_same e1) hx)) ev_int rfl rfl) (ev_ixT (k := 1) (ev_var rfl (Rp.mono _ (hd_same e1) hx)) ev_int rfl rfl) (by omega)
  refine q_for (rs := (List.range n).map RN) d1 (ei_rng1 (ea_cons mulE ea_nil) (by omega)) fun H2 e2 d2 => ?_
  refine ⟨B, fun i σ' H' => (∃ rv c2 c3 c4 c5, σ' = [some x, some rv, c2, c3, c4, c5, none] ∧ (RL ((marksRows i).map RRow)).at_ (hd B H') rv) ∧ Same H2 H', ⟨⟨v1, none, none, none, none, rfl, Rp.mono _ (hd_same e2) hv1⟩, Same.refl _⟩, fun i σ' H' _ ⟨_, sm⟩ => ⟨d2.same sm, hd_same sm⟩, ?_, ?_⟩
  · rintro i r v σ' H' H3 hr0 ⟨⟨rv, c2, c3, c4, c5, rfl, hrv⟩, sm⟩ e3 hv
    obtain ⟨hi, er⟩ := rng_at hr0
    have hm := rows_few i (List.mem_range.mpr (by omega))
    have d3 : Dom B H3 := (d2.same sm).same e3
    refine q_set (r := RL []) d3 (ev_lst ea_nil (by decide)) fun v4 H4 e4 d4 hv4 => ?_
    show tSeq _ _ _ ([some x, some rv, some v, some v4, c4, c5, none] : L2.St) H4
    have hrv4 : (RL ((marksRows i).map RRow)).at_ (hd B H4) rv := Rp.mono _ (hd_same (e3.trans e4)) hrv
    refine q_for d4 (ei_list (ev_var rfl hrv4)) fun H5 e5 d5 => ?_
    refine ⟨B, fun j σ' H' => (∃ lv c4 c5, σ' = [some x, some rv, some v, some lv, c4, c5, none] ∧ (RL ((marksStep ((marksRows i).take j)).map RRow)).at_ (hd B H') lv) ∧ Same H5 H', ⟨⟨v4, _, _, rfl, Rp.mono _ (hd_same e5) hv4⟩, Same.refl _⟩, fun j σ' H' _ ⟨_, sm⟩ => ⟨d5.same sm, hd_same sm⟩, ?_, ?_⟩
    · rintro j r2 v2 σ2 H6 H7 hr2 ⟨⟨lv, c4, c5, rfl, hlv⟩, sm2⟩ e7 hv2
      obtain ⟨o, ho, er⟩ := map_at hr2
      subst er
      have hom := List.mem_of_getElem? ho
      have hjl : j < (marksRows i).length := (List.getElem?_eq_some_iff.mp ho).1
      have d7 : Dom B H7 := (d5.same sm2).same e7
      refine tg_two hv2 fun va vb hva hvb => ?_
      have hob := hm.2 o hom
      refine s_set (r := RL ((marksStep ((marksRows i).take (j + 1))).map RRow)) (σ := [some x, some rv, some v, some lv, some va, some vb, none]) d7 (ev_is (ev_catL (ev_var rfl (Rp.mono _ (hd_same e7) hlv)) (ev_lcM (xs := List.range (o.2 + 1)) (ρ := RN) (fun k => RRow (o.1 ++ [k], max o.2 (k + 1))) (ei_rng1 (ea_cons (ev_addN (ev_var rfl hvb) (ev_nat (n := 1))) ea_nil) (by omega)) (by rw [List.length_range]; omega) (fun _ => rfl) fun k u H8 hk s8 hu => ?_) ?_) ?_) fun v9 H9 e9 d9 hv9 => ⟨⟨v9, _, _, rfl, hv9⟩, sm2.trans (e7.trans e9)⟩
      · exact ev_tup (ea_cons (ev_catP (ev_var rfl (Rp.mono _ s8 hva)) (ev_var rfl hu) (by omega)) (ea_cons (ev_max2 (ev_var rfl (Rp.mono _ s8 hvb)) (ev_addN (ev_var rfl hu) (ev_nat (n := 1)))) ea_nil)) (by show 2 ≤ 100000; decide)
      · rw [List.length_map, List.length_map, List.length_range]
        have h1 : (marksStep ((marksRows i).take j)).length ≤ ((marksRows i).take j).length * 5 := flat_lenM _ fun o2 ho2 => by
          rw [List.length_map, List.length_range]
          have := (hm.2 o2 (List.mem_of_mem_take ho2)).1
          omega
        rw [List.length_take] at h1
        have := hm.1
        omega
      · unfold marksStep
        rw [take_flat ho, List.map_append, List.map_map]
        rfl
    · rintro σ2 H6 ⟨⟨lv, c4, c5, rfl, hlv⟩, sm2⟩
      rw [List.length_map, List.take_length] at hlv
      exact ⟨lv, rfl, ⟨lv, _, _, _, _, rfl, hlv⟩, sm.trans (e3.trans (e4.trans (e5.trans sm2)))⟩
  · rintro σ' H' ⟨⟨rv, c2, c3, c4, c5, rfl, hrv⟩, sm⟩
    rw [List.length_map, List.length_range] at hrv
    have hm := rows_few n (List.mem_range.mpr (by omega))
    have s02 := (e1.trans e2).trans sm
    refine s_ret (d2.same sm) (ev_is (ev_lcP (xs := marksRows n) (ρ1 := fun r => RP r.1) (ρ2 := fun r => RN r.2) (fun r => if decide (lawPart wd hh r.1 = r.1.map some) = true then some (RP r.1) else none) (ei_list (ev_var rfl hrv)) (by have := hm.1; omega) (fun _ _ => rfl) (fun r v u H5 hr5 s5 h1' h2' => ?_) fun r v u H5 rp _ s5 h1' h2' hrp => ?_) ?_) (q.go s02)
    · have hrl := (hsl r.1 (List.mem_map.mpr ⟨r, hr5, rfl⟩)).1
      refine et_is (et_test (ev_is (ev_eqD (ev_call (α := PkA × List Nat) ((wd, hh, ss), r.1) (ea_cons (ev_var rfl (Rp.mono _ ((hd_same s02).trans s5) hx)) (ea_cons (ev_var rfl h1') ea_nil)) ⟨h1, by show wd ≤ 100; omega, by show wd * hh ≤ 100; omega, by show r.1.length = wd * hh; rw [hn]; exact hrl⟩) (ev_var rfl h1') (dat_T (paired_map dat_ON (lawPart wd hh r.1))) (dat_P r.1) (sh_ON _) (sh_P _)) ?_)) (is_ite _ _)
      show RB (PyData.eqv (.tuple _) (.tuple _)) = _
      rw [PyData.eqv, eqv_ON]
    · split at hrp
      · rw [← Option.some.inj hrp]
        exact ev_var rfl h1'
      · cases hrp
    · rw [filter_fm, ← hlaw]
      unfold lawPatterns allMarks
      rw [hn, List.filter_map, List.map_map]
      rfl
end
end Sw
set_option Elab.async false
set_option linter.all false
set_option maxRecDepth 100000
set_option maxHeartbeats 1000000
/-! The law's own: long. -/
namespace Sw
open PySem PySem.Spec PyProof.Rows L2
def lgAt (wd : Nat) (pat : List Nat) (a b : Nat) : Bool := near wd a b && !decide (pat.getD a 0 = pat.getD b 0)
section
variable {P : Program} {w : World} {K : PySem.W.Frag} {mg : Str → Option Value} {base : Heap}
def spLLong : Sp := SpOf (α := PkA × List Nat) (fun a => [RPt a.1.1 a.1.2.1 a.1.2.2, RP a.2]) (fun a => 1 ≤ a.1.1 ∧ a.1.1 ≤ 100 ∧ a.2.length ≤ 100) fun a => RN (lawLong a.1.1 a.2)
theorem sc56 : FnScope ["_law_s", "_law_marks", "_law_found", "_law_one", "_law_other"] ["_law_s", "_law_marks"] (C8.fnScope (topS 56)) := C8.fnScope_by (by decide +kernel)
theorem c56 (T : Txt K mg) : C8.Cal P w K mg base 2 "_law_long" spLLong [] := by
  refine cal_of T.d56 sc56 (len_of (n := 2) fun _ => rfl) fun f _ cdv A outer s H vs Q E hr h => ?_
  obtain ⟨⟨⟨wd, hh, ss⟩, pat⟩, B, dm, hvs, ⟨h1, h2, h3⟩, q⟩ := h
  dsimp only at h1 h2 h3
  obtain ⟨x, y, rfl, hx, hy⟩ := hvs.two
  have hx : (RPt wd hh ss).at_ (hd B H) x := hx
  have hy : (RP pat).at_ (hd B H) y := hy
  have q : Ret B (RN (lawLong wd pat)) H Q := q
  have c50 := c50 (P := P) (w := w) (base := base) T
  refine ⟨_, (pss_cons (ps_set (i := 2) sc56.nd rfl (by first | exact .inl rfl | exact .inr rfl) pe_int)
      (pss_cons (ps_for PassesOwn.never rfl (pi_range1 (by rfl) (T.no "range") (pa_cons (show PE _ _ (tCB (rLenK K) _) from (pe_callB call_len (by rfl) (T.no "len") bt_len (pa_cons (pv 1) pa_nil))) pa_nil)) (pg_name (i := 3) sc56.nd rfl (by first | exact .inl rfl | exact .inr rfl)) (pss_one (ps_for PassesOwn.never rfl (pi_range1 (by rfl) (T.no "range") (pa_cons (pv 3) pa_nil)) (pg_name (i := 4) sc56.nd rfl (by first | exact .inl rfl | exact .inr rfl)) (pss_one (ps_set (i := 2) sc56.nd rfl (by first | exact .inl rfl | exact .inr rfl) (pe_op op_add (pv 2) (pe_callTy call_int1 (by rfl) (T.no "int") bt_int (pa_cons (pe_and (C8.pe_c c50 hr (by decide) (by rfl) (pa_cons (pv 0) (pa_cons (pv 3) (pa_cons (pv 4) pa_nil)))) (pe_one (pe_cmpR op_ne (show PE _ _ (tOp (rIxT K) _ _) from (pe_ix ix_tup (pv 1) (pv 3) (fun _ _ => rfl))) (show PE _ _ (tOp (rIxT K) _ _) from (pe_ix ix_tup (pv 1) (pv 4) (fun _ _ => rfl))) (nomark _)))) pa_nil))))))))
      (pss_one (ps_ret (pv 2))))), ?_⟩
  refine q_set (r := RN 0) dm ev_nat fun v1 H1 s1 d1 hv1 => ?_
  refine q_for d1 (ei_rng1 (n := pat.length) (ea_cons (ev_is (ev_lenT (ev_var rfl (Rp.mono _ (hd_same s1) hy))) (by rw [List.length_map])) ea_nil) (by omega)) fun H2 s2 d2 => ?_
  refine ⟨B, fun a σ' H' => (∃ c3 c4, σ' = [some x, some y, some (vN (((List.range pat.length).take a).map fun a => ((List.range a).filter (lgAt wd pat a)).length).sum), c3, c4]) ∧ Same H2 H', ⟨⟨_, _, by have e : v1 = vN 0 := hv1; rw [e]; rfl⟩, Same.refl _⟩, fun i σ' H' _ ⟨_, sm⟩ => ⟨d2.same sm, hd_same sm⟩, ?_, ?_⟩
  · rintro a r v σ' H' H3 hr0 ⟨⟨c3, c4, rfl⟩, sm⟩ e3 hv
    obtain ⟨ha, er⟩ := rng_at hr0
    subst er
    have hvi : v = vN a := hv
    subst hvi
    have s03 := ((s1.trans s2).trans sm).trans e3
    have d3 := dm.same s03
    have hO : (((List.range pat.length).take (a + 1)).map fun a => ((List.range a).filter (lgAt wd pat a)).length).sum = (((List.range pat.length).take a).map fun a => ((List.range a).filter (lgAt wd pat a)).length).sum + ((List.range a).filter (lgAt wd pat a)).length := by
      rw [List.take_add_one, range_at ha, List.map_append, List.sum_append]
      simp
    generalize (((List.range pat.length).take a).map fun a => ((List.range a).filter (lgAt wd pat a)).length).sum = S0 at *
    refine s_for (σ := [some x, some y, some (vN S0), some (vN a), c4]) d3 (ei_rng1 (n := a) (ea_cons (ev_var rfl rfl) ea_nil) (by omega)) fun H4 s4 d4 => ?_
    refine ⟨B, fun b σ' H' => (∃ c4, σ' = [some x, some y, some (vN (S0 + (((List.range a).take b).filter (lgAt wd pat a)).length)), some (vN a), c4]) ∧ Same H4 H', ⟨⟨_, rfl⟩, Same.refl _⟩, fun i σ' H' _ ⟨_, sm⟩ => ⟨d4.same sm, hd_same sm⟩, ?_, ?_⟩
    · rintro b r2 v2 σ2 H5 H6 hr2 ⟨⟨c4, rfl⟩, sm5⟩ e6 hv2
      obtain ⟨hb, er⟩ := rng_at hr2
      subst er
      have hvb : v2 = vN b := hv2
      subst hvb
      have s06 := ((s03.trans s4).trans sm5).trans e6
      have d6 := dm.same s06
      have hI : (((List.range a).take (b + 1)).filter (lgAt wd pat a)).length = (((List.range a).take b).filter (lgAt wd pat a)).length + if lgAt wd pat a b = true then 1 else 0 := by
        rw [List.take_add_one, range_at hb, List.filter_append, List.length_append]
        congr 1
        show (List.filter (lgAt wd pat a) [b]).length = _
        rw [List.filter_cons]
        split <;> rfl
      generalize (((List.range a).take b).filter (lgAt wd pat a)).length = S1 at *
      refine s_set (r := RN (S0 + S1 + if lgAt wd pat a b = true then 1 else 0)) (σ := [some x, some y, some (vN (S0 + S1)), some (vN a), some (vN b)]) d6 (ev_addN (ev_var rfl rfl) (ev_intB (ev_andV (ev_call (α := PkA × Nat × Nat) ((wd, hh, ss), a, b) (ea_cons (ev_var rfl (Rp.mono _ (hd_same s06) hx)) (ea_cons (ev_var rfl rfl) (ea_cons (ev_var rfl rfl) ea_nil))) ⟨h1, by show wd ≤ 1000; omega⟩) fun _ => ev_neN (ev_ixP (ev_var rfl (Rp.mono _ (hd_same s06) hy)) (ev_var rfl rfl) ha) (ev_ixP (ev_var rfl (Rp.mono _ (hd_same s06) hy)) (ev_var rfl rfl) (by omega))))) fun v9 H9 s9 d9 hv9 => ?_
      have hv9 : v9 = vN (S0 + S1 + if lgAt wd pat a b = true then 1 else 0) := hv9
      subst hv9
      exact ⟨⟨some (vN b), by rw [hI, ← Nat.add_assoc]; rfl⟩, sm5.trans (e6.trans s9)⟩
    · rintro σ2 H5 ⟨⟨c4, rfl⟩, sm5⟩
      rw [List.length_map, List.length_range, take_all]
      exact ⟨⟨some (vN a), c4, by rw [hO]⟩, sm.trans (e3.trans (s4.trans sm5))⟩
  · rintro σ' H' ⟨⟨c3, c4, rfl⟩, sm⟩
    rw [List.length_map, List.length_range, take_all]
    exact s_ret (d2.same sm) (ev_var rfl rfl) (q.go ((s1.trans s2).trans sm))
end
end Sw
set_option Elab.async false
set_option linter.all false
set_option maxRecDepth 100000
set_option maxHeartbeats 1000000
/-! What draws from the script: the row at R changes, all else stays. -/
namespace Sw
open PySem PySem.Spec PyProof.Rows L2
theorem prd_app {α β : Type} {F : α → β → Prop} : ∀ {l l2 : List α} {m m2 : List β}, Paired F l m → Paired F l2 m2 → Paired F (l ++ l2) (m ++ m2)
  | _, _, _, _, .nil, k => k
  | _, _, _, _, .cons h t, k => .cons h (prd_app t k)
/-- the script can be read, whatever becomes of the row -/
def Sc (K : PySem.W.Frag) (S R : Addr) (xs : List Int) (H : Hp) : Prop := (S ≠ R ∧ Rd H S (.lst (xs.map V.int))) ∨ ∀ H0, SqL K H0 S (xs.map V.int)
theorem Sc.kp {K : PySem.W.Frag} {S R : Addr} {xs : List Int} {H H' : Hp} (h : Sc K S R xs H) (k : ∀ b o, b ≠ R → H b = some o → H' b = some o) : Sc K S R xs H' := by
  rcases h with ⟨n, h | ⟨o, h⟩⟩ | h
  · exact .inl ⟨n, .inl (k _ _ n h)⟩
  · exact .inl ⟨n, .inr ⟨o, k _ _ n h⟩⟩
  · exact .inr h
theorem Sc.sq {K : PySem.W.Frag} {S R : Addr} {xs : List Int} {H : Hp} (h : Sc K S R xs H) : SqL K H S (xs.map V.int) := by
  rcases h with ⟨_, h⟩ | h
  · exact .inl h
  · exact h H
def RowAt (K : PySem.W.Frag) (S R : Addr) (xs : List Int) (H : Hp) : Prop := Sc K S R xs H ∧ True ∧ ∃ p sd rs : Int, 0 ≤ p ∧ H R = some (.lst [.ref S, .int p, .int sd, .int rs])
/-- the row alone has changed -/
structure Rs (K : PySem.W.Frag) (R S : Addr) (xs : List Int) (H H2 : Hp) : Prop where
  kp : ∀ b o, b ≠ R → H b = some o → H2 b = some o
  row : RowAt K S R xs H2
structure Rw (K : PySem.W.Frag) (B : Bs) (S R : Addr) (xs : List Int) (H : Hp) : Prop where
  br : B R = true
  dom : Dom B H
  row : RowAt K S R xs H
section
variable {K : PySem.W.Frag} {B : Bs} {S R : Addr} {xs : List Int} {H H1 H2 H3 : Hp}
theorem RowAt.same (r : RowAt K S R xs H) (e : Same H H2) : RowAt K S R xs H2 := by
  obtain ⟨h1, h2, p, sd, rs, h3, h4⟩ := r
  exact ⟨h1.kp fun b o _ h => e _ _ h, h2, p, sd, rs, h3, e _ _ h4⟩
theorem Rs.of (r : RowAt K S R xs H) (e : Same H H2) : Rs K R S xs H H2 := ⟨fun b o _ h => e _ _ h, r.same e⟩
theorem Rs.trans (a : Rs K R S xs H H1) (b : Rs K R S xs H1 H2) : Rs K R S xs H H2 := ⟨fun c o n h => b.kp c o n (a.kp c o n h), b.row⟩
theorem Rs.hd (a : Rs K R S xs H H1) (w : Rw K B S R xs H) : Same (hd B H) (hd B H1) := fun c o h => by
  obtain ⟨h1, h2⟩ := hd_in h
  refine hd_of (a.kp c o (fun e => ?_) h1) h2
  rw [e, w.br] at h2
  cases h2
theorem Rs.rw (a : Rs K R S xs H H1) (w : Rw K B S R xs H) : Rw K B S R xs H1 := ⟨w.br, fun c hc => by
  by_cases e : c = R
  · obtain ⟨_, _, p, sd, rs, _, h4⟩ := a.row
    rw [e, h4]
    exact ⟨fun z => (nomatch z), fun _ z => nomatch z⟩
  · obtain ⟨g1, g2⟩ := w.dom c hc
    cases q : H c with
    | none => exact absurd q g1
    | some o =>
      rw [a.kp c o e q, ← q]
      exact ⟨g1, g2⟩, a.row⟩
theorem Rw.same (w : Rw K B S R xs H) (e : Same H H1) : Rw K B S R xs H1 := ⟨w.br, w.dom.same e, w.row.same e⟩
end
def EvR (K : PySem.W.Frag) (S R : Addr) (xs : List Int) (te : TE) (σ : L2.St) (H : Hp) (good : Rp → Prop) : Prop := ∀ B H1, Same H (hd B H1) → Rw K B S R xs H1 → ∀ Q : VK, (∀ r v H2, good r → Rs K R S xs H1 H2 → r.at_ (hd B H2) v → Q v H2) → te σ H1 Q
def EvAR (K : PySem.W.Frag) (S R : Addr) (xs : List Int) (ta : TA) (σ : L2.St) (H : Hp) (good : List Rp → Prop) : Prop := ∀ B H1, Same H (hd B H1) → Rw K B S R xs H1 → ∀ Q : List V → Hp → Prop, (∀ rs vs H2, good rs → Rs K R S xs H1 H2 → Al (hd B H2) rs vs → Q vs H2) → ta σ H1 Q
/-- a promise of a def whose first parameter is the row -/
def SpR {α : Type} (K : PySem.W.Frag) (rs : α → List Rp) (pre : α → Prop) (good : α → Rp → Prop) : Sp := fun vs H Q _ => ∃ (a : α) (B : Bs) (S R : Addr) (xs : List Int) (us : List V), Rw K B S R xs H ∧ vs = .ref R :: us ∧ Al (hd B H) (rs a) us ∧ pre a ∧ ∀ r v H2, good a r → Rs K R S xs H H2 → r.at_ (hd B H2) v → Q v H2
section
variable {K : PySem.W.Frag} {S R : Addr} {xs : List Int} {σ : L2.St} {H H0 : Hp} {te ta tb : TE} {tr : TA} {good good2 : Rp → Prop} {goodL : List Rp → Prop} {r : Rp} {rs : List Rp}
theorem EvR.up (h : EvR K S R xs te σ H good) (e : Same H H0) : EvR K S R xs te σ H0 good := fun B H1 a w Q q => h B H1 (e.trans a) w Q q
theorem EvR.imp (h : EvR K S R xs te σ H good) (e : ∀ r, good r → good2 r) : EvR K S R xs te σ H good2 := fun B H1 a w Q q => h B H1 a w Q fun r v H2 g => q r v H2 (e r g)
theorem evr_pure (h : Ev te σ H r) : EvR K S R xs te σ H (· = r) := fun B H1 e w Q q => h B H1 e w.dom Q fun v H2 e2 hv => q r v H2 rfl (.of w.row e2) hv
theorem evar_pure (h : EvA tr σ H rs) : EvAR K S R xs tr σ H (· = rs) := fun B H1 e w Q q => h B H1 e w.dom Q fun v H2 e2 hv => q rs v H2 rfl (.of w.row e2) hv
theorem evar_cons (h : EvR K S R xs te σ H good) (hr : EvAR K S R xs tr σ H goodL) : EvAR K S R xs (tCons te tr) σ H fun l => ∃ r rs, l = r :: rs ∧ good r ∧ goodL rs := fun B H1 e w Q q =>
  h B H1 e w _ fun r v H2 g1 s2 hv => hr B H2 (e.trans (s2.hd w)) (s2.rw w) _ fun rs vs H3 g2 s3 hvs => q (r :: rs) (v :: vs) H3 ⟨r, rs, rfl, g1, g2⟩ (s2.trans s3) (.cons (Rp.mono _ (s3.hd (s2.rw w)) hv) hvs)
theorem evr_lst (h : EvAR K S R xs tr σ H goodL) (hl : ∀ rs, goodL rs → rs.length ≤ 100000) : EvR K S R xs (tLst tr) σ H fun r => ∃ rs, goodL rs ∧ r = RL rs := fun B H1 e w Q q =>
  h B H1 e w _ fun rs vs H2 g s2 hvs => ⟨Nat.le_trans (by rw [hvs.len]; exact hl rs g) (by decide), fun p hp => q (RL rs) _ _ ⟨rs, g, rfl⟩ (s2.trans (.of s2.row (same_upd hp))) ⟨p, vs, rfl, hd_new (s2.rw w).dom hp, hvs.mono (hd_same (same_upd hp))⟩⟩
theorem evr_tup (h : EvAR K S R xs tr σ H goodL) (hl : ∀ rs, goodL rs → rs.length ≤ 100000) : EvR K S R xs (tTup tr) σ H fun r => ∃ rs, goodL rs ∧ r = RT rs := fun B H1 e w Q q =>
  h B H1 e w _ fun rs vs H2 g s2 hvs => ⟨Nat.le_trans (by rw [hvs.len]; exact hl rs g) (by decide), fun p hp => q (RT rs) _ _ ⟨rs, g, rfl⟩ (s2.trans (.of s2.row (same_upd hp))) ⟨p, vs, rfl, hd_new (s2.rw w).dom hp, hvs.mono (hd_same (same_upd hp))⟩⟩
/-- a call that draws: the row, then pure arguments -/
theorem evr_call {α : Type} {rsf : α → List Rp} {pre : α → Prop} {gd : α → Rp → Prop} {E : XK} {k : Nat} (a : α) (hk : σ[k]? = some (some (.ref R))) (h : EvAR K S R xs tr σ H (· = rsf a)) (hp : pre a) : EvR K S R xs (tCall (SpR K rsf pre gd) [] E (tCons (tVar k) tr)) σ H (gd a) := fun B H1 e w Q q =>
  ⟨.ref R, hk, h B H1 e w _ fun rs vs H2 g s2 hvs => by
    subst g
    refine ⟨a, B, S, R, xs, vs, s2.rw w, by rw [List.append_nil], hvs, hp, fun r v H3 g s3 hv => q r v H3 g (s2.trans s3) hv⟩⟩
/-- .. the arguments drawn, too -/
theorem evr_callX {α : Type} {rsf : α → List Rp} {pre : α → Prop} {gd : α → Rp → Prop} {E : XK} {k : Nat} (hk : σ[k]? = some (some (.ref R))) (h : EvAR K S R xs tr σ H goodL) (hp : ∀ rs, goodL rs → ∃ a, rs = rsf a ∧ pre a ∧ ∀ r, gd a r → good r) : EvR K S R xs (tCall (SpR K rsf pre gd) [] E (tCons (tVar k) tr)) σ H good := fun B H1 e w Q q =>
  ⟨.ref R, hk, h B H1 e w _ fun rs vs H2 g s2 hvs => by
    obtain ⟨a, e1, e2, e3⟩ := hp rs g
    subst e1
    exact ⟨a, B, S, R, xs, vs, s2.rw w, by rw [List.append_nil], hvs, e2, fun r v H3 g s3 hv => q r v H3 (e3 r g) (s2.trans s3) hv⟩⟩
/-- an operator: pure on what both sides give -/
theorem evr_op {f : R2} (ha : EvR K S R xs ta σ H good) (hb : EvR K S R xs tb σ H good2) {good3 : Rp → Prop} (hf : ∀ B H1 r1 r2 x y, good r1 → good2 r2 → Same H (hd B H1) → Dom B H1 → r1.at_ (hd B H1) x → r2.at_ (hd B H1) y → ∀ Q : VK, (∀ r v H2, good3 r → Same H1 H2 → r.at_ (hd B H2) v → Q v H2) → f x y H1 Q) : EvR K S R xs (tOp f ta tb) σ H good3 := fun B H1 e w Q q =>
  ha B H1 e w _ fun r1 x H2 g1 s2 hx => hb B H2 (e.trans (s2.hd w)) (s2.rw w) _ fun r2 y H3 g2 s3 hy => hf B H3 r1 r2 x y g1 g2 ((e.trans (s2.hd w)).trans (s3.hd (s2.rw w))) (s3.rw (s2.rw w)).dom (Rp.mono _ (s3.hd (s2.rw w)) hx) hy Q fun r v H4 g s4 hv => q r v H4 g ((s2.trans s3).trans (.of s3.row s4)) hv
/-! statements -/
variable {B : Bs} {D : Ends} {tz : TS}
theorem q_setR {k : Nat} (w : Rw K B S R xs H) (h : EvR K S R xs te σ (hd B H) good) (q : ∀ r v H1, good r → Rs K R S xs H H1 → Rw K B S R xs H1 → r.at_ (hd B H1) v → tz D (σ.set k (some v)) H1) : tSeq (tAsg te (gName k)) tz D σ H := h B H (Same.refl _) w _ fun r v H1 g s hv => q r v H1 g s (s.rw w) hv
theorem s_retR (w : Rw K B S R xs H) (h : EvR K S R xs te σ (hd B H) good) (q : ∀ r v H1, good r → Rs K R S xs H H1 → r.at_ (hd B H1) v → D.rt v H1) : tRet te D σ H := h B H (Same.refl _) w _ q
/-! a comprehension whose elements are drawn -/
structure Czr (K : PySem.W.Frag) (B : Bs) (S R : Addr) (xs : List Int) (H1 : Hp) (D : Addr) (rs : List Rp) (H' : Hp) : Prop where
  sr : Rs K R S xs H1 H'
  new : H1 D = none
  here : ∃ vs, H' D = some (.lst vs) ∧ Al (hd (B.add D) H') rs vs
theorem evr_lc {α : Type} {ys : List α} {ρ : α → Rp} {j : Nat} {wi : TI} {vs : List Nat} (gd : α → Rp → Prop) (h : EvI wi σ H (ys.map ρ)) (hz : ys.length ≤ 90000) (hw : ∀ v, wipe ((wipe σ vs).set j (some v)) vs = wipe σ vs)
    (he : ∀ y v H1, y ∈ ys → Same H H1 → (ρ y).at_ H1 v → EvR K S R xs te ((wipe σ vs).set j (some v)) H1 (gd y)) : EvR K S R xs (tLc wi (gName j) tYes te vs) σ H fun r => ∃ rs, Paired gd ys rs ∧ r = RL rs := fun B H0 e w0 Q q => h B H0 e w0.dom _ fun J H1 e1 wk D hD => by
  have w1 := w0.same e1
  have hB : B D = false := w1.dom.fresh hD
  refine ⟨fun i m H' => m = ys.length - i ∧ i ≤ ys.length ∧ ∃ rs, Paired gd (ys.take i) rs ∧ Czr K B S R xs H1 D rs H', ⟨_, rfl, Nat.zero_le _, [], .nil, .of w1.row (same_upd hD), hD, [], upd_same, .nil⟩, ?_⟩
  rintro i m H' ⟨rfl, hi, rs, pr, c⟩
  have hDR : D ≠ R := fun e => by
    obtain ⟨_, _, p, sd, t, _, h4⟩ := w1.row
    rw [← e, hD] at h4
    cases h4
  obtain ⟨vs1, hDv, hal⟩ := c.here
  have wB : Rw K (B.add D) S R xs H' := ⟨by rw [add_ne (Ne.symm hDR)]; exact w1.br, ((c.sr.rw w1).dom).add hDv (fun _ z => nomatch z), c.sr.row⟩
  have hD1 : hd B H1 D = none := by
    unfold hd
    split
    · rfl
    · exact hD
  have sm : Same (hd B H1) (hd (B.add D) H') := hd_add (c.sr.hd w1) hD1
  by_cases hlt : i < ys.length
  · have hl : i < (ys.map ρ).length := by rw [List.length_map]; exact hlt
    refine .inr ⟨wk.go i _ H' hl sm, fun H3 => ∃ rs, Paired gd (ys.take (i + 1)) rs ∧ Czr K B S R xs H1 D rs H3, fun H3 p => ⟨ys.length - (i + 1), by omega, rfl, hlt, p⟩, fun v H3 y => ?_⟩
    obtain ⟨s3, fy⟩ := wk.yld i _ H' v H3 sm wB.dom y
    have hyi : ys[i]? = some ys[i] := List.getElem?_eq_getElem hlt
    have hv := fy (ρ ys[i]) (by rw [List.getElem?_map, hyi]; rfl)
    refine ⟨hw v, ?_⟩
    unfold tYes
    dsimp only
    rw [if_pos rfl]
    have w3 := wB.same s3
    have k3 : Same H (hd (B.add D) H3) := (e.trans (hd_same e1)).trans (sm.trans (hd_same s3))
    refine he ys[i] v _ (List.getElem_mem hlt) k3 hv (B.add D) H3 (Same.refl _) w3 _ fun r u H4 g s4 hu => ?_
    have hD4 : H4 D = some (.lst vs1) := s4.kp D _ hDR (s3 _ _ hDv)
    have hal4 : Al (hd (B.add D) H4) rs vs1 := hal.mono ((hd_same s3).trans (s4.hd w3))
    have hlen : vs1.length ≤ 90000 := by
      have := hal.len
      have := Paired.length pr
      rw [List.length_take] at this
      omega
    refine ⟨vs1, hD4, Nat.lt_of_le_of_lt hlen (by decide), rs ++ [r], ?_, ?_, c.new, vs1 ++ [u], upd_same, ?_⟩
    · rw [List.take_add_one, hyi]
      exact prd_app pr (.cons g .nil)
    · have s14 := (c.sr.trans (.of c.sr.row s3)).trans s4
      refine ⟨fun b o n hb => ?_, ?_⟩
      · rw [upd_ne (ne_of_none hb c.new)]
        exact s14.kp b o n hb
      · obtain ⟨h1, h2, p, sd, t, h3, h4⟩ := s14.row
        refine ⟨?_, h2, p, sd, t, h3, ?_⟩
        · exact w1.row.1.kp fun b o n hb => by
            rw [upd_ne (ne_of_none hb c.new)]
            exact s14.kp b o n hb
        · rw [upd_ne (Ne.symm hDR)]
          exact h4
    · rw [hd_upd (add_self B D)]
      exact hal4.app (.cons hu .nil)
  · have ei : i = ys.length := by omega
    subst ei
    rw [List.take_length] at pr
    refine .inl ⟨wk.stop _ _ H' (by rw [List.length_map]; exact Nat.le_refl _) sm, q (RL rs) _ _ ⟨rs, pr, rfl⟩ ((Rs.of w0.row e1).trans c.sr) ⟨D, vs1, rfl, hd_of hDv hB, hal.mono hd_less⟩⟩
end
end Sw
set_option Elab.async false
set_option linter.all false
set_option maxRecDepth 100000
set_option maxHeartbeats 1000000
/-! taken, pick. -/
namespace Sw
open PySem PySem.Spec PyProof.Rows L2
/-- a number below m -/
def below (m : Nat) (r : Rp) : Prop := ∃ k, k < m ∧ r = RN k
def spTaken (K : PySem.W.Frag) : Sp := SpR K (α := Nat) (fun m => [RN m]) (fun m => 1 ≤ m ∧ m ≤ 100000) below
section
variable {P : Program} {w : World} {K : PySem.W.Frag} {mg : Str → Option Value} {base : Heap}
/-- the row behind a store into it -/
theorem row_set {S R : Addr} {xs : List Int} {H : Hp} {p sd rs p' sd' rs' : Int} (h1 : Sc K S R xs H) (h2 : True) (h3 : 0 ≤ p') : RowAt K S R xs (upd H R (.lst [.ref S, .int p', .int sd', .int rs'])) := ⟨h1.kp fun b o n h => by rw [upd_ne n]; exact h, h2, p', sd', rs', h3, upd_same⟩
theorem rs_set {S R : Addr} {xs : List Int} {H H0 : Hp} {o : HO} (s : ∀ b o, b ≠ R → H0 b = some o → H b = some o) (h : RowAt K S R xs (upd H R o)) : Rs K R S xs H0 (upd H R o) := ⟨fun b x n hb => by rw [upd_ne n]; exact s b x n hb, h⟩
theorem sc45 : FnScope ["_law_row", "_law_many", "_law_found", "_law_cell"] ["_law_row", "_law_many"] (C8.fnScope (topS 45)) := C8.fnScope_by (by decide +kernel)
theorem c45 (T : Txt K mg) : C8.Cal P w K mg base 1 "_law_taken" (spTaken K) [] := by
  refine cal_of T.d45 sc45 (fun vs H Q E ⟨a, B, S, R, xs, us, _, e, hv, _, _⟩ => by rw [e, List.length_cons, hv.len]; rfl) fun f _ cdv A outer s H vs Q E hr h => ?_
  obtain ⟨m, B, S, R, xs, us, w0, rfl, hvs, ⟨m1, m2⟩, q⟩ := h
  obtain ⟨y, rfl, hy⟩ := hvs.one
  have hy : y = vN m := hy
  subst hy
  obtain ⟨hS, hSR, p, sd, rs, hp, hR⟩ := w0.row
  have hm0 : (0 : Int) < (m : Int) := by omega
  have fin : ∀ (z : Int) H2, Rs K R S xs H H2 → Q (.int (z % (m : Int))) H2 := fun z H2 s => by
    have e1 : (((z % (m : Int)).toNat : Nat) : Int) = z % (m : Int) := Int.toNat_of_nonneg (Int.emod_nonneg z (by omega))
    have e2 := Int.emod_lt_of_pos z hm0
    refine q (RN (z % (m : Int)).toNat) _ H2 ⟨_, by omega, rfl⟩ s ?_
    show V.int _ = V.int _
    rw [e1]
  have at0 : ∀ (a b c : Int), atI [V.ref S, V.int a, V.int b, V.int c] 0 = some (.ref S) := fun _ _ _ => rfl
  have at1 : ∀ (a b c : Int), atI [V.ref S, V.int a, V.int b, V.int c] 1 = some (.int a) := fun _ _ _ => rfl
  have at2 : ∀ (a b c : Int), atI [V.ref S, V.int a, V.int b, V.int c] 2 = some (.int b) := fun _ _ _ => rfl
  have at3 : ∀ (a b c : Int), atI [V.ref S, V.int a, V.int b, V.int c] 3 = some (.int c) := fun _ _ _ => rfl
  have k0 : ∀ b o, b ≠ R → H b = some o → H b = some o := fun _ _ _ h => h
  refine ⟨_, (pss_cons (ps_if (pt_cmpR op_gt (show PE _ _ (tOp (rIxL K) _ _) from (pe_ix ix_list (pv 0) pe_int (fun _ _ => rfl))) pe_int (nomark _)) (pss_cons (ps_set (i := 2) sc45.nd rfl (by first | exact .inl rfl | exact .inr rfl) (pe_op op_mod (pe_callTy call_int1 (by rfl) (T.no "int") bt_int (pa_cons (show PE _ _ (tOp (rIxL K) _ _) from (pe_ix ix_list (pv 0) pe_int (fun _ _ => rfl))) pa_nil)) (pv 1)))
      (pss_cons (ps_asg (pe_op op_fdiv (show PE _ _ (tOp (rIxL K) _ _) from (pe_ix ix_list (pv 0) pe_int (fun _ _ => rfl))) (pv 1)) (pg_sub (pv 0) pe_int set_list (fun _ => rfl)))
      (pss_one (ps_ret (pv 2))))) pss_nil)
      (pss_cons (ps_asg (pe_op op_add (show PE _ _ (tOp (rIxL K) _ _) from (pe_ix ix_list (pv 0) pe_int (fun _ _ => rfl))) pe_int) (pg_sub (pv 0) pe_int set_list (fun _ => rfl)))
      (pss_cons (ps_if (pt_cmpR op_gt (show PE _ _ (tOp (rIxL K) _ _) from (pe_ix ix_list (pv 0) pe_int (fun _ _ => rfl))) (show PE _ _ (tCB (rLenK K) _) from (pe_callB call_len (by rfl) (T.no "len") bt_len (pa_cons (show PE _ _ (tOp (rIxL K) _ _) from (pe_ix ix_list (pv 0) pe_int (fun _ _ => rfl))) pa_nil))) (nomark _)) (pss_cons (ps_asg (pe_op op_mod (pe_callTy call_int1 (by rfl) (T.no "int") bt_int (pa_cons (pe_op op_add (pe_op op_mul (show PE _ _ (tOp (rIxL K) _ _) from (pe_ix ix_list (pv 0) pe_int (fun _ _ => rfl))) pe_int) pe_int) pa_nil)) pe_int) (pg_sub (pv 0) pe_int set_list (fun _ => rfl)))
      (pss_one (ps_ret (pe_op op_mod (pe_callTy call_int1 (by rfl) (T.no "int") bt_int (pa_cons (pe_op op_fdiv (show PE _ _ (tOp (rIxL K) _ _) from (pe_ix ix_list (pv 0) pe_int (fun _ _ => rfl))) pe_int) pa_nil)) (pv 1))))) pss_nil)
      (pss_cons (ps_set (i := 3) sc45.nd rfl (by first | exact .inl rfl | exact .inr rfl) (show PE _ _ (tOp (rIxL K) _ _) from (pe_ix ix_list (show PE _ _ (tOp (rIxL K) _ _) from (pe_ix ix_list (pv 0) pe_int (fun _ _ => rfl))) (pe_op op_sub (show PE _ _ (tOp (rIxL K) _ _) from (pe_ix ix_list (pv 0) pe_int (fun _ _ => rfl))) pe_int) (fun _ _ => rfl))))
      (pss_cons (ps_asg (pe_op op_mod (pe_callTy call_int1 (by rfl) (T.no "int") bt_int (pa_cons (pe_op op_add (pe_op op_add (pe_op op_mul (show PE _ _ (tOp (rIxL K) _ _) from (pe_ix ix_list (pv 0) pe_int (fun _ _ => rfl))) pe_int) (pv 3)) pe_int) pa_nil)) pe_int) (pg_sub (pv 0) pe_int set_list (fun _ => rfl)))
      (pss_cons (ps_asg (pe_ifExp (pt_cmpR op_ge (pv 3) (pe_op op_pow pe_int pe_int) (nomark _)) (pe_op op_fdiv (pv 3) (pv 1)) pe_int) (pg_sub (pv 0) pe_int set_list (fun _ => rfl)))
      (pss_one (ps_ret (pe_op op_mod (pe_callTy call_int1 (by rfl) (T.no "int") bt_int (pa_cons (pv 3) pa_nil)) (pv 1)))))))))), ?_⟩
  show tSeq _ _ _ ([some (.ref R), some (vN m), none, none] : L2.St) H
  refine ⟨.ref R, rfl, R, _, 3, _, rfl, rfl, SqL.of hR, at3 p sd rs, rs, 0, rfl, rfl, _, rfl, ?_⟩
  dsimp only
  by_cases h0 : 0 < rs
  · rw [if_pos (decide_eq_true h0)]
    refine ⟨.ref R, rfl, R, _, 3, _, rfl, rfl, SqL.of hR, at3 p sd rs, .inl ⟨rs, rfl, vN m, rfl, rs, (m : Int), rfl, rfl, hm0, ?_⟩⟩
    refine ⟨.ref R, rfl, R, _, 3, _, rfl, rfl, SqL.of hR, at3 p sd rs, vN m, rfl, rs, (m : Int), rfl, rfl, ⟨hm0, by omega⟩, ?_⟩
    refine ⟨.ref R, rfl, R, _, 3, 3, rfl, rfl, hR, rfl, ?_⟩
    exact ⟨_, rfl, fin rs _ (rs_set k0 (row_set (p := p) (sd := sd) (rs := rs) hS hSR hp))⟩
  · rw [if_neg (by simpa using h0)]
    -- row[1] = row[1] + 1
    refine ⟨.ref R, rfl, R, _, 1, _, rfl, rfl, SqL.of hR, at1 p sd rs, p, 1, rfl, rfl, .ref R, rfl, R, _, 1, 1, rfl, rfl, hR, rfl, ?_⟩
    have hR1 : upd H R (.lst [.ref S, .int (p + 1), .int sd, .int rs]) R = some (.lst [.ref S, .int (p + 1), .int sd, .int rs]) := upd_same
    have hS1 : Sc K S R xs (upd H R (.lst [.ref S, .int (p + 1), .int sd, .int rs])) := hS.kp fun b o n h => by rw [upd_ne n]; exact h
    have k1 : ∀ b o, b ≠ R → H b = some o → upd H R (.lst [.ref S, .int (p + 1), .int sd, .int rs]) b = some o := fun b o n h => by rw [upd_ne n]; exact h
    show tSeq _ _ _ ([some (.ref R), some (vN m), none, none] : L2.St) (upd H R (.lst [.ref S, .int (p + 1), .int sd, .int rs]))
    generalize upd H R (.lst [.ref S, .int (p + 1), .int sd, .int rs]) = H1 at hR1 hS1 k1
    refine ⟨.ref R, rfl, R, _, 1, _, rfl, rfl, SqL.of hR1, at1 _ _ _, .ref R, rfl, R, _, 0, _, rfl, rfl, SqL.of hR1, at0 _ _ _, .ref S, xs.length, rfl, .inl ⟨_, hS1.sq, by rw [List.length_map]⟩, p + 1, (xs.length : Int), rfl, rfl, _, rfl, ?_⟩
    dsimp only
    by_cases hlt : (xs.length : Int) < p + 1
    · rw [if_pos (decide_eq_true hlt)]
      refine ⟨.ref R, rfl, R, _, 2, _, rfl, rfl, SqL.of hR1, at2 _ _ _, sd, 48271, rfl, rfl, .inr ⟨by decide, by decide⟩, sd * 48271, 11, rfl, rfl, .inl ⟨_, rfl, _, 2147483647, rfl, rfl, (by show (0 : Int) < 2147483647; decide), .ref R, rfl, R, _, 2, 2, rfl, rfl, hR1, rfl, ?_⟩⟩
      have hR2 : upd H1 R (.lst [.ref S, .int (p + 1), .int ((sd * 48271 + 11) % 2147483647), .int rs]) R = some (.lst [.ref S, .int (p + 1), .int ((sd * 48271 + 11) % 2147483647), .int rs]) := upd_same
      refine ⟨.ref R, rfl, R, _, 2, _, rfl, rfl, SqL.of hR2, at2 _ _ _, _, 7, rfl, rfl, ⟨by decide, by decide⟩, .inl ⟨_, rfl, vN m, rfl, _, (m : Int), rfl, rfl, hm0, fin _ _ (rs_set k1 (row_set (p := p) (sd := sd) (rs := rs) hS1 hSR (by omega)))⟩⟩
    · rw [if_neg (by simpa using hlt)]
      have hpl : p.toNat < xs.length := by omega
      refine ⟨.ref R, rfl, R, _, 0, _, rfl, rfl, SqL.of hR1, at0 _ _ _, .ref R, rfl, R, _, 1, _, rfl, rfl, SqL.of hR1, at1 _ _ _, p + 1, 1, rfl, rfl, S, xs.map V.int, p + 1 - 1, .int (xs[p.toNat]'hpl), rfl, rfl, hS1.sq, ?_, ?_⟩
      · have e : p + 1 - 1 = ((p.toNat : Nat) : Int) := by omega
        rw [e]
        exact atI_nat (by rw [List.getElem?_map, List.getElem?_eq_getElem hpl]; rfl)
      generalize xs[p.toNat]'hpl = cell
      show tSeq _ _ _ ([some (.ref R), some (vN m), none, some (.int cell)] : L2.St) H1
      refine ⟨.ref R, rfl, R, _, 2, _, rfl, rfl, SqL.of hR1, at2 _ _ _, sd, 48271, rfl, rfl, .inr ⟨by decide, by decide⟩, .int cell, rfl, sd * 48271, cell, rfl, rfl, _, 11, rfl, rfl, .inl ⟨_, rfl, _, 2147483647, rfl, rfl, (by show (0 : Int) < 2147483647; decide), .ref R, rfl, R, _, 2, 2, rfl, rfl, hR1, rfl, ?_⟩⟩
      have hR2 : upd H1 R (.lst [.ref S, .int (p + 1), .int ((sd * 48271 + cell + 11) % 2147483647), .int rs]) R = some (.lst [.ref S, .int (p + 1), .int ((sd * 48271 + cell + 11) % 2147483647), .int rs]) := upd_same
      have hS2 : Sc K S R xs (upd H1 R (.lst [.ref S, .int (p + 1), .int ((sd * 48271 + cell + 11) % 2147483647), .int rs])) := hS1.kp fun b o n h => by rw [upd_ne n]; exact h
      have k2 : ∀ b o, b ≠ R → H b = some o → upd H1 R (.lst [.ref S, .int (p + 1), .int ((sd * 48271 + cell + 11) % 2147483647), .int rs]) b = some o := fun b o n h => by rw [upd_ne n]; exact k1 b o n h
      show tSeq _ _ _ ([some (.ref R), some (vN m), none, some (.int cell)] : L2.St) (upd H1 R (.lst [.ref S, .int (p + 1), .int ((sd * 48271 + cell + 11) % 2147483647), .int rs]))
      generalize (sd * 48271 + cell + 11) % 2147483647 = sd2 at hR2 hS2 k2 ⊢
      generalize upd H1 R (.lst [.ref S, .int (p + 1), .int sd2, .int rs]) = H2 at hR2 hS2 k2
      have last : ∀ z : Int, tSeq (tAsg (tC (.int z)) (gSub (tVar 0) (tC (.int 3)) rSetL)) (tRet (tOp (rI (fun _ j => 0 < j) fun i j => .int (i % j)) (tCB (fun xs H Q => (∃ i, xs = [V.int i] ∧ Q (V.int i) H) ∨ ∃ k, xs = [V.bl k] ∧ Q (V.int (if k then 1 else 0)) H) (tCons (tVar 3) tNil)) (tVar 1))) { nx := fun _ H' => Q .non H', rt := Q } [some (.ref R), some (vN m), none, some (.int cell)] H2 := fun z => by
        refine ⟨.ref R, rfl, R, _, 3, 3, rfl, rfl, hR2, rfl, ?_⟩
        exact ⟨.int cell, rfl, .inl ⟨cell, rfl, vN m, rfl, cell, (m : Int), rfl, rfl, hm0, fin cell _ (rs_set k2 (row_set (p := p) (sd := sd) (rs := rs) hS2 hSR (by omega)))⟩⟩
      refine ⟨.int cell, rfl, 10, 18, rfl, rfl, ⟨by decide, by decide, by decide⟩, cell, _, rfl, rfl, _, rfl, ?_⟩
      dsimp only
      split
      · exact ⟨.int cell, rfl, vN m, rfl, cell, (m : Int), rfl, rfl, ⟨hm0, by omega⟩, last (cell / (m : Int))⟩
      · exact last 0
end
end Sw
set_option Elab.async false
set_option linter.all false
set_option maxRecDepth 100000
set_option maxHeartbeats 1000000
/-! pick, mixed. -/
namespace Sw
open PySem PySem.Spec PyProof.Rows L2
/-- list of a text -/
def rListS : List V → Hp → VK → Prop := fun xs H Q => ∃ l : List Nat, xs = [vS l] ∧ l.length ≤ 100000 ∧ ∀ p, H p = none → Q (.ref p) (upd H p (.lst (l.map fun c => vS [c])))
theorem signs_vals : ∀ (l : List Nat) (us : List Value), us.length = l.length → (∀ (j : Nat) (v : Value), us[j]? = some v → ∃ c u, l[j]? = some c ∧ v = .str ⟨#[c]⟩ u) → Vals (l.map fun c => vS [c]) us
  | [], [], _, _ => .nil
  | [], _ :: _, h, _ => by simp at h
  | _ :: _, [], h, _ => by simp at h
  | c :: r, v :: us, h, g => by
    refine .cons ?_ (signs_vals r us (by simpa using h) fun j w hj => g (j + 1) w (by simpa using hj))
    obtain ⟨d, u, h1, h2⟩ := g 0 v rfl
    have h1 : c = d := Option.some.inj h1
    exact ⟨u, by rw [h2, h1]⟩
theorem cr_listS {X : Cx} (hc : X.calm = true) : CallR X (.type "list") rListS := by
  intro pins s σ H xs us Q I r h
  obtain ⟨l, rfl, hl, q⟩ := h
  obtain ⟨u, rfl, rx⟩ := r.one
  obtain ⟨t, rfl⟩ := (show ∃ t, u = Value.str (tx l) t from rx)
  refine call_list_str (hn := ?_) (I.ok.hd hc) (tx l) t fun h' tk acc' c' kp e it => ?_
  · refine ⟨.ref s.heap.objs.size, _, I.laid (t' := tk) kp (Nat.le_refl _) (show ObjOk X.prog X.w _ h' _ (.lst (l.map fun c => vS [c])) from ⟨by rw [List.length_map]; exact Nat.le_trans hl (by decide), acc'.toList, c', ?_, by rw [Array.toArray_toList]; exact e⟩), rfl, q _ (I.hok.fresh (Nat.le_refl _))⟩
    refine signs_vals l acc'.toList (by rw [Array.length_toList, it.1]; show l.toArray.size = l.length; simp) fun j v hj => ?_
    obtain ⟨c, u, h1, h2⟩ := it.2 j v (by rw [← Array.getElem?_toList]; exact hj)
    exact ⟨c, u, by simpa using h1, h2⟩
  · show l.toArray.size ≤ sizeLine
    rw [List.size_toArray]
    exact Nat.le_trans hl (by decide)
theorem erase_map {α β : Type} (f : α → β) : ∀ (l : List α) (k : Nat), (l.eraseIdx k).map f = (l.map f).eraseIdx k
  | [], _ => rfl
  | _ :: _, 0 => rfl
  | a :: r, k + 1 => by
    show f a :: (r.eraseIdx k).map f = f a :: (r.map f).eraseIdx k
    rw [erase_map f r k]
theorem perm_erase {α : Type} : ∀ (l : List α) (k : Nat) (h : k < l.length), (l[k] :: l.eraseIdx k).Perm l
  | [], k, h => by simp at h
  | a :: r, 0, _ => List.Perm.refl _
  | a :: r, k + 1, h => by
    show (r[k]'(by simpa using h) :: a :: r.eraseIdx k).Perm (a :: r)
    exact (List.Perm.swap _ _ _).trans (List.Perm.cons a (perm_erase r k (by simpa using h)))
section
variable {P : Program} {w : World} {K : PySem.W.Frag} {mg : Str → Option Value} {base : Heap}
/-- one of these -/
def spPick (K : PySem.W.Frag) : Sp := SpR K (α := List Rp) (fun rs => [RL rs]) (fun rs => 1 ≤ rs.length ∧ rs.length ≤ 100000) fun rs r => r ∈ rs
def spPickS (K : PySem.W.Frag) : Sp := SpR K (α := List Nat) (fun l => [RS l]) (fun l => 1 ≤ l.length ∧ l.length ≤ 100000) fun l r => ∃ c ∈ l, r = RS [c]
theorem lenR {α : Type} {rsf : α → List Rp} {pre : α → Prop} {gd : α → Rp → Prop} {n : Nat} (h : ∀ a, (rsf a).length = n) : ∀ vs H Q E, SpR K rsf pre gd vs H Q E → vs.length = n + 1 := fun vs H Q E ⟨a, B, S, R, xs, us, _, e, hv, _, _⟩ => by rw [e, List.length_cons, hv.len, h a]
theorem sc46 : FnScope ["_law_row", "_law_some"] ["_law_row", "_law_some"] (C8.fnScope (topS 46)) := C8.fnScope_by (by decide +kernel)
theorem c46 (T : Txt K mg) : C8.Cal P w K mg base 2 "_law_pick" (spPick K) [] := by
  refine cal_of T.d46 sc46 (lenR (n := 1) fun _ => rfl) fun f _ cdv A outer s H vs Q E hr h => ?_
  obtain ⟨rs, B, S, R, xs, us, w0, rfl, hvs, ⟨m1, m2⟩, q⟩ := h
  obtain ⟨y, rfl, hy⟩ := hvs.one
  have c45 := c45 (P := P) (w := w) (base := base) T
  refine ⟨_, (pss_one (ps_ret (show PE _ _ (tOp (rIxL K) _ _) from (pe_ix ix_list (pv 1) (C8.pe_c c45 hr (by decide) (by rfl) (pa_cons (pv 0) (pa_cons (show PE _ _ (tCB (rLenK K) _) from (pe_callB call_len (by rfl) (T.no "len") bt_len (pa_cons (pv 1) pa_nil))) pa_nil))) (fun _ _ => rfl))))), ?_⟩
  have ey : Ev (tVar 1) [some (.ref R), some y] (hd B H) (RL rs) := ev_var rfl hy
  refine s_retR w0 (evr_op (evr_pure ey) (evr_call (k := 0) rs.length rfl (evar_pure (ea_cons (ev_lenL ey) ea_nil)) ⟨m1, m2⟩) (good3 := fun r => r ∈ rs) fun B H1 r1 r2 x z g1 g2 e d hx hz Q q => ?_) fun r v H1 g s hv => q r v H1 g s hv
  subst g1
  obtain ⟨k, hk, rfl⟩ := g2
  have hz : z = vN k := hz
  subst hz
  obtain ⟨a, ws, rfl, ha, hw⟩ := hx
  have hkl : rs[k]? = some rs[k] := List.getElem?_eq_getElem hk
  obtain ⟨v, h1, h2⟩ := hw.get hkl
  exact ⟨a, ws, (k : Int), v, rfl, rfl, SqL.of (hd_in ha).1, atI_nat h1, q _ v H1 (List.getElem_mem hk) (Same.refl _) h2⟩
theorem c46S (T : Txt K mg) : C8.Cal P w K mg base 2 "_law_pick" (spPickS K) [] := by
  refine cal_of T.d46 sc46 (lenR (n := 1) fun _ => rfl) fun f _ cdv A outer s H vs Q E hr h => ?_
  obtain ⟨l, B, S, R, xs, us, w0, rfl, hvs, ⟨m1, m2⟩, q⟩ := h
  obtain ⟨y, rfl, hy⟩ := hvs.one
  have hy : (RS l).at_ (hd B H) y := hy
  have c45 := c45 (P := P) (w := w) (base := base) T
  refine ⟨_, (pss_one (ps_ret (pe_ix ix_str (pv 1) (C8.pe_c c45 hr (by decide) (by rfl) (pa_cons (pv 0) (pa_cons (show PE _ _ (tCB (rLenK K) _) from (pe_callB call_len (by rfl) (T.no "len") bt_len (pa_cons (pv 1) pa_nil))) pa_nil))) (fun _ _ => rfl)))), ?_⟩
  have ey : Ev (tVar 1) [some (.ref R), some y] (hd B H) (RS l) := ev_var rfl hy
  refine s_retR w0 (evr_op (evr_pure ey) (evr_call (k := 0) l.length rfl (evar_pure (ea_cons (ev_lenS ey m2) ea_nil)) ⟨m1, m2⟩) (good3 := fun r => ∃ c ∈ l, r = RS [c]) fun B H1 r1 r2 x z g1 g2 e d hx hz Q q => ?_) fun r v H1 g s hv => q r v H1 g s hv
  subst g1
  obtain ⟨k, hk, rfl⟩ := g2
  have hz : z = vN k := hz
  subst hz
  have hx : x = vS l := hx
  subst hx
  have hkl : l[k]? = some l[k] := List.getElem?_eq_getElem hk
  refine ⟨tx l, (k : Int), l[k], rfl, rfl, Nat.le_trans (show l.toArray.size ≤ 100000 by rw [List.size_toArray]; exact m2) (by decide), atI_nat (by simpa using hkl), q (RS [l[k]]) _ H1 ⟨l[k], List.getElem_mem hk, rfl⟩ (Same.refl _) rfl⟩
def spMixed (K : PySem.W.Frag) : Sp := SpR K (α := List Nat) (fun l => [RS l]) (fun l => l.length ≤ 1000 ∧ okL l) fun l r => ∃ p : List Nat, p.Perm l ∧ r = RL (p.map fun c => RS [c])
theorem al_signs {H : Hp} : ∀ l : List Nat, Al H (l.map fun c => RS [c]) (l.map fun c => vS [c])
  | [] => .nil
  | _ :: r => .cons rfl (al_signs r)
theorem sc47 : FnScope ["_law_row", "_law_things", "_law_left", "_law_found"] ["_law_row", "_law_things"] (C8.fnScope (topS 47)) := C8.fnScope_by (by decide +kernel)
theorem c47 (T : Txt K mg) : C8.Cal P w K mg base 2 "_law_mixed" (spMixed K) [] := by
  refine cal_of T.d47 sc47 (lenR (n := 1) fun _ => rfl) fun f _ cdv A outer s H vs Q E hr h => ?_
  obtain ⟨l0, B, S, R, xs, us, w0, rfl, hvs, ⟨hl0, hok⟩, q⟩ := h
  obtain ⟨y, rfl, hy⟩ := hvs.one
  have hl0 : l0.length ≤ 1000 := hl0
  have hy : y = vS l0 := hy
  subst hy
  have c45 := c45 (P := P) (w := w) (base := base) T
  refine ⟨_, (pss_cons (ps_par rfl sc47.nd (i := 2) (j := 3) rfl rfl (by decide) rfl rfl (pa_cons (pe_callTy (cr_listS rfl) (by rfl) (T.no "list") bt_list (pa_cons (pv 1) pa_nil)) (pa_cons (pe_lst pa_nil) pa_nil)) rfl)
      (pss_cons (ps_while PassesOwn.never (show PT _ _ (tTest (tOp (rNeD K) _ _)) from (pt_cmpR (op_neD (hu64 hr)) (pv 2) (pe_lst pa_nil) (nomark _))) (pss_one (ps_expr (pe_bm PySem.F.plainAttrs_list PySem.F.slot_list_append PySem.F.type_list_append mt_append (pv 3) (pa_cons (pe_bm PySem.F.plainAttrs_list PySem.F.slot_list_pop PySem.F.type_list_pop mt_popAt (pv 2) (pa_cons (C8.pe_c c45 hr (by decide) (by rfl) (pa_cons (pv 0) (pa_cons (show PE _ _ (tCB (rLenK K) _) from (pe_callB call_len (by rfl) (T.no "len") bt_len (pa_cons (pv 2) pa_nil))) pa_nil))) pa_nil)) pa_nil)))))
      (pss_one (ps_ret (pv 3))))), ?_⟩
  refine ⟨vS l0, rfl, l0, rfl, by omega, fun L hL => ?_⟩
  refine ⟨Nat.zero_le _, fun F hF => ⟨_, _, rfl, ?_⟩⟩
  have hLF : L ≠ F := fun e => by
    rw [← e, upd_same] at hF
    cases hF
  have s1 : Same H (upd (upd H L (.lst (l0.map fun c => vS [c]))) F (.lst [])) := (same_upd hL).trans (same_upd hF)
  have hF0 : H F = none := by
    rw [upd_ne (Ne.symm hLF)] at hF
    exact hF
  obtain ⟨_, _, _, _, _, _, hRR⟩ := w0.row
  have hLR : L ≠ R := fun e => by
    rw [← e, hL] at hRR
    cases hRR
  have hFR : F ≠ R := fun e => by
    rw [← e, hF0] at hRR
    cases hRR
  refine ⟨fun m σ' H' => ∃ l f : List Nat, m = l.length ∧ (f ++ l).Perm l0 ∧ σ' = [some (.ref R), some (vS l0), some (.ref L), some (.ref F)] ∧ H' L = some (.lst (l.map fun c => vS [c])) ∧ H' F = some (.lst (f.map fun c => vS [c])) ∧ Rs K R S xs H H', ⟨_, l0, [], rfl, List.Perm.refl _, rfl, by rw [upd_ne hLF, upd_same], upd_same, .of w0.row s1⟩, ?_⟩
  rintro m σ' H' ⟨l, fd, rfl, hp, rfl, hL', hF', s'⟩
  refine ⟨.ref L, rfl, Nat.zero_le _, fun e he => ?_⟩
  have hL2 : upd H' e (.lst []) L = some (.lst (l.map fun c => vS [c])) := (same_upd he) _ _ hL'
  have hF2 : upd H' e (.lst []) F = some (.lst (fd.map fun c => vS [c])) := (same_upd he) _ _ hF'
  have s2 : Rs K R S xs H (upd H' e (.lst [])) := s'.trans (.of s'.row (same_upd he))
  refine ⟨dLT (l.map fun c => [c]), dLT [], ?_, dat_LT [] K _ _ ⟨e, [], rfl, upd_same, .nil⟩, ?_, sh_LT (fun _ h => nomatch h), _, rfl, ?_⟩
  · refine dat_LT (l.map fun c => [c]) K _ _ ⟨L, _, rfl, hL2, ?_⟩
    rw [List.map_map]
    exact al_signs l
  · refine sh_LT fun t ht c hc => ?_
    obtain ⟨d, hd2, rfl⟩ := List.mem_map.mp ht
    rw [List.mem_singleton.mp hc]
    exact Nat.lt_of_le_of_lt (hok d (hp.mem_iff.mp (List.mem_append_right _ hd2))).2 (by decide)
  · rw [eqv_LT]
    dsimp only
    generalize upd H' e (.lst []) = H2 at hL2 hF2 s2
    have hlen : l.length ≤ 1000 := by
      have := hp.length_eq
      rw [List.length_append] at this
      omega
    have hflen : fd.length ≤ 1000 := by
      have := hp.length_eq
      rw [List.length_append] at this
      omega
    by_cases e0 : l = []
    · subst e0
      rw [if_neg (by simp)]
      refine ⟨.ref F, rfl, ?_⟩
      rw [List.append_nil] at hp
      have wz := s2.rw w0
      have hFB : B F = false := by
        cases qb : B F with
        | false => rfl
        | true => exact absurd hF0 (w0.dom F qb).1
      exact q (RL (fd.map fun c => RS [c])) _ H2 ⟨fd, hp, rfl⟩ s2 ⟨F, _, rfl, hd_of hF2 hFB, al_signs fd⟩
    · rw [if_pos (by simpa using e0)]
      refine ⟨fun σ3 H3 => ∃ l2 f2 : List Nat, l2.length < l.length ∧ (f2 ++ l2).Perm l0 ∧ σ3 = [some (.ref R), some (vS l0), some (.ref L), some (.ref F)] ∧ H3 L = some (.lst (l2.map fun c => vS [c])) ∧ H3 F = some (.lst (f2.map fun c => vS [c])) ∧ Rs K R S xs H H3, fun σ3 H3 ⟨l2, f2, h1, h2⟩ => ⟨l2.length, h1, l2, f2, rfl, h2⟩, ?_⟩
      have hl1 : 1 ≤ l.length := by
        cases l with
        | nil => exact absurd rfl e0
        | cons a r => simp
      refine ⟨.ref F, rfl, .inl ⟨rfl, _, SqL.of hF2⟩, .ref L, rfl, .inl ⟨rfl, _, SqL.of hL2⟩, .ref R, rfl, .ref L, rfl, .ref L, l.length, rfl, .inl ⟨_, SqL.of hL2, by rw [List.length_map]⟩, ?_⟩
      refine ⟨l.length, B, S, R, xs, [vN l.length], s2.rw w0, rfl, .cons rfl .nil, ⟨hl1, by omega⟩, ?_⟩
      rintro r v H3 ⟨k, hk, rfl⟩ s3 hv
      have hv : v = vN k := hv
      subst hv
      have hL3 : H3 L = some (.lst (l.map fun c => vS [c])) := s3.kp _ _ hLR hL2
      have hF3 : H3 F = some (.lst (fd.map fun c => vS [c])) := s3.kp _ _ hFR hF2
      refine ⟨L, _, (k : Int), k, vS [l[k]], rfl, rfl, hL3, by omega, by omega, (ixN_seq (ixN_n (by rw [List.length_map]; exact hk))).1, by rw [List.getElem?_map, List.getElem?_eq_getElem hk]; rfl, ?_⟩
      have hF4 : upd H3 L (.lst ((l.map fun c => vS [c]).eraseIdx k)) F = some (.lst (fd.map fun c => vS [c])) := by rw [upd_ne (Ne.symm hLF)]; exact hF3
      refine ⟨F, _, vS [l[k]], rfl, rfl, hF4, Nat.lt_of_le_of_lt (by rw [List.length_map]; exact hflen) (by decide), l.eraseIdx k, fd ++ [l[k]], ?_, ?_, rfl, ?_, ?_, ?_⟩
      · rw [List.length_eraseIdx_of_lt hk]
        omega
      · rw [List.append_assoc]
        exact (List.Perm.append_left fd (perm_erase l k hk)).trans hp
      · rw [upd_ne hLF, upd_same, erase_map]
      · rw [upd_same, List.map_append]
        rfl
      · have s23 := s2.trans s3
        refine ⟨fun b o n hb => ?_, ?_⟩
        · rw [upd_ne (ne_of_none hb hF0), upd_ne (ne_of_none hb hL)]
          exact s23.kp b o n hb
        · obtain ⟨h1, h2, p, sd, t, h3, h4⟩ := s23.row
          obtain ⟨g1, _⟩ := w0.row
          refine ⟨?_, h2, p, sd, t, h3, ?_⟩
          · exact w0.row.1.kp fun b o n hb => by
              rw [upd_ne (ne_of_none hb hF0), upd_ne (ne_of_none hb hL)]
              exact s23.kp b o n hb
          · rw [upd_ne (Ne.symm hFR), upd_ne (Ne.symm hLR)]
            exact h4
end
end Sw
set_option Elab.async false
set_option linter.all false
set_option maxRecDepth 100000
set_option maxHeartbeats 1000000
/-! scheme. -/
namespace Sw
open PySem PySem.Spec PyProof.Rows L2
section
variable {K : PySem.W.Frag} {B : Bs} {S R : Addr} {xs : List Int} {H1 H' H2 : Hp} {D : Addr} {rs : List Rp}
theorem Czr.nR (c : Czr K B S R xs H1 D rs H') (w : Rw K B S R xs H1) : D ≠ R := fun e => by
  obtain ⟨_, _, p, sd, t, _, h4⟩ := w.row
  rw [← e, c.new] at h4
  cases h4
theorem Czr.rw (c : Czr K B S R xs H1 D rs H') (w : Rw K B S R xs H1) : Rw K (B.add D) S R xs H' := by
  obtain ⟨vs, h1, _⟩ := c.here
  exact ⟨by rw [add_ne (Ne.symm (c.nR w))]; exact w.br, ((c.sr.rw w).dom).add h1 (fun _ z => nomatch z), c.sr.row⟩
theorem Czr.known (c : Czr K B S R xs H1 D rs H') (w : Rw K B S R xs H1) : Same (hd B H1) (hd (B.add D) H') := hd_add (c.sr.hd w) (by
  unfold hd
  split
  · rfl
  · exact c.new)
theorem Czr.up (c : Czr K B S R xs H1 D rs H') (e : Same H' H2) : Czr K B S R xs H1 D rs H2 := by
  obtain ⟨s, n, vs, h1, h2⟩ := c
  exact ⟨s.trans (.of s.row e), n, vs, e _ _ h1, h2.mono (hd_same e)⟩
theorem Czr.draw (c : Czr K B S R xs H1 D rs H') (w : Rw K B S R xs H1) (s : Rs K R S xs H' H2) : Czr K B S R xs H1 D rs H2 := by
  obtain ⟨vs, h1, h2⟩ := c.here
  exact ⟨c.sr.trans s, c.new, vs, s.kp _ _ (c.nR w) h1, h2.mono (s.hd (c.rw w))⟩
theorem Czr.push {r : Rp} {v : V} (c : Czr K B S R xs H1 D rs H') (w : Rw K B S R xs H1) (h : r.at_ (hd (B.add D) H') v) (hl : rs.length < 90000) : ∃ acc, H' D = some (.lst acc) ∧ acc.length < sizeLine ∧ Czr K B S R xs H1 D (rs ++ [r]) (upd H' D (.lst (acc ++ [v]))) := by
  obtain ⟨vs, h1, h2⟩ := c.here
  refine ⟨vs, h1, Nat.lt_of_lt_of_le (by rw [h2.len]; exact hl) (by decide : 90000 ≤ sizeLine), ⟨fun b o n hb => ?_, ?_⟩, c.new, vs ++ [v], upd_same, ?_⟩
  · rw [upd_ne (ne_of_none hb c.new)]
    exact c.sr.kp b o n hb
  · obtain ⟨g1, g2, p, sd, t, g3, g4⟩ := c.sr.row
    exact ⟨w.row.1.kp fun b o n hb => by rw [upd_ne (ne_of_none hb c.new)]; exact c.sr.kp b o n hb, g2, p, sd, t, g3, by rw [upd_ne (Ne.symm (c.nR w))]; exact g4⟩
  · rw [hd_upd (add_self B D)]
    exact h2.app (.cons h .nil)
theorem Czr.done (c : Czr K B S R xs H1 D rs H') (w : Rw K B S R xs H1) : (RL rs).at_ (hd B H') (.ref D) := by
  obtain ⟨vs, h1, h2⟩ := c.here
  exact ⟨D, vs, rfl, hd_of h1 (w.dom.fresh c.new), h2.mono hd_less⟩
theorem s_appR {σ : L2.St} {te : TE} {E : Ends} {k : Nat} {good : Rp → Prop} (c : Czr K B S R xs H1 D rs H') (w : Rw K B S R xs H1) (hs : σ[k]? = some (some (.ref D))) (he : EvR K S R xs te σ (hd (B.add D) H') good) (hl : rs.length < 90000) (q : ∀ r H2, good r → Czr K B S R xs H1 D (rs ++ [r]) H2 → E.nx σ H2) : tApp K (tVar k) te E σ H' := by
  obtain ⟨vs, h1, h2⟩ := c.here
  refine ⟨.ref D, hs, .inl ⟨rfl, _, SqL.of h1⟩, he _ H' (Same.refl _) (c.rw w) _ fun r v H2 g s hv => ?_⟩
  obtain ⟨acc, a1, a2, a3⟩ := (c.draw w s).push w hv hl
  exact ⟨D, acc, v, rfl, rfl, a1, a2, q r _ g a3⟩
end
theorem q_nilR {K : PySem.W.Frag} {B : Bs} {S R : Addr} {xs : List Int} {H : Hp} {σ : L2.St} {D : Ends} {tz : TS} {k : Nat} (w : Rw K B S R xs H) (q : ∀ G H2, Czr K B S R xs H G [] H2 → tz D (σ.set k (some (.ref G))) H2) : tSeq (tAsg (tLst tNil) (gName k)) tz D σ H := ⟨Nat.zero_le _, fun G hG => q G _ ⟨.of w.row (same_upd hG), hG, [], upd_same, .nil⟩⟩
/-- for x in range(what is drawn) -/
theorem s_forD {ta : TA} {σ : L2.St} {H : Hp} {g : TG} {tb : TS} {D : Ends} (N : Nat → Hp → Prop) (ht : ∀ R : List V → Hp → Prop, (∀ n H2, N n H2 → R [vN n] H2) → ta σ H R) (k : ∀ n H2, N n H2 → n ≤ 100000 ∧ ∃ Pv : Nat → L2.St → Hp → Prop, Pv 0 σ H2 ∧
    (∀ i σ' H', i < n → Pv i σ' H' → g (vN i) σ' H' fun σ2 H3 => tb { D with nx := Pv (i + 1), ct := Pv (i + 1), bk := D.nx } σ2 H3) ∧ ∀ σ' H', Pv n σ' H' → D.nx σ' H') : tFor (iRng1 ta) g tb D σ H := by
  refine ht _ fun n H2 hN => ?_
  obtain ⟨hn, Pv, h0, step, done⟩ := k n H2 hN
  refine ⟨(n : Int), rfl, by omega, by omega, fun i m σ' H' => m = n - i ∧ i ≤ n ∧ Pv i σ' H', ⟨_, rfl, Nat.zero_le _, h0⟩, ?_⟩
  rintro i m σ' H' ⟨rfl, hi, p⟩
  by_cases hlt : i < n
  · refine .inr ⟨hlt, Pv (i + 1), fun σ2 H3 p' => ⟨n - (i + 1), by omega, rfl, hlt, p'⟩, ?_⟩
    rintro x H3 ⟨rfl, rfl⟩
    have e : (0 : Int) + (i : Int) = (i : Int) := Int.zero_add _
    rw [e]
    exact step i σ' H3 hlt p
  · have ei : i = n := by omega
    subst ei
    exact .inl ⟨Nat.le_refl _, done σ' H' p⟩
theorem q_forD {ta : TA} {σ : L2.St} {H : Hp} {g : TG} {tb tz : TS} {D : Ends} (N : Nat → Hp → Prop) (ht : ∀ R : List V → Hp → Prop, (∀ n H2, N n H2 → R [vN n] H2) → ta σ H R) (k : ∀ n H2, N n H2 → n ≤ 100000 ∧ ∃ Pv : Nat → L2.St → Hp → Prop, Pv 0 σ H2 ∧
    (∀ i σ' H', i < n → Pv i σ' H' → g (vN i) σ' H' fun σ2 H3 => tb { D with nx := Pv (i + 1), ct := Pv (i + 1), bk := tz D } σ2 H3) ∧ ∀ σ' H', Pv n σ' H' → tz D σ' H') : tSeq (tFor (iRng1 ta) g tb) tz D σ H := s_forD (D := { D with nx := tz D }) N ht k
section
variable {K : PySem.W.Frag} {S R : Addr} {xs : List Int} {σ : L2.St} {H : Hp} {ta tb te to : TE}
theorem slice_to {l : List Nat} {k : Nat} : cutS (tx l) none (some (k : Int)) = tx (l.take k) := by
  rw [C8.cutS_slice]
  exact SX.slice_to (by omega)
theorem ev_sliceTo {l : List Nat} {k : Nat} (ha : Ev ta σ H (RS l)) (hb : Ev tb σ H (RN k)) (hl : l.length ≤ 100000) : Ev (tSl rSlS ta tNoPart (tPart tb)) σ H (RS (l.take k)) := fun B H1 e d Q q =>
  ha B H1 e d _ fun x H2 e2 hx => hb B H2 (e.trans (hd_same e2)) (d.same e2) _ fun y H3 e3 hy => by
    have ex : x = vS l := hx
    subst ex
    refine ⟨(k : Int), hy, tx l, rfl, Nat.le_trans (show l.toArray.size ≤ 100000 by rw [List.size_toArray]; exact hl) (by decide), ?_⟩
    rw [slice_to]
    exact q _ H3 (e2.trans e3) rfl
theorem evr_sliceTo {l : List Nat} {p : Nat → Prop} (ha : Ev ta σ H (RS l)) (hb : EvR K S R xs tb σ H fun r => ∃ k, p k ∧ r = RN k) (hl : l.length ≤ 100000) : EvR K S R xs (tSl rSlS ta tNoPart (tPart tb)) σ H fun r => ∃ k, p k ∧ r = RS (l.take k) := fun B H1 e w Q q =>
  ha B H1 e w.dom _ fun x H2 e2 hx => hb B H2 (e.trans (hd_same e2)) (w.same e2) _ fun r y H3 ⟨k, hp, hr⟩ s3 hy => by
    subst hr
    have ex : x = vS l := hx
    subst ex
    refine ⟨(k : Int), hy, tx l, rfl, Nat.le_trans (show l.toArray.size ≤ 100000 by rw [List.size_toArray]; exact hl) (by decide), ?_⟩
    rw [slice_to]
    exact q _ _ H3 ⟨k, hp, rfl⟩ ((Rs.of w.row e2).trans s3) rfl
/-- signs that were drawn, joined -/
theorem evr_joinC {p : List Nat → Prop} (ho : ∀ H, Ev to σ H (RS [])) (he : EvR K S R xs te σ H fun r => ∃ cs : List Nat, p cs ∧ r = RL (cs.map fun c => RS [c])) (hl : ∀ cs, p cs → cs.length ≤ 100000) : EvR K S R xs (tM1 (rJoinK K) to te) σ H fun r => ∃ cs, p cs ∧ r = RS cs := fun B H1 e w Q q =>
  ho _ B H1 e w.dom _ fun x H2 e2 hx => ⟨⟨_, hx⟩, he B H2 (e.trans (hd_same e2)) (w.same e2) _ fun r y H3 ⟨cs, hp, hr⟩ s3 hy => by
    subst hr
    have ex : x = .str (tx []) := hx
    subst ex
    obtain ⟨a, vs, ey, ha, hv⟩ := hy
    subst ey
    have hv2 : vs = (cs.map fun c => [c]).map vS := al_str (p := cs.map fun c => [c]) (by rw [List.map_map]; exact hv)
    subst hv2
    refine ⟨tx [], a, (cs.map fun c => [c]).map tx, rfl, rfl, .inl (by rw [List.map_map]; exact SqL.of (hd_in ha).1), ?_, ?_⟩
    · have e1 : (((cs.map fun c => [c]).map tx).map (·.length)) = cs.map fun _ => 1 := by
        rw [List.map_map, List.map_map]
        exact List.map_congr_left fun c _ => rfl
      rw [e1, sum_const]
      have e2 : (tx []).length = 0 := rfl
      rw [e2]
      have := hl cs hp
      omega
    · have z := SX.join_S [] (cs.map fun c => [c])
      rw [joinL_nil, flat_one] at z
      rw [show Txt.join (tx []) ((cs.map fun c => [c]).map tx) = tx (cs.map fun c => c) from z, List.map_id']
      exact q _ _ H3 ⟨cs, hp, rfl⟩ ((Rs.of w.row e2).trans s3) rfl⟩
theorem prd_signs {α : Type} {l : List Nat} : ∀ {ys : List α} {rs : List Rp}, Paired (fun _ r => ∃ c ∈ l, r = RS [c]) ys rs → ∃ cs : List Nat, (cs.length = ys.length ∧ ∀ c ∈ cs, c ∈ l) ∧ rs = cs.map fun c => RS [c]
  | _, _, .nil => ⟨[], ⟨rfl, fun _ h => nomatch h⟩, rfl⟩
  | _, _, .cons ⟨c, hc, hr⟩ t => by
    obtain ⟨cs, ⟨h1, h2⟩, h3⟩ := prd_signs t
    refine ⟨c :: cs, ⟨by rw [List.length_cons, List.length_cons, h1], fun d hd => ?_⟩, by rw [List.map_cons, ← h3, ← hr]⟩
    rcases List.mem_cons.mp hd with rfl | hd
    · exact hc
    · exact h2 d hd
end
def sizesOf (cells : Nat) : List (Nat × Nat) := [1, 2, 3, 4].flatMap fun w => ([1, 2, 3, 4].filter fun h => decide (w * h ≤ cells)).map fun h => (w, h)
def okScheme (cells many : Nat) (a : PkA) : Prop := (a.1, a.2.1) ∈ sizesOf cells ∧ 1 ≤ a.2.2.length ∧ a.2.2.length ≤ many ∧ ∀ l ∈ a.2.2, l.length = a.1 * a.2.1 ∧ ∀ c ∈ l, 97 ≤ c ∧ c ≤ 99
def spScheme (K : PySem.W.Frag) : Sp := SpR K (α := Nat × Nat) (fun a => [RN a.1, RN a.2]) (fun a => (a.1 = 4 ∨ a.1 = 2) ∧ 1 ≤ a.2 ∧ a.2 ≤ 100) fun a r => ∃ p : PkA, okScheme a.1 a.2 p ∧ r = RPt p.1 p.2.1 p.2.2
theorem sizes_few : ∀ c ∈ [4, 2], 1 ≤ (sizesOf c).length ∧ (sizesOf c).length ≤ 16 ∧ ∀ p ∈ sizesOf c, 1 ≤ p.1 ∧ p.1 ≤ 4 ∧ 1 ≤ p.2 ∧ p.2 ≤ 4 ∧ p.1 * p.2 ≤ 4 := by decide +kernel
section
variable {P : Program} {w : World} {K : PySem.W.Frag} {mg : Str → Option Value} {base : Heap}
theorem sc48 : FnScope ["_law_row", "_law_cells_here", "_law_many", "_law_some", "_law_w", "_law_h", "_law_part", "_law_kinds", "_law_sheets", "_law_k", "_law_plain", "_law_cell"] ["_law_row", "_law_cells_here", "_law_many"] (C8.fnScope (topS 48)) := C8.fnScope_by (by decide +kernel)
theorem c48 (T : Txt K mg) : C8.Cal P w K mg base 3 "_law_scheme" (spScheme K) [] := by
  refine cal_of T.d48 sc48 (lenR (n := 2) fun _ => rfl) fun f _ cdv A outer s H vs Q E hr h => ?_
  obtain ⟨⟨ce, ma⟩, B, S, R, xs, us, w0, rfl, hvs, ⟨hce, hm1, hm2⟩, q⟩ := h
  dsimp only at hce hm1 hm2
  obtain ⟨y, z, rfl, hy, hz⟩ := hvs.two
  have hy : y = vN ce := hy
  have hz : z = vN ma := hz
  subst hy
  subst hz
  obtain ⟨n1, n2, n3⟩ := sizes_few ce (by rcases hce with rfl | rfl <;> simp)
  have c46 := c46 (P := P) (w := w) (base := base) T
  have c46S := c46S (P := P) (w := w) (base := base) T
  have c45 := c45 (P := P) (w := w) (base := base) T
  refine ⟨_, (pss_cons (ps_set (i := 3) sc48.nd rfl (by first | exact .inl rfl | exact .inr rfl) (pe_lst pa_nil))
      (pss_cons (ps_for PassesOwn.never rfl (show PI _ _ _ (iTup K _) from (pi_tup (pe_tup (pa_cons pe_int (pa_cons pe_int (pa_cons pe_int (pa_cons pe_int pa_nil))))))) (pg_name (i := 4) sc48.nd rfl (by first | exact .inl rfl | exact .inr rfl)) (pss_one (ps_set (i := 3) sc48.nd rfl (by first | exact .inl rfl | exact .inr rfl) (pe_op op_cat (pv 3) (pe_lc (own := [("_law_h", 5)]) (g := (gName 5)) rfl sc48.nd (show PI _ _ _ (iTup K _) from (pi_tup (pe_tup (pa_cons pe_int (pa_cons pe_int (pa_cons pe_int (pa_cons pe_int pa_nil))))))) (blkOk_by (N := ["_law_row", "_law_cells_here", "_law_many", "_law_some", "_law_w", "_law_h", "_law_part", "_law_kinds", "_law_sheets", "_law_k", "_law_plain", "_law_cell"]) (sc := C8.fnScope (topS 48)) (by decide +kernel)) (fun _ _ _ _ _ => (pg_name (i := 5) sc48.nd rfl (by first | exact .inl rfl | exact .inr rfl))) (fun _ _ _ _ _ => (pts_one (pt_cmpR op_le (pe_op op_mul (pv 4) (pv 5)) (pv 1) (nomark _)))) (fun _ _ _ _ _ => (pe_tup (pa_cons (pv 4) (pa_cons (pv 5) pa_nil)))))))))
      (pss_cons (ps_asg (C8.pe_c c46 hr (by decide) (by rfl) (pa_cons (pv 0) (pa_cons (pe_op op_cat (pv 3) (pe_lc (own := [("_law_part", 6)]) (g := (gName 6)) rfl sc48.nd (show PI _ _ _ (iList K _) from (pi_list (pv 3))) (blkOk_by (N := ["_law_row", "_law_cells_here", "_law_many", "_law_some", "_law_w", "_law_h", "_law_part", "_law_kinds", "_law_sheets", "_law_k", "_law_plain", "_law_cell"]) (sc := C8.fnScope (topS 48)) (by decide +kernel)) (fun _ _ _ _ _ => (pg_name (i := 6) sc48.nd rfl (by first | exact .inl rfl | exact .inr rfl))) (fun _ _ _ _ _ => (pts_one (pt_cmpR op_gt (pe_op op_mul (show PE _ _ (tOp (rIxT K) _ _) from (pe_ix ix_tup (pv 6) pe_int (fun _ _ => rfl))) (show PE _ _ (tOp (rIxT K) _ _) from (pe_ix ix_tup (pv 6) pe_int (fun _ _ => rfl)))) pe_int (nomark _)))) (fun _ _ _ _ _ => (pv 6)))) pa_nil))) (pg_tup rfl (pgs_cons (pg_name (i := 4) sc48.nd rfl (by first | exact .inl rfl | exact .inr rfl)) (pgs_cons (pg_name (i := 5) sc48.nd rfl (by first | exact .inl rfl | exact .inr rfl)) pgs_nil))))
      (pss_cons (ps_set (i := 7) sc48.nd rfl (by first | exact .inl rfl | exact .inr rfl) (pe_slice sl_str pe_str po_none (po_some (pe_op op_add pe_int (C8.pe_c c45 hr (by decide) (by rfl) (pa_cons (pv 0) (pa_cons pe_int pa_nil)))))))
      (pss_cons (ps_set (i := 8) sc48.nd rfl (by first | exact .inl rfl | exact .inr rfl) (pe_lst pa_nil))
      (pss_cons (ps_for PassesOwn.never rfl (pi_range1 (by rfl) (T.no "range") (pa_cons (pe_op op_add pe_int (C8.pe_c c45 hr (by decide) (by rfl) (pa_cons (pv 0) (pa_cons (pv 2) pa_nil)))) pa_nil)) (pg_name (i := 9) sc48.nd rfl (by first | exact .inl rfl | exact .inr rfl)) (pss_cons (ps_set (i := 10) sc48.nd rfl (by first | exact .inl rfl | exact .inr rfl) (C8.pe_c c46 hr (by decide) (by rfl) (pa_cons (pv 0) (pa_cons (pe_lst (pa_cons (pv 7) (pa_cons (pv 7) (pa_cons (pe_slice sl_str (pv 7) po_none (po_some pe_int)) pa_nil)))) pa_nil))))
      (pss_one (ps_expr (pe_bm PySem.F.plainAttrs_list PySem.F.slot_list_append PySem.F.type_list_append mt_append (pv 8) (pa_cons (show PE _ _ (tM1 (rJoinK K) _ _) from pe_join pe_str (pe_lc (own := [("_law_cell", 11)]) (g := (gName 11)) (tt := tYes) rfl sc48.nd (pi_range1 (by rfl) (T.no "range") (pa_cons (pe_op op_mul (pv 4) (pv 5)) pa_nil)) (blkOk_by (N := ["_law_row", "_law_cells_here", "_law_many", "_law_some", "_law_w", "_law_h", "_law_part", "_law_kinds", "_law_sheets", "_law_k", "_law_plain", "_law_cell"]) (sc := C8.fnScope (topS 48)) (by decide +kernel)) (fun _ _ _ _ _ => (pg_name (i := 11) sc48.nd rfl (by first | exact .inl rfl | exact .inr rfl))) (fun _ _ _ _ _ => pts_nil) (fun _ _ _ _ _ => (C8.pe_c c46S hr (by decide) (by rfl) (pa_cons (pv 0) (pa_cons (pv 10) pa_nil)))))) pa_nil))))))
      (pss_one (ps_ret (pe_tup (pa_cons (pv 4) (pa_cons (pv 5) (pa_cons (show PE _ _ (tThen _ (kTup K)) from pe_tupleOf (by rfl) (T.no "tuple") (pv 8)) pa_nil)))))))))))), ?_⟩
  refine q_set (r := RL []) w0.dom (ev_lst ea_nil (by decide)) fun v1 H1 e1 d1 hv1 => ?_
  have w1 := w0.same e1
  refine q_for (rs := [1, 2, 3, 4].map RN) d1 (ei_tup (ev_tup (ea_cons ev_nat (ea_cons ev_nat (ea_cons ev_nat (ea_cons ev_nat ea_nil)))) (by decide))) fun H2 e2 d2 => ?_
  refine ⟨B, fun i σ' H' => (∃ lv c4, σ' = [some (.ref R), some (vN ce), some (vN ma), some lv, c4, none, none, none, none, none, none, none] ∧ (RL ((([1, 2, 3, 4].take i).flatMap fun w => ([1, 2, 3, 4].filter fun h => decide (w * h ≤ ce)).map fun h => (w, h)).map RPr)).at_ (hd B H') lv) ∧ Same H2 H', ⟨⟨v1, _, rfl, Rp.mono _ (hd_same e2) hv1⟩, Same.refl _⟩, fun i σ' H' _ ⟨_, sm⟩ => ⟨d2.same sm, hd_same sm⟩, ?_, ?_⟩
  · rintro i r v σ' H' H3 hr0 ⟨⟨lv, c4, rfl, hlv⟩, sm⟩ e3 hv
    obtain ⟨wd, hwd, er⟩ := map_at hr0
    subst er
    have hv : v = vN wd := hv
    subst hv
    have d3 := (d2.same sm).same e3
    have hi := (List.getElem?_eq_some_iff.mp hwd).1
    have hi : i < 4 := hi
    have hwm := List.mem_of_getElem? hwd
    have hw4 : wd ≤ 4 := by
      have : ∀ n ∈ [1, 2, 3, 4], n ≤ 4 := by decide
      exact this wd hwm
    refine s_set (σ := [some (.ref R), some (vN ce), some (vN ma), some lv, some (vN wd), none, none, none, none, none, none, none]) (r := RL ((([1, 2, 3, 4].take (i + 1)).flatMap fun w => ([1, 2, 3, 4].filter fun h => decide (w * h ≤ ce)).map fun h => (w, h)).map RPr)) d3
      (ev_is (ev_catL (ev_var rfl (Rp.mono _ (hd_same e3) hlv)) (ev_lcN (xs := [1, 2, 3, 4]) (ρ := RN) (fun h => if decide (wd * h ≤ ce) = true then some (RPr (wd, h)) else none) (ei_tup (ev_tup (ea_cons ev_nat (ea_cons ev_nat (ea_cons ev_nat (ea_cons ev_nat ea_nil)))) (by decide))) (by decide) (fun _ => rfl) (fun h u H8 hk s8 hu => ?_) fun h u H8 rp hk s8 hu hrp => ?_) ?_) ?_) fun v9 H9 e9 d9 hv9 => ⟨⟨v9, _, rfl, hv9⟩, sm.trans (e3.trans e9)⟩
    · exact et_is (et_test (ev_leN (ev_mulN (ev_var rfl rfl) (ev_var rfl hu) (by omega)) (ev_var rfl rfl))) (is_ite _ _)
    · split at hrp
      · rw [← Option.some.inj hrp]
        exact ev_pr (ev_var rfl rfl) (ev_var rfl hu)
      · cases hrp
    · rw [filter_fm, List.length_map, List.length_map]
      have h1 := flat_len (f := fun w => ([1, 2, 3, 4].filter fun h => decide (w * h ≤ ce)).map fun h => (w, h)) (k := 4) (fun w => by rw [List.length_map]; exact List.length_filter_le _ _) ([1, 2, 3, 4].take i)
      have h2 := List.length_filter_le (fun h => decide (wd * h ≤ ce)) [1, 2, 3, 4]
      rw [List.length_take] at h1
      have h4 : [1, 2, 3, 4].length = 4 := rfl
      omega
    · rw [take_flat hwd, List.map_append, filter_fm, List.map_map]
      rfl
  · rintro σ' H' ⟨⟨lv, c4, rfl, hlv⟩, sm⟩
    have hlv : (RL ((sizesOf ce).map RPr)).at_ (hd B H') lv := hlv
    have s03 := (e1.trans e2).trans sm
    have w3 := w0.same s03
    -- the size
    let pl := sizesOf ce ++ (sizesOf ce).filter fun p => decide (3 < p.1 * p.2)
    have hpick : EvR K S R xs (tCall (spPick K) [] C8.E0 (tCons (tVar 0) (tCons (tOp rCat (tVar 3) (tLc (iList K (tVar 3)) (gName 6) (tTest (tOp (rI0 fun i j => .bl (decide (j < i))) (tOp (rI CMul fun (i j : Int) => V.int (i * j)) (tOp (rIxT K) (tVar 6) (tC (.int 0))) (tOp (rIxT K) (tVar 6) (tC (.int 1)))) (tC (.int 3)))) (tVar 6) [6])) tNil)))
        [some (.ref R), some (vN ce), some (vN ma), some lv, c4, none, none, none, none, none, none, none] (hd B H') fun r => r ∈ pl.map RPr := by
      refine evr_call (k := 0) (pl.map RPr) rfl (evar_pure (ea_cons (ev_is (ev_catL (ev_var rfl hlv) (ev_lcN (xs := sizesOf ce) (ρ := RPr) (fun p => if decide (3 < p.1 * p.2) = true then some (RPr p) else none) (ei_list (ev_var rfl hlv)) (by omega) (fun _ => rfl) (fun p u H8 hk s8 hu => ?_) fun p u H8 rp hk s8 hu hrp => ?_) ?_) ?_) ea_nil)) ⟨?_, ?_⟩
      · obtain ⟨g1, g2, g3, g4, g5⟩ := n3 p hk
        refine et_is (et_test (ev_is (ev_cmpI (g := fun i j => decide (j < i)) (ev_mulN (ev_ixT (k := 0) (ev_var rfl hu) ev_int rfl rfl) (ev_ixT (k := 1) (ev_var rfl hu) ev_int rfl rfl) (by omega)) (ev_nat (n := 3))) ?_)) (is_ite _ _)
        congr 1
        exact decide_eq_decide.mpr Int.ofNat_lt
      · split at hrp
        · rw [← Option.some.inj hrp]
          exact ev_var rfl hu
        · cases hrp
      · rw [filter_fm, List.length_map, List.length_map]
        have := List.length_filter_le (fun p : Nat × Nat => decide (3 < p.1 * p.2)) (sizesOf ce)
        omega
      · rw [filter_fm, ← List.map_append]
      · rw [List.length_map, List.length_append]
        omega
      · rw [List.length_map, List.length_append]
        have := List.length_filter_le (fun p : Nat × Nat => decide (3 < p.1 * p.2)) (sizesOf ce)
        omega
    refine hpick B H' (Same.refl _) w3 _ fun r v H4 hr4 s4 hv4 => ?_
    obtain ⟨⟨wd, hh⟩, hwh, er⟩ := List.mem_map.mp hr4
    subst er
    have hin : (wd, hh) ∈ sizesOf ce := by
      rcases List.mem_append.mp hwh with h | h
      · exact h
      · exact (List.mem_filter.mp h).1
    obtain ⟨g1, g2, g3, g4, g5⟩ := n3 _ hin
    dsimp only at g1 g2 g3 g4 g5
    have w4 := s4.rw w3
    refine tg_two hv4 fun u1 u2 hu1 hu2 => ?_
    have hu1 : u1 = vN wd := hu1
    have hu2 : u2 = vN hh := hu2
    subst hu1
    subst hu2
    show tSeq _ _ _ ([some (.ref R), some (vN ce), some (vN ma), some lv, some (vN wd), some (vN hh), none, none, none, none, none, none] : L2.St) H4
    have ht3 : EvR K S R xs (tCall (spTaken K) [] C8.E0 (tCons (tVar 0) (tCons (tC (.int 3)) tNil))) [some (.ref R), some (vN ce), some (vN ma), some lv, some (vN wd), some (vN hh), none, none, none, none, none, none] (hd B H4) (below 3) := evr_call (k := 0) (a := 3) rfl (evar_pure (ea_cons (ev_nat (n := 3)) ea_nil)) ⟨by decide, by decide⟩
    refine q_setR (good := fun r => ∃ k, (1 ≤ k ∧ k ≤ 3) ∧ r = RS ([97, 98, 99].take k)) w4 (evr_sliceTo (ev_c rfl) (evr_op (evr_pure (ev_nat (n := 1))) ht3 fun B5 H5 r1 r2 a b q1 q2 _ d5 ha hb Q5 q5 => ?_) (by decide)) fun r5 v5 H5 hr5 s5 w5 hv5 => ?_
    · subst q1
      obtain ⟨k, hk, rfl⟩ := q2
      have ha : a = vN 1 := ha
      have hb : b = vN k := hb
      subst ha
      subst hb
      exact ⟨_, _, rfl, rfl, q5 (RN (1 + k)) _ H5 ⟨1 + k, ⟨by omega, by omega⟩, rfl⟩ (Same.refl _) (by show V.int _ = V.int _; rw [Int.natCast_add])⟩
    obtain ⟨kk, ⟨hk1, hk3⟩, rfl⟩ := hr5
    have hkd : ∀ c ∈ [97, 98, 99].take kk, 97 ≤ c ∧ c ≤ 99 := fun c hc => by
      have : ∀ n ∈ [97, 98, 99], 97 ≤ n ∧ n ≤ 99 := by decide
      exact this c (List.mem_of_mem_take hc)
    have hkl : ([97, 98, 99].take kk).length = kk := by
      rw [List.length_take]
      have : [97, 98, 99].length = 3 := rfl
      omega
    generalize [97, 98, 99].take kk = kd at hv5 hkd hkl
    -- sheets
    refine q_nilR w5 fun G H6 c6 => ?_
    show tSeq (tFor _ _ _) _ _ ([some (.ref R), some (vN ce), some (vN ma), some lv, some (vN wd), some (vN hh), none, some v5, some (.ref G), none, none, none] : L2.St) H6
    refine q_forD (fun n H7 => (1 ≤ n ∧ n ≤ ma) ∧ Rs K R S xs H6 H7) (fun Rz hRz => ?_) fun n H7 ⟨⟨hn1, hn2⟩, s7⟩ => ⟨by omega, fun i σ' H' => (∃ c9 c10, σ' = [some (.ref R), some (vN ce), some (vN ma), some lv, some (vN wd), some (vN hh), none, some v5, some (.ref G), c9, c10, none]) ∧ ∃ ts : List (List Nat), (ts.length = i ∧ ∀ l ∈ ts, l.length = wd * hh ∧ ∀ c ∈ l, 97 ≤ c ∧ c ≤ 99) ∧ Czr K B S R xs H5 G (ts.map RS) H', ⟨⟨_, _, rfl⟩, [], ⟨rfl, fun _ h => nomatch h⟩, c6.draw w5 s7⟩, ?_, ?_⟩
    · have ev : EvR K S R xs (tOp (rI0 fun i j => .int (i + j)) (tC (.int 1)) (tCall (spTaken K) [] C8.E0 (tCons (tVar 0) (tCons (tVar 2) tNil)))) [some (.ref R), some (vN ce), some (vN ma), some lv, some (vN wd), some (vN hh), none, some v5, some (.ref G), none, none, none] (hd (B.add G) H6) fun r => ∃ n, (1 ≤ n ∧ n ≤ ma) ∧ r = RN n := by
        refine evr_op (evr_pure ev_nat) (evr_call (k := 0) ma rfl (evar_pure (ea_cons (ev_var rfl rfl) ea_nil)) ⟨hm1, by omega⟩) fun B5 H5 r1 r2 a b q1 q2 _ d5 ha hb Q5 q5 => ?_
        subst q1
        obtain ⟨k, hk, rfl⟩ := q2
        have ha : a = vN 1 := ha
        have hb : b = vN k := hb
        subst ha
        subst hb
        exact ⟨_, _, rfl, rfl, q5 (RN (1 + k)) _ H5 ⟨1 + k, ⟨by omega, by omega⟩, rfl⟩ (Same.refl _) (by show V.int _ = V.int _; rw [Int.natCast_add])⟩
      refine ev (B.add G) H6 (Same.refl _) (c6.rw w5) _ fun r v H7 ⟨n, hn, hrn⟩ s7 hv => ?_
      subst hrn
      have hv : v = vN n := hv
      subst hv
      exact hRz n H7 ⟨hn, s7⟩
    · rintro i σ' H8 hi ⟨⟨c9, c10, rfl⟩, ts, ⟨t1, t2⟩, c8⟩
      have k8 := c8.known w5
      have hv8 : (RS kd).at_ (hd (B.add G) H8) v5 := hv5
      show tSeq _ _ _ ([some (.ref R), some (vN ce), some (vN ma), some lv, some (vN wd), some (vN hh), none, some v5, some (.ref G), some (vN i), c10, none] : L2.St) H8
      have ek {Hz : Hp} : Ev (tVar 7) [some (.ref R), some (vN ce), some (vN ma), some lv, some (vN wd), some (vN hh), none, some v5, some (.ref G), some (vN i), c10, none] Hz (RS kd) := ev_var rfl hv5
      refine q_setR (good := fun r => r ∈ [RS kd, RS kd, RS (kd.take 1)]) (c8.rw w5) (evr_call (k := 0) [RS kd, RS kd, RS (kd.take 1)] rfl (evar_pure (ea_cons (ev_lst (ea_cons ek (ea_cons ek (ea_cons (ev_sliceTo ek (ev_nat (n := 1)) (by omega)) ea_nil))) (by show 3 ≤ 100000; decide)) ea_nil)) ⟨by show 1 ≤ 3; decide, by show 3 ≤ 100000; decide⟩) fun r9 v9 H9 hr9 s9 w9 hv9 => ?_
      have c9 := c8.draw w5 s9
      obtain ⟨pl2, hp1, hp2, rfl⟩ : ∃ p : List Nat, (1 ≤ p.length ∧ p.length ≤ 3) ∧ (∀ c ∈ p, 97 ≤ c ∧ c ≤ 99) ∧ r9 = RS p := by
        rcases List.mem_cons.mp hr9 with h | hr9
        · exact ⟨kd, ⟨by omega, by omega⟩, hkd, h⟩
        rcases List.mem_cons.mp hr9 with h | hr9
        · exact ⟨kd, ⟨by omega, by omega⟩, hkd, h⟩
        · exact ⟨kd.take 1, ⟨by rw [List.length_take]; omega, by rw [List.length_take]; omega⟩, fun c hc => hkd c (List.mem_of_mem_take hc), List.mem_singleton.mp hr9⟩
      have hv9 : v9 = vS pl2 := hv9
      subst hv9
      refine s_appR (σ := [some (.ref R), some (vN ce), some (vN ma), some lv, some (vN wd), some (vN hh), none, some v5, some (.ref G), some (vN i), some (vS pl2), none]) (good := fun r => ∃ cs : List Nat, (cs.length = wd * hh ∧ ∀ c ∈ cs, c ∈ pl2) ∧ r = RS cs) c9 w5 rfl ?_ (by rw [List.length_map]; omega) fun r H10 ⟨cs, ⟨hc1, hc2⟩, hrc⟩ c10 => ⟨⟨_, _, rfl⟩, ts ++ [cs], ⟨by rw [List.length_append, t1]; rfl, fun l hl => ?_⟩, ?_⟩
      · refine evr_joinC (fun _ => ev_nils) (EvR.imp (evr_lc (ys := List.range (wd * hh)) (ρ := RN) (fun _ r => ∃ c ∈ pl2, r = RS [c]) (ei_rng1 (ea_cons (ev_mulN (ev_var rfl rfl) (ev_var rfl rfl) (by omega)) ea_nil) (by omega)) (by rw [List.length_range]; omega) (fun _ => rfl) fun c v H11 hc s11 hv => evr_call (k := 0) pl2 rfl (evar_pure (ea_cons (ev_var rfl rfl) ea_nil)) ⟨hp1.1, by omega⟩) ?_) fun cs h => by rw [h.1]; omega
        rintro r ⟨rs, hp, rfl⟩
        obtain ⟨cs, ⟨h1, h2⟩, h3⟩ := prd_signs hp
        rw [List.length_range] at h1
        exact ⟨cs, ⟨h1, h2⟩, by rw [h3]⟩
      · rcases List.mem_append.mp hl with h | h
        · exact t2 l h
        · rw [List.mem_singleton.mp h]
          exact ⟨hc1, fun c hc => hp2 c (hc2 c hc)⟩
      · rw [List.map_append]
        subst hrc
        exact c10
    · rintro σ' H8 ⟨⟨c9, c10, rfl⟩, ts, ⟨t1, t2⟩, c8⟩
      have w8 := c8.sr.rw w5
      refine s_ret (B := B) w8.dom (ev_tup (ea_cons (ev_var rfl (r := RN wd) rfl) (ea_cons (ev_var rfl (r := RN hh) rfl) (ea_cons (ev_tupOf (ev_var rfl (c8.done w5))) ea_nil))) (by show 3 ≤ 100000; decide)) fun v9 H9 e9 hv9 => ?_
      refine q (RPt wd hh ts) v9 H9 ⟨(wd, hh, ts), ⟨hin, by show 1 ≤ ts.length; omega, by show ts.length ≤ ma; omega, t2⟩, rfl⟩ ((((Rs.of w0.row s03).trans s4).trans s5).trans (c8.sr.trans (.of c8.sr.row e9))) hv9
end
end Sw
set_option Elab.async false
set_option linter.all false
set_option maxRecDepth 100000
set_option maxHeartbeats 1000000
/-! A lambda that reads its maker's names, handed to another def. -/
namespace Sw
open PySem PySem.Spec PyProof.Rows L2 LamX
/-! ### known things made unknown, unknown ones made known -/
def unT (S : Addr → Bool) (H : Hp) : Hp := fun a => if S a = true then none else H a
def reT (S : Addr → Bool) (H0 H : Hp) : Hp := fun a => if S a = true then H0 a else H a
def trT (T : Addr → Option Obj) (H : Hp) : Hp := fun a => match T a with
  | some o => some (.frz o (.own 0))
  | none => H a
theorem unT_in {S : Addr → Bool} {H : Hp} {a : Addr} {o : HO} (h : unT S H a = some o) : S a = false ∧ H a = some o := by
  unfold unT at h
  cases e : S a with
  | true => rw [e, if_pos rfl] at h; cases h
  | false => rw [e, if_neg Bool.false_ne_true] at h; exact ⟨rfl, h⟩
theorem unT_of {S : Addr → Bool} {H : Hp} {a : Addr} (e : S a = false) : unT S H a = H a := by
  unfold unT
  rw [e, if_neg Bool.false_ne_true]
theorem unT_hit {S : Addr → Bool} {H : Hp} {a : Addr} (e : S a = true) : unT S H a = none := by
  unfold unT
  rw [e, if_pos rfl]
theorem unT_none {S : Addr → Bool} {H : Hp} {a : Addr} (h : H a = none) : unT S H a = none := by
  unfold unT
  split
  · rfl
  · exact h
theorem reT_of {S : Addr → Bool} {H0 H : Hp} {a : Addr} (e : S a = false) : reT S H0 H a = H a := by
  unfold reT
  rw [e, if_neg Bool.false_ne_true]
theorem reT_hit {S : Addr → Bool} {H0 H : Hp} {a : Addr} (e : S a = true) : reT S H0 H a = H0 a := by
  unfold reT
  rw [e, if_pos rfl]
theorem trT_none {T : Addr → Option Obj} {H : Hp} {a : Addr} (e : T a = none) : trT T H a = H a := by
  unfold trT
  rw [e]
theorem trT_some {T : Addr → Option Obj} {H : Hp} {a : Addr} {o : Obj} (e : T a = some o) : trT T H a = some (.frz o (.own 0)) := by
  unfold trT
  rw [e]
theorem same_unT {S : Addr → Bool} {H H' : Hp} (e : Same H H') : Same (unT S H) (unT S H') := fun a o h => by
  obtain ⟨h1, h2⟩ := unT_in h
  rw [unT_of h1]
  exact e _ _ h2
theorem hd_unT {S : Addr → Bool} {B : Bs} {H : Hp} : hd B (unT S H) = unT S (hd B H) := by
  funext a
  unfold hd unT
  by_cases h1 : B a = true
  · simp [h1]
  · simp [h1]
section
variable {P : Program} {w : World} {K : PySem.W.Frag} {mg : Str → Option Value} {base : Heap} {A : Around} {outer : List Env} {s s' : Shared} {H : Hp} {S : Addr → Bool} {T : Addr → Option Obj} {u : Value} {Q : VK}
theorem untE (e : Env0 P w K mg base A outer s H) (hS : ∀ a, S a = true → ∃ o, H a = some (.frz o (.own 0))) : Env0 P w K mg base A outer s (unT S H) := by
  refine ⟨e.frames, e.mod, fun b o h => ⟨(e.bs b o h).1, unT_none (e.bs b o h).2⟩, e.bsz, e.funs, fun b hb => unT_none (e.frf b hb), fun a o h => ?_, e.bare⟩
  obtain ⟨_, h2⟩ := unT_in h
  have ne : ∀ b (x : HO), H b = some x → (∀ o u, x ≠ .frz o u) → unT S H b = some x := fun b x q n => by
    cases hb : S b with
    | false => rw [unT_of hb]; exact q
    | true =>
      obtain ⟨o, z⟩ := hS b hb
      rw [q] at z
      exact absurd (Option.some.inj z) (n _ _)
  exact (e.hok a o h2).stay (fun b u _ q => q) (fun b q => ne b _ q fun _ _ z => nomatch z) fun b xs q => ne b _ q fun _ _ z => nomatch z
theorem untC (e : Env0 P w K mg base A outer s H) (hS : ∀ a, S a = true → ∃ o, H a = some (.frz o (.own 0))) (h : CE outer P w (unT S H) s (fun v H' => Q v (reT S H H')) u s') : CE outer P w H s Q u s' := by
  obtain ⟨v, H', os, bare, un, hok, r, q⟩ := h
  have at_ : ∀ a, S a = true → ∃ o, H a = some (.frz o (.own 0)) ∧ s.heap.get? a = some o := fun a ha => by
    obtain ⟨o, z⟩ := hS a ha
    exact ⟨o, z, (e.hok a _ z).1⟩
  have gone : ∀ a, S a = true → H' a = none := fun a ha => by
    obtain ⟨o, _, z⟩ := at_ a ha
    exact un.free a o z (unT_hit ha) (by simp)
  have nS : ∀ a, H a = none → S a = false := fun a ha => by
    cases hb : S a with
    | false => rfl
    | true =>
      obtain ⟨o, z, _⟩ := at_ a hb
      rw [ha] at z
      cases z
  have nf : ∀ a (x : HO), H a = some x → (∀ o u, x ≠ .frz o u) → S a = false := fun a x q n => by
    cases hb : S a with
    | false => rfl
    | true =>
      obtain ⟨o, z, _⟩ := at_ a hb
      rw [q] at z
      exact absurd (Option.some.inj z) (n _ _)
  refine ⟨v, reT S H H', os, bare, ⟨fun b o g n hb hx => un.keep b o g (unT_none n) hb hx, fun b o g n hb hx => un.slot b o g (unT_none n) hb hx, fun b o g n hx => ?_, un.there, fun b xs g => ?_, fun b o x g => ?_, fun b ps g => ?_⟩, fun a o h => ?_, r, q⟩
  · rw [reT_of (nS b n)]
    exact un.free b o g (unT_none n) hx
  · have z := nf b _ g fun _ _ z => nomatch z
    rw [reT_of z]
    exact un.tups b xs (by rw [unT_of z]; exact g)
  · cases hb : S b with
    | true => rw [reT_hit hb]; exact g
    | false =>
      rw [reT_of hb]
      exact un.frzs b o x (by rw [unT_of hb]; exact g)
  · have z := nf b _ g fun _ _ z => nomatch z
    rw [reT_of z]
    exact un.tbls b ps (by rw [unT_of z]; exact g)
  · cases ha : S a with
    | true =>
      rw [reT_hit ha] at h
      obtain ⟨o2, z1, z2⟩ := at_ a ha
      rw [z1] at h
      cases h
      have k := un.keep a o2 z2 (unT_hit ha) (fun hm => by rw [e.frf a hm] at z1; cases z1) (by simp)
      exact ⟨k, ⟨o2, k⟩⟩
    | false =>
      rw [reT_of ha] at h
      have nn : ∀ b (x : HO), H' b = some x → reT S H H' b = some x := fun b x z => by
        cases hb : S b with
        | true => rw [gone b hb] at z; cases z
        | false => rw [reT_of hb]; exact z
      exact (hok a o h).stay (fun b u _ q => q) (fun b q => nn b _ q) fun b xs q => nn b _ q
structure Tk (base : Heap) (outer : List Env) (h : Heap) (H : Hp) (T : Addr → Option Obj) : Prop where
  all : ∀ a o, T a = some o → h.get? a = some o ∧ H a = none ∧ a ∉ frs outer ∧ base.get? a = none
theorem Tk.no {h : Heap} (k : Tk base outer h H T) {a : Addr} {x : HO} (q : H a = some x) : T a = none := by
  cases e : T a with
  | none => rfl
  | some o =>
    rw [(k.all a o e).2.1] at q
    cases q
theorem trkE (e : Env0 P w K mg base A outer s H) (k : Tk base outer s.heap H T) : Env0 P w K mg base A outer s (trT T H) := by
  refine ⟨e.frames, e.mod, fun b o h => ⟨(e.bs b o h).1, ?_⟩, e.bsz, e.funs, fun b hb => ?_, fun a o h => ?_, e.bare⟩
  · cases q : T b with
    | none => rw [trT_none q]; exact (e.bs b o h).2
    | some x =>
      rw [(k.all b x q).2.2.2] at h
      cases h
  · cases q : T b with
    | none => rw [trT_none q]; exact e.frf b hb
    | some x => exact absurd hb (k.all b x q).2.2.1
  · cases q : T a with
    | some x =>
      rw [trT_some q] at h
      cases h
      exact ⟨(k.all a x q).1, ⟨x, (k.all a x q).1⟩⟩
    | none =>
      rw [trT_none q] at h
      exact (e.hok a o h).stay (fun b u _ q => q) (fun b q => by rw [trT_none (k.no q)]; exact q) fun b xs q => by rw [trT_none (k.no q)]; exact q
abbrev inT (T : Addr → Option Obj) : Addr → Bool := fun a => (T a).isSome
theorem trkC (k : Tk base outer s.heap H T) (h : CE outer P w (trT T H) s (fun v H' => Q v (unT (inT T) H')) u s') : CE outer P w H s Q u s' := by
  obtain ⟨v, H', os, bare, un, hok, r, q⟩ := h
  have out : ∀ a, T a = none → inT T a = false := fun a z => by unfold inT; rw [z]; rfl
  have isin : ∀ a o, T a = some o → inT T a = true := fun a o z => by unfold inT; rw [z]; rfl
  have fz : ∀ a o, T a = some o → H' a = some (.frz o (.own 0)) := fun a o z => un.frzs a o _ (trT_some z)
  refine ⟨v, unT (inT T) H', os, bare, ⟨fun b o g n hb hx => ?_, fun b o g n hb hx => ?_, fun b o g n hx => ?_, un.there, fun b xs g => ?_, fun b o x g => ?_, fun b ps g => ?_⟩, fun a o h => ?_, r, q⟩
  · cases z : T b with
    | none => exact un.keep b o g (by rw [trT_none z]; exact n) hb hx
    | some x =>
      have e1 := (k.all b x z).1
      rw [g] at e1
      cases e1
      exact (hok b _ (fz b _ z)).1
  · cases z : T b with
    | none => exact un.slot b o g (by rw [trT_none z]; exact n) hb hx
    | some x => exact absurd hb (k.all b x z).2.2.1
  · cases z : T b with
    | none =>
      rw [unT_of (out b z)]
      exact un.free b o g (by rw [trT_none z]; exact n) hx
    | some x => exact unT_hit (isin b x z)
  · have z := k.no g
    rw [unT_of (out b z)]
    exact un.tups b xs (by rw [trT_none z]; exact g)
  · have z := k.no g
    rw [unT_of (out b z)]
    exact un.frzs b o x (by rw [trT_none z]; exact g)
  · have z := k.no g
    rw [unT_of (out b z)]
    exact un.tbls b ps (by rw [trT_none z]; exact g)
  · obtain ⟨_, h2⟩ := unT_in h
    have nn : ∀ b (x : HO), H' b = some x → (∀ o u, x ≠ .frz o u) → unT (inT T) H' b = some x := fun b x z n => by
      cases hb : T b with
      | none => rw [unT_of (out b hb)]; exact z
      | some y =>
        rw [fz b y hb] at z
        exact absurd (Option.some.inj z).symm (n _ _)
    exact (hok a o h2).stay (fun b u _ q => q) (fun b q => nn b _ q fun _ _ z => nomatch z) fun b xs q => nn b _ q fun _ _ z => nomatch z
end
/-! ### the lambda of least_for_all -/
def lamE : Expr := match C8.fnBody (topS 40) with
  | [_, .Return (some (.Call _ [_, l] _ _)) _] => l
  | _ => .Constant .none 0 ⟨0, 0, 0, 0⟩
def lamPar : Arguments := match lamE with
  | .Lambda a _ _ _ => a
  | _ => ⟨[], [], none, [], [], none, []⟩
def lamBd : Expr := match lamE with
  | .Lambda _ b _ _ => b
  | _ => .Constant .none 0 ⟨0, 0, 0, 0⟩
def lamSc : Scope := match lamE with
  | .Lambda _ _ s _ => s
  | _ => ⟨.function, [], false, false, []⟩
abbrev qL : Str := "least_for_all.<locals>.<lambda>"
abbrev lamN : List Str := ["pattern", "packet", "goals"]
theorem lamScope : NdefX.NScope lamN ["pattern"] ["packet", "goals"] lamSc := NdefX.nscope_by (by decide +kernel)
abbrev lamO (cl : List (Str × Addr)) (pm : Value) (c' : Addr) (ctv : Value) : Obj := PySem.W.kla_obj "<lambda>" qL lamPar lamBd lamSc cl pm c' ctv
/-- the lambda at f: its code, its cells, what they hold -/
structure LamW (base : Heap) (H : Hp) (f : Addr) (v1 v2 : V) (c1 c2 : Addr) : Prop where
  ex : ∃ (cl : List (Str × Addr)) (pm ctv : Value) (c' : Addr) (o1 o2 : Obj) (u1 u2 : Value), (H f = some (.frz (lamO cl pm c' ctv) (.own 0)) ∨ base.get? f = some (lamO cl pm c' ctv)) ∧ H c' = some (CodeO c' qL) ∧
    H c1 = some (.frz o1 (.own 0)) ∧ o1.data = .cell (some u1) ∧ RelV v1 u1 ∧ H c2 = some (.frz o2 (.own 0)) ∧ o2.data = .cell (some u2) ∧ RelV v2 u2 ∧
    cl.lookup ("packet" : Str) = some c1 ∧ cl.lookup ("goals" : Str) = some c2 ∧ (∀ y c, cl.lookup y = some c → (y = "packet" ∧ c = c1) ∨ (y = "goals" ∧ c = c2)) ∧ c1 ≠ c2
theorem LamW.up {base : Heap} {H H' : Hp} {f : Addr} {v1 v2 : V} {c1 c2 : Addr} (l : LamW base H f v1 v2 c1 c2) (e : Same H H') : LamW base H' f v1 v2 c1 c2 := by
  obtain ⟨cl, pm, ctv, c', o1, o2, u1, u2, h1, h2, h3, h4, h5, h6, h7, h8, h9⟩ := l
  exact ⟨cl, pm, ctv, c', o1, o2, u1, u2, h1.imp (e _ _) id, e _ _ h2, e _ _ h3, h4, h5, e _ _ h6, h7, h8, h9⟩
abbrev S2 (c1 c2 : Addr) : Addr → Bool := fun a => decide (a = c1) || decide (a = c2)
theorem LamW.frz {base : Heap} {H : Hp} {f : Addr} {v1 v2 : V} {c1 c2 : Addr} (l : LamW base H f v1 v2 c1 c2) : ∀ a, S2 c1 c2 a = true → ∃ o, H a = some (.frz o (.own 0)) := fun a ha => by
  obtain ⟨cl, pm, ctv, c', o1, o2, u1, u2, _, _, h3, _, _, h6, _⟩ := l
  simp only [S2, Bool.or_eq_true, decide_eq_true_eq] at ha
  rcases ha with rfl | rfl
  · exact ⟨_, h3⟩
  · exact ⟨_, h6⟩
section
variable {P : Program} {w : World} {K : PySem.W.Frag} {mg : Str → Option Value} {base : Heap} {C : Addr}
theorem lam_run {A : Around} {outer : List Env} {s : Shared} {H : Hp} {f c1 c2 : Addr} {v1 v2 v : V} {uv : Value} {Q : VK} {E : XK} (c38 : C8.Cal P w K mg base 3 "does_give" (spGive C) []) (hr : Room 4 A) (e0 : Env0 P w K mg base A outer s H) (L : LamW base H f v1 v2 c1 c2) (r : RelV v uv)
    (h : spGive C [v1, v, v2] (unT (S2 c1 c2) H) (fun r H' => Q r (reT (S2 c1 c2) H H')) C8.E0) : codeAny (model P w) A (.call (.ref f) ⟨[uv], []⟩) (CR C8.CX0 outer P w H s Q E) s := by
  have hS := L.frz
  have e1 := untE e0 hS
  obtain ⟨cl, pm, ctv, c', o1, o2, u1, u2, hf, hc, h1, d1, r1, h2, d2, r2, k1, k2, k3, ne⟩ := L.ex
  have ho : s.heap.get? f = some (lamO cl pm c' ctv) := by
    rcases hf with z | z
    · exact (e0.hok f _ z).1
    · exact (e0.bs f _ z).1
  have g1 : s.heap.get? c1 = some o1 := (e0.hok c1 _ h1).1
  have g2 : s.heap.get? c2 = some o2 := (e0.hok c2 _ h2).1
  have lim : s.heap.NoLimit := e0.mod.nolimit.keeps fun b o e => (e0.bs b o e).1
  have S := lamScope
  refine PySem.W.kla_callFunE hr.depth ho rfl S.co S.gen rfl (NdefX.codeO_at e0.hok hc) ?_
  have hb : bindArgs (PySem.W.kla_fn "<lambda>" qL lamPar lamBd lamSc cl pm (.ref c') ctv) ⟨[uv], []⟩ = (pure [(("pattern" : Str), uv)] : Sem (List (Str × Value))) := rfl
  rw [hb]
  refine wpAny_pure (wpAny_newFunctionEnv S.nocell (fun y hy => S.par y.1 (by rw [List.mem_singleton.mp hy]; exact List.mem_singleton.mpr rfl)) (fun h₁ hns hsb => ⟨lim.fresh _ hsb, ?_⟩) S.kind)
  show codeAny _ _ (.expr lamBd (NdefX.envF ⟨"<lambda>", qL, lamPar, [], lamSc, cl, c'⟩ f s.heap.objs.size)) _ _
  have kp : ∀ b o, s.heap.get? b = some o → h₁.get? b = some o := fun b o e => hsb.extBut b o (Nat.ne_of_lt (Heap.lt_size e)) (Heap.get?_push_of_some _ e)
  have CA : NdefX.CellsAt cl ["packet", "goals"] [some v1, some v2] s.heap (unT (S2 c1 c2) H) := by
    refine ⟨rfl, fun y c e => ?_, fun x y c a b => ?_, fun i y e => ?_⟩
    · rcases k3 y c e with ⟨_, rfl⟩ | ⟨_, rfl⟩
      · exact ⟨unT_hit (by simp [S2]), some u1, o1, g1, d1⟩
      · exact ⟨unT_hit (by simp [S2]), some u2, o2, g2, d2⟩
    · rcases k3 x c a with ⟨x1, x2⟩ | ⟨x1, x2⟩ <;> rcases k3 y c b with ⟨y1, y2⟩ | ⟨y1, y2⟩
      · rw [x1, y1]
      · exact absurd (x2.symm.trans y2) ne
      · exact absurd (y2.symm.trans x2) ne
      · rw [x1, y1]
    · match i, e with
      | 0, e =>
        have e2 : y = "packet" := (Option.some.inj e).symm
        subst e2
        refine ⟨c1, k1, fun v hv => ?_⟩
        have : v1 = v := by simpa using hv
        subst this
        exact ⟨u1, r1, o1, g1, d1⟩
      | 1, e =>
        have e2 : y = "goals" := (Option.some.inj e).symm
        subst e2
        refine ⟨c2, k2, fun v hv => ?_⟩
        have : v2 = v := by simpa using hv
        subst this
        exact ⟨u2, r2, o2, g2, d2⟩
      | i + 2, e => simp at e
  have J : Inv (NdefX.ncx C8.CX0 P w K mg base lamN ⟨"<lambda>", qL, lamPar, [], lamSc, cl, c'⟩ f A outer s (unT (S2 c1 c2) H) C8.E0) [] (NdefX.startF lamN [v] [some v1, some v2]) (unT (S2 c1 c2) H) { s with heap := h₁, toks := s.toks + ([("pattern", uv)] : List (Str × Value)).length } :=
    NdefX.inv_startN (ps := ["pattern"]) (us := [uv]) S hr.hd e1 rfl (.cons r .nil) CA hns kp
  have hp : PE (NdefX.ncx C8.CX0 P w K mg base lamN ⟨"<lambda>", qL, lamPar, [], lamSc, cl, c'⟩ f A outer s (unT (S2 c1 c2) H) C8.E0) lamBd (tCall (spGive C) [] C8.E0 (tCons (tVar 1) (tCons (tVar 0) (tCons (tVar 2) tNil)))) :=
    C8.pe_c c38 (j := 3) (hr.deeper _) (by decide) (by rfl) (pa_cons (pv 1) (pa_cons (pv 0) (pa_cons (pv 2) pa_nil)))
  refine PySem.W.kla_codeExpr (wpAny_mono (hp.run [] _ _ (unT (S2 c1 c2) H) (fun r H' => Q r (reT (S2 c1 c2) H H')) J ?_) (fun v s' hq => ?_) fun e s' hq => hq)
  · exact ⟨v1, rfl, v, rfl, v2, rfl, h⟩
  · obtain ⟨w', H', J', rv, q⟩ := hq
    exact untC e0 hS ⟨w', H', J'.os, J'.bare, J'.base, J'.hok, rv, q⟩
/-- the lambda in slot i, called -/
def tLamC (base : Heap) (C : Addr) (i : Nat) (t : TA) : TE := fun σ H Q => ∃ f v1 v2 c1 c2, σ[i]? = some (some (.ref f)) ∧ LamW base H f v1 v2 c1 c2 ∧ t σ H fun vs H1 => ∃ v, vs = [v] ∧ LamW base H1 f v1 v2 c1 c2 ∧ spGive C [v1, v, v2] (unT (S2 c1 c2) H1) (fun r H' => Q r (reT (S2 c1 c2) H1 H')) C8.E0
theorem lam_fnAt {X : Cx} {pins : List (Addr × Obj)} {σ : L2.St} {H : Hp} {s : Shared} {f c1 c2 : Addr} {v1 v2 : V} (I : Inv X pins σ H s) (L : LamW X.base H f v1 v2 c1 c2) : PySem.W.FnAt f s.heap := by
  obtain ⟨cl, pm, ctv, c', o1, o2, u1, u2, hf, _⟩ := L.ex
  have ho : s.heap.get? f = some (lamO cl pm c' ctv) := by
    rcases hf with z | z
    · exact (I.hok f _ z).1
    · exact I.bk f _ z
  exact ⟨_, _, _, _, ho⟩
theorem pe_lamv {X : Cx} {i j : Nat} {x : Str} {p pos : Pos} {e : Expr} {es : List Expr} {t : TA} (c38 : C8.Cal X.prog X.w X.K X.mg X.base 3 "does_give" (spGive C) []) (hr : Room j X.A) (hk : 4 ≤ j) (hN : X.N[i]? = some x) (hv : Vis X.env.scope x) (ha : PA X (e :: es) t)
    (hd : (x == ("__debug__" : Str)) = false := by decide) (hcd : (x == ("__classdict__" : Str)) = false := by decide)
    (he : starEach (e :: es) X.env = (false, eval e X.env) :: starEach es X.env := by rfl) (hpl : (backTo pos (starEach es X.env)).any (·.1) = false := by rfl) :
    PE X (.Call (.Name x p) (e :: es) [] pos) (tLamC X.base C i t) := by
  refine ⟨fun pins s σ H Q I h => ?_⟩
  obtain ⟨f, v1, v2, c1, c2, hs, hL, ht⟩ := h
  refine wpAny_Call_Name_kw (thn ((pe_var (pos := p) hN hv hd hcd).run pins s σ H (fun v H1 => v = .ref f ∧ H1 = H) I ⟨.ref f, hs, rfl, rfl⟩) fun u s1 ⟨v, H1, I1, r1, q1⟩ => ?_)
  obtain ⟨ev, eH⟩ := q1
  subst ev
  rw [eH] at I1
  obtain rfl : u = Value.ref f := r1
  refine PySem.W.callWith_F (first := []) (lam_fnAt I1 hL) (thn (ha.run pos pins s1 σ H _ I1 ht) fun us s2 ⟨vs, H2, I2, r, v, ev, hL2, q⟩ => ⟨lam_fnAt I2 hL2, ?_⟩) he hpl
  show wpAny _ _ (call (.ref f) us) _ _ _
  subst ev
  obtain ⟨uv, rfl, rv⟩ : ∃ uv, us = [uv] ∧ RelV v uv := by
    cases r with
    | cons a b => cases b; exact ⟨_, rfl, a⟩
  refine wpAny_call (codeAny_mono (lam_run (E := C8.E0) (Q := Q) c38 (hr.mono hk) I2.env0 hL2 rv q) fun r s' hq => ?_)
  cases r with
  | error e => exact False.elim hq
  | ok fl =>
    cases fl with
    | ret u => exact I2.after hq
    | next => exact False.elim hq
    | brk => exact False.elim hq
    | cont => exact False.elim hq
/-- the lambda as a value -/
def RLam (base : Heap) (C : Addr) (a : PkA) (gs : List (List Nat)) : Rp := ⟨fun H v => ∃ f v1 v2 c1 c2, v = .ref f ∧ LamW base H f v1 v2 c1 c2 ∧ (RPkA C a).at_ (unT (S2 c1 c2) H) v1 ∧ (RSh gs).at_ (unT (S2 c1 c2) H) v2,
  fun e ⟨f, v1, v2, c1, c2, h1, h2, h3, h4⟩ => ⟨f, v1, v2, c1, c2, h1, h2.up e, Rp.mono _ (same_unT e) h3, Rp.mono _ (same_unT e) h4⟩⟩
theorem rp_unT {S : Addr → Bool} {H : Hp} {p : List Nat} {v : V} (h : (RP p).at_ H v) (hS : ∀ a, S a = true → ∃ o, H a = some (.frz o (.own 0))) : (RP p).at_ (unT S H) v := by
  obtain ⟨a, rfl, ha⟩ := rp_at h
  refine ⟨a, _, rfl, ?_, nat_al p⟩
  cases e : S a with
  | false => rw [unT_of e]; exact ha
  | true =>
    obtain ⟨o, z⟩ := hS a e
    rw [ha] at z
    cases z
theorem ev_lamv {σ : L2.St} {H : Hp} {te : TE} {i : Nat} {v : V} {a : PkA} {gs : List (List Nat)} {pat : List Nat} (hi : σ[i]? = some (some v)) (hv : (RLam base C a gs).at_ H v) (he : Ev te σ H (RP pat))
    (hp : fewPk a ∧ okGoals a gs ∧ pat.length = a.1 * a.2.1 ∧ pat ≠ [] ∧ top pat ≤ 100) : Ev (tLamC base C i (tCons te tNil)) σ H (RB (gives a.2.2 gs pat)) := fun B H1 e d Q q => by
  obtain ⟨f, v1, v2, c1, c2, rfl, L, h1, h2⟩ := hv
  refine ⟨f, v1, v2, c1, c2, hi, (L.up e).up hd_all, ?_⟩
  refine (ea_cons he ea_nil) B H1 e d _ fun vs H2 e2 hvs => ?_
  obtain ⟨x, rfl, hx⟩ := hvs.one
  have k : Same H (hd B H2) := e.trans (hd_same e2)
  have L2 := L.up k
  have hS := L2.frz
  refine ⟨x, rfl, L2.up hd_all, (a, pat, gs), B, fun b hb => ?_, ?_, hp, fun r H3 s3 hr => q _ _ ?_ hr⟩
  · obtain ⟨z1, z2⟩ := d.same e2 b hb
    have : S2 c1 c2 b = false := by
      cases g : S2 c1 c2 b with
      | false => rfl
      | true =>
        obtain ⟨o, z⟩ := hS b g
        rw [(hd_in z).2] at hb
        cases hb
    rw [unT_of this]
    exact ⟨z1, z2⟩
  · rw [hd_unT]
    exact .cons (Rp.mono _ (same_unT k) h1) (.cons (rp_unT hx hS) (.cons (Rp.mono _ (same_unT k) h2) .nil))
  · refine e2.trans fun b o z => ?_
    cases g : S2 c1 c2 b with
    | true => rw [reT_hit g]; exact z
    | false =>
      rw [reT_of g]
      exact s3 _ _ (by rw [unT_of g]; exact z)
end
end Sw
set_option Elab.async false
set_option linter.all false
set_option maxRecDepth 100000
set_option maxHeartbeats 1000000
/-! least_of. -/
namespace Sw
open PySem PySem.Spec PyProof.Rows L2 LamX
def rowsG (a : PkA) (gs : List (List Nat)) : List (List Nat) := (patterns a.1 a.2.1).filter (gives a.2.2 gs)
def leastLen (a : PkA) (gs : List (List Nat)) : Option Nat := ((rowsG a gs).map (lenOf a.1 a.2.1)).min?
def RMinO : Option Nat → Rp
  | none => RO
  | some n => RMin n
theorem leastLen_none {a : PkA} {gs : List (List Nat)} (h : rowsG a gs = []) : leastLen a gs = none := by
  unfold leastLen
  rw [h]
  rfl
theorem leastLen_some {a : PkA} {gs : List (List Nat)} (h : rowsG a gs ≠ []) : ∃ n, leastLen a gs = some n ∧ (∃ p ∈ rowsG a gs, lenOf a.1 a.2.1 p = n) ∧ ∀ p ∈ rowsG a gs, n ≤ lenOf a.1 a.2.1 p := by
  unfold leastLen
  cases e : ((rowsG a gs).map (lenOf a.1 a.2.1)).min? with
  | none =>
    rw [List.min?_eq_none_iff] at e
    exact absurd (List.map_eq_nil_iff.mp e) h
  | some n =>
    obtain ⟨h1, h2⟩ := List.min?_eq_some_iff.mp e
    obtain ⟨p, hp, e2⟩ := List.mem_map.mp h1
    exact ⟨n, rfl, ⟨p, hp, e2⟩, fun p hp => h2 _ (List.mem_map.mpr ⟨p, hp, rfl⟩)⟩
section
variable {P : Program} {w : World} {K : PySem.W.Frag} {mg : Str → Option Value} {base : Heap} {C : Addr}
def spLo (base : Heap) (C : Addr) : Sp := SpOf (α := PkA × List (List Nat)) (fun a => [RPkA C a.1, RLam base C a.1 a.2]) (fun a => fewPk a.1 ∧ okGoals a.1 a.2) fun a => RMinO (leastLen a.1 a.2)
theorem sc39 : FnScope ["packet", "is_good", "rows", "pattern"] ["packet", "is_good"] (C8.fnScope (topS 39)) := C8.fnScope_by (by decide +kernel)
theorem c39 (T : Txt K mg) (pk : Pkt K mg C) : C8.Cal P w K mg base 5 "least_of" (spLo base C) [] := by
  refine cal_of T.d39 sc39 (len_of (n := 2) fun _ => rfl) fun f _ cdv A outer s H vs Q E hr h => ?_
  obtain ⟨⟨⟨a, b, ss⟩, gs⟩, B, dm, hvs, ⟨⟨hsh, k1, k2, k3, k4⟩, hg⟩, q⟩ := h
  obtain ⟨h1, h2, h3, h4, h5, h6, h7⟩ := shapes_in _ hsh
  dsimp only at h1 h2 h3 h4 h5 h6 h7 k1 k2 k3 k4
  obtain ⟨x, y, rfl, hx, hy⟩ := hvs.two
  have hx : (RPk C a b ss).at_ (hd B H) x := hx
  have hy : (RLam base C (a, b, ss) gs).at_ (hd B H) y := hy
  have q : Ret B (RMinO (leastLen (a, b, ss) gs)) H Q := q
  have c38 := c38 (P := P) (w := w) (base := base) T pk
  have hsm := shapes_many _ hsh
  have hpn := rows_cap _ hsh
  have hsl := shapes_len _ hsh
  have hsf := shapes_full _ hsh
  dsimp only at hsm hpn hsl hsf
  have c26 := c26 (P := P) (w := w) (base := base) T
  have c28 := c28 (P := P) (w := w) (base := base) T pk
  refine ⟨_, (pss_cons (ps_setLc (own := [("pattern", 3)]) (g := (gName 3)) (i := 2) rfl sc39.nd rfl rfl rfl (show PI _ _ _ (iList K _) from (pi_list (C8.pe_c c26 hr (by decide) (by rfl) (pa_cons (pe_prp pk (pWidth (P := P) (w := w) (base := base) pk) hr (by decide) (pv 0)) (pa_cons (pe_prp pk (pHeight (P := P) (w := w) (base := base) pk) hr (by decide) (pv 0)) pa_nil))))) (blkOk_by (N := ["packet", "is_good", "rows", "pattern"]) (sc := C8.fnScope (topS 39)) (by decide +kernel)) (fun _ _ _ _ _ => (pg_name (i := 3) sc39.nd rfl (by first | exact .inl rfl | exact .inr rfl))) (fun _ _ _ _ _ => (pts_one (pt_val (show PE _ _ (tLamC base C 1 _) from pe_lamv (i := 1) c38 hr (by decide) rfl (by first | exact .inl rfl | exact .inr (.inl rfl) | exact .inr (.inr rfl)) (pa_cons (pv 3) pa_nil))))) (fun _ _ _ _ _ => (pv 3)))
      (pss_one (ps_ret (pe_ifExp (show PT _ _ (tTest (tOp (rNeD K) _ _)) from (pt_cmpR (op_neD (hu64 hr)) (pv 2) (pe_lst pa_nil) (nomark _))) (show PE _ _ (tCB (rMinP K) _) from (pe_callB (cr_minP rfl (hu64 hr)) (by rfl) (T.no "min") bt_min (pa_cons (pe_lc (own := [("pattern", 3)]) (g := (gName 3)) (tt := tYes) rfl sc39.nd (show PI _ _ _ (iList K _) from (pi_list (pv 2))) (blkOk_by (N := ["packet", "is_good", "rows", "pattern"]) (sc := C8.fnScope (topS 39)) (by decide +kernel)) (fun _ _ _ _ _ => (pg_name (i := 3) sc39.nd rfl (by first | exact .inl rfl | exact .inr rfl))) (fun _ _ _ _ _ => pts_nil) (fun _ _ _ _ _ => (pe_tup (pa_cons (C8.pe_c c28 hr (by decide) (by rfl) (pa_cons (pv 0) (pa_cons (pv 3) pa_nil))) (pa_cons (pv 3) pa_nil))))) pa_nil))) pe_non)))), ?_⟩
  let σ0 : L2.St := [some x, some y, none, none]
  have ex {Hz : Hp} (s : Same (hd B H) Hz) : Ev (tVar 0) σ0 Hz (RPk C a b ss) := ev_var rfl (Rp.mono _ s hx)
  have hpc : Ev (tCall spPats [] C8.E0 (tCons (SlX.tPropSl C (spGet C fun a _ _ => RN a) C8.E0 (tVar 0)) (tCons (SlX.tPropSl C (spGet C fun _ b _ => RN b) C8.E0 (tVar 0)) tNil))) σ0 (hd B H) (RL ((patterns a b).map RP)) := ev_call (α := Nat × Nat) (a, b) (ea_cons (ev_prp (ex (Same.refl _)) (by omega) (by omega) (by omega)) (ea_cons (ev_prp (ex (Same.refl _)) (by omega) (by omega) (by omega)) ea_nil)) hsh
  refine q_set (r := RL ((rowsG (a, b, ss) gs).map RP)) dm (ev_is (ev_lcN (σ := σ0) (vs := [3]) (j := 3) (xs := patterns a b) (ρ := RP) (fun p => if gives ss gs p = true then some (RP p) else none) (ei_list hpc) (by omega) (fun _ => rfl) (fun p v Hz hp sz hv => ?_) fun p v Hz rp hp sz hv hrp => ?_) ?_) fun v4 H4 s4 d4 hv4 => ?_
  · have hpa : p ∈ allMarks (a * b) := (List.mem_filter.mp hp).1
    refine et_is (et_B (ev_lamv (a := (a, b, ss)) (gs := gs) (pat := p) rfl (Rp.mono _ sz hy) (ev_var rfl hv) ⟨⟨hsh, k1, k2, k3, k4⟩, hg, (hpn.2 p hp).1, (hsf p hp).2, by have := (hsl p hpa).2; omega⟩)) ?_
    cases e : gives ss gs p <;> simp [e]
  · split at hrp
    · rw [← Option.some.inj hrp]
      exact ev_var rfl hv
    · cases hrp
  · rw [filter_fm]
    rfl
  show tRet _ _ ([some x, some y, some v4, none] : L2.St) H4
  have hle : (rowsG (a, b, ss) gs).length ≤ 15 := Nat.le_trans (List.length_filter_le _ _) hsm
  have hin : ∀ p ∈ rowsG (a, b, ss) gs, p.length = a * b := fun p hp => (hpn.2 p (List.mem_filter.mp hp).1).1
  refine s_ret d4 (ev_if (b := !decide (rowsG (a, b, ss) gs = [])) (et_test (ev_is (ev_neD (ev_var rfl hv4) (ev_lst (rs := []) ea_nil (by decide)) (dat_LP _) (dat_LP []) (sh_LP _) (sh_LP [])) (by rw [eqv_LP]))) (fun hb => ?_) fun hb => ?_) (q.go s4)
  · have hne : rowsG (a, b, ss) gs ≠ [] := fun e => by simp [e] at hb
    obtain ⟨n, e1, ⟨p0, hp0, en⟩, e3⟩ := leastLen_some hne
    rw [e1]
    refine ev_minP (xs := (rowsG (a, b, ss) gs).map fun p => (lenOf a b p, p)) (n := n) ?_ (fun e => hne (List.map_eq_nil_iff.mp e)) fun z hz hmin => ?_
    · rw [List.map_map]
      refine ev_lcM (vs := [3]) (j := 3) (xs := rowsG (a, b, ss) gs) (ρ := RP) (fun p => RLP (lenOf a b p, p)) (ei_list (ev_var rfl hv4)) (by omega) (fun _ => rfl) fun p v Hz hp sz hv => ?_
      exact ev_tup (ea_cons (ev_call (α := PkA × List Nat) ((a, b, ss), p) (ea_cons (ev_var rfl (Rp.mono _ ((hd_same s4).trans sz) hx)) (ea_cons (ev_var rfl hv) ea_nil)) ⟨⟨hsh, k1, k2, k3, k4⟩, hin p hp⟩) (ea_cons (ev_var rfl hv) ea_nil)) (by show 2 ≤ 100000; decide)
    · obtain ⟨p, hp, rfl⟩ := List.mem_map.mp hz
      have g1 := hmin _ (List.mem_map.mpr ⟨p0, hp0, rfl⟩)
      have g2 := e3 p hp
      dsimp only at g1 g2 en ⊢
      omega
  · have he : rowsG (a, b, ss) gs = [] := by
      by_cases e : rowsG (a, b, ss) gs = []
      · exact e
      · simp [e] at hb
    rw [leastLen_none he]
    exact ev_c rfl
end
end Sw
set_option Elab.async false
set_option linter.all false
set_option maxRecDepth 100000
set_option maxHeartbeats 1000000
/-! least_for_all. -/
namespace Sw
open PySem PySem.Spec PyProof.Rows L2 LamX
def tLo (base : Heap) (C : Addr) (T : List (Addr × Str)) : TE := fun σ H Q => Tabs T H ∧ ∃ v1 v2, σ[0]? = some (some v1) ∧ σ[1]? = some (some v2) ∧ ∀ (H1 : Hp) (TT : Addr → Option Obj) (f c1 c2 : Addr), ExtN H H1 → Tabs T H1 → (∀ a o, TT a = some o → H1 a = none) → (∀ a, S2 c1 c2 a = true → H1 a = none) →
  LamW base (trT TT H1) f v1 v2 c1 c2 → spLo base C [v1, .ref f] (trT TT H1) (fun v H2 => Q v (unT (inT TT) H2)) C8.E0
theorem pe_least {X : Cx} {C : Addr} {T : List (Addr × Str)} {c P : Addr} {j : Nat} {p pp lpos pos : Pos} (c39 : C8.Cal X.prog X.w X.K X.mg X.base 5 "least_of" (spLo X.base C) []) (hr : Room j X.A) (hj : 5 ≤ j) (hg : Gl X "least_of")
    (TB : TabB X.base X.mg c P) (hcode : X.env.code = .ref c) (hmT : (P, qL) ∈ T) (hu : ∀ p ∈ T, p.1 = P → p.2 = qL) (hq : X.env.qual ++ "<lambda>" = qL)
    (hN0 : X.N[0]? = some ("packet" : Str)) (hN1 : X.N[1]? = some ("goals" : Str)) (hk0 : X.env.scope.names.lookup ("packet" : Str) = some .cell) (hk1 : X.env.scope.names.lookup ("goals" : Str) = some .cell) (hfn : ∀ x, X.fn x = true)
    (hdef : defaultsOf lamPar X.env = ([], [])) :
    PE X (.Call (.Name "least_of" p) [.Name "packet" pp, .Lambda lamPar lamBd lamSc lpos] [] pos) (tLo X.base C T) := by
  refine ⟨fun pins s σ H Q I h => ?_⟩
  obtain ⟨hT, v1, v2, e1, e2, h⟩ := h
  obtain ⟨f39, fd, ps, ds, F, hm, kp, b, d⟩ := c39.ex
  have hds : ds = [] := by cases d; rfl
  subst hds
  refine wpAny_Call_Name_kw (ld_glob I hg hm ?_ (by decide))
  refine PySem.W.callWith_K (h₀ := X.base) I.ok.mod.kin kp ?_ (by rfl) (by rfl)
  show wpAny _ _ (spliced ((false, eval (.Name "packet" pp) X.env) :: (false, eval (.Lambda lamPar lamBd lamSc lpos) X.env) :: [])) _ _ s
  refine Calls.spliced_cons (thn ((pe_var (pos := pp) hN0 (.inr (.inl hk0))).run pins s σ H (fun v H1 => v = v1 ∧ H1 = H) I ⟨v1, e1, rfl, rfl⟩) fun u1 s1 ⟨v, H1, I1, r1, q1⟩ => ?_)
  obtain ⟨ev, eH⟩ := q1
  subst ev
  rw [eH] at I1
  have hfree : ∀ y ∈ lamSc.names, y.2 = .free → ∃ c, X.env.cells.lookup y.1 = some c := fun y hy e => by
    have := lamScope.free y hy e
    rcases List.mem_cons.mp this with z | z
    · exact I.ok.has _ (.inl (by rw [z]; exact hk0))
    · rw [List.mem_singleton] at z
      exact I.ok.has _ (.inl (by rw [z]; exact hk1))
  refine Calls.spliced_cons (lam_make2 I1 TB hcode (by rw [hq]; exact hmT) (by rw [hq]; exact hu) hT hdef hfree fun f c' pm ctv H2 s2 I2 eN T2 hf hf2 hfr hco => ?_)
  rw [hq] at hf hco
  refine Calls.spliced_nil ⟨I2.kIn, ?_⟩
  obtain ⟨m, hn, hl⟩ := I2.loc
  obtain ⟨w1, rw1, l1⟩ := hl 0 "packet" v hN0 e1 (.inr (.inl hk0))
  obtain ⟨w2, rw2, l2⟩ := hl 1 "goals" v2 hN1 e2 (.inr (.inl hk1))
  have cell : ∀ {x : Str} {u : Value}, X.env.scope.names.lookup x = some .cell → Look X.env s2.heap m x u → ∃ c, X.env.cells.lookup x = some c ∧ s2.heap.IsCell c (some u) := fun {x u} k l => by
    rcases l with ⟨z, _⟩ | ⟨_, z⟩
    · have z : X.env.scope.names.lookup x = some .local := z
      rw [k] at z
      cases z
    · exact z
  obtain ⟨c1, g1, o1, ho1, hd1⟩ := cell hk0 l1
  obtain ⟨c2, g2, o2, ho2, hd2⟩ := cell hk1 l2
  have ne : c1 ≠ c2 := fun e => absurd (I2.ok.inj "packet" "goals" c1 g1 (by rw [e]; exact g2)) (by decide)
  have nf1 : f ≠ c1 := fun e => by
    rw [e, ho1] at hf
    rw [Option.some.inj hf] at hd1
    cases hd1
  have nf2 : f ≠ c2 := fun e => by
    rw [e, ho2] at hf
    rw [Option.some.inj hf] at hd2
    cases hd2
  let TT : Addr → Option Obj := fun a => if a = c1 then some o1 else if a = c2 then some o2 else if a = f ∧ (X.base.get? f).isNone = true then some (lamO (cloFrom X.env.cells lamSc.names []) pm c' ctv) else none
  have t1 : TT c1 = some o1 := if_pos rfl
  have t2 : TT c2 = some o2 := by
    show (if c2 = c1 then _ else _) = _
    rw [if_neg (Ne.symm ne), if_pos rfl]
  have hcell : ∀ x c, X.env.cells.lookup x = some c → H2 c = none ∧ c ∉ frs X.stack ∧ X.base.get? c = none := fun x c e => by
    have hge := I2.ok.cab x c (hfn x) e
    refine ⟨I2.freeC x c e, fun hm => ?_, Heap.get?_none_of_le (Nat.le_trans I2.ok.bsz hge)⟩
    rcases List.mem_cons.mp (I2.stkSub c hm) with z | z
    · exact I2.cne x c e z
    · obtain ⟨_, o, ho, _⟩ := I2.ok.funs.mem z
      exact absurd (Nat.lt_of_lt_of_le (Heap.lt_size ho) hge) (Nat.lt_irrefl _)
  have tk : Tk X.base X.stack s2.heap H2 TT := ⟨fun a o e => by
    have e : (if a = c1 then some o1 else if a = c2 then some o2 else if a = f ∧ (X.base.get? f).isNone = true then some (lamO (cloFrom X.env.cells lamSc.names []) pm c' ctv) else none) = some o := e
    split at e
    · rename_i z
      cases e
      rw [z]
      exact ⟨ho1, hcell _ _ g1⟩
    · split at e
      · rename_i z
        cases e
        rw [z]
        exact ⟨ho2, hcell _ _ g2⟩
      · split at e
        · rename_i z
          cases e
          rw [z.1]
          exact ⟨hf, hf2, hfr, Option.isNone_iff_eq_none.mp z.2⟩
        · cases e⟩
  have LW : LamW X.base (trT TT H2) f v v2 c1 c2 := by
    refine ⟨cloFrom X.env.cells lamSc.names [], pm, ctv, c', o1, o2, w1, w2, ?_, ?_, trT_some t1, hd1, rw1, trT_some t2, hd2, rw2, ?_, ?_, fun y c e => ?_, ne⟩
    · cases hb : X.base.get? f with
      | none =>
        refine .inl (trT_some ?_)
        show (if f = c1 then _ else _) = _
        rw [if_neg nf1, if_neg nf2, if_pos ⟨rfl, by rw [hb]; rfl⟩]
      | some o =>
        refine .inr ?_
        rw [← hf]
        exact (I2.bk f o hb).symm
    · rw [trT_none (tk.no hco)]
      exact hco
    · exact NdefX.clo_has hfree (by decide +kernel) g1
    · exact NdefX.clo_has hfree (by decide +kernel) g2
    · have e3 := NdefX.clo_cm hfree e
      rcases cloFrom_mem (PySem.mem_of_lookup e) with hm | ⟨z1, _⟩
      · cases hm
      · rcases List.mem_cons.mp (lamScope.free _ z1 rfl) with z | z
        · have z : y = "packet" := z
          subst z
          rw [g1] at e3
          exact .inl ⟨rfl, (Option.some.inj e3).symm⟩
        · have z : y = "goals" := List.mem_singleton.mp z
          subst z
          rw [g2] at e3
          exact .inr ⟨rfl, (Option.some.inj e3).symm⟩
  have hsp := h H2 TT f c1 c2 eN T2 (fun a o e => (tk.all a o e).2.1) (fun a ha => by
    simp only [S2, Bool.or_eq_true, decide_eq_true_eq] at ha
    rcases ha with rfl | rfl
    · exact (hcell _ _ g1).1
    · exact (hcell _ _ g2).1) LW
  have r2 : Vals [v, V.ref f] [u1, Value.ref f] := .cons r1 (.cons rfl .nil)
  have hl2 : ([u1, Value.ref f] : List Value).length = ps.length := by rw [← r2.length]; exact F.len _ _ _ _ hsp
  have rc := F.run X.A X.stack s2 (trT TT H2) ⟨[u1, .ref f], []⟩ [u1, .ref f] [v, .ref f] (fun v H2 => Q v (unT (inT TT) H2)) C8.E0 (hr.mono hj) (trkE I2.env0 tk) (b s2 [u1, .ref f] I2.kIn hl2) r2 hsp
  refine wpAny_call (codeAny_mono rc fun r s' hq => ?_)
  cases r with
  | error e => exact False.elim hq
  | ok fl =>
    cases fl with
    | ret u => exact I2.after (trkC tk hq)
    | next => exact False.elim hq
    | brk => exact False.elim hq
    | cont => exact False.elim hq
/-! kept where all but the tables is kept -/
def NoT (r : Rp) : Prop := ∀ (H H' : Hp) (v : V), ExtN H H' → r.at_ H v → r.at_ H' v
theorem nt_I (n : Int) : NoT (RI n) := fun _ _ _ _ h => h
theorem nt_S (n : List Nat) : NoT (RS n) := fun _ _ _ _ h => h
theorem nt_all {H H' : Hp} (e : ExtN H H') : ∀ {rs : List Rp} {vs : List V}, (∀ r ∈ rs, NoT r) → Al H rs vs → Al H' rs vs
  | _, _, _, .nil => .nil
  | _, _, k, .cons h t => .cons (k _ List.mem_cons_self _ _ _ e h) (nt_all e (fun r hr => k r (List.mem_cons_of_mem _ hr)) t)
theorem nt_T {rs : List Rp} (k : ∀ r ∈ rs, NoT r) : NoT (RT rs) := fun H H' v e ⟨a, vs, x, y, z⟩ => ⟨a, vs, x, e _ _ y (fun _ q => nomatch q), nt_all e k z⟩
theorem nt_Sh (ss : List (List Nat)) : NoT (RSh ss) := nt_T fun r hr => by
  obtain ⟨l, _, rfl⟩ := List.mem_map.mp hr
  exact nt_S l
theorem nt_Pt (a b : Nat) (ss : List (List Nat)) : NoT (RPt a b ss) := nt_T fun r hr => by
  rcases List.mem_cons.mp hr with rfl | hr
  · exact nt_I _
  rcases List.mem_cons.mp hr with rfl | hr
  · exact nt_I _
  rw [List.mem_singleton.mp hr]
  exact nt_Sh ss
theorem slo_ne {a C dx : Addr} {vs : List (Option V)} (ps : Array Value) : SlX.SlO a C dx vs ≠ .tbl ps := fun z => by
  unfold SlX.SlO at z
  cases z
theorem nt_Pk (C : Addr) (a b : Nat) (ss : List (List Nat)) : NoT (RPk C a b ss) := fun H H' v e ⟨x, dx, t, h1, h2, h3, h4⟩ => ⟨x, dx, t, h1, e _ _ h2 slo_ne, e _ _ h3 (fun _ q => nomatch q), nt_Pt a b ss _ _ _ e h4⟩
/-- the def of the top whose code object has a table -/
def DefT (K : PySem.W.Frag) (mg : Str → Option Value) (base : Heap) (x : Str) (i : Nat) (ps : List Str) (P : Addr) : Prop := ∃ f fd c, C8.Def K mg x (topS i) f fd ∧ Binds K fd ps [] ∧ fd.code = .ref c ∧ TabB base mg c P
section
variable {P : Program} {w : World} {K : PySem.W.Frag} {mg : Str → Option Value} {base : Heap} {C : Addr}
/-- what it answers; the tables may be written -/
def spLfa (T : List (Addr × Str)) (C : Addr) : Sp := fun vs H Q _ => ∃ (a : PkA) (gs : List (List Nat)), Al H [RPkA C a, RSh gs] vs ∧ fewPk a ∧ okGoals a gs ∧ Tabs T H ∧ ∀ v H2, ExtN H H2 → Tabs T H2 → (RMinO (leastLen a gs)).at_ H2 v → Q v H2
theorem sc40 : FnScope ["packet", "goals"] ["packet", "goals"] (C8.fnScope (topS 40)) := C8.fnScope_by (by decide +kernel)
theorem hqL : (("least_for_all" : Str) ++ ".<locals>.") ++ ("<lambda>" : Str) = qL := by decide +kernel
theorem hk40 : (C8.fnScope (topS 40)).names.lookup ("packet" : Str) = some .cell ∧ (C8.fnScope (topS 40)).names.lookup ("goals" : Str) = some .cell := by decide +kernel
theorem rmin_unT {S : Addr → Bool} {H : Hp} {o : Option Nat} {v : V} (h : (RMinO o).at_ H v) (hS : ∀ a, S a = true → ∃ o, H a = some (.frz o (.own 0))) : (RMinO o).at_ (unT S H) v := by
  have tp : ∀ a xs, H a = some (.tup xs) → unT S H a = some (.tup xs) := fun a xs e => by
    cases q : S a with
    | false => rw [unT_of q]; exact e
    | true =>
      obtain ⟨o, z⟩ := hS a q
      rw [e] at z
      cases z
  cases o with
  | none => exact h
  | some n =>
    obtain ⟨p, a, vs, rfl, ha, hv⟩ := h
    obtain ⟨x, y, rfl, hx, hy⟩ := hv.two
    obtain ⟨b, rfl, hb⟩ := rp_at hy
    exact ⟨p, a, _, rfl, tp _ _ ha, .cons hx (.cons ⟨b, _, rfl, tp _ _ hb, nat_al p⟩ .nil)⟩
theorem c40 {T : List (Addr × Str)} {PT : Addr} (TX : Txt K mg) (pk : Pkt K mg C) (D : DefT K mg base "least_for_all" 40 ["packet", "goals"] PT) (hmT : (PT, qL) ∈ T) (hu : ∀ p ∈ T, p.1 = PT → p.2 = qL) : C8.Cal P w K mg base 6 "least_for_all" (spLfa T C) [] := by
  obtain ⟨f, fd, c, D, bd, hc, TB⟩ := D
  obtain ⟨oc, od, dV, kV, doc, pm, an, cdv, ct, osl, rfl, lk, hcd⟩ := D.fn.ex
  have hc : cdv = .ref c := hc
  subst hc
  have c37 := c37 (P := P) (w := w) (base := base) TX pk
  have c39 := c39 (P := P) (w := w) (base := base) TX pk
  refine ⟨f, _, _, [], fn_of (N := ["packet", "goals"]) lk hcd sc40 (fun vs H Q E ⟨a, gs, h, _⟩ => h.len) fun A outer s H vs Q E hr h => ?_, D.mgf, D.kp, bd, .nil⟩
  obtain ⟨⟨a, b, ss⟩, gs, hvs, hf, hg, hT, q⟩ := h
  obtain ⟨x, y, rfl, hx, hy⟩ := hvs.two
  refine ⟨_, PSs.nox (pss_cons (ps_expr (C8.pe_c c37 hr (by decide) (by rfl) (pa_cons (pv 0) (pa_cons (pv 1) pa_nil))))
      (pss_one (ps_ret (pe_least (C := C) (T := T) c39 hr (by decide) (by rfl) TB rfl hmT hu hqL rfl rfl hk40.1 hk40.2 (fun _ => rfl) rfl)))), ?_⟩
  refine q_drop (B := no) (Dom.no) (ev_call (α := PkA × List (List Nat)) ((a, b, ss), gs) (ea_cons (ev_var rfl hx) (ea_cons (ev_var rfl hy) ea_nil)) ⟨hf, hg⟩) fun H1 s1 d1 => ?_
  refine ⟨hT.ext s1, x, y, rfl, rfl, fun H2 TT f c1 c2 eN T2 hTT hS LW => ?_⟩
  have nT : ∀ b (z : HO), H2 b = some z → TT b = none := fun b z e => by
    cases g : TT b with
    | none => rfl
    | some o =>
      rw [hTT b o g] at e
      cases e
  have k2 : Same H2 (trT TT H2) := fun b z e => by rw [trT_none (nT b z e)]; exact e
  have k3 : Same H2 (unT (S2 c1 c2) (trT TT H2)) := fun b z e => by
    have hb : S2 c1 c2 b = false := by
      cases g : S2 c1 c2 b with
      | false => rfl
      | true =>
        rw [hS b g] at e
        cases e
    rw [unT_of hb]
    exact k2 _ _ e
  have hx2 : (RPk C a b ss).at_ H2 x := nt_Pk C a b ss _ _ _ eN (Rp.mono _ s1 hx)
  have hy2 : (RSh gs).at_ H2 y := nt_Sh gs _ _ _ eN (Rp.mono _ s1 hy)
  refine ⟨((a, b, ss), gs), no, Dom.no, ?_, ⟨hf, hg⟩, fun v H3 s3 hv => ?_⟩
  · exact .cons (Rp.mono _ k2 hx2) (.cons ⟨f, x, y, c1, c2, rfl, LW, Rp.mono _ k3 hx2, Rp.mono _ k3 hy2⟩ .nil)
  · have fz : ∀ b o, TT b = some o → H3 b = some (.frz o (.own 0)) := fun b o z => s3 _ _ (trT_some z)
    have k4 : Same H2 (unT (inT TT) H3) := fun b z e => by
      rw [unT_of (by unfold inT; rw [nT b z e]; rfl)]
      exact s3 _ _ (k2 _ _ e)
    refine q v _ (((ExtN.of s1).trans eN).trans (ExtN.of k4)) (T2.ext k4) (rmin_unT hv fun b hb => ?_)
    cases g : TT b with
    | none =>
      have hb : (TT b).isSome = true := hb
      rw [g] at hb
      cases hb
    | some o => exact ⟨o, fz b o g⟩
end
end Sw
set_option Elab.async false
set_option linter.all false
set_option maxRecDepth 100000
set_option maxHeartbeats 1000000
/-! fewest_cuts where there are too many cells. -/
namespace Sw
open PySem PySem.Spec PyProof.Rows L2
/-! ### own rules -/
abbrev a8 : List Nat := [97, 97, 97, 97, 97, 97, 97, 97]
/-- 'a' * 8 -/
theorem op_mulA {X : Cx} : OpR X (binaryOp .Mult) (fun x y H Q => x = .str "a" ∧ y = .int 8 ∧ Q (.str (tx a8)) H) := by
  intro pins s σ H x y v u Q I rx ry h
  obtain ⟨rfl, rfl, q⟩ := h
  obtain ⟨t, rfl⟩ := rx
  obtain ⟨t2, rfl⟩ := ry
  refine PySem.P.mul_str (by decide) (fun _ _ => by decide +kernel) (fun _ _ => by decide +kernel) ?_
  rw [if_neg (by decide), if_neg (by decide)]
  exact ⟨by decide +kernel, ⟨.str (tx a8), H, I.tok _, ⟨_, rfl⟩, q⟩⟩
/-- l.count(x), flat items -/
def rCnt (K : PySem.W.Frag) : V → List V → Hp → VK → Prop := fun x xs H Q => ∃ (a : Addr) (ys : List V) (y : V), x = V.ref a ∧ xs = [y] ∧ SqL K H a ys ∧ flatV y = true ∧ ys.all flatV = true ∧ Q (.int ((ys.countP fun z => eqV z y : Nat) : Int)) H
theorem cnt_eq {x : V} : ∀ {ys : List V} {us : List Value}, Vals ys us → ys.all flatV = true → us.countP (eqU x) = ys.countP fun z => eqV z x
  | _, _, .nil, _ => rfl
  | y :: ys, u :: us, .cons r t, f => by
    rw [List.all_cons, Bool.and_eq_true] at f
    rw [List.countP_cons, List.countP_cons, cnt_eq t f.2, eqU_of r f.1]
theorem mt_cnt {X : Cx} : MtR X "list.count" (rCnt X.K) := by
  intro pins s σ H x xs v us Q I rx rxs h
  obtain ⟨a, ys, y, rfl, rfl, hs, fy, fys, q⟩ := h
  cases rx
  cases rxs with
  | cons ry rt =>
    rename_i uy ut
    cases rt
    obtain ⟨its, rv, ⟨⟨cls, dd, data, sl⟩, n, ho, hc, hdn, hd⟩, hlen⟩ := I.list hs
    simp only at hc hd
    subst hc hd
    refine call_meets PySem.F.slot_list_count ⟨_, ho, rfl⟩ PySem.F.entry_list_count (PySem.F.args_list_count_2 _ _) (SeqAt.list_countAt a its.toArray n dd sl uy (eqU y)) ⟨ho, fun u' hu' => mem_eqAt ry fy rv fys u' (by simpa using hu'), ?_⟩
    refine ⟨.int _, H, I.tok _, ⟨_, rfl⟩, ?_⟩
    have e : its.toArray.toList.countP (eqU y) = ys.countP fun z => eqV z y := by
      rw [List.toList_toArray]
      exact cnt_eq rv fys
    rw [e]
    exact q
/-! ### facts of the classes -/
def excs : List Str := ["InvalidPacket", "InvalidOrders", "InvalidPictures", "InvalidSize", "InvalidPattern", "InvalidPicture", "InvalidGoals", "InvalidNumber", "TooMany", "InvalidPieces", "InvalidKinds"]
structure ExT (K : PySem.W.Frag) (mg : Str → Option Value) (CT : Addr) : Prop where
  gC : mg "TooMany" = some (.ref CT)
  xC : PySem.W.excIn K CT He.veBase "ValueError.__new__" = true
  kC : PySem.W.keepIn K (.ref CT) = true
  bC : PySem.W.subIn K (.ref CT) (.type "BaseException") = some true
  tC : PySem.W.typeIn K (.ref CT) = some (.type "type")
  cls : ExcC K CT
  vE : PySem.W.kitOne K (.ref CT) (.type "ValueError") = some true
  oth : ∀ x ∈ excs, ∃ D, mg x = some (.ref D) ∧ PySem.W.kitOne K (.ref CT) (.ref D) = some (decide (x = "TooMany"))
  sE : ∃ D, mg "SheetError" = some (.ref D) ∧ PySem.W.exmOne K (.ref CT) (.ref D) = some true
section
variable {P : Program} {w : World} {K : PySem.W.Frag} {mg : Str → Option Value} {base : Heap} {C : Addr}
def spGoalsG (C : Addr) : Sp := SpOf (α := PkA × List (List Nat)) (fun a => [RPkA C a.1, RSh a.2]) (fun a => a.1.1 ≤ 4 ∧ a.1.2.1 ≤ 4 ∧ a.1.1 * a.1.2.1 ≤ 16 ∧ a.1.2.2.length ≤ 4 ∧ okGoals a.1 a.2) fun _ => RO
theorem c37G (T : Txt K mg) (pk : Pkt K mg C) : C8.Cal P w K mg base 3 "check_goals" (spGoalsG C) [] := by
  refine cal_of T.d37 sc37 (len_of (n := 2) fun _ => rfl) fun f _ cdv A outer s H vs Q E hr h => ?_
  obtain ⟨⟨⟨a, b, ss⟩, gs⟩, B, dm, hvs, ⟨h2, h4, h5, k4, ⟨g1, g2, g3⟩⟩, q⟩ := h
  dsimp only at h2 h4 h5 k4 g1 g2 g3
  obtain ⟨x, y, rfl, hx, hy⟩ := hvs.two
  have hx : (RPk C a b ss).at_ (hd B H) x := hx
  have hy : (RSh gs).at_ (hd B H) y := hy
  have c20 := c20 (P := P) (w := w) (base := base) T
  refine ⟨_, (pss_one (ps_if (pw_or (pt_not (pt_val (C8.pe_c c20 hr (by decide) (by rfl) (pa_cons (pe_prp pk (pCells (P := P) (w := w) (base := base) pk) hr (by decide) (pv 0)) (pa_cons (pv 1) pa_nil))))) (pw_or1 (pt_cmpR op_ne (show PE _ _ (tCB (rLenK K) _) from (pe_callB call_len (by rfl) (T.no "len") bt_len (pa_cons (pv 1) pa_nil))) (pe_plen T (pLen (P := P) (w := w) (base := base) T pk) hr (by decide) (by rfl) (pv 0)) (nomark _)))).pt pss_never pss_nil)), ?_⟩
  have ex : Ev (tVar 0) (start ["packet", "goals"] [x, y]) (hd B H) (RPk C a b ss) := ev_var rfl hx
  have ey : Ev (tVar 1) (start ["packet", "goals"] [x, y]) (hd B H) (RSh gs) := ev_var rfl hy
  have hc : Ev (tCall spPics [] C8.E0 (tCons (SlX.tPropSl C (spGet C fun a b _ => RN (a * b)) C8.E0 (tVar 0)) (tCons (tVar 1) tNil))) (start ["packet", "goals"] [x, y]) (hd B H) (RB true) := ev_call (α := Nat × List (List Nat)) (a * b, gs) (ea_cons (ev_prp ex (by omega) (by omega) (by omega)) (ea_cons ey ea_nil)) ⟨g1, g2, by dsimp only; omega, by dsimp only; omega⟩
  refine s_if (b := false) dm (et_is (et_or (et_not (a := true) (et_B hc)) fun _ => et_test (ev_neN (ev_lenT ey) (ev_plen ex (by omega) (by omega) (by omega)))) ?_) (fun h => nomatch h) fun _ H1 s1 d1 => q _ H1 s1 rfl
  rw [List.length_map, g3, decide_eq_true rfl]
  rfl
/-- a def that may let an exception out -/
structure CalX (P : Program) (w : World) (K : PySem.W.Frag) (mg : Str → Option Value) (base : Heap) (k : Nat) (x : Str) (sp : Sp) : Prop where
  ex : ∃ (f : Addr) (fd : FuncData) (ps : List Str), FnOk P w K mg base (L2.CX P w) k f fd ps sp ∧ mg x = some (.ref f) ∧ PySem.W.keepIn K (.ref f) = true ∧ Binds K fd ps []
def spTM (C CT : Addr) : Sp := fun vs H Q E => Al H [RPk C 4 2 [a8], RSh [a8], RN 1, RN 1] vs ∧ ∀ H', Same H H' → E (.ref CT) none H'
theorem ok_a8 : okSh [a8] := by
  intro l hl
  rw [List.mem_singleton.mp hl]
  show ∀ c ∈ a8, _
  decide +kernel
theorem c43X {CT : Addr} (T : Txt K mg) (pk : Pkt K mg C) (XT : ExT K mg CT) : CalX P w K mg base 5 "fewest_cuts" (spTM C CT) := by
  obtain ⟨f, fd, D, bd⟩ := T.d43
  obtain ⟨oc, od, dV, kV, doc, pm, an, cdv, ct, osl, rfl, lk, hcd⟩ := D.fn.ex
  refine ⟨f, _, _, fn_of (N := ["packet", "goals", "longest", "most", "rows", "one", "met", "level", "count", "later", "sheets", "pattern", "other"]) lk hcd sc43 (fun vs H Q E h => h.1.len) fun A outer s H vs Q E hr h => ?_, D.mgf, D.kp, bd⟩
  obtain ⟨hvs, hE⟩ := h
  obtain ⟨x, y, z, u, rfl, hx, hy, hz, hu⟩ := hvs.four
  have c37 := c37G (P := P) (w := w) (base := base) T pk
  have c18 := c18 (P := P) (w := w) (base := base) T
  refine ⟨_, (pss_cons (ps_expr (C8.pe_c c37 hr (by decide) (by rfl) (pa_cons (pv 0) (pa_cons (pv 1) pa_nil))))
      (pss_cons (ps_if (pw_or (pt_not (pt_val (C8.pe_c c18 hr (by decide) (by rfl) (pa_cons (pv 2) (pa_cons pe_int (pa_cons (pe_k (by rfl) T.mlen) pa_nil)))))) (pw_or1 (pt_not (pt_val (C8.pe_c c18 hr (by decide) (by rfl) (pa_cons (pv 3) (pa_cons pe_int (pa_cons (pe_k (by rfl) T.mcuts) pa_nil)))))))).pt pss_never pss_nil)
      (pss_cons (ps_if (pw_or (pt_cmpR op_gt (pe_prp pk (pCells (P := P) (w := w) (base := base) pk) hr (by decide) (pv 0)) (pe_k (by rfl) T.fcells) (nomark _)) (pw_or1 (pt_cmpR op_gt (pe_plen T (pLen (P := P) (w := w) (base := base) T pk) hr (by decide) (by rfl) (pv 0)) (pe_k (by rfl) T.fsheets) (nomark _)))).pt
          (pss_one (ps_raise rfl (takes_of rfl rfl rfl rfl) (pmk_own PySem.F.excBase_ValueError XT.xC XT.gC XT.kC (raises_own XT.bC XT.tC) (by rfl)))) pss_nil)
      pss_never))), ?_⟩
  have ex {Hz : Hp} (s : Same H Hz) : Ev (tVar 0) (start ["packet", "goals", "longest", "most", "rows", "one", "met", "level", "count", "later", "sheets", "pattern", "other"] [x, y, z, u]) Hz (RPk C 4 2 [a8]) := ev_var rfl (Rp.mono _ s hx)
  refine q_drop (B := no) Dom.no (ev_call (α := PkA × List (List Nat)) ((4, 2, [a8]), [a8]) (ea_cons (ex (Same.refl _)) (ea_cons (ev_var rfl hy) ea_nil)) ⟨by decide, by decide, by decide, by decide, ok_a8, by decide, rfl⟩) fun H1 s1 d1 => ?_
  have hc2 : Ev (tCall spNum [] C8.E0 (tCons (tVar 2) (tCons (tC (.int 0)) (tCons (tC (.int 12)) tNil)))) (start ["packet", "goals", "longest", "most", "rows", "one", "met", "level", "count", "later", "sheets", "pattern", "other"] [x, y, z, u]) H1 (RB true) := ev_call (α := Int × Int × Int) ((1 : Int), 0, 12) (ea_cons (ev_var rfl (Rp.mono _ s1 hz)) (ea_cons ev_int (ea_cons ev_int ea_nil))) trivial
  have hc3 : Ev (tCall spNum [] C8.E0 (tCons (tVar 3) (tCons (tC (.int 0)) (tCons (tC (.int 3)) tNil)))) (start ["packet", "goals", "longest", "most", "rows", "one", "met", "level", "count", "later", "sheets", "pattern", "other"] [x, y, z, u]) H1 (RB true) := ev_call (α := Int × Int × Int) ((1 : Int), 0, 3) (ea_cons (ev_var rfl (Rp.mono _ s1 hu)) (ea_cons ev_int (ea_cons ev_int ea_nil))) trivial
  refine q_if (b := false) d1 (et_or (et_not (a := true) (et_B hc2)) fun _ => et_not (a := true) (et_B hc3)) (fun h => nomatch h) fun _ H2 s2 d2 => ?_
  have s02 := s1.trans s2
  have hcl : Ev (SlX.tPropSl C (spGet C fun a b _ => RN (a * b)) C8.E0 (tVar 0)) (start ["packet", "goals", "longest", "most", "rows", "one", "met", "level", "count", "later", "sheets", "pattern", "other"] [x, y, z, u]) H2 (RN (4 * 2)) := ev_prp (a := 4) (b := 2) (ss := [a8]) (ex s02) (by decide) (by decide) (by decide)
  dsimp only [tNext, tSeq]
  refine q_if (b := true) d2 (et_is (et_or (et_test (ev_cmpI (g := fun i j => decide (j < i)) hcl (ev_int (k := 4)))) fun _ => et_test (ev_cmpI (g := fun i j => decide (j < i)) (ev_plen (a := 4) (b := 2) (ss := [a8]) (ex s02) (by decide) (by decide) (by decide)) (ev_int (k := 3)))) (by decide)) (fun _ H3 s3 d3 => ?_) fun h => nomatch h
  exact hE _ (s02.trans s3)
end
end Sw
set_option Elab.async false
set_option linter.all false
set_option maxRecDepth 100000
set_option maxHeartbeats 1000000
/-! _law_raised, where TooMany comes. -/
namespace Sw
open PySem PySem.Spec PyProof.Rows L2 LamX
theorem bt_VE : bootBuiltins "ValueError" = some (.type "ValueError") := by decide +kernel
section
variable {K : PySem.W.Frag} {σ : L2.St} {H : Hp} {te : TE} {CT a D : Addr} {b : Bool}
def RV (x : V) : Rp := ⟨fun _ v => v = x, fun _ h => h⟩
theorem ev_isE (h1 : σ[1]? = some (some (.ref a))) (k : PySem.W.kitOne K (.ref CT) (.ref D) = some b) : Ev (tCB (rIsE K CT a) (tCons (tVar 1) (tCons (tC (.ref D)) tNil))) σ H (RB b) :=
  ev_cb (ea_cons (r := RV (.ref a)) (ev_var h1 rfl) (ea_cons (r := RV (.ref D)) (ev_c rfl) ea_nil)) fun B H1 vs _ _ hvs _ q => by
    obtain ⟨x, y, rfl, hx, hy⟩ := hvs.two
    have hx : x = .ref a := hx
    have hy : y = .ref D := hy
    subst hx hy
    exact ⟨.ref D, .ref D, b, rfl, fun u r => r, k, q _ H1 (Same.refl H1) rfl⟩
theorem ev_isT {n : String} (h1 : σ[1]? = some (some (.ref a))) (k : PySem.W.kitOne K (.ref CT) (.type n) = some b) : Ev (tCB (rIsE K CT a) (tCons (tVar 1) (tCons (tC (.ty n)) tNil))) σ H (RB b) :=
  ev_cb (ea_cons (r := RV (.ref a)) (ev_var h1 rfl) (ea_cons (r := RV (.ty n)) (ev_c rfl) ea_nil)) fun B H1 vs _ _ hvs _ q => by
    obtain ⟨x, y, rfl, hx, hy⟩ := hvs.two
    have hx : x = .ref a := hx
    have hy : y = .ty n := hy
    subst hx hy
    exact ⟨.ty n, .type n, b, rfl, fun u r => r, k, q _ H1 (Same.refl H1) rfl⟩
theorem flat_bl (bs : List Bool) : (bs.map V.bl).all flatV = true := by
  induction bs with
  | nil => rfl
  | cons x r ih => rw [List.map_cons, List.all_cons, ih]; rfl
theorem cnt_bl : ∀ bs : List Bool, ((bs.map V.bl).countP fun z => eqV z (.bl true)) = bs.countP id
  | [] => rfl
  | b :: r => by
    rw [List.map_cons, List.countP_cons, List.countP_cons, cnt_bl r]
    cases b <;> rfl
theorem ev_cnt {bs : List Bool} (h : Ev te σ H (RL (bs.map RB))) : Ev (tBM K "list" (rCnt K) te (tCons (tC (.bl true)) tNil)) σ H (RN (bs.countP id)) := fun B H1 e d Q q =>
  h B H1 e d _ fun v H2 e2 ⟨a, vs, ev, ha, hv⟩ => by
    subst ev
    rw [al_bl hv] at ha
    have ha := (hd_in ha).1
    exact ⟨.inl ⟨rfl, _, SqL.of ha⟩, a, _, .bl true, rfl, rfl, SqL.of ha, rfl, flat_bl bs, by rw [cnt_bl]; exact q _ H2 e2 rfl⟩
theorem ev_index {bs : List Bool} {j : Nat} (h : Ev te σ H (RL (bs.map RB))) (hj : bs[j]? = some true) (hn : (bs.take j).all (fun b => !b) = true) : Ev (tBM K "list" (rIndex K) te (tCons (tC (.bl true)) tNil)) σ H (RN j) := fun B H1 e d Q q =>
  h B H1 e d _ fun v H2 e2 ⟨a, vs, ev, ha, hv⟩ => by
    subst ev
    rw [al_bl hv] at ha
    have ha := (hd_in ha).1
    refine ⟨.inl ⟨rfl, _, SqL.of ha⟩, a, _, .bl true, j, .bl true, rfl, rfl, SqL.of ha, rfl, flat_bl bs, by rw [List.getElem?_map, hj]; rfl, rfl, fun m z' hm hz => ?_, q _ H2 e2 rfl⟩
    rw [List.getElem?_map] at hz
    cases g : bs[m]? with
    | none => rw [g] at hz; cases hz
    | some b =>
      rw [g] at hz
      have hz : V.bl b = z' := Option.some.inj hz
      subst hz
      have : b ∈ bs.take j := List.mem_of_getElem? (i := m) (by rw [List.getElem?_take_of_lt hm]; exact g)
      have := List.all_eq_true.mp hn b this
      cases b with
      | false => rfl
      | true => cases this
end
abbrev sMany : List Nat := [109, 97, 110, 121]
def TTr (CT : Addr) : (XK → Hp → VK → Prop) → Hp → VK → Prop := fun tl H Q => ∀ Qn : VK, tl (fun cls d H' => cls = .ref CT ∧ d = none ∧ ∀ v H2, Same H' H2 → (RT [RS sMany]).at_ H2 v → Q v H2) H Qn
abbrev N58 : List Str := ["_law_work", "e", "_law_marks", "_law_at"]
theorem sc58 : FnScope ["_law_work", "e", "_law_marks", "_law_at"] ["_law_work"] (C8.fnScope (topS 58)) := C8.fnScope_by (by decide +kernel)
theorem hk58 : (C8.fnScope (topS 58)).names.lookup ("e" : Str) = some .local := by decide +kernel
abbrev tIs (K : PySem.W.Frag) (CT a D : Addr) : TE := tCB (rIsE K CT a) (tCons (tVar 1) (tCons (tC (.ref D)) tNil))
theorem raised_gives {X : Cx} {CT g : Addr} {q : Str} {cdg : Value} (T : Txt X.K X.mg) (XT : ExT X.K X.mg CT) : GivesTo X N58 "_law_raised" (C8.fnScope (topS 58)) g cdg (C8.fnBody (topS 58)) "_law_work" q (TTr CT) := by
  intro f c' s H Q tl act hc h
  obtain ⟨DS, gS, eS⟩ := XT.sE
  obtain ⟨D1, g1, k1⟩ := XT.oth "InvalidPacket" (by decide)
  obtain ⟨D2, g2, k2⟩ := XT.oth "InvalidOrders" (by decide)
  obtain ⟨D3, g3, k3⟩ := XT.oth "InvalidPictures" (by decide)
  obtain ⟨D4, g4, k4⟩ := XT.oth "InvalidSize" (by decide)
  obtain ⟨D5, g5, k5⟩ := XT.oth "InvalidPattern" (by decide)
  obtain ⟨D6, g6, k6⟩ := XT.oth "InvalidPicture" (by decide)
  obtain ⟨D7, g7, k7⟩ := XT.oth "InvalidGoals" (by decide)
  obtain ⟨D8, g8, k8⟩ := XT.oth "InvalidNumber" (by decide)
  obtain ⟨D9, g9, k9⟩ := XT.oth "TooMany" (by decide)
  obtain ⟨D10, g10, k10⟩ := XT.oth "InvalidPieces" (by decide)
  obtain ⟨D11, g11, k11⟩ := XT.oth "InvalidKinds" (by decide)
  refine ⟨_, pss_cons (ps_try_as (X := (cxOf C8.CX0 X.prog X.w X.K X.mg X.base N58 "_law_raised" (C8.fnScope (topS 58)) g cdg X.A X.stack s H C8.E0).nox) (c := .ref DS) (i := 1) (n := "e") (x := "SheetError") (Wout := fun _ _ _ _ => False)
      (tb := fun W D σ H => ∃ Ech : XK, (∀ cls d σ' H', Ech cls d H' → W cls d σ' H') ∧ σ[0]? = some (some (.ref f)) ∧ H c' = some (CodeO c' q) ∧ tl Ech H (fun _ H1 => D.nx σ H1))
      (ts := fun a cls d D σ H => cls = .ref CT ∧ d = none ∧ (σ.length = 4 → (tSeq (tAsg (tLst (tCons (tIs X.K CT a D1) (tCons (tIs X.K CT a D2) (tCons (tIs X.K CT a D3) tNil)))) (gName 2))
        (tSeq (tAsg (tOp rCat (tVar 2) (tLst (tCons (tIs X.K CT a D4) (tCons (tIs X.K CT a D5) (tCons (tIs X.K CT a D6) tNil))))) (gName 2))
        (tSeq (tAsg (tOp rCat (tVar 2) (tLst (tCons (tIs X.K CT a D7) (tCons (tIs X.K CT a D8) (tCons (tIs X.K CT a D9) tNil))))) (gName 2))
        (tSeq (tAsg (tOp rCat (tVar 2) (tLst (tCons (tIs X.K CT a D10) (tCons (tIs X.K CT a D11) tNil)))) (gName 2))
        (tSeq (tIfS (tOr (tTest (tOp rNe (tBM X.K "list" (rCnt X.K) (tVar 2) (tCons (tC (.bl true)) tNil)) (tC (.int 1)))) (tNot (tB (tCB (rIsE X.K CT a) (tCons (tVar 1) (tCons (tC (.ty "ValueError")) tNil)))))) tNever tNext)
        (tSeq (tAsg (tBM X.K "list" (rIndex X.K) (tVar 2) (tCons (tC (.bl true)) tNil)) (gName 3))
        (tSeq (tIfS (tTest (tOp (rI0 fun i j => V.bl (decide (i < j))) (tVar 3) (tC (.int 3)))) tNever tNext)
        (tRet (tTup (tCons (tOp (rIxL X.K) (tLst (tCons (tC (.str "size")) (tCons (tC (.str "pattern")) (tCons (tC (.str "picture")) (tCons (tC (.str "goals")) (tCons (tC (.str "number")) (tCons (tC (.str "many")) (tCons (tC (.str "pieces")) (tCons (tC (.str "kinds")) tNil))))))))) (tOp (rI0 fun i j => V.int (i - j)) (tVar 3) (tC (.int 3)))) tNil)))))))))) D σ H))
      rfl rfl sc58.nd rfl hk58 ⟨by rfl, by decide, .inl gS⟩ takes0 (fun W pn xe tk _ => ?_) (fun a oe cls d pn hz hf => ?_))
      (pss_one (ps_ret pe_non)), ?_⟩
  · refine ⟨fun pins s' σ H' D I h' => ?_⟩
    obtain ⟨Ech, hW, h1, h2, h3⟩ := h'
    have hp := act W pn xe Ech ⟨268, 8, 268, 17⟩ ⟨268, 8, 268, 19⟩ tk hW
    exact (pss_one (ps_expr hp)).run pins s' σ H' D I ⟨h1, h2, h3⟩
  · refine ⟨fun pins s' σ H' D I h' => ?_⟩
    obtain ⟨e1, e2, h3⟩ := h'
    subst e1 e2
    have hl : σ.length = 4 := I.len
    refine PSs.run ?_ pins s' σ H' D I (h3 hl)
    have ie : ∀ {x : Str} {D : Addr} {p1 p2 p3 p4 : Pos}, X.mg x = some (.ref D) → Gl ((cxOf C8.CX0 X.prog X.w X.K X.mg X.base N58 "_law_raised" (C8.fnScope (topS 58)) g cdg X.A X.stack s H C8.E0).nox.suite a ((a, oe) :: pn)) x → (x == ("__debug__" : Str)) = false →
        PE ((cxOf C8.CX0 X.prog X.w X.K X.mg X.base N58 "_law_raised" (C8.fnScope (topS 58)) g cdg X.A X.stack s H C8.E0).nox.suite a ((a, oe) :: pn)) (.Call (.Name "isinstance" p1) [.Name "e" p2, .Name x p3] [] p4) (tIs X.K CT a D) := fun gm hg hd =>
      pe_callB (call_isE XT.cls hz hf) (by rfl) (T.no "isinstance") bt_isi (pa_cons (pv 1) (pa_cons (pe_glob hg gm rfl hd) pa_nil))
    have iv : ∀ {p1 p2 p3 p4 : Pos}, PE ((cxOf C8.CX0 X.prog X.w X.K X.mg X.base N58 "_law_raised" (C8.fnScope (topS 58)) g cdg X.A X.stack s H C8.E0).nox.suite a ((a, oe) :: pn)) (.Call (.Name "isinstance" p1) [.Name "e" p2, .Name "ValueError" p3] [] p4) (tCB (rIsE X.K CT a) (tCons (tVar 1) (tCons (tC (.ty "ValueError")) tNil))) :=
      pe_callB (call_isE XT.cls hz hf) (by rfl) (T.no "isinstance") bt_isi (pa_cons (pv 1) (pa_cons (pe_ty (by rfl) (T.no "ValueError") bt_VE) pa_nil))
    exact (pss_cons (ps_set (i := 2) sc58.nd rfl (by first | exact .inl rfl | exact .inr rfl) (pe_lst (pa_cons (ie g1 (by rfl) (by decide)) (pa_cons (ie g2 (by rfl) (by decide)) (pa_cons (ie g3 (by rfl) (by decide)) pa_nil)))))
      (pss_cons (ps_set (i := 2) sc58.nd rfl (by first | exact .inl rfl | exact .inr rfl) (pe_op op_cat (pv 2) (pe_lst (pa_cons (ie g4 (by rfl) (by decide)) (pa_cons (ie g5 (by rfl) (by decide)) (pa_cons (ie g6 (by rfl) (by decide)) pa_nil))))))
      (pss_cons (ps_set (i := 2) sc58.nd rfl (by first | exact .inl rfl | exact .inr rfl) (pe_op op_cat (pv 2) (pe_lst (pa_cons (ie g7 (by rfl) (by decide)) (pa_cons (ie g8 (by rfl) (by decide)) (pa_cons (ie g9 (by rfl) (by decide)) pa_nil))))))
      (pss_cons (ps_set (i := 2) sc58.nd rfl (by first | exact .inl rfl | exact .inr rfl) (pe_op op_cat (pv 2) (pe_lst (pa_cons (ie g10 (by rfl) (by decide)) (pa_cons (ie g11 (by rfl) (by decide)) pa_nil)))))
      (pss_cons (ps_if (pw_or (pt_cmpR op_ne (pe_bm PySem.F.plainAttrs_list PySem.F.slot_list_count PySem.F.type_list_count mt_cnt (pv 2) (pa_cons pe_bl pa_nil)) pe_int (nomark _)) (pw_or1 (pt_not (pt_val iv)))).pt pss_never pss_nil)
      (pss_cons (ps_set (i := 3) sc58.nd rfl (by first | exact .inl rfl | exact .inr rfl) (pe_bm PySem.F.plainAttrs_list PySem.F.slot_list_index PySem.F.type_list_index mt_index (pv 2) (pa_cons pe_bl pa_nil)))
      (pss_cons (ps_if (pt_cmpR op_lt (pv 3) pe_int (nomark _)) pss_never pss_nil)
      (pss_one (ps_ret (pe_tup (pa_cons (pe_ix ix_list (pe_lst (pa_cons pe_str (pa_cons pe_str (pa_cons pe_str (pa_cons pe_str (pa_cons pe_str (pa_cons pe_str (pa_cons pe_str (pa_cons pe_str pa_nil))))))))) (pe_op op_sub (pv 3) pe_int) (fun _ _ => rfl)) pa_nil)))))))))))
  · refine ⟨fun cls d H' => cls = .ref CT ∧ d = none ∧ ∀ v H2, Same H' H2 → (RT [RS sMany]).at_ H2 v → Q v H2, fun cls d σ' H' hE => ?_, rfl, hc, h _⟩
    obtain ⟨e1, e2, hq⟩ := hE
    subst e1 e2
    refine ⟨true, eS, fun _ a _ => ⟨rfl, rfl, fun hl => ?_⟩, fun h => nomatch h⟩
    replace k1 := k1.trans (show some (decide (("InvalidPacket" : Str) = "TooMany")) = some false by decide)
    replace k2 := k2.trans (show some (decide (("InvalidOrders" : Str) = "TooMany")) = some false by decide)
    replace k3 := k3.trans (show some (decide (("InvalidPictures" : Str) = "TooMany")) = some false by decide)
    replace k4 := k4.trans (show some (decide (("InvalidSize" : Str) = "TooMany")) = some false by decide)
    replace k5 := k5.trans (show some (decide (("InvalidPattern" : Str) = "TooMany")) = some false by decide)
    replace k6 := k6.trans (show some (decide (("InvalidPicture" : Str) = "TooMany")) = some false by decide)
    replace k7 := k7.trans (show some (decide (("InvalidGoals" : Str) = "TooMany")) = some false by decide)
    replace k8 := k8.trans (show some (decide (("InvalidNumber" : Str) = "TooMany")) = some false by decide)
    replace k9 := k9.trans (show some (decide (("TooMany" : Str) = "TooMany")) = some true by decide)
    replace k10 := k10.trans (show some (decide (("InvalidPieces" : Str) = "TooMany")) = some false by decide)
    replace k11 := k11.trans (show some (decide (("InvalidKinds" : Str) = "TooMany")) = some false by decide)
    rw [List.length_set] at hl
    obtain ⟨s0, s1, s2, s3, rfl⟩ : ∃ s0 s1 s2 s3, σ' = [s0, s1, s2, s3] := by
      match σ', hl with
      | [s0, s1, s2, s3], _ => exact ⟨s0, s1, s2, s3, rfl⟩
    show tSeq _ _ _ ([s0, some (.ref a), s2, s3] : L2.St) H'
    refine q_set (r := RL ([false, false, false].map RB)) (Dom.no (H := H')) (ev_lst (ea_cons (ev_isE rfl k1) (ea_cons (ev_isE rfl k2) (ea_cons (ev_isE rfl k3) ea_nil))) (by decide)) fun v1 H1 t1 d1 hv1 => ?_
    show tSeq _ _ _ ([s0, some (.ref a), some v1, s3] : L2.St) H1
    refine q_set (r := RL ([false, false, false, false, false, false].map RB)) d1 (ev_catL (rs := [false, false, false].map RB) (rs' := [false, false, false].map RB) (ev_var rfl hv1) (ev_lst (ea_cons (ev_isE rfl k4) (ea_cons (ev_isE rfl k5) (ea_cons (ev_isE rfl k6) ea_nil))) (by decide)) (by decide)) fun v2 H2 t2 d2 hv2 => ?_
    show tSeq _ _ _ ([s0, some (.ref a), some v2, s3] : L2.St) H2
    refine q_set (r := RL ([false, false, false, false, false, false, false, false, true].map RB)) d2 (ev_catL (rs := [false, false, false, false, false, false].map RB) (rs' := [false, false, true].map RB) (ev_var rfl hv2) (ev_lst (ea_cons (ev_isE rfl k7) (ea_cons (ev_isE rfl k8) (ea_cons (ev_isE rfl k9) ea_nil))) (by decide)) (by decide)) fun v3 H3 t3 d3 hv3 => ?_
    show tSeq _ _ _ ([s0, some (.ref a), some v3, s3] : L2.St) H3
    refine q_set (r := RL ([false, false, false, false, false, false, false, false, true, false, false].map RB)) d3 (ev_catL (rs := [false, false, false, false, false, false, false, false, true].map RB) (rs' := [false, false].map RB) (ev_var rfl hv3) (ev_lst (ea_cons (ev_isE rfl k10) (ea_cons (ev_isE rfl k11) ea_nil)) (by decide)) (by decide)) fun v4 H4 t4 d4 hv4 => ?_
    show tSeq _ _ _ ([s0, some (.ref a), some v4, s3] : L2.St) H4
    refine q_if (b := false) d4 (et_is (et_or (et_test (ev_neI (ev_cnt (ev_var rfl hv4)) (ev_int (k := 1)))) fun _ => et_not (a := true) (et_B (ev_isT rfl XT.vE))) (by decide)) (fun h => nomatch h) fun _ H5 t5 d5 => ?_
    refine q_set (r := RN 8) d5 (ev_index (j := 8) (ev_var rfl (Rp.mono _ t5 hv4)) rfl rfl) fun v6 H6 t6 d6 hv6 => ?_
    show tSeq _ _ _ ([s0, some (.ref a), some v4, some v6] : L2.St) H6
    refine q_if (b := false) d6 (et_is (et_test (ev_cmpI (g := fun i j => decide (i < j)) (ev_var rfl hv6) (ev_int (k := 3)))) (by decide)) (fun h => nomatch h) fun _ H7 t7 d7 => ?_
    refine s_ret (r := RT [RS sMany]) d7 (ev_tup (ea_cons (ev_ixL (k := 5) (r := RS sMany) (rs := [RV (.str "size"), RV (.str "pattern"), RV (.str "picture"), RV (.str "goals"), RV (.str "number"), RS sMany, RV (.str "pieces"), RV (.str "kinds")]) (ev_lst (ea_cons (ev_c rfl) (ea_cons (ev_c rfl) (ea_cons (ev_c rfl) (ea_cons (ev_c rfl) (ea_cons (ev_c rfl) (ea_cons (ev_c rfl) (ea_cons (ev_c rfl) (ea_cons (ev_c rfl) ea_nil)))))))) (by show 8 ≤ 100000; decide)) (ev_sub (ev_var rfl (Rp.mono _ t7 hv6)) (ev_int (k := 3))) rfl rfl) ea_nil) (by show 1 ≤ 100000; decide)) fun v H8 t8 hv => ?_
    exact hq v H8 ((((((t1.trans t2).trans t3).trans t4).trans t5).trans t6).trans (t7.trans t8)) hv
end Sw
set_option Elab.async false
set_option linter.all false
set_option maxRecDepth 100000
set_option maxHeartbeats 1000000
/-! The law's plain part: one cut, there and back; what a search meets. -/
namespace Sw
/-! ### orders -/
theorem laidRows_mem {k : Nat} : ∀ {n : Nat} {r : Shs}, r ∈ laidRows k n ↔ r.length = n ∧ ∀ o ∈ r, o ∈ orders k
  | 0, r => by
    show r ∈ [[]] ↔ _
    rw [List.mem_singleton]
    constructor
    · rintro rfl
      exact ⟨rfl, fun o h => by cases h⟩
    · rintro ⟨h, _⟩
      exact List.length_eq_zero_iff.mp h
  | n + 1, r => by
    show r ∈ laidStep k (laidRows k n) ↔ _
    unfold laidStep
    rw [List.mem_flatMap]
    constructor
    · rintro ⟨q, hq, hr⟩
      obtain ⟨o, ho, rfl⟩ := List.mem_map.mp hr
      obtain ⟨h1, h2⟩ := laidRows_mem.mp hq
      refine ⟨by rw [List.length_append, h1]; rfl, fun x hx => ?_⟩
      rcases List.mem_append.mp hx with z | z
      · exact h2 x z
      · rw [List.mem_singleton.mp z]
        exact ho
    · rintro ⟨h1, h2⟩
      rcases List.eq_nil_or_concat r with e | ⟨q, o, e⟩
      · rw [e] at h1
        cases h1
      · rw [List.concat_eq_append] at e
        rw [e] at h1 h2
        rw [List.length_append] at h1
        refine ⟨q, laidRows_mem.mpr ⟨Nat.succ.inj h1, fun x hx => h2 x (List.mem_append_left _ hx)⟩, List.mem_map.mpr ⟨o, h2 o (by simp), e.symm⟩⟩
theorem ord_inv0 : ∀ k ∈ List.range 4, ∀ o ∈ orders k, ∃ o' ∈ orders k, ∀ n ∈ List.range k, o.getD n 0 < k ∧ o'.getD n 0 < k ∧ o.getD (o'.getD n 0) 0 = n ∧ o'.getD (o.getD n 0) 0 = n := by decide +kernel
theorem ord_inv {k : Nat} (hk : k ≤ 3) {o : List Nat} (ho : o ∈ orders k) : ∃ o' ∈ orders k, ∀ n, n < k → o.getD n 0 < k ∧ o'.getD n 0 < k ∧ o.getD (o'.getD n 0) 0 = n ∧ o'.getD (o.getD n 0) 0 = n := by
  obtain ⟨o', h1, h2⟩ := ord_inv0 k (List.mem_range.mpr (by omega)) o ho
  exact ⟨o', h1, fun n hn => h2 n (List.mem_range.mpr hn)⟩
theorem ord_perm0 : ∀ k ∈ List.range 4, ∀ o ∈ orders k, o.Perm (List.range k) := by decide +kernel
theorem perm_ord0 : (∀ a ∈ List.range 1, [a].Perm (List.range 1) → [a] ∈ orders 1) ∧ (∀ a ∈ List.range 2, ∀ b ∈ List.range 2, [a, b].Perm (List.range 2) → [a, b] ∈ orders 2) ∧
    (∀ a ∈ List.range 3, ∀ b ∈ List.range 3, ∀ c ∈ List.range 3, [a, b, c].Perm (List.range 3) → [a, b, c] ∈ orders 3) := by decide +kernel
theorem perm_ord {k : Nat} (hk : k ≤ 3) {o : List Nat} (h : o.Perm (List.range k)) : o ∈ orders k := by
  have hl := h.length_eq
  rw [List.length_range] at hl
  have hm : ∀ a ∈ o, a ∈ List.range k := fun a ha => h.mem_iff.mp ha
  obtain ⟨p1, p2, p3⟩ := perm_ord0
  match k, hk, o, hl with
  | 0, _, [], _ => decide
  | 1, _, [a], _ => exact p1 a (hm a (by simp)) h
  | 2, _, [a, b], _ => exact p2 a (hm a (by simp)) b (hm b (by simp)) h
  | 3, _, [a, b, c], _ => exact p3 a (hm a (by simp)) b (hm b (by simp)) c (hm c (by simp)) h
theorem getD_map {α β : Type} (f : α → β) (l : List α) (n : Nat) (d : α) (e : β) (h : n < l.length) : (l.map f).getD n e = f (l.getD n d) := by
  simp [List.getD_eq_getElem?_getD, List.getElem?_eq_getElem h]
theorem map_getD {α : Type} (d : α) (A : List α) : (List.range A.length).map (fun n => A.getD n d) = A := by
  apply List.ext_getElem
  · simp
  · intro i h1 h2
    simp [List.getD_eq_getElem?_getD, List.getElem?_eq_getElem h2]
theorem perm_ix {α : Type} (d : α) {A B : List α} (p : A.Perm B) : ∃ o : List Nat, o.Perm (List.range A.length) ∧ B = o.map fun n => A.getD n d := by
  induction p with
  | nil => exact ⟨[], .refl _, rfl⟩
  | cons x p ih =>
    obtain ⟨o, h1, h2⟩ := ih
    refine ⟨0 :: o.map (· + 1), ?_, ?_⟩
    · rw [List.length_cons, List.range_succ_eq_map]
      exact .cons _ (h1.map _)
    · rw [List.map_cons, List.map_map, h2]
      rfl
  | swap x y l =>
    refine ⟨1 :: 0 :: (List.range l.length).map (· + 2), ?_, ?_⟩
    · have e : List.range (l.length + 1 + 1) = 0 :: 1 :: (List.range l.length).map (· + 2) := by
        rw [List.range_succ_eq_map, List.range_succ_eq_map, List.map_cons, List.map_map]
        rfl
      rw [List.length_cons, List.length_cons, e]
      exact .swap _ _ _
    · rw [List.map_cons, List.map_cons, List.map_map]
      have e : (List.range l.length).map ((fun n => (y :: x :: l).getD n d) ∘ fun n => n + 2) = l := map_getD d l
      rw [e]
      rfl
  | trans p q ih1 ih2 =>
    rename_i A B C
    obtain ⟨o1, h1, h2⟩ := ih1
    obtain ⟨o2, h3, h4⟩ := ih2
    have l1 : o1.length = A.length := by rw [h1.length_eq, List.length_range]
    have l2 : B.length = A.length := p.length_eq.symm
    refine ⟨o2.map fun n => o1.getD n 0, ?_, ?_⟩
    · have e := h3.map fun n => o1.getD n 0
      rw [l2, ← l1, map_getD] at e
      exact e.trans h1
    · rw [List.map_map, h4]
      refine List.map_congr_left fun n hn => ?_
      have hn : n < o1.length := by
        have := h3.mem_iff.mp hn
        rw [List.mem_range] at this
        omega
      show B.getD n d = A.getD (o1.getD n 0) d
      rw [h2]
      exact getD_map _ _ _ _ _ hn
/-! ### one cut -/
/-- the order o lays the cells of piece p of ss as gs has them -/
def Lay (ss gs : Shs) (pat : List Nat) (p : Nat) (o : List Nat) : Prop := ∀ m c, m < ss.length → c < pat.length → pat.getD c 0 = p → (gs.getD m []).getD c 0 = (ss.getD (o.getD m 0) []).getD c 0
theorem pick_all {P : Nat → List Nat → Prop} : ∀ N : Nat, (∀ p, p < N → ∃ o, P p o) → ∃ os : Shs, os.length = N ∧ ∀ p, p < N → P p (os.getD p [])
  | 0, _ => ⟨[], rfl, fun p h => by omega⟩
  | N + 1, h => by
    obtain ⟨os, h1, h2⟩ := pick_all N fun p hp => h p (by omega)
    obtain ⟨o, ho⟩ := h N (by omega)
    refine ⟨os ++ [o], by rw [List.length_append, h1]; rfl, fun p hp => ?_⟩
    by_cases e : p = N
    · have : (os ++ [o]).getD p [] = o := by
        rw [List.getD_eq_getElem?_getD, List.getElem?_append_right (by omega)]
        simp [e, h1]
      rw [this, e]
      exact ho
    · have : (os ++ [o]).getD p [] = os.getD p [] := by
        rw [List.getD_eq_getElem?_getD, List.getElem?_append_left (by omega), ← List.getD_eq_getElem?_getD]
      rw [this]
      exact h2 p (by omega)
theorem rel_at {ss : Shs} {pat : List Nat} {os : Shs} {m c : Nat} (hm : m < ss.length) (hc : c < pat.length) : ((rel ss pat os).getD m []).getD c 0 = relAt ss pat os m c := by
  unfold rel
  rw [getD_map _ _ _ 0 _ (by rw [List.length_range]; exact hm)]
  have e1 : (List.range ss.length).getD m 0 = m := by simp [List.getD_eq_getElem?_getD, hm]
  rw [e1, getD_map _ _ _ 0 _ (by rw [List.length_range]; exact hc)]
  have e2 : (List.range pat.length).getD c 0 = c := by simp [List.getD_eq_getElem?_getD, hc]
  rw [e2]
theorem shs_ext {n k : Nat} {a b : Shs} (ha : vld n k a) (hb : vld n k b) (h : ∀ m c, m < k → c < n → (a.getD m []).getD c 0 = (b.getD m []).getD c 0) : a = b := by
  refine List.ext_getElem (by rw [ha.2, hb.2]) fun m h1 h2 => ?_
  refine List.ext_getElem (by rw [ha.1 _ (List.getElem_mem h1), hb.1 _ (List.getElem_mem h2)]) fun c h3 h4 => ?_
  have z := h m c (by rw [← ha.2]; exact h1) (by rw [← ha.1 _ (List.getElem_mem h1)]; exact h3)
  rw [List.getD_eq_getElem?_getD, List.getD_eq_getElem?_getD, List.getElem?_eq_getElem h1, List.getD_eq_getElem?_getD, List.getD_eq_getElem?_getD, List.getElem?_eq_getElem h2] at z
  simp only [Option.getD_some] at z
  rw [List.getElem?_eq_getElem h3, List.getElem?_eq_getElem h4] at z
  exact z
theorem laid_iff {ss gs : Shs} {pat : List Nat} (hv : vld pat.length ss.length gs) (ht : ∀ c ∈ pat, c ≤ top pat) : gs ∈ allLaid ss pat ↔ ∀ p, p < top pat + 1 → ∃ o, o ∈ orders ss.length ∧ Lay ss gs pat p o := by
  rw [laid_mem]
  constructor
  · rintro ⟨os, h1, h2⟩ p hp
    obtain ⟨h3, h4⟩ := laidRows_mem.mp h1
    have hp2 : p < os.length := by omega
    refine ⟨os.getD p [], ?_, fun m c hm hc e => ?_⟩
    · rw [List.getD_eq_getElem?_getD, List.getElem?_eq_getElem hp2]
      exact h4 _ (List.getElem_mem hp2)
    · rw [← h2, rel_at hm hc]
      unfold relAt
      rw [e]
  · intro h
    obtain ⟨os, h1, h2⟩ := pick_all _ h
    refine ⟨os, laidRows_mem.mpr ⟨h1, fun o ho => ?_⟩, ?_⟩
    · obtain ⟨i, hi, e⟩ := List.mem_iff_getElem.mp ho
      have z := (h2 i (by omega)).1
      rw [List.getD_eq_getElem?_getD, List.getElem?_eq_getElem hi] at z
      rw [← e]
      exact z
    · refine shs_ext (rel_vld ss pat os) hv fun m c hm hc => ?_
      rw [rel_at hm hc]
      have hpc : pat.getD c 0 ∈ pat := by
        rw [List.getD_eq_getElem?_getD, List.getElem?_eq_getElem hc]
        exact List.getElem_mem hc
      have hp := ht _ hpc
      exact ((h2 (pat.getD c 0) (by omega)).2 m c hm hc rfl).symm
theorem laid_sym {ss gs : Shs} {pat : List Nat} (h1 : vld pat.length ss.length ss) (h2 : vld pat.length ss.length gs) (hk : ss.length ≤ 3) (ht : ∀ c ∈ pat, c ≤ top pat) (h : gs ∈ allLaid ss pat) : ss ∈ allLaid gs pat := by
  have el : gs.length = ss.length := h2.2
  refine (laid_iff (by rw [el]; exact h1) ht).mpr fun p hp => ?_
  obtain ⟨o, ho, hl⟩ := (laid_iff h2 ht).mp h p hp
  obtain ⟨o', ho', hi⟩ := ord_inv hk ho
  refine ⟨o', by rw [el]; exact ho', fun m c hm hc e => ?_⟩
  rw [el] at hm
  obtain ⟨_, h3, h4, _⟩ := hi m hm
  have z := hl (o'.getD m 0) c h3 hc e
  rw [h4] at z
  exact z.symm
theorem gives_iff {ss gs : Shs} {pat : List Nat} (h1 : vld pat.length ss.length ss) (h2 : vld pat.length ss.length gs) (hk : ss.length ≤ 3) (ht : ∀ c ∈ pat, c ≤ top pat) : gives ss gs pat = true ↔ gs ∈ allLaid ss pat := by
  rw [laid_iff h2 ht]
  unfold gives piecesOf
  rw [List.all_eq_true]
  have key : ∀ p, (layersOf ss (cellsOf pat p)).Perm (layersOf gs (cellsOf pat p)) ↔ ∃ o, o ∈ orders ss.length ∧ Lay ss gs pat p o := by
    intro p
    have ls : (layersOf ss (cellsOf pat p)).length = ss.length := by unfold layersOf; rw [List.length_map]
    have lg : (layersOf gs (cellsOf pat p)).length = ss.length := by unfold layersOf; rw [List.length_map, h2.2]
    have atS : ∀ m, m < ss.length → (layersOf ss (cellsOf pat p)).getD m [] = layerAt (cellsOf pat p) (ss.getD m []) := fun m hm => getD_map _ _ _ _ _ hm
    have atG : ∀ m, m < ss.length → (layersOf gs (cellsOf pat p)).getD m [] = layerAt (cellsOf pat p) (gs.getD m []) := fun m hm => getD_map _ _ _ _ _ (by rw [h2.2]; exact hm)
    constructor
    · intro hp
      obtain ⟨o, ho, he⟩ := perm_ix ([] : List Nat) hp
      rw [ls] at ho
      have lo : o.length = ss.length := by rw [ho.length_eq, List.length_range]
      refine ⟨o, perm_ord hk ho, fun m c hm hc e => ?_⟩
      have hom : o.getD m 0 < ss.length := by
        have : o.getD m 0 ∈ o := by
          rw [List.getD_eq_getElem?_getD, List.getElem?_eq_getElem (by omega)]
          exact List.getElem_mem _
        exact List.mem_range.mp (ho.mem_iff.mp this)
      have z : (layersOf gs (cellsOf pat p)).getD m [] = (layersOf ss (cellsOf pat p)).getD (o.getD m 0) [] := by
        rw [he]
        exact getD_map _ _ _ _ _ (by omega)
      rw [atG m hm, atS _ hom] at z
      unfold layerAt at z
      have hcc : c ∈ cellsOf pat p := List.mem_filter.mpr ⟨List.mem_range.mpr hc, decide_eq_true e⟩
      exact List.map_inj_left.mp z c hcc
    · rintro ⟨o, ho, hl⟩
      have hp := ord_perm0 _ (List.mem_range.mpr (by omega)) o ho
      have lo : o.length = ss.length := by rw [hp.length_eq, List.length_range]
      have e : layersOf gs (cellsOf pat p) = o.map fun n => (layersOf ss (cellsOf pat p)).getD n [] := by
        refine List.ext_getElem (by rw [lg, List.length_map, lo]) fun m g1 g2 => ?_
        rw [lg] at g1
        have hom : o.getD m 0 < ss.length := by
          have : o.getD m 0 ∈ o := by
            rw [List.getD_eq_getElem?_getD, List.getElem?_eq_getElem (by omega)]
            exact List.getElem_mem _
          exact List.mem_range.mp (hp.mem_iff.mp this)
        have a1 := atG m g1
        have a2 : (o.map fun n => (layersOf ss (cellsOf pat p)).getD n []).getD m [] = (layersOf ss (cellsOf pat p)).getD (o.getD m 0) [] := getD_map _ _ _ _ _ (by omega)
        have b1 : (layersOf gs (cellsOf pat p)).getD m [] = (layersOf gs (cellsOf pat p))[m] := by
          rw [List.getD_eq_getElem?_getD, List.getElem?_eq_getElem (by rw [lg]; exact g1)]
          rfl
        have b2 : (o.map fun n => (layersOf ss (cellsOf pat p)).getD n []).getD m [] = (o.map fun n => (layersOf ss (cellsOf pat p)).getD n [])[m] := by
          rw [List.getD_eq_getElem?_getD, List.getElem?_eq_getElem g2]
          rfl
        rw [← b1, ← b2, a1, a2, atS _ hom]
        unfold layerAt
        refine List.map_congr_left fun c hc => ?_
        obtain ⟨g3, g4⟩ := List.mem_filter.mp hc
        exact hl m c g1 (List.mem_range.mp g3) (of_decide_eq_true g4)
      rw [e]
      have z := (hp.map fun n => (layersOf ss (cellsOf pat p)).getD n []).symm
      rw [← ls, map_getD] at z
      exact z
  constructor
  · intro h p hp
    exact (key p).mp (of_decide_eq_true (h _ (List.mem_map.mpr ⟨p, List.mem_range.mpr hp, rfl⟩)))
  · intro h cells hc
    obtain ⟨p, hp, rfl⟩ := List.mem_map.mp hc
    exact decide_eq_true ((key p).mpr (h p (List.mem_range.mp hp)))
end Sw
set_option Elab.async false
set_option linter.all false
set_option maxRecDepth 100000
set_option maxHeartbeats 1000000
/-! What a search meets, from both sides. -/
namespace Sw
def Cut (rows : List (List Nat)) (s o : Shs) : Prop := ∃ p ∈ rows, o ∈ allLaid s p
def Rch (rows : List (List Nat)) : Nat → Shs → Shs → Prop
  | 0, s, o => o = s
  | c + 1, s, o => Rch rows c s o ∨ ∃ x, Rch rows c s x ∧ Cut rows x o
theorem by_cut {rows : List (List Nat)} {s o : Shs} : o ∈ laidBy rows s ↔ Cut rows s o := List.mem_flatMap
section
variable {w h lo k : Nat}
theorem cut_vld (f : fewS w h k) {s o : Shs} (hs : vld (w * h) k s) (hc : Cut (rowsOf w h lo) s o) : vld (w * h) k o := by
  have := laidBy_vld (lo := lo) (s := s) (by rw [hs.2]; exact f) (by_cut.mpr hc)
  rw [hs.2] at this
  exact this
theorem cut_sym (f : fewS w h k) {s o : Shs} (hs : vld (w * h) k s) (hc : Cut (rowsOf w h lo) s o) : Cut (rowsOf w h lo) o s := by
  have ho := cut_vld f hs hc
  obtain ⟨p, hp, hl⟩ := hc
  have hpp := rowsOf_in hp
  have h1 := ((rows_cap _ f.1).2 p hpp).1
  dsimp only at h1
  refine ⟨p, hp, laid_sym ?_ ?_ (by rw [hs.2]; exact f.2.2.1) (shapes_full _ f.1 p hpp).1 hl⟩
  · rw [h1, hs.2]; exact hs
  · rw [h1, hs.2]; exact ho
theorem rch_vld (f : fewS w h k) {s : Shs} (hs : vld (w * h) k s) : ∀ {c : Nat} {o : Shs}, Rch (rowsOf w h lo) c s o → vld (w * h) k o
  | 0, o, e => by
    have e : o = s := e
    rw [e]
    exact hs
  | c + 1, o, e => by
    rcases e with e | ⟨x, e1, e2⟩
    · exact rch_vld f hs e
    · exact cut_vld f (rch_vld f hs e1) e2
theorem rch_left {rows : List (List Nat)} {s x : Shs} (hx : Cut rows s x) : ∀ {c : Nat} {o : Shs}, Rch rows c x o → Rch rows (c + 1) s o
  | 0, o, e => by
    have e : o = x := e
    rw [e]
    exact .inr ⟨s, rfl, hx⟩
  | c + 1, o, e => by
    rcases e with e | ⟨y, e1, e2⟩
    · exact .inl (rch_left hx e)
    · exact .inr ⟨y, rch_left hx e1, e2⟩
theorem rch_sym (f : fewS w h k) {s : Shs} (hs : vld (w * h) k s) : ∀ {c : Nat} {o : Shs}, Rch (rowsOf w h lo) c s o → Rch (rowsOf w h lo) c o s
  | 0, o, e => by
    have e : o = s := e
    rw [e]
    exact rfl
  | c + 1, o, e => by
    rcases e with e | ⟨x, e1, e2⟩
    · exact .inl (rch_sym f hs e)
    · exact rch_left (cut_sym f (rch_vld f hs e1) e2) (rch_sym f hs e1)
end
/-! ### a search -/
structure Cl (rows : List (List Nat)) (met level : List Shs) : Prop where
  sub : ∀ x ∈ level, x ∈ met
  cl : ∀ x ∈ met, x ∈ level ∨ ∀ o, Cut rows x o → o ∈ met
theorem Cl.step {rows : List (List Nat)} {met level met' level' : List Shs} (c : Cl rows met level) (h1 : ∀ o, o ∈ met' ↔ o ∈ met ∨ ∃ x ∈ level, Cut rows x o) (h2 : ∀ o ∈ met', o ∈ met ∨ o ∈ level') (h3 : ∀ o ∈ level', o ∈ met') :
    Cl rows met' level' ∧ ∀ o, o ∈ met' ↔ o ∈ met ∨ ∃ x, x ∈ met ∧ Cut rows x o := by
  refine ⟨⟨h3, fun x hx => ?_⟩, fun o => ?_⟩
  · rcases h2 x hx with z | z
    · rcases c.cl x z with y | y
      · exact .inr fun o ho => (h1 o).mpr (.inr ⟨x, y, ho⟩)
      · exact .inr fun o ho => (h1 o).mpr (.inl (y o ho))
    · exact .inl z
  · rw [h1]
    constructor
    · rintro (z | ⟨x, z1, z2⟩)
      · exact .inl z
      · exact .inr ⟨x, c.sub x z1, z2⟩
    · rintro (z | ⟨x, z1, z2⟩)
      · exact .inl z
      · rcases c.cl x z1 with y | y
        · exact .inr ⟨x, y, z2⟩
        · exact .inl (y o z2)
theorem add_new {met : List Shs} : ∀ (l : List Shs) (st : St2), (∀ o ∈ st.1, o ∈ met ∨ o ∈ st.2) → ∀ o ∈ (l.foldl addOne st).1, o ∈ met ∨ o ∈ (l.foldl addOne st).2
  | [], st, h => h
  | a :: r, st, h => by
    rw [List.foldl_cons]
    refine add_new r _ fun o ho => ?_
    unfold addOne at ho ⊢
    split at ho
    · rename_i hm
      rw [if_pos hm]
      exact h o ho
    · rename_i hm
      rw [if_neg hm]
      rcases List.mem_append.mp ho with z | z
      · exact (h o z).imp id fun q => List.mem_append_left _ q
      · exact .inr (List.mem_append_right _ z)
theorem add_sub : ∀ (l : List Shs) (st : St2), (∀ o ∈ st.2, o ∈ st.1) → ∀ o ∈ (l.foldl addOne st).2, o ∈ (l.foldl addOne st).1
  | [], st, h => h
  | a :: r, st, h => by
    rw [List.foldl_cons]
    refine add_sub r _ fun o ho => ?_
    unfold addOne at ho ⊢
    split at ho
    · rename_i hm
      rw [if_pos hm]
      exact h o ho
    · rename_i hm
      rw [if_neg hm]
      rcases List.mem_append.mp ho with z | z
      · exact List.mem_append_left _ (h o z)
      · exact List.mem_append_right _ z
theorem nextLv_in {rows : List (List Nat)} {met level : List Shs} : (∀ o, o ∈ (nextLv rows met level).1 ↔ o ∈ met ∨ ∃ x ∈ level, Cut rows x o) ∧ (∀ o ∈ (nextLv rows met level).1, o ∈ met ∨ o ∈ (nextLv rows met level).2) ∧ ∀ o ∈ (nextLv rows met level).2, o ∈ (nextLv rows met level).1 := by
  unfold nextLv addAll
  refine ⟨fun o => ?_, add_new _ _ fun o ho => .inl ho, add_sub _ _ fun o ho => by cases ho⟩
  rw [(addAll_in _ _).1, List.mem_flatMap]
  constructor
  · rintro (z | ⟨x, z1, z2⟩)
    · exact .inl z
    · exact .inr ⟨x, z1, by_cut.mp z2⟩
  · rintro (z | ⟨x, z1, z2⟩)
    · exact .inl z
    · exact .inr ⟨x, z1, by_cut.mpr z2⟩
theorem stAt_rch {rows : List (List Nat)} {s0 : Shs} {mo : Nat} : ∀ i, i ≤ mo → Cl rows (stAt rows s0 mo i).1 (stAt rows s0 mo i).2 ∧ ∀ o, o ∈ (stAt rows s0 mo i).1 ↔ Rch rows i s0 o
  | 0, _ => ⟨⟨fun x hx => hx, fun x hx => .inl hx⟩, fun o => List.mem_singleton⟩
  | i + 1, hi => by
    obtain ⟨c, hm⟩ := stAt_rch (rows := rows) (s0 := s0) (mo := mo) i (by omega)
    have e : stAt rows s0 mo (i + 1) = nextLv rows (stAt rows s0 mo i).1 (stAt rows s0 mo i).2 := by
      show nextLv _ _ _ = _
      rw [if_pos (by omega)]
    obtain ⟨n1, n2, n3⟩ := nextLv_in (rows := rows) (met := (stAt rows s0 mo i).1) (level := (stAt rows s0 mo i).2)
    rw [← e] at n1 n2 n3
    obtain ⟨c2, h2⟩ := c.step n1 n2 n3
    refine ⟨c2, fun o => ?_⟩
    rw [h2]
    constructor
    · rintro (z | ⟨x, z1, z2⟩)
      · exact .inl ((hm o).mp z)
      · exact .inr ⟨x, (hm x).mp z1, z2⟩
    · rintro (z | ⟨x, z1, z2⟩)
      · exact .inl ((hm o).mpr z)
      · exact .inr ⟨x, (hm x).mpr z1, z2⟩
/-! ### the law's search -/
def layR (k : Nat) (s : Shs) (p : List Nat) : List Shs := (laidRows k (top p + 1)).map (rel s p)
def stepL (k : Nat) (s : Shs) (st : St2) (p : List Nat) : St2 := if st.1.length < 400 then (layR k s p).foldl addOne st else st
def lvL (rows : List (List Nat)) (k : Nat) (st : St2) (s : Shs) : St2 := rows.foldl (stepL k s) st
def lawNx (rows : List (List Nat)) (k : Nat) (met level : List Shs) : St2 := level.foldl (lvL rows k) (met, [])
def lawSt (rows : List (List Nat)) (k : Nat) (gs : Shs) : Nat → St2
  | 0 => ([gs], [gs])
  | i + 1 => lawNx rows k (lawSt rows k gs i).1 (lawSt rows k gs i).2
/-- the first turn that has met ss -/
def lawDue (rows : List (List Nat)) (k : Nat) (gs ss : Shs) (c : Nat) : Option Nat := (List.range (c + 1)).find? fun j => decide (ss ∈ (lawSt rows k gs j).1)
theorem lay_in {s : Shs} {p : List Nat} {o : Shs} : o ∈ layR s.length s p ↔ o ∈ allLaid s p := by
  rw [laid_mem]
  exact List.mem_map
theorem add_mono : ∀ (l : List Shs) (st : St2), st.1.length ≤ (l.foldl addOne st).1.length
  | [], st => Nat.le_refl _
  | a :: r, st => by
    rw [List.foldl_cons]
    refine Nat.le_trans ?_ (add_mono r _)
    unfold addOne
    split
    · exact Nat.le_refl _
    · rw [List.length_append]
      exact Nat.le_add_right _ _
theorem stepL_mono (k : Nat) (s : Shs) (st : St2) (p : List Nat) : st.1.length ≤ (stepL k s st p).1.length := by
  unfold stepL
  split
  · exact add_mono _ _
  · exact Nat.le_refl _
theorem fold_mono {α : Type} {g : St2 → α → St2} (h : ∀ st a, st.1.length ≤ (g st a).1.length) : ∀ (l : List α) (st : St2), st.1.length ≤ (l.foldl g st).1.length
  | [], st => Nat.le_refl _
  | a :: r, st => Nat.le_trans (h st a) (fold_mono h r _)
theorem lvL_mono (rows : List (List Nat)) (k : Nat) (st : St2) (s : Shs) : st.1.length ≤ (lvL rows k st s).1.length := fold_mono (stepL_mono k s) rows st
theorem lawNx_mono (rows : List (List Nat)) (k : Nat) (met level : List Shs) : met.length ≤ (lawNx rows k met level).1.length := fold_mono (lvL_mono rows k) level (met, [])
/-- below the cap nothing was left out -/
theorem rows_full {k : Nat} {s : Shs} : ∀ (rows : List (List Nat)) (st : St2), (rows.foldl (stepL k s) st).1.length < 400 → rows.foldl (stepL k s) st = (rows.flatMap (layR k s)).foldl addOne st
  | [], st, _ => rfl
  | p :: r, st, h => by
    rw [List.foldl_cons] at h ⊢
    have h1 : st.1.length < 400 := by
      have := stepL_mono k s st p
      have := fold_mono (stepL_mono k s) r (stepL k s st p)
      omega
    rw [rows_full r _ h, List.flatMap_cons, List.foldl_append]
    unfold stepL
    rw [if_pos h1]
theorem level_full {rows : List (List Nat)} {k : Nat} : ∀ (level : List Shs) (st : St2), (level.foldl (lvL rows k) st).1.length < 400 → level.foldl (lvL rows k) st = (level.flatMap fun s => rows.flatMap (layR k s)).foldl addOne st
  | [], st, _ => rfl
  | s :: r, st, h => by
    rw [List.foldl_cons] at h ⊢
    have h1 : (lvL rows k st s).1.length < 400 := by
      have := fold_mono (lvL_mono rows k) r (lvL rows k st s)
      omega
    rw [level_full r _ h, List.flatMap_cons, List.foldl_append]
    unfold lvL at h1 ⊢
    rw [rows_full rows st h1]
theorem lawNx_in {rows : List (List Nat)} {k : Nat} {met level : List Shs} (hv : ∀ x ∈ level, x.length = k) (hl : (lawNx rows k met level).1.length < 400) :
    (∀ o, o ∈ (lawNx rows k met level).1 ↔ o ∈ met ∨ ∃ x ∈ level, Cut rows x o) ∧ (∀ o ∈ (lawNx rows k met level).1, o ∈ met ∨ o ∈ (lawNx rows k met level).2) ∧ ∀ o ∈ (lawNx rows k met level).2, o ∈ (lawNx rows k met level).1 := by
  unfold lawNx at hl ⊢
  rw [level_full level _ hl]
  refine ⟨fun o => ?_, add_new _ _ fun o ho => .inl ho, add_sub _ _ fun o ho => by cases ho⟩
  rw [(addAll_in _ _).1, List.mem_flatMap]
  constructor
  · rintro (z | ⟨x, z1, z2⟩)
    · exact .inl z
    · obtain ⟨p, p1, p2⟩ := List.mem_flatMap.mp z2
      rw [← hv x z1] at p2
      exact .inr ⟨x, z1, p, p1, lay_in.mp p2⟩
  · rintro (z | ⟨x, z1, p, p1, p2⟩)
    · exact .inl z
    · refine .inr ⟨x, z1, List.mem_flatMap.mpr ⟨p, p1, ?_⟩⟩
      rw [← hv x z1]
      exact lay_in.mpr p2
theorem lawSt_mono (rows : List (List Nat)) (k : Nat) (gs : Shs) (i : Nat) : (lawSt rows k gs i).1.length ≤ (lawSt rows k gs (i + 1)).1.length := lawNx_mono _ _ _ _
section
variable {w h lo k : Nat} {gs : Shs}
theorem lawSt_rch (f : fewS w h k) (hg : vld (w * h) k gs) : ∀ i, (lawSt (rowsOf w h lo) k gs i).1.length < 400 → Cl (rowsOf w h lo) (lawSt (rowsOf w h lo) k gs i).1 (lawSt (rowsOf w h lo) k gs i).2 ∧ ∀ o, o ∈ (lawSt (rowsOf w h lo) k gs i).1 ↔ Rch (rowsOf w h lo) i gs o
  | 0, _ => ⟨⟨fun x hx => hx, fun x hx => .inl hx⟩, fun o => List.mem_singleton⟩
  | i + 1, hl => by
    have hl0 : (lawSt (rowsOf w h lo) k gs i).1.length < 400 := Nat.lt_of_le_of_lt (lawSt_mono _ _ _ _) hl
    obtain ⟨c, hm⟩ := lawSt_rch f hg i hl0
    obtain ⟨n1, n2, n3⟩ := lawNx_in (rows := rowsOf w h lo) (k := k) (met := (lawSt (rowsOf w h lo) k gs i).1) (level := (lawSt (rowsOf w h lo) k gs i).2) (fun x hx => (rch_vld f hg ((hm x).mp (c.sub x hx))).2) hl
    obtain ⟨c2, h2⟩ := c.step n1 n2 n3
    refine ⟨c2, fun o => ?_⟩
    show o ∈ (lawNx _ _ _ _).1 ↔ _
    rw [h2]
    constructor
    · rintro (z | ⟨x, z1, z2⟩)
      · exact .inl ((hm o).mp z)
      · exact .inr ⟨x, (hm x).mp z1, z2⟩
    · rintro (z | ⟨x, z1, z2⟩)
      · exact .inl ((hm o).mpr z)
      · exact .inr ⟨x, (hm x).mpr z1, z2⟩
theorem find_congr {p q : Nat → Bool} : ∀ {l : List Nat}, (∀ x ∈ l, p x = q x) → l.find? p = l.find? q
  | [], _ => rfl
  | a :: r, h => by
    rw [List.find?_cons, List.find?_cons, h a List.mem_cons_self, find_congr fun x hx => h x (List.mem_cons_of_mem _ hx)]
/-- THE LAW, the search: from both sides the same number of cuts -/
theorem due_eq {ss : Shs} {mo : Nat} (f : fewS w h k) (hg : vld (w * h) k gs) (hs : vld (w * h) k ss) (hmo : mo ≤ 2) (hl : (lawSt (rowsOf w h lo) k gs 2).1.length < 400) : fewest (rowsOf w h lo) ss gs mo = lawDue (rowsOf w h lo) k gs ss mo := by
  unfold fewest lawDue
  refine find_congr fun c hc => ?_
  have hc : c ≤ mo := by
    have := List.mem_range.mp hc
    omega
  have hlc : (lawSt (rowsOf w h lo) k gs c).1.length < 400 := by
    have h1 : (lawSt (rowsOf w h lo) k gs 0).1.length ≤ (lawSt (rowsOf w h lo) k gs 1).1.length := lawSt_mono (rowsOf w h lo) k gs 0
    have h2 : (lawSt (rowsOf w h lo) k gs 1).1.length ≤ (lawSt (rowsOf w h lo) k gs 2).1.length := lawSt_mono (rowsOf w h lo) k gs 1
    match c, hc with
    | 0, _ => omega
    | 1, _ => omega
    | 2, _ => exact hl
    | n + 3, hc => omega
  refine decide_eq_decide.mpr ?_
  rw [(stAt_rch (rows := rowsOf w h lo) (s0 := ss) (mo := mo) c hc).2, (lawSt_rch f hg c hlc).2]
  exact ⟨fun z => rch_sym f hs z, fun z => rch_sym f hg z⟩
/-- THE LAW, the least pattern -/
theorem one_eq {ss : Shs} (f : fewS w h k) (hg : vld (w * h) k gs) (hs : vld (w * h) k ss) : (fewest (rowsOf w h lo) ss gs 1).isSome = (decide (gs = ss) || (match leastLen (w, h, ss) gs with
    | none => false
    | some n => decide (n ≤ lo))) := by
  have e1 : (fewest (rowsOf w h lo) ss gs 1).isSome = true ↔ gs = ss ∨ Cut (rowsOf w h lo) ss gs := by
    unfold fewest
    rw [List.find?_isSome]
    constructor
    · rintro ⟨c, hc, hm⟩
      have hm := of_decide_eq_true hm
      have hc := List.mem_range.mp hc
      rw [(stAt_rch (rows := rowsOf w h lo) (s0 := ss) (mo := 1) c (by omega)).2] at hm
      match c, hc, hm with
      | 0, _, hm => exact .inl hm
      | 1, _, hm =>
        rcases hm with z | ⟨x, z1, z2⟩
        · exact .inl z
        · have z1 : x = ss := z1
          rw [z1] at z2
          exact .inr z2
    · rintro (z | z)
      · exact ⟨0, by simp, decide_eq_true (((stAt_rch (rows := rowsOf w h lo) (s0 := ss) (mo := 1) 0 (by omega)).2 gs).mpr z)⟩
      · exact ⟨1, by simp, decide_eq_true (((stAt_rch (rows := rowsOf w h lo) (s0 := ss) (mo := 1) 1 (by omega)).2 gs).mpr (.inr ⟨ss, rfl, z⟩))⟩
  have e2 : (match leastLen (w, h, ss) gs with
    | none => false
    | some n => decide (n ≤ lo)) = true ↔ Cut (rowsOf w h lo) ss gs := by
    have gi : ∀ p ∈ patterns w h, (gives ss gs p = true ↔ gs ∈ allLaid ss p) := fun p hp => by
      have h1 := ((rows_cap _ f.1).2 p hp).1
      dsimp only at h1
      refine gives_iff ?_ ?_ (by rw [hs.2]; exact f.2.2.1) (shapes_full _ f.1 p hp).1
      · rw [h1, hs.2]; exact hs
      · rw [h1, hs.2]; exact hg
    by_cases hr : rowsG (w, h, ss) gs = []
    · rw [leastLen_none hr]
      constructor
      · intro z
        cases z
      · rintro ⟨p, hp, hl⟩
        have hpp := rowsOf_in hp
        have : p ∈ rowsG (w, h, ss) gs := List.mem_filter.mpr ⟨hpp, (gi p hpp).mpr hl⟩
        rw [hr] at this
        cases this
    · obtain ⟨n, en, ⟨p, hp, hpn⟩, hmin⟩ := leastLen_some hr
      rw [en]
      show decide (n ≤ lo) = true ↔ _
      rw [decide_eq_true_iff]
      constructor
      · intro hn
        obtain ⟨g1, g2⟩ := List.mem_filter.mp hp
        exact ⟨p, List.mem_filter.mpr ⟨g1, decide_eq_true (by dsimp only at hpn; omega)⟩, (gi p g1).mp g2⟩
      · rintro ⟨q, hq, hl⟩
        obtain ⟨g1, g2⟩ := List.mem_filter.mp hq
        have := hmin q (List.mem_filter.mpr ⟨g1, (gi q g1).mpr hl⟩)
        have := of_decide_eq_true g2
        dsimp only at *
        omega
  cases g1 : (fewest (rowsOf w h lo) ss gs 1).isSome with
  | true =>
    symm
    rw [Bool.or_eq_true, decide_eq_true_iff, e2]
    exact e1.mp g1
  | false =>
    symm
    rw [Bool.or_eq_false_iff]
    have hn : ¬ (gs = ss ∨ Cut (rowsOf w h lo) ss gs) := fun z => by
      rw [e1.mpr z] at g1
      cases g1
    exact ⟨decide_eq_false fun z => hn (.inl z), Bool.eq_false_iff.mpr fun z => hn (.inr (e2.mp z))⟩
end
end Sw
set_option Elab.async false
set_option linter.all false
set_option maxRecDepth 100000
set_option maxHeartbeats 1000000
/-! The law's own search. -/
namespace Sw
open PySem PySem.Spec PyProof.Rows L2
def gd (n k : Nat) (s : Shs) : Prop := vld n k s ∧ okSh s
theorem rel_okSh {ss os : Shs} {pat : List Nat} (ok : okSh ss) (h : okRel ss pat os) : okSh (rel ss pat os) := by
  obtain ⟨h1, h2, h3, _, _⟩ := h
  intro l hl c hc
  obtain ⟨m, hm, rfl⟩ := List.mem_map.mp hl
  obtain ⟨d, hd, rfl⟩ := List.mem_map.mp hc
  have hm := List.mem_range.mp hm
  have hd := List.mem_range.mp hd
  have e1 : pat.getD d 0 ∈ pat := getD_mem 0 hd
  have e2 : os.getD (pat.getD d 0) [] ∈ os := getD_mem [] (h1 _ e1)
  obtain ⟨o1, o2⟩ := h2 _ e2
  have e3 : (os.getD (pat.getD d 0) []).getD m 0 ∈ os.getD (pat.getD d 0) [] := getD_mem 0 (by rw [o1]; exact hm)
  have e4 : ss.getD ((os.getD (pat.getD d 0) []).getD m 0) [] ∈ ss := getD_mem [] (o2 _ e3)
  exact ok _ e4 _ (getD_mem 0 (by rw [h3 _ e4]; exact hd))
/-! ### lists that are written -/
structure Wl (B : Bs) (D : Addr) (rs : List Rp) (H : Hp) : Prop where
  bd : B D = true
  here : ∃ vs, H D = some (.lst vs) ∧ Al (hd B H) rs vs
theorem dom_upd {B : Bs} {H : Hp} {D : Addr} {vs : List V} (d : Dom B H) : Dom B (upd H D (.lst vs)) := fun a h => by
  by_cases e : a = D
  · rw [e, upd_same]
    exact ⟨fun z => (nomatch z), fun _ z => nomatch z⟩
  · rw [upd_ne e]
    exact d a h
section
variable {B : Bs} {D E : Addr} {rs : List Rp} {r : Rp} {H H' : Hp} {v : V}
theorem Wl.up (m : Wl B D rs H) (e : Same H H') : Wl B D rs H' := by
  obtain ⟨b, vs, h1, h2⟩ := m
  exact ⟨b, vs, e _ _ h1, h2.mono (hd_same e)⟩
theorem Wl.at_ (m : Wl B D rs H) : (RL rs).at_ H (.ref D) := by
  obtain ⟨b, vs, h1, h2⟩ := m
  exact ⟨D, vs, rfl, h1, h2.mono hd_all⟩
theorem Wl.push {acc : List V} (m : Wl B D rs H) (h : r.at_ (hd B H) v) (ha : H D = some (.lst acc)) : Wl B D (rs ++ [r]) (upd H D (.lst (acc ++ [v]))) := by
  obtain ⟨b, vs, h1, h2⟩ := m
  rw [ha] at h1
  cases h1
  refine ⟨b, acc ++ [v], upd_same, ?_⟩
  rw [hd_upd b]
  exact h2.app (.cons h .nil)
theorem Wl.out {o : HO} (m : Wl B D rs H) (ne : D ≠ E) (hE : B E = true) : Wl B D rs (upd H E o) := by
  obtain ⟨b, vs, h1, h2⟩ := m
  refine ⟨b, vs, by rw [upd_ne ne]; exact h1, ?_⟩
  rw [hd_upd hE]
  exact h2
theorem s_appM {K : PySem.W.Frag} {D' : Ends} {k j : Nat} {σ : L2.St} (m : Wl B D rs H) (hs : σ[k]? = some (some (.ref D))) (hj : σ[j]? = some (some v)) (h : r.at_ (hd B H) v) (hl : rs.length < 90000)
    (q : ∀ acc, Wl B D (rs ++ [r]) (upd H D (.lst (acc ++ [v]))) → D'.nx σ (upd H D (.lst (acc ++ [v])))) : tApp K (tVar k) (tVar j) D' σ H := by
  obtain ⟨acc, h1, h2⟩ := m.here
  refine ⟨.ref D, hs, .inl ⟨rfl, _, SqL.of h1⟩, v, hj, D, acc, v, rfl, rfl, h1, Nat.lt_of_lt_of_le (by rw [h2.len]; exact hl) (by decide), q acc (m.push h h1)⟩
end
structure W3 (B : Bs) (n k : Nat) (M L U : Addr) (ms ls : List Shs) (us : List (Option Nat)) (H : Hp) : Prop where
  dm : Dom B H
  m : Wl B M (ms.map RSh) H
  l : Wl B L (ls.map RSh) H
  u : Wl B U (us.map ROpt) H
  ok : ∀ s ∈ ms, gd n k s
  okl : ∀ s ∈ ls, gd n k s
  ln : ls.length ≤ ms.length
  ne : M ≠ L ∧ M ≠ U ∧ L ≠ U
theorem W3.up {B : Bs} {n k : Nat} {M L U : Addr} {ms ls : List Shs} {us : List (Option Nat)} {H H' : Hp} (w : W3 B n k M L U ms ls us H) (e : Same H H') : W3 B n k M L U ms ls us H' := ⟨w.dm.same e, w.m.up e, w.l.up e, w.u.up e, w.ok, w.okl, w.ln, w.ne⟩
/-! ### the slots -/
structure Fx where
  c0 : Option V
  c1 : Option V
  x2 : V
  x3 : V
  x4 : V
  x5 : V
  x6 : V
  x8 : V
  c9 : Option V
  c10 : Option V
  c11 : Option V
  M : Addr
  U : Addr
  c20 : Option V
  c21 : Option V
  c22 : Option V
abbrev sg (F : Fx) (c7 lv c15 c16 c17 c18 c19 : Option V) : L2.St := [F.c0, F.c1, some F.x2, some F.x3, some F.x4, some F.x5, some F.x6, c7, some F.x8, F.c9, F.c10, F.c11, some (.ref F.M), lv, some (.ref F.U), c15, c16, c17, c18, c19, F.c20, F.c21, F.c22]
abbrev tOne (K : PySem.W.Frag) : TS := tSeq (tAsg (tCall spRelaid [] C8.E0 (tCons (tVar 17) (tCons (tVar 7) (tCons (tVar 18) tNil)))) (gName 19)) (tIfS (tTest (tOp (rNotInD K) (tVar 19) (tVar 12))) (tSeq (tApp K (tVar 12) (tVar 19)) (tApp K (tVar 16) (tVar 19))) tNext)
abbrev tRow (K : PySem.W.Frag) : TS := tIfS (tTest (tOp (rI0 fun i j => V.bl (decide (i < j))) (tCB (rLenK K) (tCons (tVar 12) tNil)) (tC (.int 400)))) (tFor (iList K (tCall spAll [] C8.E0 (tCons (tVar 7) (tCons (tVar 4) tNil)))) (gName 18) (tOne K)) tNext
abbrev tLv (K : PySem.W.Frag) : TS := tFor (iList K (tVar 6)) (gName 7) (tRow K)
section
variable {K : PySem.W.Frag} {B : Bs} {n k : Nat} {F : Fx} {L : Addr} {us : List (Option Nat)} {H : Hp} {D : Ends} {st : St2} {sh os : Shs} {pat : List Nat} {p s o : V} {lv c15 c17 c18 c19 : Option V}
theorem one_step (W : W3 B n k F.M L F.U st.1 st.2 us H) (hp : (RP pat).at_ (hd B H) p) (hs : (RSh sh).at_ (hd B H) s) (ho : (RT (os.map RP)).at_ (hd B H) o) (ok : okRel sh pat os) (hg : gd n k sh) (hpn : pat.length = n) (hlen : st.1.length < 80000)
    (q : ∀ c H2, W3 B n k F.M L F.U (addOne st (rel sh pat os)).1 (addOne st (rel sh pat os)).2 us H2 → Same (hd B H) (hd B H2) → D.nx (sg F (some p) lv c15 (some (.ref L)) (some s) (some o) (some c)) H2) :
    tOne K D (sg F (some p) lv c15 (some (.ref L)) (some s) (some o) c19) H := by
  refine q_set (r := RSh (rel sh pat os)) W.dm (ev_call (α := List (List Nat) × List Nat × List (List Nat)) (sh, pat, os) (ea_cons (ev_var rfl hs) (ea_cons (ev_var rfl hp) (ea_cons (ev_var rfl ho) ea_nil))) ok) fun v H1 s1 d1 hv => ?_
  show tIfS _ _ _ _ (sg F (some p) lv c15 (some (.ref L)) (some s) (some o) (some v)) H1
  have W1 := W.up s1
  have hgr : gd n k (rel sh pat os) := by
    refine ⟨?_, rel_okSh hg.2 ok⟩
    have z := rel_vld sh pat os
    rw [hpn, hg.1.2] at z
    exact z
  refine s_if (B := no) Dom.no (et_test (ev_notInLS (ev_var rfl (Rp.mono _ hd_all hv)) (ev_var rfl W1.m.at_) hgr.2.t fun x hx => (W1.ok x hx).2.t)) (fun hb H2 s2 _ => ?_) (fun hb H2 s2 _ => ?_)
  · have hn : rel sh pat os ∉ st.1 := fun z => by simp [z] at hb
    have e : addOne st (rel sh pat os) = (st.1 ++ [rel sh pat os], st.2 ++ [rel sh pat os]) := if_neg hn
    have W2 := W1.up s2
    have hv2 : (RSh (rel sh pat os)).at_ (hd B H2) v := Rp.mono _ (hd_same s2) hv
    obtain ⟨n1, n2, n3⟩ := W2.ne
    refine s_appM (D' := { D with nx := tApp K (tVar 16) (tVar 19) D }) W2.m rfl rfl hv2 (by rw [List.length_map]; omega) fun acc m3 => ?_
    have l3 := W2.l.out (o := .lst (acc ++ [v])) (Ne.symm n1) W2.m.bd
    have hv3 : (RSh (rel sh pat os)).at_ (hd B (upd H2 F.M (.lst (acc ++ [v])))) v := by rw [hd_upd W2.m.bd]; exact hv2
    have u3 := W2.u.out (o := .lst (acc ++ [v])) (Ne.symm n2) W2.m.bd
    have d3 := dom_upd (D := F.M) (vs := acc ++ [v]) W2.dm
    have k3 : Same (hd B H) (hd B (upd H2 F.M (.lst (acc ++ [v])))) := by rw [hd_upd W2.m.bd]; exact hd_same (s1.trans s2)
    generalize upd H2 F.M (.lst (acc ++ [v])) = H3 at m3 l3 hv3 u3 d3 k3
    refine s_appM (D' := D) l3 rfl rfl hv3 (by have := W.ln; rw [List.length_map]; omega) fun acc2 l4 => ?_
    refine q v _ ?_ (by rw [hd_upd l3.bd]; exact k3)
    rw [e]
    refine ⟨dom_upd d3, ?_, ?_, u3.out (Ne.symm n3) l3.bd, fun x hx => ?_, fun x hx => ?_, ?_, ⟨n1, n2, n3⟩⟩
    · have := m3.out (o := .lst (acc2 ++ [v])) n1 l3.bd
      rw [List.map_append]
      exact this
    · rw [List.map_append]
      exact l4
    · rcases List.mem_append.mp hx with z | z
      · exact W.ok x z
      · rw [List.mem_singleton.mp z]; exact hgr
    · rcases List.mem_append.mp hx with z | z
      · exact W.okl x z
      · rw [List.mem_singleton.mp z]; exact hgr
    · have := W.ln
      rw [List.length_append, List.length_append]
      omega
  · have hn : rel sh pat os ∈ st.1 := by simpa using hb
    have e : addOne st (rel sh pat os) = st := if_pos hn
    refine q v H2 ?_ (hd_same (s1.trans s2))
    rw [e]
    exact W1.up s2
structure Pg (n k : Nat) (pat : List Nat) : Prop where
  len : pat.length = n
  ne : pat ≠ []
  t3 : top pat ≤ 3
  le : ∀ c ∈ pat, c ≤ top pat
theorem all_loop (hk : k ≤ 3) (hn : n ≤ 100) (h4 : F.x4 = vN k) (W : W3 B n k F.M L F.U st.1 st.2 us H) (hp : (RP pat).at_ (hd B H) p) (hs : (RSh sh).at_ (hd B H) s) (hg : gd n k sh) (pg : Pg n k pat) (hst : st.1.length < 400)
    (q : ∀ c18 c19 H2, W3 B n k F.M L F.U ((layR k sh pat).foldl addOne st).1 ((layR k sh pat).foldl addOne st).2 us H2 → Same (hd B H) (hd B H2) → D.nx (sg F (some p) lv c15 (some (.ref L)) (some s) c18 c19) H2) :
    tFor (iList K (tCall spAll [] C8.E0 (tCons (tVar 7) (tCons (tVar 4) tNil)))) (gName 18) (tOne K) D (sg F (some p) lv c15 (some (.ref L)) (some s) c18 c19) H := by
  have hlen : (layR k sh pat).length ≤ 1296 := by
    unfold layR
    rw [List.length_map]
    have hl := laid_len hk (top pat + 1)
    have ht := pg.t3
    have h6 : 6 ^ (top pat + 1) ≤ 6 ^ 4 := Nat.pow_le_pow_right (by decide) (by omega)
    have h1296 : (6 : Nat) ^ 4 = 1296 := by decide
    omega
  refine s_for (B := B) W.dm (ei_list (ev_call (α := List Nat × Nat) (pat, k) (ea_cons (ev_var rfl hp) (ea_cons (ev_var (v := F.x4) rfl h4) ea_nil)) ⟨pg.ne, pg.t3, hk, by show pat.length ≤ 100; rw [pg.len]; exact hn⟩)) fun H2 s2 d2 => ?_
  refine ⟨B, fun i σ' H' => (∃ c18 c19, σ' = sg F (some p) lv c15 (some (.ref L)) (some s) c18 c19) ∧ W3 B n k F.M L F.U (((layR k sh pat).take i).foldl addOne st).1 (((layR k sh pat).take i).foldl addOne st).2 us H' ∧ Same (hd B H2) (hd B H'), ⟨⟨_, _, rfl⟩, W.up s2, Same.refl _⟩, fun i σ' H' _ ⟨_, w, sm⟩ => ⟨w.dm, sm⟩, ?_, ?_⟩
  · rintro i r v σ' H' H3 hr0 ⟨⟨c18, c19, rfl⟩, w, sm⟩ e3 hv
    obtain ⟨os, hos, er⟩ := map_at hr0
    subst er
    have hos2 := List.mem_of_getElem? hos
    obtain ⟨l1, l2⟩ := laid_in hk _ os hos2
    have k3 : Same (hd B H) (hd B H3) := (hd_same s2).trans (sm.trans (hd_same e3))
    have hb := addAll_len ((layR k sh pat).take i) st
    have hti : ((layR k sh pat).take i).length ≤ 1296 := by rw [List.length_take]; omega
    show tOne K _ (sg F (some p) lv c15 (some (.ref L)) (some s) (some v) c19) H3
    refine one_step (w.up e3) (Rp.mono _ k3 hp) (Rp.mono _ k3 hs) hv ⟨fun c hc => by rw [l1]; exact Nat.lt_succ_of_le (pg.le c hc), fun o ho => by rw [hg.1.2]; exact l2 o ho, fun l hl => by rw [pg.len]; exact hg.1.1 l hl, by rw [hg.1.2]; omega, by rw [pg.len]; omega⟩ hg pg.len (by omega) fun c H4 w4 k4 => ?_
    refine ⟨⟨_, _, rfl⟩, ?_, sm.trans ((hd_same e3).trans k4)⟩
    have e : (layR k sh pat)[i]? = some (rel sh pat os) := by
      unfold layR
      rw [List.getElem?_map, hos]
      rfl
    rw [List.take_add_one, e, List.foldl_append]
    exact w4
  · rintro σ' H' ⟨⟨c18, c19, rfl⟩, w, sm⟩
    have e : (layR k sh pat).take ((laidRows k (top pat + 1)).map fun r => RT (r.map RP)).length = layR k sh pat := by
      rw [List.length_map]
      refine List.take_of_length_le ?_
      unfold layR
      rw [List.length_map]
      exact Nat.le_refl _
    have w : W3 B n k F.M L F.U (((layR k sh pat).take ((laidRows k (top pat + 1)).map fun r => RT (r.map RP)).length).foldl addOne st).1 (((layR k sh pat).take ((laidRows k (top pat + 1)).map fun r => RT (r.map RP)).length).foldl addOne st).2 us H' := w
    rw [e] at w
    exact q c18 c19 H' w ((hd_same s2).trans sm)
theorem row_step (hk : k ≤ 3) (hn : n ≤ 100) (h4 : F.x4 = vN k) (W : W3 B n k F.M L F.U st.1 st.2 us H) (hp : (RP pat).at_ (hd B H) p) (hs : (RSh sh).at_ (hd B H) s) (hg : gd n k sh) (pg : Pg n k pat)
    (q : ∀ c18 c19 H2, W3 B n k F.M L F.U (stepL k sh st pat).1 (stepL k sh st pat).2 us H2 → Same (hd B H) (hd B H2) → D.nx (sg F (some p) lv c15 (some (.ref L)) (some s) c18 c19) H2) :
    tRow K D (sg F (some p) lv c15 (some (.ref L)) (some s) c18 c19) H := by
  refine s_if (B := no) Dom.no (et_test (ev_ltN (ev_lenL (ev_var rfl W.m.at_)) (ev_nat (n := 400)))) (fun hb H2 s2 _ => ?_) (fun hb H2 s2 _ => ?_)
  · rw [List.length_map] at hb
    have hlt := of_decide_eq_true hb
    have e : stepL k sh st pat = (layR k sh pat).foldl addOne st := if_pos hlt
    rw [e] at q
    exact all_loop hk hn h4 (W.up s2) (Rp.mono _ (hd_same s2) hp) (Rp.mono _ (hd_same s2) hs) hg pg hlt fun c18 c19 H3 w3 k3 => q c18 c19 H3 w3 ((hd_same s2).trans k3)
  · rw [List.length_map] at hb
    have hlt := of_decide_eq_false hb
    have e : stepL k sh st pat = st := if_neg hlt
    rw [e] at q
    exact q c18 c19 H2 (W.up s2) (hd_same s2)
theorem lv_loop {rows : List (List Nat)} {c7 : Option V} (hk : k ≤ 3) (hn : n ≤ 100) (h4 : F.x4 = vN k) (W : W3 B n k F.M L F.U st.1 st.2 us H) (h6 : (RL (rows.map RP)).at_ (hd B H) F.x6) (hs : (RSh sh).at_ (hd B H) s) (hg : gd n k sh) (pg : ∀ p ∈ rows, Pg n k p)
    (q : ∀ c7 c18 c19 H2, W3 B n k F.M L F.U (lvL rows k st sh).1 (lvL rows k st sh).2 us H2 → Same (hd B H) (hd B H2) → D.nx (sg F c7 lv c15 (some (.ref L)) (some s) c18 c19) H2) :
    tLv K D (sg F c7 lv c15 (some (.ref L)) (some s) c18 c19) H := by
  refine s_for (B := B) W.dm (ei_list (ev_var (v := F.x6) rfl h6)) fun H2 s2 d2 => ?_
  refine ⟨B, fun i σ' H' => (∃ c7 c18 c19, σ' = sg F c7 lv c15 (some (.ref L)) (some s) c18 c19) ∧ W3 B n k F.M L F.U ((rows.take i).foldl (stepL k sh) st).1 ((rows.take i).foldl (stepL k sh) st).2 us H' ∧ Same (hd B H2) (hd B H'), ⟨⟨_, _, _, rfl⟩, W.up s2, Same.refl _⟩, fun i σ' H' _ ⟨_, w, sm⟩ => ⟨w.dm, sm⟩, ?_, ?_⟩
  · rintro i r v σ' H' H3 hr0 ⟨⟨c7, c18, c19, rfl⟩, w, sm⟩ e3 hv
    obtain ⟨pat, hpa, er⟩ := map_at hr0
    subst er
    have k3 : Same (hd B H) (hd B H3) := (hd_same s2).trans (sm.trans (hd_same e3))
    show tRow K _ (sg F (some v) lv c15 (some (.ref L)) (some s) c18 c19) H3
    refine row_step hk hn h4 (w.up e3) hv (Rp.mono _ k3 hs) hg (pg pat (List.mem_of_getElem? hpa)) fun c18 c19 H4 w4 k4 => ?_
    refine ⟨⟨_, _, _, rfl⟩, ?_, sm.trans ((hd_same e3).trans k4)⟩
    rw [List.take_add_one, hpa, List.foldl_append]
    exact w4
  · rintro σ' H' ⟨⟨c7, c18, c19, rfl⟩, w, sm⟩
    have w : W3 B n k F.M L F.U ((rows.take (rows.map RP).length).foldl (stepL k sh) st).1 ((rows.take (rows.map RP).length).foldl (stepL k sh) st).2 us H' := w
    rw [List.length_map, List.take_length] at w
    exact q c7 c18 c19 H' w ((hd_same s2).trans sm)
theorem level_loop {rows : List (List Nat)} {level : List Shs} {c7 : Option V} {lvv : V} (hk : k ≤ 3) (hn : n ≤ 100) (h4 : F.x4 = vN k) (W : W3 B n k F.M L F.U st.1 st.2 us H) (h6 : (RL (rows.map RP)).at_ (hd B H) F.x6) (hl : (RL (level.map RSh)).at_ (hd B H) lvv) (hg : ∀ s ∈ level, gd n k s) (pg : ∀ p ∈ rows, Pg n k p)
    (q : ∀ c7 c17 c18 c19 H2, W3 B n k F.M L F.U (level.foldl (lvL rows k) st).1 (level.foldl (lvL rows k) st).2 us H2 → Same (hd B H) (hd B H2) → D.nx (sg F c7 (some lvv) c15 (some (.ref L)) c17 c18 c19) H2) :
    tFor (iList K (tVar 13)) (gName 17) (tLv K) D (sg F c7 (some lvv) c15 (some (.ref L)) c17 c18 c19) H := by
  refine s_for (B := B) W.dm (ei_list (ev_var (v := lvv) rfl hl)) fun H2 s2 d2 => ?_
  refine ⟨B, fun i σ' H' => (∃ c7 c17 c18 c19, σ' = sg F c7 (some lvv) c15 (some (.ref L)) c17 c18 c19) ∧ W3 B n k F.M L F.U ((level.take i).foldl (lvL rows k) st).1 ((level.take i).foldl (lvL rows k) st).2 us H' ∧ Same (hd B H2) (hd B H'), ⟨⟨_, _, _, _, rfl⟩, W.up s2, Same.refl _⟩, fun i σ' H' _ ⟨_, w, sm⟩ => ⟨w.dm, sm⟩, ?_, ?_⟩
  · rintro i r v σ' H' H3 hr0 ⟨⟨c7, c17, c18, c19, rfl⟩, w, sm⟩ e3 hv
    obtain ⟨sh, hsh, er⟩ := map_at hr0
    subst er
    have k3 : Same (hd B H) (hd B H3) := (hd_same s2).trans (sm.trans (hd_same e3))
    show tLv K _ (sg F c7 (some lvv) c15 (some (.ref L)) (some v) c18 c19) H3
    refine lv_loop hk hn h4 (w.up e3) (Rp.mono _ k3 h6) hv (hg sh (List.mem_of_getElem? hsh)) pg fun c7 c18 c19 H4 w4 k4 => ?_
    refine ⟨⟨_, _, _, _, rfl⟩, ?_, sm.trans ((hd_same e3).trans k4)⟩
    rw [List.take_add_one, hsh, List.foldl_append]
    exact w4
  · rintro σ' H' ⟨⟨c7, c17, c18, c19, rfl⟩, w, sm⟩
    have w : W3 B n k F.M L F.U ((level.take (level.map RSh).length).foldl (lvL rows k) st).1 ((level.take (level.map RSh).length).foldl (lvL rows k) st).2 us H' := w
    rw [List.length_map, List.take_length] at w
    exact q c7 c17 c18 c19 H' w ((hd_same s2).trans sm)
end
end Sw
set_option Elab.async false
set_option linter.all false
set_option maxRecDepth 100000
set_option maxHeartbeats 1000000
/-! The law's turns. -/
namespace Sw
open PySem PySem.Spec PyProof.Rows L2
theorem al_snoc {H : Hp} {r : Rp} : ∀ {rs : List Rp} {vs : List V}, Al H (rs ++ [r]) vs → ∃ vs' v, vs = vs' ++ [v] ∧ Al H rs vs' ∧ r.at_ H v
  | [], vs, h => by
    obtain ⟨v, rfl, hv⟩ := Al.one h
    exact ⟨[], v, rfl, .nil, hv⟩
  | q :: rs, _, .cons h t => by
    obtain ⟨vs', v, rfl, h1, h2⟩ := al_snoc (rs := rs) t
    exact ⟨_ :: vs', v, rfl, .cons h h1, h2⟩
section
variable {K : PySem.W.Frag} {σ : L2.St} {H : Hp} {te ta tb : TE} {r : Rp} {rs : List Rp}
theorem ev_ixLast (h : Ev te σ H (RL (rs ++ [r]))) : Ev (tOp (rIxL K) te (tUn (rU fun i => .int (-i)) (tC (.int 1)))) σ H r :=
  ev_op h (ev_neg (ev_int (k := 1))) fun B H1 x y _ _ ⟨a, vs, ev, ha, hv⟩ hy _ q => by
    obtain ⟨vs', v, rfl, h1, h2⟩ := al_snoc hv
    have hy : y = .int (-1) := hy
    exact ⟨a, vs' ++ [v], -1, v, ev, hy, SqL.of (hd_in ha).1, atI_last vs' v, q v H1 (Same.refl H1) h2⟩
abbrev rNotNone : R2 := fun x y H Q => y = .non ∧ Q (.bl (!decide (x = .non))) H
theorem ev_notNone {b : Bool} (h : Ev te σ H r) (hb : ∀ H v, r.at_ H v → (!decide (v = V.non)) = b) : Ev (tOp rNotNone te (tC .non)) σ H (RB b) :=
  ev_op h (ev_c (r := RO) rfl) fun B H1 x y _ _ hx hy _ q => ⟨hy, q _ H1 (Same.refl H1) (by show V.bl _ = V.bl b; rw [hb _ _ hx])⟩
theorem opt_not {o : Option Nat} (H : Hp) (v : V) (h : (ROpt o).at_ H v) : (!decide (v = V.non)) = o.isSome := by
  cases o with
  | none =>
    have h : v = .non := h
    rw [h]
    rfl
  | some n =>
    have h : v = vN n := h
    rw [h]
    rfl
abbrev tLast (K : PySem.W.Frag) : TE := tOp (rIxL K) (tVar 14) (tUn (rU fun i => .int (-i)) (tC (.int 1)))
abbrev tDue (K : PySem.W.Frag) : TE := tIf (tTest (tOp rNotNone (tLast K) (tC .non))) (tLast K) (tIf (tTest (tOp (rInD K) (tOp (rIxT K) (tVar 2) (tC (.int 2))) (tVar 12))) (tVar 15) (tC .non))
def dueNx (d : Option Nat) (ss : Shs) (ms : List Shs) (c : Nat) : Option Nat := match d with
  | some j => some j
  | none => if ss ∈ ms then some c else none
theorem ev_due {us : List (Option Nat)} {d : Option Nat} {a b c : Nat} {ss : Shs} {ms : List Shs} (h14 : Ev (tVar 14) σ H (RL ((us ++ [d]).map ROpt))) (h2 : Ev (tVar 2) σ H (RPt a b ss)) (h12 : Ev (tVar 12) σ H (RL (ms.map RSh))) (h15 : Ev (tVar 15) σ H (RN c))
    (ok : okSh ss) (okm : ∀ s ∈ ms, okSh s) : Ev (tDue K) σ H (ROpt (dueNx d ss ms c)) := by
  rw [List.map_append] at h14
  refine ev_if (b := d.isSome) (et_test (ev_notNone (ev_ixLast h14) opt_not)) (fun hb => ?_) fun hb => ?_
  · cases d with
    | none => cases hb
    | some j => exact ev_ixLast h14
  · cases d with
    | some j => cases hb
    | none =>
      refine ev_if (et_test (ev_inLS (ev_ixT (k := 2) h2 ev_int rfl rfl) h12 ok.t fun s hs => (okm s hs).t)) (fun hb => ?_) fun hb => ?_
      · have : dueNx none ss ms c = some c := if_pos (of_decide_eq_true hb)
        rw [this]
        exact h15
      · have : dueNx none ss ms c = none := if_neg (of_decide_eq_false hb)
        rw [this]
        exact ev_c rfl
end
theorem due_zero {rows : List (List Nat)} {k : Nat} {gs ss : Shs} : lawDue rows k gs ss 0 = if gs = ss then some 0 else none := by
  unfold lawDue
  show (List.range 1).find? _ = _
  have e : List.range 1 = [0] := rfl
  rw [e, List.find?_cons]
  by_cases h : gs = ss
  · rw [if_pos h]
    have : decide (ss ∈ (lawSt rows k gs 0).1) = true := decide_eq_true (by rw [h]; exact List.mem_cons_self)
    rw [this]
  · rw [if_neg h]
    have : decide (ss ∈ (lawSt rows k gs 0).1) = false := decide_eq_false fun z => h (List.mem_singleton.mp z).symm
    rw [this]
    rfl
theorem due_succ {rows : List (List Nat)} {k : Nat} {gs ss : Shs} (c : Nat) : lawDue rows k gs ss (c + 1) = dueNx (lawDue rows k gs ss c) ss (lawSt rows k gs (c + 1)).1 (c + 1) := by
  unfold lawDue
  rw [List.range_succ, List.find?_append]
  cases (List.range (c + 1)).find? fun j => decide (ss ∈ (lawSt rows k gs j).1) with
  | some j => rfl
  | none =>
    rw [Option.none_or, List.find?_cons]
    unfold dueNx
    by_cases h : ss ∈ (lawSt rows k gs (c + 1)).1
    · rw [if_pos h, decide_eq_true h]
    · rw [if_neg h, decide_eq_false h]
      rfl
structure W2 (B : Bs) (n k : Nat) (M U : Addr) (ms : List Shs) (us : List (Option Nat)) (H : Hp) : Prop where
  dm : Dom B H
  m : Wl B M (ms.map RSh) H
  u : Wl B U (us.map ROpt) H
  ok : ∀ s ∈ ms, gd n k s
  ne : M ≠ U
theorem W2.up {B : Bs} {n k : Nat} {M U : Addr} {ms : List Shs} {us : List (Option Nat)} {H H' : Hp} (w : W2 B n k M U ms us H) (e : Same H H') : W2 B n k M U ms us H' := ⟨w.dm.same e, w.m.up e, w.u.up e, w.ok, w.ne⟩
abbrev tTurn (K : PySem.W.Frag) : TS := tSeq (tAsg (tLst tNil) (gName 16)) (tSeq (tFor (iList K (tVar 13)) (gName 17) (tLv K)) (tSeq (tAsg (tVar 16) (gName 13)) (tApp K (tVar 14) (tDue K))))
section
variable {K : PySem.W.Frag} {B : Bs} {n k : Nat} {F : Fx} {us : List (Option Nat)} {H : Hp} {D : Ends} {ms level : List Shs} {rows : List (List Nat)} {c7 c16 c17 c18 c19 : Option V} {lvv : V} {d : Option Nat} {a b c : Nat} {ss : Shs}
/-- what a list that was hidden told, it still tells -/
theorem hd_off {r : Rp} {v : V} {p : Addr} {H : Hp} (h : r.at_ (hd (B.add p) H) v) : r.at_ (hd B H) v := r.mono hd_less h
theorem turn (hk : k ≤ 3) (hn : n ≤ 100) (h4 : F.x4 = vN k) (W : W2 B n k F.M F.U ms (us ++ [d]) H) (h6 : (RL (rows.map RP)).at_ (hd B H) F.x6) (h2 : (RPt a b ss).at_ (hd B H) F.x2) (hl : (RL (level.map RSh)).at_ (hd B H) lvv) (hg : ∀ s ∈ level, gd n k s) (pg : ∀ p ∈ rows, Pg n k p) (ok : okSh ss) (hus : us.length < 100)
    (q : ∀ L c7 c17 c18 c19 H2, W2 B n k F.M F.U (lawNx rows k ms level).1 (us ++ [d] ++ [dueNx d ss (lawNx rows k ms level).1 c]) H2 → Same (hd B H) (hd B H2) → (RL ((lawNx rows k ms level).2.map RSh)).at_ (hd B H2) (.ref L) → (∀ s ∈ (lawNx rows k ms level).2, gd n k s) →
      D.nx (sg F c7 (some (.ref L)) (some (vN c)) (some (.ref L)) c17 c18 c19) H2) : tTurn K D (sg F c7 (some lvv) (some (vN c)) c16 c17 c18 c19) H := by
  refine ⟨Nat.zero_le _, fun L hL => ?_⟩
  have hBL : B L = false := W.dm.fresh hL
  have s1 : Same H (upd H L (.lst [])) := same_upd hL
  have W1 := W.up s1
  have k1 : Same (hd B H) (hd (B.add L) (upd H L (.lst []))) := hd_add (hd_same s1) (by
    unfold hd
    split
    · rfl
    · exact hL)
  have hLs : upd H L (.lst []) L = some (.lst []) := upd_same
  have hML : F.M ≠ L := fun e => by
    have := W.m.bd
    rw [e, hBL] at this
    cases this
  have hUL : F.U ≠ L := fun e => by
    have := W.u.bd
    rw [e, hBL] at this
    cases this
  obtain ⟨mb, mvs, mh, ma⟩ := W.m
  obtain ⟨ub, uvs, uh, ua⟩ := W.u
  have W3' : W3 (B.add L) n k F.M L F.U (ms, ([] : List Shs)).1 (ms, ([] : List Shs)).2 (us ++ [d]) (upd H L (.lst [])) :=
    ⟨(W.dm.same s1).add hLs (fun _ z => nomatch z), ⟨by rw [add_ne hML]; exact mb, mvs, s1 _ _ mh, ma.mono k1⟩, ⟨add_self B L, [], hLs, .nil⟩, ⟨by rw [add_ne hUL]; exact ub, uvs, s1 _ _ uh, ua.mono k1⟩, W.ok, (fun s hs => by cases hs), Nat.zero_le _, ⟨hML, W.ne, Ne.symm hUL⟩⟩
  generalize upd H L (.lst []) = H1 at k1 W3'
  show tSeq (tFor (iList K (tVar 13)) (gName 17) (tLv K)) _ _ (sg F c7 (some lvv) (some (vN c)) (some (.ref L)) c17 c18 c19) H1
  refine level_loop (D := { D with nx := (tSeq (tAsg (tVar 16) (gName 13)) (tApp K (tVar 14) (tDue K))) D }) hk hn h4 W3' (Rp.mono _ k1 h6) (Rp.mono _ k1 hl) hg pg fun c7 c17 c18 c19 H2 w2 k2 => ?_
  have w2 : W3 (B.add L) n k F.M L F.U (lawNx rows k ms level).1 (lawNx rows k ms level).2 (us ++ [d]) H2 := w2
  refine ⟨.ref L, rfl, ?_⟩
  show tApp K (tVar 14) (tDue K) D (sg F c7 (some (.ref L)) (some (vN c)) (some (.ref L)) c17 c18 c19) H2
  have kk := k1.trans k2
  obtain ⟨ub2, uvs2, uh2, ua2⟩ := w2.u
  refine ⟨.ref F.U, rfl, .inl ⟨rfl, _, SqL.of uh2⟩, ?_⟩
  refine ev_due (a := a) (b := b) (us := us) (d := d) (c := c) (ev_var rfl w2.u.at_) (ev_var (v := F.x2) rfl (Rp.mono _ hd_all (Rp.mono _ kk h2))) (ev_var rfl w2.m.at_) (ev_var rfl rfl) ok (fun s hs => (w2.ok s hs).2) no H2 (Same.refl _) Dom.no _ fun v H3 s3 hv => ?_
  have w3 := w2.up s3
  have uh3 := s3 _ _ uh2
  have hv' : (ROpt (dueNx d ss (lawNx rows k ms level).1 c)).at_ (hd (B.add L) H3) v := by
    cases e : dueNx d ss (lawNx rows k ms level).1 c with
    | none => rw [e] at hv; exact hv
    | some j => rw [e] at hv; exact hv
  have hul : uvs2.length < sizeLine := Nat.lt_of_lt_of_le (by
    have := ua2.len
    rw [List.length_map, List.length_append, List.length_singleton] at this
    omega : _ < 90000) (by decide)
  refine ⟨F.U, uvs2, v, rfl, rfl, uh3, hul, ?_⟩
  have u4 := w3.u.push hv' uh3
  obtain ⟨n1, n2, n3⟩ := w3.ne
  have m4 := w3.m.out (o := .lst (uvs2 ++ [v])) n2 w3.u.bd
  have l4 := w3.l.out (o := .lst (uvs2 ++ [v])) n3 w3.u.bd
  have d4 := dom_upd (D := F.U) (vs := uvs2 ++ [v]) w3.dm
  have k4 : Same (hd B H) (hd (B.add L) (upd H3 F.U (.lst (uvs2 ++ [v])))) := by
    rw [hd_upd w3.u.bd]
    exact kk.trans (hd_same s3)
  generalize upd H3 F.U (.lst (uvs2 ++ [v])) = H4 at u4 m4 l4 d4 k4
  have kl : Same (hd (B.add L) H4) (hd B H4) := hd_less
  refine q L c7 c17 c18 c19 H4 ⟨fun x hx => d4 x ?_, ?_, ?_, w3.ok, W.ne⟩ (k4.trans kl) ?_ w3.okl
  · unfold Bs.add
    rw [hx]
    rfl
  · obtain ⟨_, vs, h1, h2⟩ := m4
    exact ⟨mb, vs, h1, h2.mono kl⟩
  · obtain ⟨_, vs, h1, h2⟩ := u4
    refine ⟨ub, vs, h1, ?_⟩
    rw [List.map_append]
    exact h2.mono kl
  · obtain ⟨_, vs, h1, h2⟩ := l4
    exact ⟨L, vs, rfl, hd_of h1 hBL, h2.mono kl⟩
end
end Sw
set_option Elab.async false
set_option linter.all false
set_option maxRecDepth 100000
set_option maxHeartbeats 1000000
/-! The law behind its draws. -/
namespace Sw
open PySem PySem.Spec PyProof.Rows L2 LamX
abbrev rMulA : R2 := fun x y H Q => x = .str "a" ∧ y = .int 8 ∧ Q (.str (tx a8)) H
abbrev tA8 : TE := tTup (tCons (tOp rMulA (tC (.str "a")) (tC (.int 8))) tNil)
/-- the lambda's body -/
abbrev tMany (C CT : Addr) (E : XK) : TE := tCall (spTM C CT) [] E (tCons (tMake C (spInit C) [] C8.E0 (tCons (tC (.int 4)) (tCons (tC (.int 2)) (tCons tA8 tNil)))) (tCons tA8 (tCons (tC (.int 1)) (tCons (tC (.int 1)) tNil))))
section
variable {K : PySem.W.Frag} {σ : L2.St} {H : Hp} {ta tb : TE}
theorem ev_a8 : Ev tA8 σ H (RSh [a8]) := ev_tup (rs := [RS a8]) (ea_cons (ev_op (ra := RV (.str "a")) (rb := RV (.int 8)) (ev_c rfl) (ev_c rfl) fun B H1 x y _ _ hx hy _ q => ⟨hx, hy, q _ H1 (Same.refl H1) rfl⟩) ea_nil) (by show 1 ≤ 100000; decide)
theorem ev_neOpt {o u : Option Nat} (ha : Ev ta σ H (ROpt o)) (hb : Ev tb σ H (ROpt u)) : Ev (tOp rNe ta tb) σ H (RB (!decide (o = u))) :=
  ev_op ha hb fun B H1 x y _ _ hx hy _ q => by
    cases o with
    | none =>
      have hx : x = .non := hx
      subst hx
      cases u with
      | none =>
        have hy : y = .non := hy
        subst hy
        exact ⟨rfl, q _ H1 (Same.refl H1) rfl⟩
      | some m =>
        have hy : y = vN m := hy
        subst hy
        exact ⟨rfl, q _ H1 (Same.refl H1) rfl⟩
    | some n =>
      have hx : x = vN n := hx
      subst hx
      cases u with
      | none =>
        have hy : y = .non := hy
        subst hy
        exact ⟨rfl, q _ H1 (Same.refl H1) rfl⟩
      | some m =>
        have hy : y = vN m := hy
        subst hy
        refine ⟨rfl, q _ H1 (Same.refl H1) ?_⟩
        show V.bl _ = V.bl _
        congr 2
        exact decide_eq_decide.mpr ⟨fun e => by rw [Int.ofNat_inj.mp (V.int.inj e)], fun e => by rw [Option.some.inj e]⟩
theorem ev_neB {a b : Bool} (ha : Ev ta σ H (RB a)) (hb : Ev tb σ H (RB b)) : Ev (tOp rNe ta tb) σ H (RB (!decide (a = b))) :=
  ev_op ha hb fun B H1 x y _ _ hx hy _ q => by
    have hx : x = .bl a := hx
    have hy : y = .bl b := hy
    subst hx hy
    refine ⟨rfl, q _ H1 (Same.refl H1) ?_⟩
    show V.bl _ = V.bl _
    congr 2
    exact decide_eq_decide.mpr ⟨fun e => V.bl.inj e, fun e => by rw [e]⟩
theorem min_not {o : Option Nat} (H : Hp) (v : V) (h : (RMinO o).at_ H v) : (!decide (v = V.non)) = o.isSome := by
  cases o with
  | none =>
    have h : v = .non := h
    rw [h]
    rfl
  | some n =>
    obtain ⟨p, a, vs, e, _⟩ := h
    rw [e]
    rfl
theorem ev_minLen {n : Nat} (h : Ev ta σ H (RMin n)) : Ev (tOp (rIxT K) ta (tC (.int 0))) σ H (RN n) :=
  ev_op h (ev_int (k := 0)) fun B H1 x y _ _ hx hy _ q => by
    obtain ⟨p, a, vs, e, ha, hv⟩ := hx
    obtain ⟨u, w, rfl, hu, hw⟩ := hv.two
    exact ⟨a, [u, w], 0, u, e, hy, SqT.of (hd_in ha).1, rfl, q _ H1 (Same.refl H1) hu⟩
end
abbrev tFewC (C : Addr) (t : TE) : TE := tCall (spFew C) [] C8.E0 (tCons (tVar 3) (tCons (tVar 8) (tCons (tVar 5) (tCons t tNil))))
abbrev tChk (K : PySem.W.Frag) (C : Addr) : TS := tFor (iRng1 (tCons (tC (.int 3)) tNil)) (gName 20) (tIfS (tAnd (tTest (tOp rNe (tFewC C (tVar 20)) (tOp (rIxL K) (tVar 14) (tVar 20)))) (tTest (tOp (rI0 fun i j => V.bl (decide (i < j))) (tCB (rLenK K) (tCons (tVar 12) tNil)) (tC (.int 400))))) (tRet (tC (.bl false))) tNext)
abbrev tEnd (K : PySem.W.Frag) (C CT : Addr) (T : List (Addr × Str)) : TS :=
  tSeq (tAsg (tCall (spLfa T C) [] C8.E0 (tCons (tVar 3) (tCons (tVar 8) tNil))) (gName 21))
  (tSeq (tAsg (tAndV (tOp rNotNone (tVar 21) (tC .non)) (tOp (rI0 fun i j => V.bl (decide (i ≤ j))) (tOp (rIxT K) (tVar 21) (tC (.int 0))) (tVar 5))) (gName 22))
  (tSeq (tIfS (tTest (tOp rNe (tOp rNotNone (tFewC C (tC (.int 1))) (tC .non)) (tOrV (tOp (rEqD K) (tVar 8) (tOp (rIxT K) (tVar 2) (tC (.int 2)))) (tVar 22)))) (tRet (tC (.bl false))) tNext)
  (tRet (tOp (rEqD K) (tLam T (TTr CT) (tMany C CT)) (tTup (tCons (tC (.str "many")) tNil))))))
abbrev tTail (K : PySem.W.Frag) (C CT : Addr) (T : List (Addr × Str)) : TS := tSeq (tFor (iRng2 (tCons (tC (.int 1)) (tCons (tC (.int 3)) tNil))) (gName 15) (tTurn K)) (tSeq (tChk K C) (tEnd K C CT T))
/-- what is known of the law's things behind its draws -/
structure Kn (F : Fx) (C : Addr) (a b lo : Nat) (ss gs : Shs) (A : Hp) : Prop where
  k2 : (RPt a b ss).at_ A F.x2
  k3 : (RPk C a b ss).at_ A F.x3
  k4 : F.x4 = vN ss.length
  k5 : F.x5 = vN lo
  k6 : (RL ((rowsOf a b lo).map RP)).at_ A F.x6
  k8 : (RSh gs).at_ A F.x8
theorem Kn.up {F : Fx} {C : Addr} {a b lo : Nat} {ss gs : Shs} {A A' : Hp} (k : Kn F C a b lo ss gs A) (e : Same A A') : Kn F C a b lo ss gs A' := ⟨Rp.mono _ e k.k2, Rp.mono _ e k.k3, k.k4, k.k5, Rp.mono _ e k.k6, Rp.mono _ e k.k8⟩
structure Good (a b lo : Nat) (ss gs : Shs) : Prop where
  few : fewS a b ss.length
  oks : gd (a * b) ss.length ss
  okg : gd (a * b) ss.length gs
  lo12 : lo ≤ 12
theorem Good.pk {a b lo : Nat} {ss gs : Shs} (g : Good a b lo ss gs) : fewPk (a, b, ss) := ⟨g.few.1, g.oks.2, g.oks.1.1, g.few.2.1, g.few.2.2.1⟩
theorem Good.go {a b lo : Nat} {ss gs : Shs} (g : Good a b lo ss gs) : okGoals (a, b, ss) gs := ⟨g.okg.2, g.okg.1.1, g.okg.1.2⟩
section
variable {K : PySem.W.Frag} {F : Fx} {C CT : Addr} {a b lo : Nat} {ss gs : Shs} {H : Hp} {D : Ends} {T : List (Addr × Str)}
theorem lo_dec {n : Nat} : decide ((n : Int) ≤ (lo : Int)) = decide (n ≤ lo) := decide_eq_decide.mpr Int.ofNat_le
theorem okS_many : okS [sMany] := fun l hl => by
  rw [List.mem_singleton.mp hl]
  show ∀ c ∈ sMany, _
  decide
/-- the end of the law -/
theorem law_end {c7 lv c15 c16 c17 c18 c19 : Option V} (g : Good a b lo ss gs) (kn : Kn F C a b lo ss gs H) (hT : Tabs T H) (hD : ∀ H', D.rt (.bl true) H') : tEnd K C CT T D (sg F c7 lv c15 c16 c17 c18 c19) H := by
  have h0 : EvA (tCons (tVar 3) (tCons (tVar 8) tNil)) (sg F c7 lv c15 c16 c17 c18 c19) H [RPkA C (a, b, ss), RSh gs] := ea_cons (ev_var (v := F.x3) rfl kn.k3) (ea_cons (ev_var (v := F.x8) rfl kn.k8) ea_nil)
  show tCons (tVar 3) (tCons (tVar 8) tNil) _ H (fun vs H1 => spLfa T C (vs ++ []) H1 _ C8.E0)
  refine h0 no H (Same.refl _) Dom.no _ fun vs H1 s1 hvs => ?_
  rw [List.append_nil]
  refine ⟨(a, b, ss), gs, hvs, g.pk, g.go, hT.ext s1, fun v21 H2 eN T2 hv21 => ?_⟩
  have eN0 : ExtN H H2 := (ExtN.of s1).trans eN
  have k2 : (RPt a b ss).at_ H2 F.x2 := nt_Pt a b ss _ _ _ eN0 kn.k2
  have k3 : (RPk C a b ss).at_ H2 F.x3 := nt_Pk C a b ss _ _ _ eN0 kn.k3
  have k8 : (RSh gs).at_ H2 F.x8 := nt_Sh gs _ _ _ eN0 kn.k8
  have k4 := kn.k4
  have k5 := kn.k5
  clear kn
  dsimp only [gName]
  show tSeq (tAsg _ (gName 22)) _ D (sg { F with c21 := some v21 } c7 lv c15 c16 c17 c18 c19) H2
  have e21 {Hz : Hp} {c22 : Option V} (s : Same H2 Hz) : Ev (tVar 21) (sg { F with c21 := some v21, c22 := c22 } c7 lv c15 c16 c17 c18 c19) Hz (RMinO (leastLen (a, b, ss) gs)) := ev_var rfl (Rp.mono _ s hv21)
  let one : Bool := match leastLen (a, b, ss) gs with
    | none => false
    | some n => decide (n ≤ lo)
  refine q_set (B := no) (r := RB one) Dom.no ?_ fun v22 H3 s3 d3 hv22 => ?_
  · have h21 := e21 (c22 := F.c22) (Same.refl H2)
    cases e : leastLen (a, b, ss) gs with
    | none =>
      rw [e] at h21
      refine ev_is (ev_andV (a := false) (b := false) (ev_notNone h21 (min_not (o := none))) fun z => nomatch z) ?_
      show RB false = RB one
      congr 1
      show false = match leastLen (a, b, ss) gs with
        | none => false
        | some n => decide (n ≤ lo)
      rw [e]
    | some n =>
      rw [e] at h21
      refine ev_is (ev_andV (a := true) (b := decide (n ≤ lo)) (ev_notNone h21 (min_not (o := some n))) fun _ => ev_leN (ev_minLen h21) (ev_var (v := F.x5) rfl k5)) ?_
      show RB (true && decide (n ≤ lo)) = RB one
      congr 1
      show (true && decide (n ≤ lo)) = match leastLen (a, b, ss) gs with
        | none => false
        | some n => decide (n ≤ lo)
      rw [e]
      rfl
  show tSeq (tIfS _ _ _) _ D (sg { F with c21 := some v21, c22 := some v22 } c7 lv c15 c16 c17 c18 c19) H3
  have hfew : Ev (tFewC C (tC (.int 1))) (sg { F with c21 := some v21, c22 := some v22 } c7 lv c15 c16 c17 c18 c19) H3 (ROpt (fewest (rowsOf a b lo) ss gs 1)) :=
    ev_call (α := FwA) ((a, b, ss), gs, lo, 1) (ea_cons (ev_var (v := F.x3) rfl (Rp.mono _ s3 k3)) (ea_cons (ev_var (v := F.x8) rfl (Rp.mono _ s3 k8)) (ea_cons (ev_var (v := F.x5) rfl k5) (ea_cons (ev_nat (n := 1)) ea_nil)))) ⟨g.pk, g.few.2.2.2, g.go, g.lo12, by show 1 ≤ 2; decide⟩
  refine q_if (B := no) (b := false) Dom.no (et_is (et_test (ev_neB (ev_notNone hfew opt_not) (ev_orV (ev_eqSh (ev_var (v := F.x8) rfl (Rp.mono _ s3 k8)) (ev_ixT (k := 2) (ev_var (v := F.x2) rfl (Rp.mono _ s3 k2)) ev_int rfl rfl) g.okg.2.t g.oks.2.t) fun _ => ev_var rfl hv22))) ?_) (fun h => nomatch h) fun _ H4 s4 _ => ?_
  · rw [one_eq g.few g.okg.1 g.oks.1]
    show (!decide ((decide (gs = ss) || one) = (decide (gs = ss) || one))) = false
    rw [decide_eq_true rfl]
    rfl
  refine ⟨T2.ext (s3.trans s4), fun H5 eN5 T5 Qn => ?_⟩
  have h5 : EvA (tCons (tMake C (spInit C) [] C8.E0 (tCons (tC (.int 4)) (tCons (tC (.int 2)) (tCons tA8 tNil)))) (tCons tA8 (tCons (tC (.int 1)) (tCons (tC (.int 1)) tNil)))) (sg { F with c21 := some v21, c22 := some v22 } c7 lv c15 c16 c17 c18 c19) H5 [RPk C 4 2 [a8], RSh [a8], RN 1, RN 1] := (ea_cons (ev_mk (a := 4) (b := 2) (ss := [a8]) (ea_cons (ev_nat (n := 4)) (ea_cons (ev_nat (n := 2)) (ea_cons ev_a8 ea_nil))) ⟨by decide, by decide, by decide, by decide, by decide, ok_a8, by decide, by decide, by decide⟩) (ea_cons ev_a8 (ea_cons (ev_nat (n := 1)) (ea_cons (ev_nat (n := 1)) ea_nil))))
  show tCons (tMake C (spInit C) [] C8.E0 (tCons (tC (.int 4)) (tCons (tC (.int 2)) (tCons tA8 tNil)))) (tCons tA8 (tCons (tC (.int 1)) (tCons (tC (.int 1)) tNil))) _ H5 (fun vs H1 => spTM C CT (vs ++ []) H1 Qn _)
  refine h5 no H5 (Same.refl _) Dom.no _ fun vs2 H6 s6 hvs2 => ?_
  rw [List.append_nil]
  refine ⟨hvs2, fun H7 s7 => ⟨rfl, rfl, fun v8 H8 s8 hv8 => ?_⟩⟩
  have hv8 : (RSh [sMany]).at_ H8 v8 := hv8
  refine ev_eqSh (K := K) (σ := sg { F with c21 := some v21, c22 := some v22 } c7 lv c15 c16 c17 c18 c19) (s := [sMany]) (t := [sMany]) (ev_c (v := v8) hv8) (ev_tup (rs := [RS sMany]) (ea_cons (ev_c (v := .str "many") rfl) ea_nil) (by show 1 ≤ 100000; decide)) okS_many okS_many no H8 (Same.refl _) Dom.no _ fun v9 H9 s9 hv9 => ?_
  have hv9 : v9 = .bl (decide ([sMany] = [sMany])) := hv9
  rw [hv9, decide_eq_true rfl]
  exact hD H9
theorem rowsPg (f : fewS a b ss.length) : ∀ p ∈ rowsOf a b lo, Pg (a * b) ss.length p := fun p hp => by
  obtain ⟨h1, h2, h3, _⟩ := (rows_cap _ f.1).2 p (rowsOf_in hp)
  exact ⟨h1, h2, h3, (shapes_full _ f.1 p (rowsOf_in hp)).1⟩
/-- the checks of the numbers -/
theorem law_chk {c7 lv c15 c16 c17 c18 c19 : Option V} {ms : List Shs} (g : Good a b lo ss gs) (kn : Kn F C a b lo ss gs H) (hM : (RL (ms.map RSh)).at_ H (.ref F.M)) (hU : (RL (((List.range 3).map (lawDue (rowsOf a b lo) ss.length gs ss)).map ROpt)).at_ H (.ref F.U))
    (hms : ms = (lawSt (rowsOf a b lo) ss.length gs 2).1) (hT : Tabs T H) (hD : ∀ H', D.rt (.bl true) H') : tSeq (tChk K C) (tEnd K C CT T) D (sg F c7 lv c15 c16 c17 c18 c19) H := by
  have hr : EvA (tCons (tC (.int 3)) tNil) (sg F c7 lv c15 c16 c17 c18 c19) H [RN 3] := ea_cons (ev_nat (n := 3)) ea_nil
  refine q_for (B := no) Dom.no (ei_rng1 hr (by decide)) fun H2 s2 _ => ?_
  refine ⟨no, fun i σ' H' => (∃ c20, σ' = sg { F with c20 := c20 } c7 lv c15 c16 c17 c18 c19) ∧ Same H2 H', ⟨⟨F.c20, rfl⟩, Same.refl _⟩, fun i σ' H' _ ⟨_, sm⟩ => ⟨Dom.no, sm⟩, ?_, ?_⟩
  · rintro i r v σ' H' H3 hr0 ⟨⟨c20, rfl⟩, sm⟩ e3 hv
    obtain ⟨hi, er⟩ := rng_at hr0
    subst er
    have s3 : Same H H3 := (s2.trans sm).trans e3
    have kn3 := kn.up s3
    have hM3 := Rp.mono _ s3 hM
    have hU3 := Rp.mono _ s3 hU
    show tIfS _ _ _ _ (sg { F with c20 := some v } c7 lv c15 c16 c17 c18 c19) H3
    have hfew : Ev (tFewC C (tVar 20)) (sg { F with c20 := some v } c7 lv c15 c16 c17 c18 c19) H3 (ROpt (fewest (rowsOf a b lo) ss gs i)) :=
      ev_call (α := FwA) ((a, b, ss), gs, lo, i) (ea_cons (ev_var (v := F.x3) rfl kn3.k3) (ea_cons (ev_var (v := F.x8) rfl kn3.k8) (ea_cons (ev_var (v := F.x5) rfl kn3.k5) (ea_cons (ev_var rfl hv) ea_nil)))) ⟨g.pk, g.few.2.2.2, g.go, g.lo12, by show i ≤ 2; omega⟩
    have hdue : Ev (tOp (rIxL K) (tVar 14) (tVar 20)) (sg { F with c20 := some v } c7 lv c15 c16 c17 c18 c19) H3 (ROpt (lawDue (rowsOf a b lo) ss.length gs ss i)) := ev_ixL (i := (i : Int)) (k := i) (ev_var rfl hU3) (ev_var rfl hv) rfl (by
      rw [List.getElem?_map, List.getElem?_map]
      have : (List.range 3)[i]? = some i := by simp [hi]
      rw [this]
      rfl)
    refine s_if (B := no) (b := false) Dom.no (et_is (et_and (et_test (ev_neOpt hfew hdue)) fun _ => et_test (ev_ltN (ev_lenL (ev_var rfl hM3)) (ev_nat (n := 400)))) ?_) (fun h => nomatch h) fun _ H4 s4 _ => ⟨⟨_, rfl⟩, sm.trans (e3.trans s4)⟩
    rw [List.length_map]
    by_cases hl : ms.length < 400
    · have e := due_eq (lo := lo) (mo := i) g.few g.okg.1 g.oks.1 (by omega) (by rw [← hms]; exact hl)
      rw [e, decide_eq_true rfl]
      rfl
    · rw [decide_eq_false hl, Bool.and_false]
  · rintro σ' H' ⟨⟨c20, rfl⟩, sm⟩
    have s3 : Same H H' := s2.trans sm
    have kn3 := kn.up s3
    exact law_end (F := { F with c20 := c20 }) g ⟨kn3.k2, kn3.k3, kn3.k4, kn3.k5, kn3.k6, kn3.k8⟩ (hT.ext s3) hD
theorem law_tail {B : Bs} {c7 c15 c16 c17 c18 c19 : Option V} {lvv : V} (g : Good a b lo ss gs) (kn : Kn F C a b lo ss gs (hd B H)) (W : W2 B (a * b) ss.length F.M F.U [gs] [if gs = ss then some 0 else none] H) (hl : (RL [RSh gs]).at_ (hd B H) lvv) (hT : Tabs T (hd B H)) (hD : ∀ H', D.rt (.bl true) H') :
    tTail K C CT T D (sg F c7 (some lvv) c15 c16 c17 c18 c19) H := by
  have hab := (shapes_in _ g.few.1).2.2.2.2.1
  dsimp only at hab
  have hr : EvA (tCons (tC (.int 1)) (tCons (tC (.int 3)) tNil)) (sg F c7 (some lvv) c15 c16 c17 c18 c19) (hd B H) [RN 1, RN 3] := ea_cons (ev_nat (n := 1)) (ea_cons (ev_nat (n := 3)) ea_nil)
  refine q_for (B := B) W.dm (ei_rng2 hr (by decide) (by decide)) fun H2 s2 d2 => ?_
  refine ⟨B, fun i σ' H' => (∃ c7 lvv c15 c16 c17 c18 c19, σ' = sg F c7 (some lvv) c15 c16 c17 c18 c19 ∧ (RL ((lawSt (rowsOf a b lo) ss.length gs i).2.map RSh)).at_ (hd B H') lvv) ∧ W2 B (a * b) ss.length F.M F.U (lawSt (rowsOf a b lo) ss.length gs i).1 ((List.range (i + 1)).map (lawDue (rowsOf a b lo) ss.length gs ss)) H' ∧ Same (hd B H2) (hd B H') ∧ (∀ s ∈ (lawSt (rowsOf a b lo) ss.length gs i).2, gd (a * b) ss.length s), ⟨⟨_, lvv, _, _, _, _, _, rfl, Rp.mono _ (hd_same s2) hl⟩, ?_, Same.refl _, fun s hs => by rw [List.mem_singleton.mp hs]; exact g.okg⟩, fun i σ' H' _ ⟨_, w, sm, _⟩ => ⟨w.dm, sm⟩, ?_, ?_⟩
  · have e : (List.range (0 + 1)).map (lawDue (rowsOf a b lo) ss.length gs ss) = [if gs = ss then some 0 else none] := by
      show [lawDue (rowsOf a b lo) ss.length gs ss 0] = _
      rw [due_zero]
    rw [e]
    exact W.up s2
  · rintro i r v σ' H' H3 hr0 ⟨⟨c7, lvv, c15, c16, c17, c18, c19, rfl, hlv⟩, w, sm, hg⟩ e3 hv
    obtain ⟨j, hj, er⟩ := map_at hr0
    subst er
    have hij : j = i := by
      have hi2 : i < 2 := by
        have := (List.getElem?_eq_some_iff.mp hj).1
        rw [List.length_range] at this
        omega
      have : (List.range (3 - 1))[i]? = some i := by rw [List.getElem?_range]; exact hi2
      rw [this] at hj
      exact (Option.some.inj hj).symm
    subst hij
    have hj2 : j < 2 := by
      have := (List.getElem?_eq_some_iff.mp hj).1
      rw [List.length_range] at this
      omega
    have hv : v = vN (1 + j) := hv
    subst hv
    rw [List.range_succ, List.map_append] at w
    have k3 : Same (hd B H) (hd B H3) := (hd_same s2).trans (sm.trans (hd_same e3))
    have kn3 := kn.up k3
    show tTurn K _ (sg F c7 (some lvv) (some (vN (1 + j))) c16 c17 c18 c19) H3
    refine turn (rows := rowsOf a b lo) (a := a) (b := b) (ss := ss) (c := 1 + j) g.few.2.2.1 (by omega) kn.k4 (w.up e3) kn3.k6 kn3.k2 (Rp.mono _ (hd_same e3) hlv) hg (rowsPg g.few) g.oks.2 (by rw [List.length_map, List.length_range]; omega) fun L c7 c17 c18 c19 H4 w4 k4 hlv4 hg4 => ?_
    refine ⟨⟨_, _, _, _, _, _, _, rfl, hlv4⟩, ?_, sm.trans ((hd_same e3).trans k4), hg4⟩
    have e : (List.range (j + 1 + 1)).map (lawDue (rowsOf a b lo) ss.length gs ss) = (List.range j).map (lawDue (rowsOf a b lo) ss.length gs ss) ++ [lawDue (rowsOf a b lo) ss.length gs ss j] ++ [dueNx (lawDue (rowsOf a b lo) ss.length gs ss j) ss (lawNx (rowsOf a b lo) ss.length (lawSt (rowsOf a b lo) ss.length gs j).1 (lawSt (rowsOf a b lo) ss.length gs j).2).1 (1 + j)] := by
      rw [List.range_succ, List.range_succ, List.map_append, List.map_append]
      show _ ++ [lawDue (rowsOf a b lo) ss.length gs ss (j + 1)] = _
      rw [due_succ, Nat.add_comm 1 j]
      rfl
    rw [e]
    exact w4
  · rintro σ' H' ⟨⟨c7, lvv, c15, c16, c17, c18, c19, rfl, hlv⟩, w, sm, hg⟩
    have w : W2 B (a * b) ss.length F.M F.U (lawSt (rowsOf a b lo) ss.length gs 2).1 ((List.range 3).map (lawDue (rowsOf a b lo) ss.length gs ss)) H' := w
    have k3 : Same (hd B H) H' := ((hd_same s2).trans sm).trans hd_all
    exact law_chk g (kn.up k3) w.m.at_ w.u.at_ rfl (hT.ext k3) hD
end
end Sw
set_option Elab.async false
set_option linter.all false
set_option maxRecDepth 100000
set_option maxHeartbeats 1000000
/-! What the law draws: helpers. -/
namespace Sw
open PySem PySem.Spec PyProof.Rows L2 LamX
theorem sc_start {K : PySem.W.Frag} {S R : Addr} {xs : List Int} {H : Hp} {o : HO} (h : SqL K H S (xs.map V.int)) (hR : H R = none) : Sc K S R xs (upd H R o) := by
  rcases h with (h | ⟨u, h⟩) | h
  · have n := ne_of_none h hR
    exact .inl ⟨n, .inl (by rw [upd_ne n]; exact h)⟩
  · have n := ne_of_none h hR
    exact .inl ⟨n, .inr ⟨u, by rw [upd_ne n]; exact h⟩⟩
  · exact .inr fun H0 => .inr h
section
variable {K : PySem.W.Frag} {S R : Addr} {xs : List Int} {σ : L2.St} {H H0 : Hp} {te ta tb : TE} {tr : TA} {good good2 : Rp → Prop} {goodL : List Rp → Prop} {B : Bs} {D : Ends} {tz t1 t2 : TS}
/-- a call that only reads, of what was drawn -/
theorem evr_callO {α : Type} {rsf : α → List Rp} {pre : α → Prop} {res : α → Rp} {E : XK} (h : EvAR K S R xs tr σ H goodL) (hp : ∀ rs, goodL rs → ∃ a, rs = rsf a ∧ pre a ∧ good (res a)) : EvR K S R xs (tCall (SpOf rsf pre res) [] E tr) σ H good := fun B H1 e w Q q =>
  h B H1 e w _ fun rs vs H2 g s hvs => by
    obtain ⟨a, rfl, h1, h2⟩ := hp rs g
    exact ⟨a, B, (s.rw w).dom, by rw [List.append_nil]; exact hvs, h1, fun v H3 s3 hv => q _ v H3 h2 (s.trans (.of s.row s3)) hv⟩
theorem evr_tupOf {P : List Rp → Prop} (h : EvR K S R xs te σ H fun r => ∃ rs, P rs ∧ r = RL rs) : EvR K S R xs (tThen te (kTup K)) σ H fun r => ∃ rs, P rs ∧ r = RT rs := fun B H1 e w Q q =>
  h B H1 e w _ fun r v H2 ⟨rs, hp, hr⟩ s hv => by
    subst hr
    obtain ⟨a, vs, ev, hav, hv⟩ := hv
    exact .inl ⟨a, vs, ev, SqL.of (hd_in hav).1, fun p hpn => q (RT rs) _ _ ⟨rs, hp, rfl⟩ (s.trans (.of s.row (same_upd hpn))) ⟨p, vs, rfl, hd_new (s.rw w).dom hpn, hv.mono (hd_same (same_upd hpn))⟩⟩
theorem q_ifR (w : Rw K B S R xs H) (h : EvR K S R xs te σ (hd B H) fun r => ∃ b, r = RB b) (h1 : ∀ H1, Rs K R S xs H H1 → t1 { D with nx := tz D } σ H1) (h2 : ∀ H1, Rs K R S xs H H1 → t2 { D with nx := tz D } σ H1) : tSeq (tIfS (tTest te) t1 t2) tz D σ H :=
  h B H (Same.refl _) w _ fun r v H2 ⟨b, hr⟩ s hv => by
    subst hr
    refine ⟨b, hv, ?_⟩
    cases b with
    | true => exact h1 H2 s
    | false => exact h2 H2 s
theorem evr_taken0 {m : Nat} (hk : σ[1]? = some (some (.ref R))) (hm : 1 ≤ m ∧ m ≤ 100000) : EvR K S R xs (tCall (spTaken K) [] C8.E0 (tCons (tVar 1) (tCons (tC (.int (m : Int))) tNil))) σ H (below m) := evr_call (k := 1) (a := m) hk (evar_pure (ea_cons (ev_nat (n := m)) ea_nil)) hm
end
theorem prd_ord {α : Type} {l : Shs} : ∀ {ys : List α} {rs : List Rp}, Paired (fun _ r => ∃ o ∈ l, r = RP o) ys rs → ∃ os : Shs, (os.length = ys.length ∧ ∀ o ∈ os, o ∈ l) ∧ rs = os.map RP
  | _, _, .nil => ⟨[], ⟨rfl, fun _ h => nomatch h⟩, rfl⟩
  | _, _, .cons ⟨c, hc, hr⟩ t => by
    obtain ⟨cs, ⟨h1, h2⟩, h3⟩ := prd_ord t
    refine ⟨c :: cs, ⟨by rw [List.length_cons, List.length_cons, h1], fun d hd => ?_⟩, by rw [List.map_cons, ← h3, ← hr]⟩
    rcases List.mem_cons.mp hd with rfl | hd
    · exact hc
    · exact h2 d hd
/-- sheets whose letters are mixed -/
theorem prd_mix {n k : Nat} : ∀ {ys : Shs} {rs : List Rp}, Paired (fun l r => ∃ p : List Nat, p.Perm l ∧ r = RS p) ys rs → (∀ l ∈ ys, l.length = n ∧ okL l) → ∃ gs : Shs, (gs.length = ys.length ∧ ∀ l ∈ gs, l.length = n ∧ okL l) ∧ rs = gs.map RS
  | _, _, .nil, _ => ⟨[], ⟨rfl, fun _ h => nomatch h⟩, rfl⟩
  | l :: _, _, .cons ⟨p, hp, hr⟩ t, hy => by
    obtain ⟨gs, ⟨h1, h2⟩, h3⟩ := prd_mix (k := k) t fun x hx => hy x (List.mem_cons_of_mem _ hx)
    refine ⟨p :: gs, ⟨by rw [List.length_cons, List.length_cons, h1], fun d hd => ?_⟩, by rw [List.map_cons, ← h3, ← hr]⟩
    rcases List.mem_cons.mp hd with rfl | hd
    · obtain ⟨g1, g2⟩ := hy l List.mem_cons_self
      exact ⟨by rw [hp.length_eq]; exact g1, fun c hc => g2 c (hp.mem_iff.mp hc)⟩
    · exact h2 d hd
/-! ### the scheme -/
theorem sizes4 : ∀ p ∈ sizesOf 4, p ∈ shapes := by decide +kernel
theorem sizes2 : ∀ p ∈ sizesOf 2, p ∈ shapes ∧ p.1 * p.2 ≤ 2 := by decide +kernel
def goodA (a : PkA) : Prop := fewS a.1 a.2.1 a.2.2.length ∧ gd (a.1 * a.2.1) a.2.2.length a.2.2
theorem scheme_good {a : PkA} (h : okScheme 4 2 a ∨ okScheme 2 3 a) : goodA a := by
  rcases h with ⟨h1, h2, h3, h4⟩ | ⟨h1, h2, h3, h4⟩
  · exact ⟨⟨sizes4 _ h1, h2, by omega, .inr h3⟩, ⟨fun l hl => (h4 l hl).1, rfl⟩, fun l hl c hc => by have := (h4 l hl).2 c hc; omega⟩
  · exact ⟨⟨(sizes2 _ h1).1, h2, h3, .inl (sizes2 _ h1).2⟩, ⟨fun l hl => (h4 l hl).1, rfl⟩, fun l hl c hc => by have := (h4 l hl).2 c hc; omega⟩
theorem rows_law {a b lo : Nat} (h : (a, b) ∈ shapes) : (patterns a b).filter (fun p => decide (lawLong a p ≤ lo)) = rowsOf a b lo := by
  unfold rowsOf
  refine List.filter_congr fun p hp => ?_
  have := shapes_long _ h p hp
  dsimp only at this
  rw [this]
theorem rows_ne {a b lo : Nat} (h : (a, b) ∈ shapes) : 1 ≤ (rowsOf a b lo).length := by
  obtain ⟨h1, h2⟩ := shapes_whole _ h
  dsimp only at h1 h2
  exact List.length_pos_of_mem (List.mem_filter.mpr ⟨h1, decide_eq_true (by rw [h2]; exact Nat.zero_le _)⟩)
end Sw
set_option Elab.async false
set_option linter.all false
set_option maxRecDepth 100000
set_option maxHeartbeats 1000000
/-! The law's value. -/
namespace Sw
open PySem PySem.Spec PyProof.Rows L2 LamX
abbrev tMet (K : PySem.W.Frag) : TS := tPar3 12 13 14 (tCons (tLst (tCons (tVar 8) tNil)) (tCons (tLst (tCons (tVar 8) tNil)) (tCons (tLst (tCons (tIf (tTest (tOp (rEqD K) (tVar 8) (tOp (rIxT K) (tVar 2) (tC (.int 2))))) (tC (.int 0)) (tC .non)) tNil)) tNil)))
abbrev tMix (K : PySem.W.Frag) : TS := tIfS (tTest (tOp rEq (tCall (spTaken K) [] C8.E0 (tCons (tVar 1) (tCons (tC (.int 5)) tNil))) (tC (.int 0)))) (tAsg (tThen (tLc (iTup K (tVar 8)) (gName 11) tYes (tM1 (rJoinK K) (tC (.str "")) (tCall (spMixed K) [] C8.E0 (tCons (tVar 1) (tCons (tVar 11) tNil)))) [11]) (kTup K)) (gName 8)) tNext
abbrev tCuts (K : PySem.W.Frag) : TS := tFor (iRng1 (tCons (tCall (spTaken K) [] C8.E0 (tCons (tVar 1) (tCons (tC (.int 3)) tNil))) tNil)) (gName 9)
  (tSeq (tAsg (tCall (spPick K) [] C8.E0 (tCons (tVar 1) (tCons (tVar 6) tNil))) (gName 7))
    (tAsg (tCall spRelaid [] C8.E0 (tCons (tVar 8) (tCons (tVar 7) (tCons (tThen (tLc (iList K (tCall spCells [] C8.E0 (tCons (tVar 7) tNil))) (gName 10) tYes (tCall (spPick K) [] C8.E0 (tCons (tVar 1) (tCons (tCall spOrders [] C8.E0 (tCons (tVar 4) tNil)) tNil))) [10]) (kTup K)) tNil)))) (gName 8)))
abbrev tRows (K : PySem.W.Frag) : TS := tAsg (tLc (iList K (tCall spLPats [] C8.E0 (tCons (tVar 2) tNil))) (gName 7) (tTest (tOp (rI0 fun i j => V.bl (decide (i ≤ j))) (tCall spLLong [] C8.E0 (tCons (tVar 2) (tCons (tVar 7) tNil))) (tVar 5))) (tVar 7) [7]) (gName 6)
abbrev t3 (K : PySem.W.Frag) (C : Addr) : TE := tTup (tCons (tCall (spPacket C) [] C8.E0 (tCons (tVar 2) tNil)) (tCons (tCB (rLenK K) (tCons (tOp (rIxT K) (tVar 2) (tC (.int 2))) tNil)) (tCons (tCall (spTaken K) [] C8.E0 (tCons (tVar 1) (tCons (tC (.int 6)) tNil))) tNil)))
abbrev tThree (K : PySem.W.Frag) (C : Addr) : TS := tAsg (t3 K C) (gTup K 3 (gCons (gName 3) (gCons (gName 4) (gCons (gName 5) gNil))))
abbrev tPickS (K : PySem.W.Frag) : TS := tAsg (tCall (spPick K) [] C8.E0 (tCons (tVar 1) (tCons (tLst (tCons (tCall (spScheme K) [] C8.E0 (tCons (tVar 1) (tCons (tC (.int 4)) (tCons (tC (.int 2)) tNil)))) (tCons (tCall (spScheme K) [] C8.E0 (tCons (tVar 1) (tCons (tC (.int 2)) (tCons (tC (.int 3)) tNil)))) tNil))) tNil))) (gName 2)
abbrev tLaw (K : PySem.W.Frag) (C CT : Addr) (T : List (Addr × Str)) : TS := tSeq (tAsg (tLst (tCons (tVar 0) (tCons (tC (.int 0)) (tCons (tC (.int 0)) (tCons (tC (.int 0)) tNil))))) (gName 1))
  (tSeq (tPickS K) (tSeq (tThree K C) (tSeq (tRows K) (tSeq (tAsg (tOp (rIxT K) (tVar 2) (tC (.int 2))) (gName 8)) (tSeq (tCuts K) (tSeq (tMix K) (tSeq (tMet K) (tTail K C CT T))))))))
abbrev sA (c0 c1 c2 c3 c4 c5 c6 c7 c8 c9 c10 c11 : Option V) : L2.St := [c0, c1, c2, c3, c4, c5, c6, c7, c8, c9, c10, c11, none, none, none, none, none, none, none, none, none, none, none]
theorem tg_three {K : PySem.W.Frag} {σ : L2.St} {H : Hp} {B : Bs} {r1 r2 r3 : Rp} {a b c : Nat} {x : V} {P : L2.St → Hp → Prop} (h : (RT [r1, r2, r3]).at_ (hd B H) x) (k : ∀ v u w, r1.at_ (hd B H) v → r2.at_ (hd B H) u → r3.at_ (hd B H) w → P (((σ.set a (some v)).set b (some u)).set c (some w)) H) :
    gTup K 3 (gCons (gName a) (gCons (gName b) (gCons (gName c) gNil))) x σ H P := by
  obtain ⟨p, vs, e, hp, hv⟩ := h
  obtain ⟨v, u, w, rfl, h1, h2, h3⟩ := hv.three
  exact ⟨p, [v, u, w], e, SqT.of (hd_in hp).1, rfl, v, [u, w], rfl, u, [w], rfl, w, [], rfl, rfl, k v u w h1 h2 h3⟩
section
variable {K : PySem.W.Frag} {S R : Addr} {xs : List Int} {H : Hp} {D : Ends} {B : Bs} {C CT : Addr} {T : List (Addr × Str)} {tz : TS}
theorem evr_pickS {σ : L2.St} (hk : σ[1]? = some (some (.ref R))) : EvR K S R xs (tCall (spPick K) [] C8.E0 (tCons (tVar 1) (tCons (tLst (tCons (tCall (spScheme K) [] C8.E0 (tCons (tVar 1) (tCons (tC (.int 4)) (tCons (tC (.int 2)) tNil)))) (tCons (tCall (spScheme K) [] C8.E0 (tCons (tVar 1) (tCons (tC (.int 2)) (tCons (tC (.int 3)) tNil)))) tNil))) tNil))) σ H fun r => ∃ a : PkA, goodA a ∧ r = RPt a.1 a.2.1 a.2.2 := by
  have s4 : EvR K S R xs (tCall (spScheme K) [] C8.E0 (tCons (tVar 1) (tCons (tC (.int 4)) (tCons (tC (.int 2)) tNil)))) σ H fun r => ∃ p : PkA, okScheme 4 2 p ∧ r = RPt p.1 p.2.1 p.2.2 := evr_call (k := 1) (a := (4, 2)) hk (evar_pure (ea_cons (ev_nat (n := 4)) (ea_cons (ev_nat (n := 2)) ea_nil))) ⟨.inl rfl, by decide, by decide⟩
  have s2 : EvR K S R xs (tCall (spScheme K) [] C8.E0 (tCons (tVar 1) (tCons (tC (.int 2)) (tCons (tC (.int 3)) tNil)))) σ H fun r => ∃ p : PkA, okScheme 2 3 p ∧ r = RPt p.1 p.2.1 p.2.2 := evr_call (k := 1) (a := (2, 3)) hk (evar_pure (ea_cons (ev_nat (n := 2)) (ea_cons (ev_nat (n := 3)) ea_nil))) ⟨.inr rfl, by decide, by decide⟩
  refine evr_callX (k := 1) hk (evar_cons (evr_lst (evar_cons s4 (evar_cons s2 (evar_pure ea_nil))) fun rs g => ?_) (evar_pure ea_nil)) fun rs g => ?_
  · obtain ⟨r4, l3, e1, _, r2, l4, e2, _, e3⟩ := g
    rw [e1, e2, e3]
    show 2 ≤ 100000
    decide
  · obtain ⟨r, rs', e1, ⟨l2, ⟨r4, l3, e2, ⟨p4, o4, q4⟩, r2, l4, e3, ⟨p2, o2, q2⟩, e4⟩, e5⟩, e6⟩ := g
    have e4 : l4 = [] := e4
    have e6 : rs' = [] := e6
    subst e4 e3 e2 e6 e5 e1
    refine ⟨[r4, r2], rfl, ⟨by show 1 ≤ 2; decide, by show 2 ≤ 100000; decide⟩, fun r hr => ?_⟩
    rcases List.mem_cons.mp hr with z | z
    · exact ⟨p4, scheme_good (.inl o4), z.trans q4⟩
    · exact ⟨p2, scheme_good (.inr o2), (List.mem_singleton.mp z).trans q2⟩
/-- s[2] and such -/
theorem goodA.in {a : PkA} (g : goodA a) : 1 ≤ a.1 ∧ a.1 ≤ 4 ∧ 1 ≤ a.2.1 ∧ a.2.1 ≤ 4 ∧ a.1 * a.2.1 ≤ 4 := by
  obtain ⟨h1, h2, h3, h4, h5, _⟩ := shapes_in _ g.1.1
  exact ⟨h1, h2, h3, h4, h5⟩
theorem goodA.pk {a : PkA} (g : goodA a) : okPk a.1 a.2.1 a.2.2 := by
  obtain ⟨h1, h2, h3, h4, h5⟩ := g.in
  exact ⟨h1, h2, h3, h4, by omega, g.2.2, g.2.1.1, g.1.2.1, by have := g.1.2.2.1; omega⟩
theorem s_three {a : PkA} {c0 : Option V} {v2 : V} (g : goodA a) (w : Rw K B S R xs H) (h2 : (RPt a.1 a.2.1 a.2.2).at_ (hd B H) v2)
    (q : ∀ v3 v4 v5 lo H2, lo < 6 → Rs K R S xs H H2 → (RPkA C a).at_ (hd B H2) v3 → v4 = vN a.2.2.length → v5 = vN lo → tz D (sA c0 (some (.ref R)) (some v2) (some v3) (some v4) (some v5) none none none none none none) H2) :
    tSeq (tThree K C) tz D (sA c0 (some (.ref R)) (some v2) none none none none none none none none none) H := by
  have e2 : Ev (tVar 2) (sA c0 (some (.ref R)) (some v2) none none none none none none none none none) (hd B H) (RPt a.1 a.2.1 a.2.2) := ev_var rfl h2
  have h : EvR K S R xs (t3 K C) (sA c0 (some (.ref R)) (some v2) none none none none none none none none none) (hd B H) _ := evr_tup (evar_cons (evr_pure (ev_call (rs := fun a : PkA => [RPt a.1 a.2.1 a.2.2]) (pre := fun a => okPk a.1 a.2.1 a.2.2) (res := fun a => RPkA C a) (E := C8.E0) a (ea_cons e2 ea_nil) g.pk)) (evar_cons (evr_pure (ev_lenT (K := K) (ev_ixT (K := K) (k := 2) e2 (ev_int (k := 2)) rfl rfl))) (evar_cons (evr_taken0 (m := 6) rfl ⟨by decide, by decide⟩) (evar_pure ea_nil)))) (fun rs g => by
    obtain ⟨_, _, e1, _, _, _, e3, _, _, _, e4, _, e5⟩ := g
    rw [e1, e3, e4, e5]
    show 3 ≤ 100000
    decide)
  show t3 K C _ H (fun v H1 => gTup K 3 (gCons (gName 3) (gCons (gName 4) (gCons (gName 5) gNil))) v _ H1 (tz D))
  refine h B H (Same.refl _) w _ fun r v H2 hr s2 hv => ?_
  obtain ⟨rs, ⟨r3, l1, e1, g3, r4, l2, e3, g4, r5, l3, e5, ⟨lo, hlo, g5⟩, e6⟩, er⟩ := hr
  have e6 : l3 = [] := e6
  have g3 : r3 = RPkA C a := g3
  have g4 : r4 = RN (a.2.2.map RS).length := g4
  subst e6 e5 e3 e1 er g3 g4 g5
  refine tg_three hv fun v3 v4 v5 k3 k4 k5 => ?_
  rw [List.length_map] at k4
  exact q v3 v4 v5 lo H2 hlo s2 k3 k4 k5
theorem s_rows {a : PkA} {lo : Nat} {c0 : Option V} {v2 v3 v4 v5 : V} (g : goodA a) (hlo : v5 = vN lo) (w : Rw K B S R xs H) (h2 : (RPt a.1 a.2.1 a.2.2).at_ (hd B H) v2)
    (q : ∀ v6 H2, Same H H2 → (RL ((rowsOf a.1 a.2.1 lo).map RP)).at_ (hd B H2) v6 → tz D (sA c0 (some (.ref R)) (some v2) (some v3) (some v4) (some v5) (some v6) none none none none none) H2) :
    tSeq (tRows K) tz D (sA c0 (some (.ref R)) (some v2) (some v3) (some v4) (some v5) none none none none none none) H := by
  obtain ⟨g1, g2, g3, g4, g5⟩ := g.in
  have hpn := (rows_cap _ g.1.1).2
  have hsm := shapes_many _ g.1.1
  dsimp only at hpn hsm
  have hp : Ev (tCall spLPats [] C8.E0 (tCons (tVar 2) tNil)) (sA c0 (some (.ref R)) (some v2) (some v3) (some v4) (some v5) none none none none none none) (hd B H) (RL ((patterns a.1 a.2.1).map RP)) := ev_call (α := PkA) a (ea_cons (ev_var rfl h2) ea_nil) g.1.1
  refine q_set (r := RL ((rowsOf a.1 a.2.1 lo).map RP)) w.dom (ev_is (ev_lcN (vs := [7]) (j := 7) (xs := patterns a.1 a.2.1) (ρ := RP) (fun p => if decide (lawLong a.1 p ≤ lo) = true then some (RP p) else none) (ei_list hp) (by omega) (fun _ => rfl) (fun p v Hz hpi sz hv => ?_) fun p v Hz rp hpi sz hv hrp => ?_) ?_) fun v6 H4 s4 _ hv6 => q v6 H4 s4 hv6
  · have hl := (hpn p hpi).1
    have h5 : Ev (tVar 5) ((wipe (sA c0 (some (.ref R)) (some v2) (some v3) (some v4) (some v5) none none none none none none) [7]).set 7 (some v)) Hz (RN lo) := ev_var (v := v5) rfl hlo
    exact et_is (et_test (ev_leN (ev_call (α := PkA × List Nat) (a, p) (ea_cons (ev_var (v := v2) rfl (Rp.mono _ sz h2)) (ea_cons (ev_var rfl hv) ea_nil)) ⟨g1, by show a.1 ≤ 100; omega, by show p.length ≤ 100; rw [hl]; omega⟩) h5)) (is_ite _ _)
  · split at hrp
    · rw [← Option.some.inj hrp]
      exact ev_var rfl hv
    · cases hrp
  · rw [filter_fm, rows_law g.1.1]
end
end Sw
set_option Elab.async false
set_option linter.all false
set_option maxRecDepth 100000
set_option maxHeartbeats 1000000
/-! The law's value, the rest. -/
namespace Sw
open PySem PySem.Spec PyProof.Rows L2 LamX
theorem orders_some : ∀ k ∈ List.range 4, 1 ≤ (orders k).length := by decide +kernel
section
variable {K : PySem.W.Frag} {S R : Addr} {xs : List Int} {H : Hp} {D : Ends} {B : Bs} {C CT : Addr} {T : List (Addr × Str)} {tz : TS} {te : TE} {σ : L2.St} {good : Rp → Prop}
theorem s_setR {k : Nat} (w : Rw K B S R xs H) (h : EvR K S R xs te σ (hd B H) good) (q : ∀ r v H1, good r → Rs K R S xs H H1 → r.at_ (hd B H1) v → D.nx (σ.set k (some v)) H1) : tAsg te (gName k) D σ H := h B H (Same.refl _) w _ q
theorem evr_relaid {a : PkA} {gs : Shs} {pat : List Nat} {c0 v2 c3 c5 c6 c9 c10 : Option V} {v4 v7 v8 : V} (g : goodA a) (hv4 : v4 = vN a.2.2.length) (hg : gd (a.1 * a.2.1) a.2.2.length gs) (pg : Pg (a.1 * a.2.1) a.2.2.length pat) (h7 : (RP pat).at_ H v7) (h8 : (RSh gs).at_ H v8) :
    EvR K S R xs (tCall spRelaid [] C8.E0 (tCons (tVar 8) (tCons (tVar 7) (tCons (tThen (tLc (iList K (tCall spCells [] C8.E0 (tCons (tVar 7) tNil))) (gName 10) tYes (tCall (spPick K) [] C8.E0 (tCons (tVar 1) (tCons (tCall spOrders [] C8.E0 (tCons (tVar 4) tNil)) tNil))) [10]) (kTup K)) tNil))))
      (sA c0 (some (.ref R)) v2 c3 (some v4) c5 c6 (some v7) (some v8) c9 c10 none) H fun r => ∃ gs', gd (a.1 * a.2.1) a.2.2.length gs' ∧ r = RSh gs' := by
  have hk := g.1.2.2.1
  obtain ⟨_, _, _, _, g5⟩ := g.in
  have ht3 := pg.t3
  have hpl := pg.len
  have hord := orders_six a.2.2.length (List.mem_range.mpr (by omega))
  have lc : EvR K S R xs (tLc (iList K (tCall spCells [] C8.E0 (tCons (tVar 7) tNil))) (gName 10) tYes (tCall (spPick K) [] C8.E0 (tCons (tVar 1) (tCons (tCall spOrders [] C8.E0 (tCons (tVar 4) tNil)) tNil))) [10])
      (sA c0 (some (.ref R)) v2 c3 (some v4) c5 c6 (some v7) (some v8) c9 c10 none) H fun r => ∃ rs, (∃ os : Shs, (os.length = (piecesOf pat).length ∧ ∀ o ∈ os, o ∈ orders a.2.2.length) ∧ rs = os.map RP) ∧ r = RL rs := by
    have hcells : Ev (tCall spCells [] C8.E0 (tCons (tVar 7) tNil)) (sA c0 (some (.ref R)) v2 c3 (some v4) c5 c6 (some v7) (some v8) c9 c10 none) H (RL ((piecesOf pat).map fun c => RL (c.map RN))) := ev_call (α := List Nat) pat (ea_cons (ev_var rfl h7) ea_nil) ⟨pg.ne, by show pat.length ≤ 100; omega, by show top pat ≤ 100; omega⟩
    refine EvR.imp (evr_lc (ys := piecesOf pat) (ρ := fun c => RL (c.map RN)) (fun _ r => ∃ o ∈ orders a.2.2.length, r = RP o) (ei_list hcells) (by unfold piecesOf; rw [List.length_map, List.length_range]; omega) (fun _ => rfl) fun y v H1 hy s1 hv => ?_) ?_
    · have ho : Ev (tCall spOrders [] C8.E0 (tCons (tVar 4) tNil)) ((wipe (sA c0 (some (.ref R)) v2 c3 (some v4) c5 c6 (some v7) (some v8) c9 c10 none) [10]).set 10 (some v)) H1 (RL ((orders a.2.2.length).map RP)) := ev_call (α := Nat) a.2.2.length (ea_cons (ev_var (v := v4) rfl hv4) ea_nil) hk
      refine EvR.imp (evr_call (k := 1) ((orders a.2.2.length).map RP) rfl (evar_pure (ea_cons ho ea_nil)) ⟨?_, ?_⟩) fun r hr => ?_
      · rw [List.length_map]
        exact orders_some _ (List.mem_range.mpr (by omega))
      · rw [List.length_map]
        omega
      · obtain ⟨o, h1, h2⟩ := List.mem_map.mp (show r ∈ (orders a.2.2.length).map RP from hr)
        exact ⟨o, h1, h2.symm⟩
    · rintro r ⟨rs, hp, rfl⟩
      exact ⟨rs, prd_ord hp, rfl⟩
  refine evr_callO (evar_cons (evr_pure (ev_var rfl h8)) (evar_cons (evr_pure (ev_var rfl h7)) (evar_cons (evr_tupOf lc) (evar_pure ea_nil)))) fun rs hr => ?_
  obtain ⟨r1, l1, e1, q1, r2, l2, e2, q2, r3, l3, e3, ⟨ls, ⟨os, ⟨o1, o2⟩, e5⟩, e6⟩, e7⟩ := hr
  have q1 : r1 = RSh gs := q1
  have q2 : r2 = RP pat := q2
  have e7 : l3 = [] := e7
  subst e7 e3 e2 e1 q1 q2 e6 e5
  have hol : os.length = top pat + 1 := by
    rw [o1]
    unfold piecesOf
    rw [List.length_map, List.length_range]
  have okr : okRel gs pat os := ⟨fun c hc => by rw [hol]; exact Nat.lt_succ_of_le (pg.le c hc), fun o ho => by rw [hg.1.2]; exact hord.2 o (o2 o ho), fun l hl => by rw [hpl]; exact hg.1.1 l hl, by rw [hg.1.2]; omega, by omega⟩
  refine ⟨(gs, pat, os), rfl, okr, rel gs pat os, ⟨?_, rel_okSh hg.2 okr⟩, rfl⟩
  have z := rel_vld gs pat os
  rw [hpl, hg.1.2] at z
  exact z
theorem s_cuts {a : PkA} {lo : Nat} {c0 : Option V} {v2 v3 v4 v5 v6 v8 : V} (g : goodA a) (hv4 : v4 = vN a.2.2.length) (w : Rw K B S R xs H) (h6 : (RL ((rowsOf a.1 a.2.1 lo).map RP)).at_ (hd B H) v6) (h8 : (RSh a.2.2).at_ (hd B H) v8)
    (q : ∀ gs c7 v8 c9 c10 H2, gd (a.1 * a.2.1) a.2.2.length gs → Rs K R S xs H H2 → (RSh gs).at_ (hd B H2) v8 → tz D (sA c0 (some (.ref R)) (some v2) (some v3) (some v4) (some v5) (some v6) c7 (some v8) c9 c10 none) H2) :
    tSeq (tCuts K) tz D (sA c0 (some (.ref R)) (some v2) (some v3) (some v4) (some v5) (some v6) none (some v8) none none none) H := by
  have ht : EvR K S R xs (tCall (spTaken K) [] C8.E0 (tCons (tVar 1) (tCons (tC (.int 3)) tNil))) (sA c0 (some (.ref R)) (some v2) (some v3) (some v4) (some v5) (some v6) none (some v8) none none none) (hd B H) (below 3) := evr_taken0 (m := 3) rfl ⟨by decide, by decide⟩
  refine q_forD (fun n H7 => n < 3 ∧ Rs K R S xs H H7) (fun Rz hRz => ?_) fun n H7 ⟨hn, s7⟩ => ⟨by omega, fun i σ' H' => (∃ c7 v8 c9 c10, σ' = sA c0 (some (.ref R)) (some v2) (some v3) (some v4) (some v5) (some v6) c7 (some v8) c9 c10 none ∧ ∃ gs, gd (a.1 * a.2.1) a.2.2.length gs ∧ (RSh gs).at_ (hd B H') v8) ∧ Rs K R S xs H H', ⟨⟨_, _, _, _, rfl, a.2.2, g.2, Rp.mono _ (s7.hd w) h8⟩, s7⟩, ?_, ?_⟩
  · refine ht B H (Same.refl _) w _ fun r v H7 ⟨n, hn, hrn⟩ s7 hv => ?_
    subst hrn
    have hv : v = vN n := hv
    subst hv
    exact hRz n H7 ⟨hn, s7⟩
  · rintro i σ' H' hi ⟨⟨c7, v8, c9, c10, rfl, gs, hg, h8⟩, sr⟩
    have w' := sr.rw w
    have h6' := Rp.mono _ (sr.hd w) h6
    show tSeq (tAsg _ (gName 7)) (tAsg _ (gName 8)) _ (sA c0 (some (.ref R)) (some v2) (some v3) (some v4) (some v5) (some v6) c7 (some v8) (some (vN i)) c10 none) H'
    have hp : EvR K S R xs (tCall (spPick K) [] C8.E0 (tCons (tVar 1) (tCons (tVar 6) tNil))) (sA c0 (some (.ref R)) (some v2) (some v3) (some v4) (some v5) (some v6) c7 (some v8) (some (vN i)) c10 none) (hd B H') fun r => ∃ p ∈ rowsOf a.1 a.2.1 lo, r = RP p := by
      have hsm := shapes_many _ g.1.1
      have hrl := rowsOf_len a.1 a.2.1 lo
      dsimp only at hsm
      refine EvR.imp (evr_call (k := 1) ((rowsOf a.1 a.2.1 lo).map RP) rfl (evar_pure (ea_cons (ev_var rfl h6') ea_nil)) ⟨by rw [List.length_map]; exact rows_ne g.1.1, by rw [List.length_map]; omega⟩) fun r hr => ?_
      obtain ⟨o, h1, h2⟩ := List.mem_map.mp (show r ∈ (rowsOf a.1 a.2.1 lo).map RP from hr)
      exact ⟨o, h1, h2.symm⟩
    refine q_setR w' hp fun r v7 H3 ⟨pat, hpat, hr⟩ s3 w3 hv7 => ?_
    subst hr
    show tAsg _ (gName 8) _ (sA c0 (some (.ref R)) (some v2) (some v3) (some v4) (some v5) (some v6) (some v7) (some v8) (some (vN i)) c10 none) H3
    refine s_setR w3 (evr_relaid g hv4 hg (rowsPg (ss := a.2.2) g.1 pat hpat) hv7 (Rp.mono _ (s3.hd w') h8)) fun r v H4 ⟨gs', hg', hr⟩ s4 hv => ?_
    subst hr
    exact ⟨⟨_, _, _, _, rfl, gs', hg', hv⟩, (sr.trans s3).trans s4⟩
  · rintro σ' H' ⟨⟨c7, v8, c9, c10, rfl, gs, hg, h8⟩, sr⟩
    exact q gs c7 v8 c9 c10 H' hg sr h8
theorem s_mix {a : PkA} {gs : Shs} {c0 c7 c9 c10 : Option V} {v2 v3 v4 v5 v6 v8 : V} (g : goodA a) (hg : gd (a.1 * a.2.1) a.2.2.length gs) (w : Rw K B S R xs H) (h8 : (RSh gs).at_ (hd B H) v8)
    (q : ∀ gs v8 H2, gd (a.1 * a.2.1) a.2.2.length gs → Rs K R S xs H H2 → (RSh gs).at_ (hd B H2) v8 → tz D (sA c0 (some (.ref R)) (some v2) (some v3) (some v4) (some v5) (some v6) c7 (some v8) c9 c10 none) H2) :
    tSeq (tMix K) tz D (sA c0 (some (.ref R)) (some v2) (some v3) (some v4) (some v5) (some v6) c7 (some v8) c9 c10 none) H := by
  obtain ⟨_, _, _, _, g5⟩ := g.in
  have ht : EvR K S R xs (tCall (spTaken K) [] C8.E0 (tCons (tVar 1) (tCons (tC (.int 5)) tNil))) (sA c0 (some (.ref R)) (some v2) (some v3) (some v4) (some v5) (some v6) c7 (some v8) c9 c10 none) (hd B H) (below 5) := evr_taken0 (m := 5) rfl ⟨by decide, by decide⟩
  refine q_ifR w (evr_op ht (evr_pure (ev_nat (n := 0))) fun B5 H5 r1 r2 x y q1 q2 _ d5 hx hy Q5 q5 => ?_) (fun H1 s1 => ?_) fun H1 s1 => ?_
  · obtain ⟨k, hk, rfl⟩ := q1
    subst q2
    have hx : x = vN k := hx
    have hy : y = vN 0 := hy
    subst hx hy
    exact ⟨rfl, q5 (RB (decide (vN k = vN 0))) _ H5 ⟨_, rfl⟩ (Same.refl _) rfl⟩
  · have w1 := s1.rw w
    have h81 := Rp.mono _ (s1.hd w) h8
    have lc : EvR K S R xs (tLc (iTup K (tVar 8)) (gName 11) tYes (tM1 (rJoinK K) (tC (.str "")) (tCall (spMixed K) [] C8.E0 (tCons (tVar 1) (tCons (tVar 11) tNil)))) [11]) (sA c0 (some (.ref R)) (some v2) (some v3) (some v4) (some v5) (some v6) c7 (some v8) c9 c10 none) (hd B H1) fun r => ∃ rs, (∃ gs' : Shs, (gs'.length = gs.length ∧ ∀ l ∈ gs', l.length = a.1 * a.2.1 ∧ okL l) ∧ rs = gs'.map RS) ∧ r = RL rs := by
      refine EvR.imp (evr_lc (ys := gs) (ρ := RS) (fun l r => ∃ p : List Nat, p.Perm l ∧ r = RS p) (ei_tup (ev_var rfl h81)) (by have := hg.1.2; have := g.1.2.2.1; omega) (fun _ => rfl) fun l v H2 hl s2 hv => ?_) ?_
      · have hll := hg.1.1 l hl
        exact evr_joinC (p := fun p => p.Perm l) (fun _ => ev_nils) (evr_call (k := 1) l rfl (evar_pure (ea_cons (ev_var rfl hv) ea_nil)) ⟨by omega, hg.2 l hl⟩) fun cs hc => by rw [hc.length_eq]; omega
      · rintro r ⟨rs, hp, rfl⟩
        exact ⟨rs, prd_mix (k := 0) hp fun l hl => ⟨hg.1.1 l hl, hg.2 l hl⟩, rfl⟩
    refine s_setR w1 (evr_tupOf lc) fun r v H2 ⟨rs, ⟨gs', ⟨g1, g2⟩, e1⟩, hr⟩ s2 hv => ?_
    subst hr e1
    exact q gs' v H2 ⟨⟨fun l hl => (g2 l hl).1, by rw [g1]; exact hg.1.2⟩, fun l hl => (g2 l hl).2⟩ (s1.trans s2) hv
  · exact q gs v8 H1 hg s1 (Rp.mono _ (s1.hd w) h8)
theorem s_met {a : PkA} {lo : Nat} {gs : Shs} {c0 c1 c7 c9 c10 c11 : Option V} {v2 v3 v4 v5 v6 v8 : V} (g : goodA a) (hg : gd (a.1 * a.2.1) a.2.2.length gs) (hlo : lo ≤ 12) (h2 : (RPt a.1 a.2.1 a.2.2).at_ H v2) (h3 : (RPkA C a).at_ H v3) (h4 : v4 = vN a.2.2.length) (h5 : v5 = vN lo)
    (h6 : (RL ((rowsOf a.1 a.2.1 lo).map RP)).at_ H v6) (h8 : (RSh gs).at_ H v8) (hT : Tabs T H) (hD : ∀ H', D.rt (.bl true) H') :
    tSeq (tMet K) (tTail K C CT T) D (sA c0 c1 (some v2) (some v3) (some v4) (some v5) (some v6) c7 (some v8) c9 c10 c11) H := by
  have hl1 : ([v8] : List V).length ≤ sizeLine := Nat.le_trans (by show 1 ≤ 100000; decide) (by decide)
  refine ⟨v8, rfl, hl1, fun M hM => ⟨v8, rfl, hl1, fun L hL => ?_⟩⟩
  have s1 : Same H (upd H M (.lst [v8])) := same_upd hM
  have eM1 : upd H M (.lst [v8]) M = some (.lst [v8]) := upd_same
  generalize upd H M (.lst [v8]) = H1 at hL s1 eM1
  have s2 : Same H1 (upd H1 L (.lst [v8])) := same_upd hL
  have eL2 : upd H1 L (.lst [v8]) L = some (.lst [v8]) := upd_same
  have nML : M ≠ L := ne_of_none eM1 hL
  generalize upd H1 L (.lst [v8]) = H2 at s2 eL2
  have s02 := s1.trans s2
  have hif : Ev (tIf (tTest (tOp (rEqD K) (tVar 8) (tOp (rIxT K) (tVar 2) (tC (.int 2))))) (tC (.int 0)) (tC .non)) (sA c0 c1 (some v2) (some v3) (some v4) (some v5) (some v6) c7 (some v8) c9 c10 c11) H2 (ROpt (if gs = a.2.2 then some 0 else none)) := by
    refine ev_if (et_test (ev_eqSh (ev_var rfl (Rp.mono _ s02 h8)) (ev_ixT (k := 2) (ev_var (v := v2) rfl (Rp.mono _ s02 h2)) ev_int rfl rfl) hg.2.t g.2.2.t)) (fun hb => ?_) fun hb => ?_
    · rw [if_pos (of_decide_eq_true hb)]
      exact ev_nat (n := 0)
    · rw [if_neg (of_decide_eq_false hb)]
      exact ev_c rfl
  refine hif no H2 (Same.refl _) Dom.no _ fun v H3 s3 hv => ?_
  have hv : (ROpt (if gs = a.2.2 then some 0 else none)).at_ H3 v := hv
  refine ⟨hl1, fun U hU => ⟨_, _, _, rfl, ?_⟩⟩
  have s4 : Same H3 (upd H3 U (.lst [v])) := same_upd hU
  have eU4 : upd H3 U (.lst [v]) U = some (.lst [v]) := upd_same
  have eM3 := s3 _ _ (s2 _ _ eM1)
  have eL3 := s3 _ _ eL2
  have nMU : M ≠ U := ne_of_none eM3 hU
  have nLU : L ≠ U := ne_of_none eL3 hU
  generalize upd H3 U (.lst [v]) = H4 at s4 eU4
  have s03 := s02.trans s3
  have s04 : Same H H4 := s03.trans s4
  have hUn : H U = none := by
    cases e : H U with
    | none => rfl
    | some o =>
      rw [s03 _ _ e] at hU
      cases hU
  have kk : Same H (hd ((no.add M).add U) H4) := hd_add (hd_add (B := no) s04 hM) hUn
  have bM : ((no.add M).add U) M = true := by
    rw [add_ne nMU]
    exact add_self no M
  have bU : ((no.add M).add U) U = true := add_self _ U
  have bL : ((no.add M).add U) L = false := by
    rw [add_ne nLU, add_ne (Ne.symm nML)]
    rfl
  show tTail K C CT T D (sg ⟨c0, c1, v2, v3, v4, v5, v6, v8, c9, c10, c11, M, U, none, none, none⟩ c7 (some (.ref L)) none none none none none) H4
  refine law_tail (a := a.1) (b := a.2.1) (lo := lo) (ss := a.2.2) (gs := gs) (B := (no.add M).add U) ⟨g.1, g.2, hg, hlo⟩ ⟨Rp.mono _ kk h2, Rp.mono _ kk h3, h4, h5, Rp.mono _ kk h6, Rp.mono _ kk h8⟩ ⟨?_, ⟨bM, [v8], s4 _ _ eM3, .cons (Rp.mono _ kk h8) .nil⟩, ⟨bU, [v], eU4, .cons ?_ .nil⟩, fun s hs => by rw [List.mem_singleton.mp hs]; exact hg, nMU⟩ ⟨L, [v8], rfl, hd_of (s4 _ _ eL3) bL, .cons (Rp.mono _ kk h8) .nil⟩ (hT.ext kk) hD
  · exact ((Dom.no (H := H4)).add (s4 _ _ eM3) (fun _ z => nomatch z)).add eU4 fun _ z => nomatch z
  · by_cases e : gs = a.2.2
    · rw [if_pos e] at hv ⊢
      exact hv
    · rw [if_neg e] at hv ⊢
      exact hv
/-- the law answers True -/
theorem law_val {c0 : Option V} (hS : SqL K H S (xs.map V.int)) (hT : Tabs T H) (hD : ∀ H', D.rt (.bl true) H') : tLaw K C CT T D (sA (some (.ref S)) none none none none none none none none none none none) H := by
  refine ⟨.ref S, rfl, Nat.le_trans (by show 4 ≤ 100000; decide) (by decide), fun R hR => ?_⟩
  have w1 : Rw K (no.add R) S R xs (upd H R (.lst [.ref S, .int 0, .int 0, .int 0])) := ⟨add_self no R, (Dom.no).add upd_same (fun _ z => nomatch z), sc_start hS hR, trivial, 0, 0, 0, Int.le_refl _, upd_same⟩
  have k1 : Same H (hd (no.add R) (upd H R (.lst [.ref S, .int 0, .int 0, .int 0]))) := hd_add (B := no) (same_upd hR) hR
  generalize upd H R (.lst [.ref S, .int 0, .int 0, .int 0]) = H1 at w1 k1
  show tSeq (tPickS K) _ D (sA (some (.ref S)) (some (.ref R)) none none none none none none none none none none) H1
  refine q_setR w1 (evr_pickS rfl) fun r v2 H2 ⟨a, g, hr⟩ s2 w2 h2 => ?_
  subst hr
  show tSeq (tThree K C) _ D (sA (some (.ref S)) (some (.ref R)) (some v2) none none none none none none none none none) H2
  refine s_three g w2 h2 fun v3 v4 v5 lo H3 hlo s3 h3 h4 h5 => ?_
  have w3 := s3.rw w2
  have h23 := Rp.mono _ (s3.hd w2) h2
  refine s_rows g h5 w3 h23 fun v6 H4 s4 h6 => ?_
  have w4 := w3.same s4
  have h24 := Rp.mono _ (hd_same s4) h23
  have h34 := Rp.mono _ (hd_same s4) h3
  have e2 : Ev (tVar 2) (sA (some (.ref S)) (some (.ref R)) (some v2) (some v3) (some v4) (some v5) (some v6) none none none none none) (hd (no.add R) H4) (RPt a.1 a.2.1 a.2.2) := ev_var rfl h24
  refine q_set (r := RSh a.2.2) w4.dom (ev_ixT (k := 2) e2 (ev_int (k := 2)) rfl rfl) fun v8 H5 s5 _ h8 => ?_
  show tSeq (tCuts K) _ D (sA (some (.ref S)) (some (.ref R)) (some v2) (some v3) (some v4) (some v5) (some v6) none (some v8) none none none) H5
  have w5 := w4.same s5
  refine s_cuts (lo := lo) g h4 w5 (Rp.mono _ (hd_same s5) h6) h8 fun gs c7 v8 c9 c10 H6 hg s6 h86 => ?_
  have w6 := s6.rw w5
  refine s_mix g hg w6 h86 fun gs v8 H7 hg s7 h87 => ?_
  have k57 : Same (hd (no.add R) H5) (hd (no.add R) H7) := (s6.hd w5).trans (s7.hd w6)
  have k47 := (hd_same (B := no.add R) s5).trans k57
  have k17 : Same (hd (no.add R) H1) (hd (no.add R) H7) := (s2.hd w1).trans ((s3.hd w2).trans ((hd_same s4).trans k47))
  have un : Same (hd (no.add R) H7) H7 := hd_all
  exact s_met (lo := lo) g hg (by omega) (Rp.mono _ (k47.trans un) h24) (Rp.mono _ (k47.trans un) h34) h4 h5 (Rp.mono _ (k47.trans un) h6) (Rp.mono _ un h87) (hT.ext ((k1.trans k17).trans un)) hD
end
end Sw
set_option Elab.async false
set_option linter.all false
set_option maxRecDepth 100000
set_option maxHeartbeats 4000000
/-! The law. -/
namespace Sw
open PySem PySem.Spec PyProof.Rows L2 LamX
def lamE59 : Expr := match (C8.fnBody (topS 59)).getLast? with
  | some (.Return (some (.Compare (.Call _ [l] _ _) _ _ _)) _) => l
  | _ => .Constant .none 0 ⟨0, 0, 0, 0⟩
def lamSc59 : Scope := match lamE59 with
  | .Lambda _ _ s _ => s
  | _ => ⟨.function, [], false, false, []⟩
theorem lamS59 : LamS (C8.fnScope (topS 59)) lamSc59 := lamS_by (by decide +kernel)
abbrev qL59 : Str := "law.<locals>.<lambda>"
theorem hqL59 : (("law" : Str) ++ ".<locals>.") ++ ("<lambda>" : Str) = qL59 := by decide +kernel
theorem sc59 : FnScope ["_law_script", "_law_row", "_law_s", "_law_one", "_law_many", "_law_longest", "_law_rows", "_law_marks", "_law_goals", "_law_turn", "_law_cells_here", "_law_sheet", "_law_met", "_law_level", "_law_due", "_law_count", "_law_later", "_law_sheets", "_law_orders_here", "_law_other", "_law_most", "_law_best", "_law_is_one"] ["_law_script"] (C8.fnScope (topS 59)) := C8.fnScope_by (by decide +kernel)
section
variable {P : Program} {w : World} {K : PySem.W.Frag} {mg : Str → Option Value} {base : Heap} {C CT : Addr}
def spLaw (K : PySem.W.Frag) (T : List (Addr × Str)) : Sp := fun vs H Q _ => ∃ (S : Addr) (xs : List Int), vs = [.ref S] ∧ SqL K H S (xs.map V.int) ∧ Tabs T H ∧ ∀ H', Q (.bl true) H'
theorem ok_law {Tt : List (Addr × Str)} {P40 P59 fa c : Addr} {fd : FuncData} (TX : Txt K mg) (pk : Pkt K mg C) (XT : ExT K mg CT) (D40 : DefT K mg base "least_for_all" 40 ["packet", "goals"] P40) (hmT : (P40, qL) ∈ Tt) (hu : ∀ p ∈ Tt, p.1 = P40 → p.2 = qL)
    (FL : C8.Fun K "law" "law" (topS 59) fa fd) (hc : fd.code = .ref c) (TB : TabB base mg c P59) (hmL : (P59, qL59) ∈ Tt) (huL : ∀ p ∈ Tt, p.1 = P59 → p.2 = qL59) : FnOk P w K mg base C8.CX0 8 fa fd ["_law_script"] (spLaw K Tt) := by
  obtain ⟨oc, od, dV, kV, doc, pm, an, cdv, ct, osl, rfl, lk, hcd⟩ := FL.ex
  have hc : cdv = .ref c := hc
  subst hc
  refine fn_of (N := ["_law_script", "_law_row", "_law_s", "_law_one", "_law_many", "_law_longest", "_law_rows", "_law_marks", "_law_goals", "_law_turn", "_law_cells_here", "_law_sheet", "_law_met", "_law_level", "_law_due", "_law_count", "_law_later", "_law_sheets", "_law_orders_here", "_law_other", "_law_most", "_law_best", "_law_is_one"]) lk hcd sc59 (fun vs H Q E ⟨S, xs, e, _⟩ => by rw [e]; rfl) fun A outer s H vs Q E hr h => ?_
  obtain ⟨S, xs, rfl, hS, hT, hQ⟩ := h
  have c46 := c46 (P := P) (w := w) (base := base) TX
  have c48 := c48 (P := P) (w := w) (base := base) TX
  have c49 := c49 (P := P) (w := w) (base := base) TX pk
  have c45 := c45 (P := P) (w := w) (base := base) TX
  have c57 := c57 (P := P) (w := w) (base := base) TX
  have c56 := c56 (P := P) (w := w) (base := base) TX
  have c55 := c55 (P := P) (w := w) (base := base) TX
  have c52 := c52 (P := P) (w := w) (base := base) TX
  have c53 := c53 (P := P) (w := w) (base := base) TX
  have c47 := c47 (P := P) (w := w) (base := base) TX
  have c54 := c54 (P := P) (w := w) (base := base) TX
  have c43 := c43 (P := P) (w := w) (base := base) TX pk
  have c40 := c40 (P := P) (w := w) (base := base) TX pk D40 hmT hu
  obtain ⟨f43, fd43, ps43, F43, m43, kp43, b43⟩ := (c43X (P := P) (w := w) (base := base) TX pk XT).ex
  obtain ⟨f58, fd58, DF58, b58⟩ := TX.d58
  obtain ⟨oc5, od5, dV5, kV5, doc5, pm5, an5, cdv5, ct5, osl5, rfl, lk5, hcd5⟩ := DF58.fn.ex
  have mkp := mkPk (P := P) (w := w) (base := base) TX pk
  have T := TX
  refine ⟨_, PSs.nox (pss_cons (ps_set (i := 1) sc59.nd rfl (by first | exact .inl rfl | exact .inr rfl) (pe_lst (pa_cons (pv 0) (pa_cons pe_int (pa_cons pe_int (pa_cons pe_int pa_nil))))))
      (pss_cons (ps_set (i := 2) sc59.nd rfl (by first | exact .inl rfl | exact .inr rfl) (C8.pe_c c46 hr (by decide) (by rfl) (pa_cons (pv 1) (pa_cons (pe_lst (pa_cons (C8.pe_c c48 hr (by decide) (by rfl) (pa_cons (pv 1) (pa_cons pe_int (pa_cons pe_int pa_nil)))) (pa_cons (C8.pe_c c48 hr (by decide) (by rfl) (pa_cons (pv 1) (pa_cons pe_int (pa_cons pe_int pa_nil)))) pa_nil))) pa_nil))))
      (pss_cons (ps_asg (pe_tup (pa_cons (C8.pe_c c49 hr (by decide) (by rfl) (pa_cons (pv 2) pa_nil)) (pa_cons (show PE _ _ (tCB (rLenK K) _) from (pe_callB call_len (by rfl) (T.no "len") bt_len (pa_cons (show PE _ _ (tOp (rIxT K) _ _) from (pe_ix ix_tup (pv 2) pe_int (fun _ _ => rfl))) pa_nil))) (pa_cons (C8.pe_c c45 hr (by decide) (by rfl) (pa_cons (pv 1) (pa_cons pe_int pa_nil))) pa_nil)))) (pg_tup rfl (pgs_cons (pg_name (i := 3) sc59.nd rfl (by first | exact .inl rfl | exact .inr rfl)) (pgs_cons (pg_name (i := 4) sc59.nd rfl (by first | exact .inl rfl | exact .inr rfl)) (pgs_cons (pg_name (i := 5) sc59.nd rfl (by first | exact .inl rfl | exact .inr rfl)) pgs_nil)))))
      (pss_cons (ps_setLc (own := [("_law_marks", 7)]) (g := (gName 7)) (i := 6) rfl sc59.nd rfl rfl rfl (show PI _ _ _ (iList K _) from (pi_list (C8.pe_c c57 hr (by decide) (by rfl) (pa_cons (pv 2) pa_nil)))) (blkOk_by (N := ["_law_script", "_law_row", "_law_s", "_law_one", "_law_many", "_law_longest", "_law_rows", "_law_marks", "_law_goals", "_law_turn", "_law_cells_here", "_law_sheet", "_law_met", "_law_level", "_law_due", "_law_count", "_law_later", "_law_sheets", "_law_orders_here", "_law_other", "_law_most", "_law_best", "_law_is_one"]) (sc := C8.fnScope (topS 59)) (by decide +kernel)) (fun _ _ _ _ _ => (pg_name (i := 7) sc59.nd rfl (by first | exact .inl rfl | exact .inr rfl))) (fun _ _ _ _ _ => (pts_one (pt_cmpR op_le (C8.pe_c c56 hr (by decide) (by rfl) (pa_cons (pv 2) (pa_cons (pv 7) pa_nil))) (pv 5) (nomark _)))) (fun _ _ _ _ _ => (pv 7)))
      (pss_cons (ps_set (i := 8) sc59.nd rfl (by first | exact .inl rfl | exact .inr rfl) (show PE _ _ (tOp (rIxT K) _ _) from (pe_ix ix_tup (pv 2) pe_int (fun _ _ => rfl))))
      (pss_cons (ps_for PassesOwn.never rfl (pi_range1 (by rfl) (T.no "range") (pa_cons (C8.pe_c c45 hr (by decide) (by rfl) (pa_cons (pv 1) (pa_cons pe_int pa_nil))) pa_nil)) (pg_name (i := 9) sc59.nd rfl (by first | exact .inl rfl | exact .inr rfl)) (pss_cons (ps_set (i := 7) sc59.nd rfl (by first | exact .inl rfl | exact .inr rfl) (C8.pe_c c46 hr (by decide) (by rfl) (pa_cons (pv 1) (pa_cons (pv 6) pa_nil))))
      (pss_one (ps_set (i := 8) sc59.nd rfl (by first | exact .inl rfl | exact .inr rfl) (C8.pe_c c55 hr (by decide) (by rfl) (pa_cons (pv 8) (pa_cons (pv 7) (pa_cons (show PE _ _ (tThen _ (kTup K)) from pe_tupleOf (by rfl) (T.no "tuple") (pe_lc (own := [("_law_cells_here", 10)]) (g := (gName 10)) (tt := tYes) rfl sc59.nd (show PI _ _ _ (iList K _) from (pi_list (C8.pe_c c52 hr (by decide) (by rfl) (pa_cons (pv 7) pa_nil)))) (blkOk_by (N := ["_law_script", "_law_row", "_law_s", "_law_one", "_law_many", "_law_longest", "_law_rows", "_law_marks", "_law_goals", "_law_turn", "_law_cells_here", "_law_sheet", "_law_met", "_law_level", "_law_due", "_law_count", "_law_later", "_law_sheets", "_law_orders_here", "_law_other", "_law_most", "_law_best", "_law_is_one"]) (sc := C8.fnScope (topS 59)) (by decide +kernel)) (fun _ _ _ _ _ => (pg_name (i := 10) sc59.nd rfl (by first | exact .inl rfl | exact .inr rfl))) (fun _ _ _ _ _ => pts_nil) (fun _ _ _ _ _ => (C8.pe_c c46 hr (by decide) (by rfl) (pa_cons (pv 1) (pa_cons (C8.pe_c c53 hr (by decide) (by rfl) (pa_cons (pv 4) pa_nil)) pa_nil)))))) pa_nil))))))))
      (pss_cons (ps_if (pt_cmpR op_eq (C8.pe_c c45 hr (by decide) (by rfl) (pa_cons (pv 1) (pa_cons pe_int pa_nil))) pe_int (nomark _)) (pss_one (ps_set (i := 8) sc59.nd rfl (by first | exact .inl rfl | exact .inr rfl) (show PE _ _ (tThen _ (kTup K)) from pe_tupleOf (by rfl) (T.no "tuple") (pe_lc (own := [("_law_sheet", 11)]) (g := (gName 11)) (tt := tYes) rfl sc59.nd (show PI _ _ _ (iTup K _) from (pi_tup (pv 8))) (blkOk_by (N := ["_law_script", "_law_row", "_law_s", "_law_one", "_law_many", "_law_longest", "_law_rows", "_law_marks", "_law_goals", "_law_turn", "_law_cells_here", "_law_sheet", "_law_met", "_law_level", "_law_due", "_law_count", "_law_later", "_law_sheets", "_law_orders_here", "_law_other", "_law_most", "_law_best", "_law_is_one"]) (sc := C8.fnScope (topS 59)) (by decide +kernel)) (fun _ _ _ _ _ => (pg_name (i := 11) sc59.nd rfl (by first | exact .inl rfl | exact .inr rfl))) (fun _ _ _ _ _ => pts_nil) (fun _ _ _ _ _ => (show PE _ _ (tM1 (rJoinK K) _ _) from pe_join pe_str (C8.pe_c c47 hr (by decide) (by rfl) (pa_cons (pv 1) (pa_cons (pv 11) pa_nil))))))))) pss_nil)
      (pss_cons (ps_par3 rfl sc59.nd (i := 12) (j := 13) (l := 14) rfl rfl rfl (by decide) (by decide) (by decide) rfl rfl rfl (pa_cons (pe_lst (pa_cons (pv 8) pa_nil)) (pa_cons (pe_lst (pa_cons (pv 8) pa_nil)) (pa_cons (pe_lst (pa_cons (pe_ifExp (show PT _ _ (tTest (tOp (rEqD K) _ _)) from (pt_cmpR (op_eqD (hu64 hr)) (pv 8) (show PE _ _ (tOp (rIxT K) _ _) from (pe_ix ix_tup (pv 2) pe_int (fun _ _ => rfl))) (nomark _))) pe_int pe_non) pa_nil)) pa_nil))) rfl)
      (pss_cons (ps_for PassesOwn.never rfl (pi_range2 (by rfl) (T.no "range") (pa_cons pe_int (pa_cons pe_int pa_nil))) (pg_name (i := 15) sc59.nd rfl (by first | exact .inl rfl | exact .inr rfl)) (pss_cons (ps_set (i := 16) sc59.nd rfl (by first | exact .inl rfl | exact .inr rfl) (pe_lst pa_nil))
      (pss_cons (ps_for PassesOwn.never rfl (show PI _ _ _ (iList K _) from (pi_list (pv 13))) (pg_name (i := 17) sc59.nd rfl (by first | exact .inl rfl | exact .inr rfl)) (pss_one (ps_for PassesOwn.never rfl (show PI _ _ _ (iList K _) from (pi_list (pv 6))) (pg_name (i := 7) sc59.nd rfl (by first | exact .inl rfl | exact .inr rfl)) (pss_one (ps_if (pt_cmpR op_lt (show PE _ _ (tCB (rLenK K) _) from (pe_callB call_len (by rfl) (T.no "len") bt_len (pa_cons (pv 12) pa_nil))) pe_int (nomark _)) (pss_one (ps_for PassesOwn.never rfl (show PI _ _ _ (iList K _) from (pi_list (C8.pe_c c54 hr (by decide) (by rfl) (pa_cons (pv 7) (pa_cons (pv 4) pa_nil))))) (pg_name (i := 18) sc59.nd rfl (by first | exact .inl rfl | exact .inr rfl)) (pss_cons (ps_set (i := 19) sc59.nd rfl (by first | exact .inl rfl | exact .inr rfl) (C8.pe_c c55 hr (by decide) (by rfl) (pa_cons (pv 17) (pa_cons (pv 7) (pa_cons (pv 18) pa_nil)))))
      (pss_one (ps_if (show PT _ _ (tTest (tOp (rNotInD K) _ _)) from (pt_cmpR (op_notInD (hu65 hr)) (pv 19) (pv 12) rfl)) (pss_cons (ps_expr (pe_bm PySem.F.plainAttrs_list PySem.F.slot_list_append PySem.F.type_list_append mt_append (pv 12) (pa_cons (pv 19) pa_nil)))
      (pss_one (ps_expr (pe_bm PySem.F.plainAttrs_list PySem.F.slot_list_append PySem.F.type_list_append mt_append (pv 16) (pa_cons (pv 19) pa_nil))))) pss_nil))))) pss_nil)))))
      (pss_cons (ps_set (i := 13) sc59.nd rfl (by first | exact .inl rfl | exact .inr rfl) (pv 16))
      (pss_one (ps_expr (pe_bm PySem.F.plainAttrs_list PySem.F.slot_list_append PySem.F.type_list_append mt_append (pv 14) (pa_cons (pe_ifExp (pt_cmpR op_notN (show PE _ _ (tOp (rIxL K) _ _) from (pe_ix ix_list (pv 14) (pe_un un_neg pe_int) (fun _ _ => rfl))) pe_non (nomark _)) (show PE _ _ (tOp (rIxL K) _ _) from (pe_ix ix_list (pv 14) (pe_un un_neg pe_int) (fun _ _ => rfl))) (pe_ifExp (show PT _ _ (tTest (tOp (rInD K) _ _)) from (pt_cmpR (op_inD (hu65 hr)) (show PE _ _ (tOp (rIxT K) _ _) from (pe_ix ix_tup (pv 2) pe_int (fun _ _ => rfl))) (pv 12) rfl)) (pv 15) pe_non)) pa_nil))))))))
      (pss_cons (ps_for PassesOwn.never rfl (pi_range1 (by rfl) (T.no "range") (pa_cons pe_int pa_nil)) (pg_name (i := 20) sc59.nd rfl (by first | exact .inl rfl | exact .inr rfl)) (pss_one (ps_if (pw_and (pt_cmpR op_ne (C8.pe_c c43 hr (by decide) (by rfl) (pa_cons (pv 3) (pa_cons (pv 8) (pa_cons (pv 5) (pa_cons (pv 20) pa_nil))))) (show PE _ _ (tOp (rIxL K) _ _) from (pe_ix ix_list (pv 14) (pv 20) (fun _ _ => rfl))) (nomark _)) (pw_and1 (pt_cmpR op_lt (show PE _ _ (tCB (rLenK K) _) from (pe_callB call_len (by rfl) (T.no "len") bt_len (pa_cons (pv 12) pa_nil))) pe_int (nomark _)))).pt (pss_one (ps_ret pe_bl)) pss_nil)))
      (pss_cons (ps_set (i := 21) sc59.nd rfl (by first | exact .inl rfl | exact .inr rfl) (C8.pe_c c40 hr (by decide) (by rfl) (pa_cons (pv 3) (pa_cons (pv 8) pa_nil))))
      (pss_cons (ps_set (i := 22) sc59.nd rfl (by first | exact .inl rfl | exact .inr rfl) (pe_and (pe_cmpR op_notN (pv 21) pe_non (nomark _)) (pe_one (pe_cmpR op_le (show PE _ _ (tOp (rIxT K) _ _) from (pe_ix ix_tup (pv 21) pe_int (fun _ _ => rfl))) (pv 5) (nomark _)))))
      (pss_cons (ps_if (pt_cmpR op_ne (pe_cmpR op_notN (C8.pe_c c43 hr (by decide) (by rfl) (pa_cons (pv 3) (pa_cons (pv 8) (pa_cons (pv 5) (pa_cons pe_int pa_nil))))) pe_non (nomark _)) (pe_or (show PE _ _ (tOp (rEqD K) _ _) from (pe_cmpR (op_eqD (hu64 hr)) (pv 8) (show PE _ _ (tOp (rIxT K) _ _) from (pe_ix ix_tup (pv 2) pe_int (fun _ _ => rfl))) (nomark _))) (pe_one (pv 22))) (nomark _)) (pss_one (ps_ret pe_bl)) pss_nil)
      (pss_one (ps_ret (show PE _ _ (tOp (rEqD K) _ _) from (pe_cmpR (op_eqD (hu64 hr)) (show PE _ _ (tLam Tt (TTr CT) (tMany C CT)) from LamX.pe_lamcall (a := "_law_work") (k := 5) (by rfl) DF58.mgf DF58.kp lk5 hcd5 b58 sc58 rfl (.inl rfl) (raised_gives TX XT) TB rfl (by show (P59, (("law" : Str) ++ ".<locals>.") ++ ("<lambda>" : Str)) ∈ Tt; rw [hqL59]; exact hmL) (by show ∀ p ∈ Tt, p.1 = P59 → p.2 = (("law" : Str) ++ ".<locals>.") ++ ("<lambda>" : Str); rw [hqL59]; exact huL) hr lamS59 rfl (fun _ _ _ _ _ => rfl) (fun A2 outer2 s2 H2 E2 f2 c2 hr2 => pe_call F43 hr2 (by rfl) m43 kp43 b43 .nil (passes_call (takes_of rfl rfl rfl rfl) fun _ _ _ _ h => h) (pa_cons (C8.pe_mk mkp hr2 (by decide) (by rfl) (pa_cons pe_int (pa_cons pe_int (pa_cons (pe_tup (pa_cons (pe_op op_mulA pe_str pe_int) pa_nil)) pa_nil)))) (pa_cons (pe_tup (pa_cons (pe_op op_mulA pe_str pe_int) pa_nil)) (pa_cons pe_int (pa_cons pe_int pa_nil)))))) (pe_tup (pa_cons pe_str pa_nil)) (nomark _)))))))))))))))))), ?_⟩
  exact law_val (c0 := none) (C := C) (CT := CT) (D := { nx := fun _ H' => Q .non H', rt := Q }) hS hT hQ
end
end Sw
set_option Elab.async false
set_option linter.all false
set_option maxRecDepth 100000
set_option maxHeartbeats 1000000
/-! What the head tells. -/
namespace Sw
open PySem PySem.Spec PyProof.Rows L2 LamX
abbrev dOf (x : Str) (i : Nat) : He.DefD := ⟨(x, none), x, x, C8.fnArgs (topS i), C8.fnBody (topS i), C8.fnScope (topS i), [], []⟩
abbrev dPk (m q : Str) (i : Nat) : He.DefD := ⟨("Packet", some m), m, q, C8.fnArgs (pkS i), C8.fnBody (pkS i), C8.fnScope (pkS i), [], []⟩
abbrev dPr (x q : Str) (i : Nat) : He5.DefA := ⟨fun K => He5.wf K (He.ga K "Packet") "property" x, x, q, C8.fnArgs (pkS i), C8.fnBody (pkS i), C8.fnScope (pkS i), [], []⟩
def hFn : List He.DefD := [dOf "is_number" 18, dOf "is_picture" 19, dOf "are_pictures" 20, dOf "is_size" 21, dOf "sides" 23, dOf "parted" 24, dOf "all_marks" 25, dOf "all_patterns" 26, dOf "pieces_of" 27, dOf "length_of" 28, dOf "relaid" 30, dOf "layers" 31, dOf "check_goals" 37, dOf "does_give" 38, dOf "least_of" 39, dOf "least_for_all" 40, dOf "all_orders" 41, dOf "all_laid" 42, dOf "fewest_cuts" 43, dOf "_law_taken" 45, dOf "_law_pick" 46, dOf "_law_mixed" 47, dOf "_law_scheme" 48, dOf "_law_packet" 49, dOf "_law_near" 50, dOf "_law_parted" 51, dOf "_law_cells" 52, dOf "_law_orders" 53, dOf "_law_all" 54, dOf "_law_relaid" 55, dOf "_law_long" 56, dOf "_law_patterns" 57, dOf "_law_raised" 58, dOf "law" 59, dPk "__init__" "Packet.__init__" 1, dPk "__len__" "Packet.__len__" 6]
def hPr : List He5.DefA := [dPr "width" "Packet.width" 2, dPr "height" "Packet.height" 3, dPr "sheets" "Packet.sheets" 4, dPr "cells" "Packet.cells" 5]
def hFa : List He.Fa := blt.map He.Fa.free ++ hFn.map (fun d => He.Fa.glo d.at_.1) ++ excs.map He.Fa.glo ++ [.glo "SheetError", .str "LETTERS" "abcdefghijklmnopqrstuvwxyz", .mkr "Packet", .exc "TooMany", .exm "TooMany" "SheetError" true, .int "MAX_SIDE" 4, .int "MAX_CELLS" 9, .int "MAX_SHEETS" 4, .int "MAX_LENGTH" 12, .int "MAX_CUTS" 3, .int "FEW_CELLS" 4, .int "FEW_SHEETS" 3]
abbrev hPk (K : PySem.W.Frag) : Addr := He.ga K "Packet"
abbrev hTM (K : PySem.W.Frag) : Addr := He.ga K "TooMany"
def prB (K : PySem.W.Frag) (x : Str) : Bool := He.eqO (PySem.W.findIn K (.ref (hPk K)) x) (some (some (.ref (He.ma K (hPk K) x)))) && (He.eqO (PySem.W.specialIn K (.ref (He.ma K (hPk K) x)) "__get__") (some (some (.builtin "property.__get__"))) && (decide (PySem.W.takesIn K (.ref (He.ma K (hPk K) x)) = some true) &&
  (match PySem.W.recIn K (He.ma K (hPk K) x) "property" with
    | some (.ref _ :: _) => true
    | _ => false)))
def slB (K : PySem.W.Frag) : Bool := He.eqO (PySem.W.findIn K (.ref (hPk K)) "parts") (some (some (.ref (He.ma K (hPk K) "parts")))) && (He.eqO (PySem.W.specialIn K (.ref (He.ma K (hPk K) "parts")) "__get__") (some (some (.builtin "member_descriptor.__get__"))) &&
  (decide (PySem.W.takesIn K (.ref (He.ma K (hPk K) "parts")) = some true) && (decide (PySem.W.typeIn K (.ref (He.ma K (hPk K) "parts")) = some (.type "member_descriptor")) && decide (PySem.W.slotIn K (He.ma K (hPk K) "parts") (hPk K) = some 0))))
def clB (K : PySem.W.Frag) : Bool := PySem.W.plainGet K (hPk K) Str.empty && (PySem.W.isClsIn K (hPk K) && (PySem.W.plainOver K (hPk K) && He.eqO (PySem.W.findIn K (.ref (hPk K)) "__setattr__") (some (some (.builtin "object.__setattr__")))))
def lnB (K : PySem.W.Frag) : Bool := He.eqO (PySem.W.findIn K (.ref (hPk K)) "__len__") (some (some (.ref (He.ma K (hPk K) "__len__")))) && PySem.W.isFn K (.ref (He.ma K (hPk K) "__len__"))
def tmB (K : PySem.W.Frag) : Bool := He.eqO (PySem.W.findIn K (.ref (hTM K)) "__getattribute__") (some (some (.builtin "BaseException.__getattribute__"))) && (He.eqO (PySem.W.findIn K (.ref (hTM K)) "__getattr__") (some none) && (PySem.W.hasDictIn K (hTM K) && (He.eqO (PySem.W.findIn K (.ref (hTM K)) "__class__") (some (some (.builtin "object.__class__"))) &&
  (He.eqO (PySem.W.specialIn K (.builtin "object.__class__") "__get__") (some (some (.builtin "getset_descriptor.__get__"))) && (decide (PySem.W.takesIn K (.builtin "object.__class__") = some true) && (decide (PySem.W.mroIn K (hTM K) (.type "object") = some true) && (decide (PySem.W.kitOne K (.ref (hTM K)) (.type "ValueError") = some true) &&
  excs.all fun x => decide (PySem.W.kitOne K (.ref (hTM K)) (.ref (He.ga K x)) = some (decide (x = "TooMany"))))))))))
def hTf : List He.Defn := [("least_for_all", none), ("law", none)]
def hEx (K : PySem.W.Frag) : Bool := clB K && (slB K && (lnB K && (prB K "width" && (prB K "height" && (prB K "sheets" && (prB K "cells" && (tmB K && decide ((He.cT K ("least_for_all", none)).2 ≠ (He.cT K ("law", none)).2))))))))
abbrev AlY : Type := He.AlX × He.AlD
def obsY (n : Nat) (g : Addr → Option Obj) : AlY := (He.obsX n hFa hFn [] hTf hEx g, He5.obsA [] hPr (He.frT g (He.asD g n)))
def valY (w : World) : AlY := (He.valX hFn [] w, He5.valA hPr)
structure SaysY (w : World) (h : Heap) (K : PySem.W.Frag) : Prop where
  x : He.SaysX hFa hFn [] hTf hEx w h K
  a : He5.SaysA [] hPr K
def hookY (n : Nat) : PySem.W.Hook where
  α := AlY
  obs := fun s => obsY n s.heap.get?
  val := fun w => valY w
  says := fun w h => ∃ K : PySem.W.Frag, K.In h ∧ SaysY w h K
  of := fun _ _ e => ⟨_, He.frT_in, He.saysX_of (congrArg (fun z : AlY => z.1) e), congrArg (fun z : AlY => z.2) e⟩
  keeps := fun _ _ _ ⟨K, hK, c⟩ k => ⟨K, PySem.W.Frag.In.keeps hK k, ⟨c.x.t, c.x.more, c.x.hd, c.x.out, fun p hp => k _ _ (c.x.empty p hp)⟩, c.a⟩
theorem obsY_eq {n : Nat} {g : Addr → Option Obj} {s : Shared} (h : ∀ a, g a = s.heap.get? a) : obsY n g = (hookY n).obs s := by
  have e : g = s.heap.get? := funext h
  rw [e] <;> rfl
/-! ### from it -/
theorem funC {K : PySem.W.Frag} {x q : Str} {st : Stmt} {f : Addr} {fd : FuncData} {kws : List (Str × V)} (F : FunD K x q (C8.fnArgs st) (C8.fnBody st) (C8.fnScope st) [] kws f fd) : C8.Fun K x q st f fd ∧ fd.defaults = .none ∧ PySem.W.keepIn K (.ref f) = true := by
  obtain ⟨oc, od, dV, kV, doc, pm, an, cdv, ct, osl, e, l, c, hd, _⟩ := F.ex
  refine ⟨⟨oc, od, dV, kV, doc, pm, an, cdv, ct, osl, e, l, c⟩, ?_, F.kp⟩
  rcases hd with ⟨_, e2⟩ | ⟨e2, _⟩
  · rw [e]
    exact e2
  · exact absurd rfl e2
section
variable {K : PySem.W.Frag} {mg : Str → Option Value} {h : Heap} {w : World}
theorem SaysY.fa (c : SaysY w h K) {f : He.Fa} (hf : f ∈ hFa) : f.ok K = true := He.SaysD.facts c.x.t.d hf
theorem SaysY.glo (c : SaysY w h K) (X : K.In h) (G : h.Ns mainGlobals mg) {x : Str} (hf : He.Fa.glo x ∈ hFa) : mg x = some (.ref (He.ga K x)) := He.glo_ok X G (c.fa hf)
theorem mem_free {x : Str} (hx : x ∈ blt) : He.Fa.free x ∈ hFa := List.mem_append_left _ (List.mem_append_left _ (List.mem_append_left _ (List.mem_map.mpr ⟨x, hx, rfl⟩)))
theorem mem_def {d : He.DefD} (hd : d ∈ hFn) : He.Fa.glo d.at_.1 ∈ hFa := List.mem_append_left _ (List.mem_append_left _ (List.mem_append_right _ (List.mem_map.mpr ⟨d, hd, rfl⟩)))
theorem mem_exc {x : Str} (hx : x ∈ excs) : He.Fa.glo x ∈ hFa := List.mem_append_left _ (List.mem_append_right _ (List.mem_map.mpr ⟨x, hx, rfl⟩))
theorem mem_last {f : He.Fa} (hf : f ∈ [He.Fa.glo "SheetError", .str "LETTERS" "abcdefghijklmnopqrstuvwxyz", .mkr "Packet", .exc "TooMany", .exm "TooMany" "SheetError" true, .int "MAX_SIDE" 4, .int "MAX_CELLS" 9, .int "MAX_SHEETS" 4, .int "MAX_LENGTH" 12, .int "MAX_CUTS" 3, .int "FEW_CELLS" 4, .int "FEW_SHEETS" 3]) : f ∈ hFa := List.mem_append_right _ hf
theorem SaysY.def_ (c : SaysY w h K) (X : K.In h) (G : h.Ns mainGlobals mg) {x : Str} {i : Nat} {ps : List Str} (hd : dOf x i ∈ hFn) (hb : ∀ (kV doc pm : Value) (an : Option Addr) (cdv ct : Value) (us : List Value), us.length = ps.length → bindArgs (PySem.W.fnOf x x (C8.fnArgs (topS i)) (C8.fnBody (topS i)) (C8.fnScope (topS i)) .none kV doc pm an cdv ct) ⟨us, []⟩ = pure (ps.zip us)) :
    ∃ fd, C8.Def K mg x (topS i) (He.ga K x) fd ∧ Binds K fd ps [] := by
  obtain ⟨fd, F⟩ := He.SaysD.defs c.x.t.d hd
  obtain ⟨F1, F2, F3⟩ := funC F
  exact ⟨fd, ⟨F1, c.glo X G (mem_def hd), F3⟩, F1.binds F2 hb⟩
theorem nth {α : Type} {l : List α} {a : α} (i : Nat) (h : l[i]? = some a) : a ∈ l := List.mem_of_getElem? h
theorem SaysY.txt (c : SaysY w h K) (X : K.In h) (G : h.Ns mainGlobals mg) : Txt K mg where
    b := fun x hx => He.free_ok X G (c.fa (mem_free hx))
    letters := He.str_ok X G (c.fa (mem_last (nth 1 rfl)))
    side := He.int_ok X G (c.fa (mem_last (nth 5 rfl)))
    mcells := He.int_ok X G (c.fa (mem_last (nth 6 rfl)))
    msheets := He.int_ok X G (c.fa (mem_last (nth 7 rfl)))
    mlen := He.int_ok X G (c.fa (mem_last (nth 8 rfl)))
    mcuts := He.int_ok X G (c.fa (mem_last (nth 9 rfl)))
    fcells := He.int_ok X G (c.fa (mem_last (nth 10 rfl)))
    fsheets := He.int_ok X G (c.fa (mem_last (nth 11 rfl)))
    d18 := ⟨_, c.def_ X G (nth 0 rfl) fun _ _ _ _ _ _ us hl => match us, hl with | [_, _, _], _ => rfl⟩
    d19 := ⟨_, c.def_ X G (nth 1 rfl) fun _ _ _ _ _ _ us hl => match us, hl with | [_, _], _ => rfl⟩
    d20 := ⟨_, c.def_ X G (nth 2 rfl) fun _ _ _ _ _ _ us hl => match us, hl with | [_, _], _ => rfl⟩
    d21 := ⟨_, c.def_ X G (nth 3 rfl) fun _ _ _ _ _ _ us hl => match us, hl with | [_, _], _ => rfl⟩
    d23 := ⟨_, c.def_ X G (nth 4 rfl) fun _ _ _ _ _ _ us hl => match us, hl with | [_, _], _ => rfl⟩
    d24 := ⟨_, c.def_ X G (nth 5 rfl) fun _ _ _ _ _ _ us hl => match us, hl with | [_, _, _], _ => rfl⟩
    d25 := ⟨_, c.def_ X G (nth 6 rfl) fun _ _ _ _ _ _ us hl => match us, hl with | [_], _ => rfl⟩
    d26 := ⟨_, c.def_ X G (nth 7 rfl) fun _ _ _ _ _ _ us hl => match us, hl with | [_, _], _ => rfl⟩
    d27 := ⟨_, c.def_ X G (nth 8 rfl) fun _ _ _ _ _ _ us hl => match us, hl with | [_], _ => rfl⟩
    d28 := ⟨_, c.def_ X G (nth 9 rfl) fun _ _ _ _ _ _ us hl => match us, hl with | [_, _], _ => rfl⟩
    d30 := ⟨_, c.def_ X G (nth 10 rfl) fun _ _ _ _ _ _ us hl => match us, hl with | [_, _, _], _ => rfl⟩
    d31 := ⟨_, c.def_ X G (nth 11 rfl) fun _ _ _ _ _ _ us hl => match us, hl with | [_, _], _ => rfl⟩
    d37 := ⟨_, c.def_ X G (nth 12 rfl) fun _ _ _ _ _ _ us hl => match us, hl with | [_, _], _ => rfl⟩
    d38 := ⟨_, c.def_ X G (nth 13 rfl) fun _ _ _ _ _ _ us hl => match us, hl with | [_, _, _], _ => rfl⟩
    d39 := ⟨_, c.def_ X G (nth 14 rfl) fun _ _ _ _ _ _ us hl => match us, hl with | [_, _], _ => rfl⟩
    d40 := ⟨_, c.def_ X G (nth 15 rfl) fun _ _ _ _ _ _ us hl => match us, hl with | [_, _], _ => rfl⟩
    d41 := ⟨_, c.def_ X G (nth 16 rfl) fun _ _ _ _ _ _ us hl => match us, hl with | [_], _ => rfl⟩
    d42 := ⟨_, c.def_ X G (nth 17 rfl) fun _ _ _ _ _ _ us hl => match us, hl with | [_, _], _ => rfl⟩
    d43 := ⟨_, c.def_ X G (nth 18 rfl) fun _ _ _ _ _ _ us hl => match us, hl with | [_, _, _, _], _ => rfl⟩
    d45 := ⟨_, c.def_ X G (nth 19 rfl) fun _ _ _ _ _ _ us hl => match us, hl with | [_, _], _ => rfl⟩
    d46 := ⟨_, c.def_ X G (nth 20 rfl) fun _ _ _ _ _ _ us hl => match us, hl with | [_, _], _ => rfl⟩
    d47 := ⟨_, c.def_ X G (nth 21 rfl) fun _ _ _ _ _ _ us hl => match us, hl with | [_, _], _ => rfl⟩
    d48 := ⟨_, c.def_ X G (nth 22 rfl) fun _ _ _ _ _ _ us hl => match us, hl with | [_, _, _], _ => rfl⟩
    d49 := ⟨_, c.def_ X G (nth 23 rfl) fun _ _ _ _ _ _ us hl => match us, hl with | [_], _ => rfl⟩
    d50 := ⟨_, c.def_ X G (nth 24 rfl) fun _ _ _ _ _ _ us hl => match us, hl with | [_, _, _], _ => rfl⟩
    d51 := ⟨_, c.def_ X G (nth 25 rfl) fun _ _ _ _ _ _ us hl => match us, hl with | [_, _], _ => rfl⟩
    d52 := ⟨_, c.def_ X G (nth 26 rfl) fun _ _ _ _ _ _ us hl => match us, hl with | [_], _ => rfl⟩
    d53 := ⟨_, c.def_ X G (nth 27 rfl) fun _ _ _ _ _ _ us hl => match us, hl with | [_], _ => rfl⟩
    d54 := ⟨_, c.def_ X G (nth 28 rfl) fun _ _ _ _ _ _ us hl => match us, hl with | [_, _], _ => rfl⟩
    d55 := ⟨_, c.def_ X G (nth 29 rfl) fun _ _ _ _ _ _ us hl => match us, hl with | [_, _, _], _ => rfl⟩
    d56 := ⟨_, c.def_ X G (nth 30 rfl) fun _ _ _ _ _ _ us hl => match us, hl with | [_, _], _ => rfl⟩
    d57 := ⟨_, c.def_ X G (nth 31 rfl) fun _ _ _ _ _ _ us hl => match us, hl with | [_], _ => rfl⟩
    d58 := ⟨_, c.def_ X G (nth 32 rfl) fun _ _ _ _ _ _ us hl => match us, hl with | [_], _ => rfl⟩
end
end Sw
set_option Elab.async false
set_option linter.all false
set_option maxRecDepth 100000
set_option maxHeartbeats 0
namespace Sw
open PySem PySem.Spec PyProof.Rows L2
def names1 : List PySem.Str := ["SheetError", "InvalidPacket", "InvalidSize", "InvalidPattern", "InvalidOrders", "InvalidPicture", "InvalidGoals", "InvalidNumber", "TooMany", "InvalidPieces", "InvalidPictures", "InvalidKinds", "LETTERS", "MAX_SIDE", "MAX_CELLS", "MAX_SHEETS", "is_number", "is_picture", "are_pictures", "is_size", "Packet", "sides", "parted", "all_marks", "all_patterns"]
def names2 : List PySem.Str := ["pieces_of", "length_of", "relaid", "layers", "MAX_LENGTH", "MAX_CUTS", "FEW_CELLS", "FEW_SHEETS", "check_goals", "does_give", "least_of", "least_for_all", "all_orders", "all_laid", "fewest_cuts", "_law_taken", "_law_pick", "_law_mixed", "_law_scheme", "_law_packet", "_law_near", "_law_parted", "_law_cells", "_law_orders", "_law_all", "_law_relaid", "_law_long", "_law_patterns", "_law_raised"]
def loose : List PySem.Str := names1 ++ names2
abbrev hR : PySem.W.OpenRow := PySem.W.OpenLaw.row PySem.Challenge.rw_sawnsheets_k07_whole_fewest_cuts_from_th
abbrev hk : PySem.W.Hook := hookY 6
def hob (s : PySem.W.SharedT) : AlY := obsY 6 (HandSHeadRun.getT s)
theorem hob_eq (s : PySem.W.SharedT) : hob s = hk.obs s.abs := obsY_eq (HandSHeadRun.getT_eq s)
theorem hrun (w : World) : HandSHeadRun.RunEq hR (PySem.W.view hR.prog [59]) hk hob 8000 loose w := by
  intro os
  kernel_rfl
end Sw
set_option Elab.async false
set_option linter.all false
set_option maxRecDepth 100000
set_option maxHeartbeats 1000000
/-! From the head: the class, the exceptions, the law. -/
namespace Sw
open PySem PySem.Spec PyProof.Rows L2 LamX
section
variable {K : PySem.W.Frag} {mg : Str → Option Value} {h : Heap} {w : World}
theorem prop_of {x q : Str} {i : Nat} (hx : prB K x = true) {fd : FuncData} (F : FunD K x q (C8.fnArgs (pkS i)) (C8.fnBody (pkS i)) (C8.fnScope (pkS i)) [] [] (He5.wf K (hPk K) "property" x) fd)
    (hb : ∀ (kV doc pm : Value) (an : Option Addr) (cdv ct : Value) (us : List Value), us.length = 1 → bindArgs (PySem.W.fnOf x q (C8.fnArgs (pkS i)) (C8.fnBody (pkS i)) (C8.fnScope (pkS i)) .none kV doc pm an cdv ct) ⟨us, []⟩ = pure ((["self"] : List Str).zip us)) : PrpB K (hPk K) x q i := by
  obtain ⟨h1, h2⟩ := He.ba hx
  obtain ⟨h3, h4⟩ := He.ba h2
  obtain ⟨h5, h6⟩ := He.ba h4
  obtain ⟨F1, F2, _⟩ := funC F
  refine ⟨He.ma K (hPk K) x, He5.wf K (hPk K) "property" x, fd, He.eqO_ok h1, He.eqO_ok h3, of_decide_eq_true h5, ?_, F1, F1.binds F2 hb⟩
  unfold He5.wf
  split at h6
  · rename_i f r e
    exact ⟨r, by rw [e]⟩
  · cases h6
theorem SaysY.ex (c : SaysY w h K) : clB K = true ∧ slB K = true ∧ lnB K = true ∧ (prB K "width" = true ∧ prB K "height" = true ∧ prB K "sheets" = true ∧ prB K "cells" = true) ∧ tmB K = true ∧ (He.cT K ("least_for_all", none)).2 ≠ (He.cT K ("law", none)).2 := by
  obtain ⟨h1, e⟩ := He.ba (show hEx K = true from c.x.more)
  obtain ⟨h2, e⟩ := He.ba e
  obtain ⟨h3, e⟩ := He.ba e
  obtain ⟨h4, e⟩ := He.ba e
  obtain ⟨h5, e⟩ := He.ba e
  obtain ⟨h6, e⟩ := He.ba e
  obtain ⟨h7, e⟩ := He.ba e
  obtain ⟨h8, e⟩ := He.ba e
  exact ⟨h1, h2, h3, ⟨h4, h5, h6, h7⟩, h8, of_decide_eq_true e⟩
theorem SaysY.pk (c : SaysY w h K) (X : K.In h) (G : h.Ns mainGlobals mg) : Pkt K mg (hPk K) := by
  obtain ⟨e1, e2, e3, ⟨e4, e5, e6, e7⟩, _, _⟩ := c.ex
  obtain ⟨fdI, FI⟩ := He.SaysD.defs c.x.t.d (d := dPk "__init__" "Packet.__init__" 1) (nth 34 rfl)
  obtain ⟨fdL, FL⟩ := He.SaysD.defs c.x.t.d (d := dPk "__len__" "Packet.__len__" 6) (nth 35 rfl)
  obtain ⟨I1, I2, _⟩ := funC (x := "__init__") (q := "Packet.__init__") (st := pkS 1) (kws := []) FI
  obtain ⟨L1, L2, _⟩ := funC (x := "__len__") (q := "Packet.__len__") (st := pkS 6) (kws := []) FL
  obtain ⟨fw, Fw⟩ := c.a.def_ 0 rfl
  obtain ⟨fh, Fh⟩ := c.a.def_ 1 rfl
  obtain ⟨fs, Fs⟩ := c.a.def_ 2 rfl
  obtain ⟨fc, Fc⟩ := c.a.def_ 3 rfl
  obtain ⟨p1, p⟩ := He.ba e1
  obtain ⟨p2, p⟩ := He.ba p
  obtain ⟨p3, p4⟩ := He.ba p
  obtain ⟨s1, s⟩ := He.ba e2
  obtain ⟨s2, s⟩ := He.ba s
  obtain ⟨s3, s⟩ := He.ba s
  obtain ⟨s4, s5⟩ := He.ba s
  obtain ⟨l1, l2⟩ := He.ba e3
  have M := He.mkr_ok (c.fa (mem_last (nth 2 rfl)))
  exact { gC := c.glo X G (mem_def (d := dPk "__init__" "Packet.__init__" 1) (nth 34 rfl))
          cls := ⟨p1, p2, p3, He.eqO_ok p4⟩
          slot := ⟨He.ma K (hPk K) "parts", He.eqO_ok s1, He.eqO_ok s2, of_decide_eq_true s3, of_decide_eq_true s4, of_decide_eq_true s5, by decide⟩
          init := ⟨_, fdI, M, I1, I1.binds I2 fun _ _ _ _ _ _ us hl => match us, hl with | [_, _, _, _], _ => rfl⟩
          width := prop_of e4 Fw fun _ _ _ _ _ _ us hl => match us, hl with | [_], _ => rfl
          height := prop_of e5 Fh fun _ _ _ _ _ _ us hl => match us, hl with | [_], _ => rfl
          sheets := prop_of e6 Fs fun _ _ _ _ _ _ us hl => match us, hl with | [_], _ => rfl
          cells := prop_of e7 Fc fun _ _ _ _ _ _ us hl => match us, hl with | [_], _ => rfl
          len := ⟨_, fdL, He.eqO_ok l1, l2, L1, L1.binds L2 fun _ _ _ _ _ _ us hl => match us, hl with | [_], _ => rfl⟩ }
theorem SaysY.xt (c : SaysY w h K) (X : K.In h) (G : h.Ns mainGlobals mg) : ExT K mg (hTM K) := by
  obtain ⟨_, _, _, _, e8, _⟩ := c.ex
  obtain ⟨x1, x2, x3, x4⟩ := He.exc_ok (c.fa (mem_last (nth 3 rfl)))
  obtain ⟨t1, t⟩ := He.ba e8
  obtain ⟨t2, t⟩ := He.ba t
  obtain ⟨t3, t⟩ := He.ba t
  obtain ⟨t4, t⟩ := He.ba t
  obtain ⟨t5, t⟩ := He.ba t
  obtain ⟨t6, t⟩ := He.ba t
  obtain ⟨t7, t⟩ := He.ba t
  obtain ⟨t8, t9⟩ := He.ba t
  exact { gC := c.glo X G (mem_exc (nth 8 rfl)), xC := x1, kC := x2, bC := x3, tC := x4
          cls := ⟨He.eqO_ok t1, He.eqO_ok t2, x3, t3, He.eqO_ok t4, He.eqO_ok t5, of_decide_eq_true t6, of_decide_eq_true t7⟩
          vE := of_decide_eq_true t8
          oth := fun x hx => ⟨He.ga K x, c.glo X G (mem_exc hx), of_decide_eq_true (List.all_eq_true.mp t9 x hx)⟩
          sE := ⟨He.ga K "SheetError", c.glo X G (mem_last (nth 0 rfl)), He.exm_ok (c.fa (mem_last (nth 4 rfl)))⟩ }
/-- a def's code object, as the head finds it -/
theorem code_at {x : Str} {st : Stmt} {fd : FuncData} (F : C8.Fun K x x st (He.ga K x) fd) : fd.code = .ref (He.codeOf K (x, none)) := by
  obtain ⟨oc, od, dV, kV, doc, pm, an, cdv, ct, osl, rfl, lk, hc⟩ := F.ex
  obtain ⟨c, e⟩ := He.codeIn_ref hc
  subst e
  rw [He.codeOf_eq (p := (x, none)) lk rfl]
end
abbrev tabT (K : PySem.W.Frag) : List (Addr × Str) := [((He.cT K ("least_for_all", none)).2, qL), ((He.cT K ("law", none)).2, qL59)]
/-- the law, as the end asks -/
theorem law_at (w : World) (mg : Str → Option Value) (fa : Addr) (h : Heap) (Y : (hookY 6).says w h) (G : h.Ns mainGlobals mg) (hfa : mg ("law" : Str) = some (.ref fa)) :
    ∃ K : PySem.W.Frag, K.In h ∧ LawAtS PySem.Challenge.rw_sawnsheets_k07_whole_fewest_cuts_from_th w K C8.CX0 8 63 "_law_script" mg fa h := by
  obtain ⟨K, X, c⟩ := Y
  refine ⟨K, X, ?_⟩
  have TX := c.txt X G
  have PK := c.pk X G
  have XT := c.xt X G
  obtain ⟨fdL, DL, bL⟩ := c.def_ X G (x := "law") (i := 59) (ps := ["_law_script"]) (nth 33 rfl) fun _ _ _ _ _ _ us hl => match us, hl with | [_], _ => rfl
  obtain ⟨fd4, D4, b4⟩ := c.def_ X G (x := "least_for_all") (i := 40) (ps := ["packet", "goals"]) (nth 15 rfl) fun _ _ _ _ _ _ us hl => match us, hl with | [_, _], _ => rfl
  have efa : fa = He.ga K "law" := by
    have z := DL.mgf
    rw [hfa] at z
    injection z with z
    injection z
  subst efa
  obtain ⟨_, _, _, _, _, hne⟩ := c.ex
  have hm : ∀ p ∈ hTf, p = (("least_for_all" : Str), (none : Option Str)) ∨ p = (("law" : Str), (none : Option Str)) := fun p hp => by
    rcases List.mem_cons.mp hp with z | z
    · exact .inl z
    · exact .inr (List.mem_singleton.mp z)
  have hc4 := code_at D4.fn
  have hcL := code_at DL.fn
  have dL : fdL.defaults = .none := by
    obtain ⟨fd', F'⟩ := He.SaysD.defs c.x.t.d (d := dOf "law" 59) (nth 33 rfl)
    obtain ⟨F1, F2, _⟩ := funC (x := "law") (q := "law") (st := topS 59) (kws := []) F'
    obtain ⟨oc, od, dV, kV, doc, pm, an, cdv, ct, osl, e, lk, hc⟩ := DL.fn.ex
    obtain ⟨oc', od', dV', kV', doc', pm', an', cdv', ct', osl', e', lk', hc'⟩ := F1.ex
    have lk' : K.lookup (He.ga K "law") = some _ := lk'
    rw [lk] at lk'
    injection lk' with z
    injection z with _ _ z _
    injection z with z
    rw [z]
    exact F2
  have mem4 : (("least_for_all" : Str), (none : Option Str)) ∈ hTf := List.mem_cons_self
  have memL : (("law" : Str), (none : Option Str)) ∈ hTf := List.mem_cons_of_mem _ List.mem_cons_self
  refine ⟨fdL, hTf.map (He.cT K), spLaw K (tabT K), fun p hp => ?_, fun p hp => ?_, fun p hp => ?_, fun s u => ?_, fun H a ns _ _ hT hS => ?_, fun base hKb hG hTB => ?_⟩
  · obtain ⟨q, hq, rfl⟩ := List.mem_map.mp hp
    exact c.x.empty q hq
  · obtain ⟨q, hq, rfl⟩ := List.mem_map.mp hp
    exact c.x.out q hq
  · obtain ⟨q, hq, rfl⟩ := List.mem_map.mp hp
    exact PySem.W.codeHd_of_K X (c.x.hd q hq)
  · obtain ⟨oc, od, dV, kV, doc, pm, an, cdv, ct, osl, e, lk, hc⟩ := DL.fn.ex
    rw [e] at dL ⊢
    have dL : dV = .none := dL
    subst dL
    exact .of_eq rfl
  · refine ⟨a, ns, rfl, hS, fun p hp => ?_, fun _ => rfl⟩
    rcases List.mem_cons.mp hp with z | z
    · rw [z]
      exact TabS.nil (hT _ (List.mem_map.mpr ⟨_, mem4, rfl⟩))
    · rw [List.mem_singleton.mp z]
      exact TabS.nil (hT _ (List.mem_map.mpr ⟨_, memL, rfl⟩))
  · have tb4 := hTB _ (List.mem_map.mpr ⟨_, mem4, rfl⟩)
    have tbL := hTB _ (List.mem_map.mpr ⟨_, memL, rfl⟩)
    refine ok_law TX PK XT ⟨_, fd4, _, D4, b4, hc4, tb4⟩ List.mem_cons_self (fun p hp e => ?_) DL.fn hcL tbL (List.mem_cons_of_mem _ List.mem_cons_self) fun p hp e => ?_
    · rcases List.mem_cons.mp hp with z | z
      · rw [z]
      · rw [List.mem_singleton.mp z] at e
        exact absurd e.symm hne
    · rcases List.mem_cons.mp hp with z | z
      · rw [z] at e
        exact absurd e hne
      · rw [List.mem_singleton.mp z]
end Sw
set_option Elab.async false
set_option linter.all false
set_option maxRecDepth 100000
set_option maxHeartbeats 0
open PySem PySem.W PySem.Calls PyProof.Rows
theorem PySem.Challenge.cw_sawnsheets_k07_whole_fewest_cuts_from_th_holds : PySem.Challenge.rw_sawnsheets_k07_whole_fewest_cuts_from_th.Holds := by
  w_on; o_law
  refine HandSHeadRun.head_any (r := OpenLaw.row PySem.Challenge.rw_sawnsheets_k07_whole_fewest_cuts_from_th) (q := view (OpenLaw.row PySem.Challenge.rw_sawnsheets_k07_whole_fewest_cuts_from_th).prog [59]) (H := Sw.hk) (ob := Sw.hob) (M := 8000) (loose := Sw.loose) (d := HandSHeadRun.topDef (OpenLaw.row PySem.Challenge.rw_sawnsheets_k07_whole_fewest_cuts_from_th).prog 59) (kwd := []) Sw.hob_eq
    (by kernel_rfl) (fun s => by kernel_rfl) Sw.hrun (by kernel_rfl) (by kernel_rfl) (by kernel_rfl) (by rfl) (by first | assumption | decide +kernel) (by decide +kernel) ⟨rfl, rfl, rfl, rfl, rfl, by decide +kernel⟩ ?hw ?hc
  case hw => w_witness2
  case hc =>
    refine LamX.walk_ofTsE (l := PySem.Challenge.rw_sawnsheets_k07_whole_fewest_cuts_from_th) (n := 63) (k := 8) (x := "_law_script") (CX := fun _ => C8.CX0) rfl (by decide) (by kernel_rfl) ⟨rfl, by decide, by decide⟩ ?F (fun _ _ _ _ _ z => z)
    intro w mg fa h Y G hmg0
    have hmg : mg ("law" : PySem.Str) = some (.ref fa) := by
      have e : (HandSHeadRun.topDef (OpenLaw.row PySem.Challenge.rw_sawnsheets_k07_whole_fewest_cuts_from_th).prog 59).name = ("law" : PySem.Str) := by kernel_rfl
      rw [← e]
      exact hmg0
    exact Sw.law_at w mg fa h Y G hmg
