import PyProof.Rows.All
import Wide.All
import OpenK.AllK
import Wide.FinOn
import HandS.ForMost
import HandS.Defaults
import HandS.IsInst
import HandS.Deep
import HandS.Property
import HandS.SortInts
import HandS.TupAny
import HandS.Wide
import HandS.SetFor
import HandS.Strs
import HandS.RaiseMore
import HandS.Style
import HandS.More
import HandS.Codes
import HandS.Head0
import HandS.Head1
import HandS.Head2
import HandS.HeadEnd
import HandS.HeadHook1
import HandS.HeadHook2
import HandS.HeadHook3
import PySem.Challenge.RW_cutruns_k23_whole_callings_by_statements
set_option Elab.async false
set_option linter.all false
set_option maxRecDepth 100000
set_option maxHeartbeats 0
/-! Trees: values by content; owned things with a footprint. -/
namespace VS
open PySem L2

/-- a value by its content: frozen (nothing of it is ever written again) -/
inductive T where
  | non
  | bl (b : Bool)
  | int (i : Int)
  | str (s : Str)
  | tup (xs : List T)
  | lst (xs : List T)
  | ins (c : Nat) (fs : List (Nat × T))
  | scr (ns : List Int)

/-- a value some of whose lists, dicts, instances may still be written: each of these stands at one place only -/
inductive O where
  | val (t : T)
  | lst (xs : List O)
  | ins (c : Nat) (fs : List (Nat × O))

instance : Inhabited T := ⟨.non⟩
instance : Inhabited O := ⟨.val .non⟩

mutual
def O.fz : O → T
  | .val t => t
  | .lst xs => .lst (fzs xs)
  | .ins c fs => .ins c (fzf fs)
def fzs : List O → List T
  | [] => []
  | x :: xs => x.fz :: fzs xs
def fzf : List (Nat × O) → List (Nat × T)
  | [] => []
  | (n, x) :: xs => (n, x.fz) :: fzf xs
end
theorem fzs_map : ∀ xs : List O, fzs xs = xs.map O.fz
  | [] => rfl
  | x :: xs => by unfold fzs; rw [fzs_map xs]; rfl
theorem fzs_val : ∀ ts : List T, fzs (ts.map O.val) = ts
  | [] => rfl
  | t :: ts => by
    show O.fz (.val t) :: fzs (ts.map O.val) = t :: ts
    rw [fzs_val ts]
    rfl

/-- what is fixed for a program: where the classes stand, the fields' names -/
structure Gl0 where
  K : PySem.W.Frag
  C : Nat → Addr
  fn : Nat → Str

variable (g : Gl0)

mutual
/-- at the heap G the value v is t -/
def RepT (G : Hp) : T → V → Prop
  | .non, v => v = .non
  | .bl b, v => v = .bl b
  | .int i, v => v = .int i
  | .str s, v => v = .str s
  | .tup ts, v => ∃ a vs, v = .ref a ∧ SqT g.K G a vs ∧ RepTs G ts vs
  | .lst ts, v => ∃ a vs, v = .ref a ∧ G a = some (.lst vs) ∧ RepTs G ts vs
  | .ins c fs, v => ∃ a dx fv, v = .ref a ∧ G a = some (.ins (g.C c) dx fv) ∧ RepF G fs fv
  | .scr ns, v => ∃ a, v = .ref a ∧ SqL g.K G a (ns.map V.int)
def RepTs (G : Hp) : List T → List V → Prop
  | [], vs => vs = []
  | t :: ts, vs => ∃ v r, vs = v :: r ∧ RepT G t v ∧ RepTs G ts r
def RepF (G : Hp) : List (Nat × T) → List (Str × V) → Prop
  | [], vs => vs = []
  | (n, t) :: ts, vs => ∃ v r, vs = (g.fn n, v) :: r ∧ RepT G t v ∧ RepF G ts r
end

/-- H' holds all that H holds -/
abbrev Sub (G H : Hp) : Prop := ∀ a o, G a = some o → H a = some o
theorem Sub.sqT {G H : Hp} {K : PySem.W.Frag} (h : Sub G H) {a : Addr} {vs : List V} (q : SqT K G a vs) : SqT K H a vs := by
  rcases q with (q | ⟨o, q⟩) | q
  · exact .inl (.inl (h _ _ q))
  · exact .inl (.inr ⟨o, h _ _ q⟩)
  · exact .inr q
theorem Sub.sqL {G H : Hp} {K : PySem.W.Frag} (h : Sub G H) {a : Addr} {vs : List V} (q : SqL K G a vs) : SqL K H a vs := by
  rcases q with (q | ⟨o, q⟩) | q
  · exact .inl (.inl (h _ _ q))
  · exact .inl (.inr ⟨o, h _ _ q⟩)
  · exact .inr q
theorem Sub.refl (G : Hp) : Sub G G := fun _ _ h => h
theorem Sub.trans {G H J : Hp} (a : Sub G H) (b : Sub H J) : Sub G J := fun x o h => b x o (a x o h)
theorem Sub.new {G : Hp} {p : Addr} {o : HO} (h : G p = none) : Sub G (upd G p o) := fun a u e => by
  rw [upd_ne (ne_of_none e h)]
  exact e
theorem Sub.noneOf {G H : Hp} (s : Sub G H) {a : Addr} (h : H a = none) : G a = none := by
  cases e : G a with
  | none => rfl
  | some o => rw [s a o e] at h; cases h

mutual
theorem RepT.mono {G H : Hp} (s : Sub G H) : ∀ {t : T} {v : V}, RepT g G t v → RepT g H t v
  | .non, _, h => h
  | .bl _, _, h => h
  | .int _, _, h => h
  | .str _, _, h => h
  | .tup ts, v, h => by
    unfold RepT at h ⊢
    obtain ⟨a, vs, e, q, r⟩ := h
    exact ⟨a, vs, e, s.sqT q, RepTs.mono s r⟩
  | .lst ts, v, h => by
    unfold RepT at h ⊢
    obtain ⟨a, vs, e, q, r⟩ := h
    exact ⟨a, vs, e, s _ _ q, RepTs.mono s r⟩
  | .ins c fs, v, h => by
    unfold RepT at h ⊢
    obtain ⟨a, dx, fv, e, q, r⟩ := h
    exact ⟨a, dx, fv, e, s _ _ q, RepF.mono s r⟩
  | .scr ns, v, h => by
    unfold RepT at h ⊢
    obtain ⟨a, e, q⟩ := h
    exact ⟨a, e, s.sqL q⟩
theorem RepTs.mono {G H : Hp} (s : Sub G H) : ∀ {ts : List T} {vs : List V}, RepTs g G ts vs → RepTs g H ts vs
  | [], _, h => h
  | t :: ts, vs, h => by
    unfold RepTs at h ⊢
    obtain ⟨v, r, e, q, k⟩ := h
    exact ⟨v, r, e, RepT.mono s q, RepTs.mono s k⟩
theorem RepF.mono {G H : Hp} (s : Sub G H) : ∀ {ts : List (Nat × T)} {vs : List (Str × V)}, RepF g G ts vs → RepF g H ts vs
  | [], _, h => h
  | (n, t) :: ts, vs, h => by
    unfold RepF at h ⊢
    obtain ⟨v, r, e, q, k⟩ := h
    exact ⟨v, r, e, RepT.mono s q, RepF.mono s k⟩
end

theorem RepTs.length {G : Hp} : ∀ {ts : List T} {vs : List V}, RepTs g G ts vs → ts.length = vs.length
  | [], _, h => by unfold RepTs at h; rw [h]; rfl
  | t :: ts, vs, h => by
    unfold RepTs at h
    obtain ⟨v, r, rfl, _, k⟩ := h
    rw [List.length_cons, List.length_cons, RepTs.length k]
theorem RepTs.get {G : Hp} : ∀ {ts : List T} {vs : List V} {i : Nat} {t : T}, RepTs g G ts vs → ts[i]? = some t → ∃ v, vs[i]? = some v ∧ RepT g G t v
  | [], _, _, _, _, e => by simp at e
  | t :: ts, vs, i, u, h, e => by
    unfold RepTs at h
    obtain ⟨v, r, rfl, q, k⟩ := h
    cases i with
    | zero => simp at e; subst e; exact ⟨v, rfl, q⟩
    | succ i => exact RepTs.get (i := i) k (by simpa using e)
theorem RepTs.append {G : Hp} : ∀ {ts us : List T} {vs ws : List V}, RepTs g G ts vs → RepTs g G us ws → RepTs g G (ts ++ us) (vs ++ ws)
  | [], _, _, _, h, k => by unfold RepTs at h; subst h; exact k
  | t :: ts, us, vs, ws, h, k => by
    unfold RepTs at h
    obtain ⟨v, r, rfl, q, m⟩ := h
    show RepTs g G (t :: (ts ++ us)) (v :: (r ++ ws))
    unfold RepTs
    exact ⟨v, _, rfl, q, RepTs.append m k⟩
theorem RepTs.drop {G : Hp} : ∀ {ts : List T} {vs : List V} (n : Nat), RepTs g G ts vs → RepTs g G (ts.drop n) (vs.drop n)
  | ts, vs, 0, h => h
  | [], vs, n + 1, h => by unfold RepTs at h; subst h; simp [RepTs]
  | t :: ts, vs, n + 1, h => by
    unfold RepTs at h
    obtain ⟨v, r, rfl, q, m⟩ := h
    exact RepTs.drop n m
theorem RepTs.take {G : Hp} : ∀ {ts : List T} {vs : List V} (n : Nat), RepTs g G ts vs → RepTs g G (ts.take n) (vs.take n)
  | ts, vs, 0, h => by simp [RepTs]
  | [], vs, n + 1, h => by unfold RepTs at h; subst h; simp [RepTs]
  | t :: ts, vs, n + 1, h => by
    unfold RepTs at h
    obtain ⟨v, r, rfl, q, m⟩ := h
    show RepTs g G (t :: ts.take n) (v :: r.take n)
    unfold RepTs
    exact ⟨v, _, rfl, q, RepTs.take n m⟩
theorem RepTs.ints {G : Hp} : ∀ {ns : List Int} {vs : List V}, RepTs g G (ns.map T.int) vs → vs = ns.map V.int
  | [], _, h => by unfold RepTs at h; exact h
  | n :: ns, vs, h => by
    have h' : RepTs g G (T.int n :: ns.map T.int) vs := h
    unfold RepTs at h'
    obtain ⟨v, r, rfl, q, m⟩ := h'
    unfold RepT at q
    rw [q, RepTs.ints m]
    rfl
theorem RepTs.of_ints {G : Hp} : ∀ ns : List Int, RepTs g G (ns.map T.int) (ns.map V.int)
  | [] => by simp [RepTs]
  | n :: ns => by
    show RepTs g G (T.int n :: ns.map T.int) (V.int n :: ns.map V.int)
    unfold RepTs
    exact ⟨_, _, rfl, by unfold RepT; rfl, RepTs.of_ints ns⟩
theorem RepTs.bls {G : Hp} : ∀ {ns : List Bool} {vs : List V}, RepTs g G (ns.map T.bl) vs → vs = ns.map V.bl
  | [], _, h => by unfold RepTs at h; exact h
  | n :: ns, vs, h => by
    have h' : RepTs g G (T.bl n :: ns.map T.bl) vs := h
    unfold RepTs at h'
    obtain ⟨v, r, rfl, q, m⟩ := h'
    unfold RepT at q
    rw [q, RepTs.bls m]
    rfl

/-! ### footprints -/
abbrev FP := Addr → Nat
def fp0 : FP := fun _ => 0
def fp1 (a : Addr) : FP := fun b => if b = a then 1 else 0
def fpA (f h : FP) : FP := fun a => f a + h a
theorem fpA_0 (f : FP) : fpA f fp0 = f := by funext a; simp [fpA, fp0]
theorem fp0_A (f : FP) : fpA fp0 f = f := by funext a; simp [fpA, fp0]
theorem fpA_assoc (f h k : FP) : fpA (fpA f h) k = fpA f (fpA h k) := by funext a; simp only [fpA]; omega
theorem fpA_comm (f h : FP) : fpA f h = fpA h f := by funext a; simp only [fpA]; omega
theorem fpA_swap (f h k : FP) : fpA f (fpA h k) = fpA h (fpA f k) := by funext a; simp only [fpA]; omega

mutual
def RepO (G H : Hp) : O → V → FP → Prop
  | .val t, v, f => RepT g G t v ∧ f = fp0
  | .lst os, v, f => ∃ a vs k, v = .ref a ∧ H a = some (.lst vs) ∧ f = fpA (fp1 a) k ∧ RepOs G H os vs k
  | .ins c fs, v, f => ∃ a dx fv k, v = .ref a ∧ H a = some (.ins (g.C c) dx fv) ∧ f = fpA (fp1 a) k ∧ RepOf G H fs fv k
def RepOs (G H : Hp) : List O → List V → FP → Prop
  | [], vs, f => vs = [] ∧ f = fp0
  | o :: os, vs, f => ∃ v r f1 f2, vs = v :: r ∧ f = fpA f1 f2 ∧ RepO G H o v f1 ∧ RepOs G H os r f2
def RepOf (G H : Hp) : List (Nat × O) → List (Str × V) → FP → Prop
  | [], vs, f => vs = [] ∧ f = fp0
  | (n, o) :: os, vs, f => ∃ v r f1 f2, vs = (g.fn n, v) :: r ∧ f = fpA f1 f2 ∧ RepO G H o v f1 ∧ RepOf G H os r f2
end

mutual
/-- what is owned stays, what is frozen stays -/
theorem RepO.mono {G H G' H' : Hp} (s : Sub G G') : ∀ {o : O} {v : V} {f : FP}, RepO g G H o v f → (∀ a, f a ≠ 0 → ∀ u, H a = some u → H' a = some u) → RepO g G' H' o v f
  | .val t, v, f, h, k => by
    unfold RepO at h ⊢
    exact ⟨RepT.mono g s h.1, h.2⟩
  | .lst os, v, f, h, k => by
    unfold RepO at h ⊢
    obtain ⟨a, vs, kf, e, q, ef, r⟩ := h
    refine ⟨a, vs, kf, e, k a ?_ _ q, ef, RepOs.mono s r fun b hb => k b ?_⟩
    · rw [ef]; simp [fpA, fp1]
    · rw [ef]; simp only [fpA]; omega
  | .ins c fs, v, f, h, k => by
    unfold RepO at h ⊢
    obtain ⟨a, dx, fv, kf, e, q, ef, r⟩ := h
    refine ⟨a, dx, fv, kf, e, k a ?_ _ q, ef, RepOf.mono s r fun b hb => k b ?_⟩
    · rw [ef]; simp [fpA, fp1]
    · rw [ef]; simp only [fpA]; omega
theorem RepOs.mono {G H G' H' : Hp} (s : Sub G G') : ∀ {o : List O} {v : List V} {f : FP}, RepOs g G H o v f → (∀ a, f a ≠ 0 → ∀ u, H a = some u → H' a = some u) → RepOs g G' H' o v f
  | [], v, f, h, k => by unfold RepOs at h ⊢; exact h
  | o :: os, v, f, h, k => by
    unfold RepOs at h ⊢
    obtain ⟨v1, r, f1, f2, e, ef, q1, q2⟩ := h
    refine ⟨v1, r, f1, f2, e, ef, RepO.mono s q1 fun b hb => k b ?_, RepOs.mono s q2 fun b hb => k b ?_⟩
    · rw [ef]; simp only [fpA]; omega
    · rw [ef]; simp only [fpA]; omega
theorem RepOf.mono {G H G' H' : Hp} (s : Sub G G') : ∀ {o : List (Nat × O)} {v : List (Str × V)} {f : FP}, RepOf g G H o v f → (∀ a, f a ≠ 0 → ∀ u, H a = some u → H' a = some u) → RepOf g G' H' o v f
  | [], v, f, h, k => by unfold RepOf at h ⊢; exact h
  | (n, o) :: os, v, f, h, k => by
    unfold RepOf at h ⊢
    obtain ⟨v1, r, f1, f2, e, ef, q1, q2⟩ := h
    refine ⟨v1, r, f1, f2, e, ef, RepO.mono s q1 fun b hb => k b ?_, RepOf.mono s q2 fun b hb => k b ?_⟩
    · rw [ef]; simp only [fpA]; omega
    · rw [ef]; simp only [fpA]; omega
end

mutual
/-- what is owned stands in the heap -/
theorem RepO.there {G H : Hp} : ∀ {o : O} {v : V} {f : FP}, RepO g G H o v f → ∀ a, f a ≠ 0 → H a ≠ none
  | .val t, v, f, h, a, ha => by
    unfold RepO at h
    rw [h.2] at ha
    exact absurd rfl ha
  | .lst os, v, f, h, a, ha => by
    unfold RepO at h
    obtain ⟨b, vs, kf, e, q, ef, r⟩ := h
    by_cases hb : a = b
    · subst hb; rw [q]; exact fun z => nomatch z
    · refine RepOs.there r a ?_
      rw [ef] at ha; simp only [fpA, fp1, if_neg hb] at ha; omega
  | .ins c fs, v, f, h, a, ha => by
    unfold RepO at h
    obtain ⟨b, dx, fv, kf, e, q, ef, r⟩ := h
    by_cases hb : a = b
    · subst hb; rw [q]; exact fun z => nomatch z
    · refine RepOf.there r a ?_
      rw [ef] at ha; simp only [fpA, fp1, if_neg hb] at ha; omega
theorem RepOs.there {G H : Hp} : ∀ {o : List O} {v : List V} {f : FP}, RepOs g G H o v f → ∀ a, f a ≠ 0 → H a ≠ none
  | [], v, f, h, a, ha => by
    unfold RepOs at h
    rw [h.2] at ha
    exact absurd rfl ha
  | o :: os, v, f, h, a, ha => by
    unfold RepOs at h
    obtain ⟨v1, r, f1, f2, e, ef, q1, q2⟩ := h
    by_cases h1 : f1 a = 0
    · refine RepOs.there q2 a ?_
      rw [ef] at ha; simp only [fpA] at ha; omega
    · exact RepO.there q1 a h1
theorem RepOf.there {G H : Hp} : ∀ {o : List (Nat × O)} {v : List (Str × V)} {f : FP}, RepOf g G H o v f → ∀ a, f a ≠ 0 → H a ≠ none
  | [], v, f, h, a, ha => by
    unfold RepOf at h
    rw [h.2] at ha
    exact absurd rfl ha
  | (n, o) :: os, v, f, h, a, ha => by
    unfold RepOf at h
    obtain ⟨v1, r, f1, f2, e, ef, q1, q2⟩ := h
    by_cases h1 : f1 a = 0
    · refine RepOf.there q2 a ?_
      rw [ef] at ha; simp only [fpA] at ha; omega
    · exact RepO.there q1 a h1
end

mutual
/-- an owned thing, looked at: it is what it says, at a heap that holds the frozen part and it -/
theorem RepO.view {G H J : Hp} (s : Sub G J) : ∀ {o : O} {v : V} {f : FP}, RepO g G H o v f → (∀ a, f a ≠ 0 → ∀ u, H a = some u → J a = some u) → RepT g J o.fz v
  | .val t, v, f, h, k => by
    unfold RepO at h
    exact RepT.mono g s h.1
  | .lst os, v, f, h, k => by
    unfold RepO at h
    obtain ⟨a, vs, kf, e, q, ef, r⟩ := h
    unfold O.fz RepT
    refine ⟨a, vs, e, k a ?_ _ q, RepOs.view s r fun b hb => k b ?_⟩
    · rw [ef]; simp [fpA, fp1]
    · rw [ef]; simp only [fpA]; omega
  | .ins c fs, v, f, h, k => by
    unfold RepO at h
    obtain ⟨a, dx, fv, kf, e, q, ef, r⟩ := h
    unfold O.fz RepT
    refine ⟨a, dx, fv, e, k a ?_ _ q, RepOf.view s r fun b hb => k b ?_⟩
    · rw [ef]; simp [fpA, fp1]
    · rw [ef]; simp only [fpA]; omega
theorem RepOs.view {G H J : Hp} (s : Sub G J) : ∀ {o : List O} {v : List V} {f : FP}, RepOs g G H o v f → (∀ a, f a ≠ 0 → ∀ u, H a = some u → J a = some u) → RepTs g J (fzs o) v
  | [], v, f, h, k => by unfold RepOs at h; unfold fzs RepTs; exact h.1
  | o :: os, v, f, h, k => by
    unfold RepOs at h
    obtain ⟨v1, r, f1, f2, e, ef, q1, q2⟩ := h
    unfold fzs RepTs
    refine ⟨v1, r, e, RepO.view s q1 fun b hb => k b ?_, RepOs.view s q2 fun b hb => k b ?_⟩
    · rw [ef]; simp only [fpA]; omega
    · rw [ef]; simp only [fpA]; omega
theorem RepOf.view {G H J : Hp} (s : Sub G J) : ∀ {o : List (Nat × O)} {v : List (Str × V)} {f : FP}, RepOf g G H o v f → (∀ a, f a ≠ 0 → ∀ u, H a = some u → J a = some u) → RepF g J (fzf o) v
  | [], v, f, h, k => by unfold RepOf at h; unfold fzf RepF; exact h.1
  | (n, o) :: os, v, f, h, k => by
    unfold RepOf at h
    obtain ⟨v1, r, f1, f2, e, ef, q1, q2⟩ := h
    unfold fzf RepF
    refine ⟨v1, r, e, RepO.view s q1 fun b hb => k b ?_, RepOf.view s q2 fun b hb => k b ?_⟩
    · rw [ef]; simp only [fpA]; omega
    · rw [ef]; simp only [fpA]; omega
end

theorem RepOs.vals {G H : Hp} : ∀ {ts : List T} {vs : List V}, RepTs g G ts vs → RepOs g G H (ts.map O.val) vs fp0
  | [], vs, h => by unfold RepTs at h; show RepOs g G H [] vs fp0; unfold RepOs; exact ⟨h, rfl⟩
  | t :: ts, vs, h => by
    unfold RepTs at h
    obtain ⟨v, r, e, q, k⟩ := h
    show RepOs g G H (O.val t :: ts.map O.val) vs fp0
    unfold RepOs
    exact ⟨v, r, fp0, fp0, e, (fpA_0 fp0).symm, by unfold RepO; exact ⟨q, rfl⟩, RepOs.vals k⟩
theorem RepOs.length {G H : Hp} : ∀ {ts : List O} {vs : List V} {f : FP}, RepOs g G H ts vs f → ts.length = vs.length
  | [], _, f, h => by unfold RepOs at h; rw [h.1]; rfl
  | t :: ts, vs, f, h => by
    unfold RepOs at h
    obtain ⟨v, r, f1, f2, rfl, _, _, k⟩ := h
    rw [List.length_cons, List.length_cons, RepOs.length k]
theorem RepOs.snoc {G H : Hp} {o : O} {v : V} {fo : FP} (q : RepO g G H o v fo) : ∀ {ts : List O} {vs : List V} {f : FP}, RepOs g G H ts vs f → RepOs g G H (ts ++ [o]) (vs ++ [v]) (fpA fo f)
  | [], vs, f, h => by
    unfold RepOs at h
    obtain ⟨rfl, rfl⟩ := h
    show RepOs g G H [o] [v] _
    unfold RepOs
    refine ⟨v, [], fo, fp0, rfl, rfl, q, ?_⟩
    unfold RepOs
    exact ⟨rfl, rfl⟩
  | t :: ts, vs, f, h => by
    unfold RepOs at h
    obtain ⟨v1, r, f1, f2, rfl, rfl, q1, k⟩ := h
    show RepOs g G H (t :: (ts ++ [o])) (v1 :: (r ++ [v])) _
    unfold RepOs
    exact ⟨v1, _, f1, fpA fo f2, rfl, fpA_swap _ _ _, q1, RepOs.snoc q k⟩

/-! ### the slots -/
abbrev Env := List (Option O)
def RepE (G H : Hp) : Env → St → FP → Prop
  | [], σ, f => σ = [] ∧ f = fp0
  | none :: es, σ, f => ∃ x r, σ = x :: r ∧ RepE G H es r f
  | some o :: es, σ, f => ∃ v r f1 f2, σ = some v :: r ∧ f = fpA f1 f2 ∧ RepO g G H o v f1 ∧ RepE G H es r f2
theorem RepE.mono {G H G' H' : Hp} (s : Sub G G') : ∀ {e : Env} {σ : St} {f : FP}, RepE g G H e σ f → (∀ a, f a ≠ 0 → ∀ u, H a = some u → H' a = some u) → RepE g G' H' e σ f
  | [], σ, f, h, k => h
  | none :: es, σ, f, h, k => by
    obtain ⟨x, r, e, q⟩ := h
    exact ⟨x, r, e, RepE.mono s q k⟩
  | some o :: es, σ, f, h, k => by
    obtain ⟨v, r, f1, f2, e, ef, q1, q2⟩ := h
    refine ⟨v, r, f1, f2, e, ef, RepO.mono g s q1 fun b hb => k b ?_, RepE.mono s q2 fun b hb => k b ?_⟩
    · rw [ef]; simp only [fpA]; omega
    · rw [ef]; simp only [fpA]; omega
theorem RepE.there {G H : Hp} : ∀ {e : Env} {σ : St} {f : FP}, RepE g G H e σ f → ∀ a, f a ≠ 0 → H a ≠ none
  | [], σ, f, h, a, ha => by
    rw [h.2] at ha
    exact absurd rfl ha
  | none :: es, σ, f, h, a, ha => by
    obtain ⟨x, r, e, q⟩ := h
    exact RepE.there q a ha
  | some o :: es, σ, f, h, a, ha => by
    obtain ⟨v1, r, f1, f2, e, ef, q1, q2⟩ := h
    by_cases h1 : f1 a = 0
    · refine RepE.there q2 a ?_
      rw [ef] at ha; simp only [fpA] at ha; omega
    · exact RepO.there g q1 a h1
theorem RepE.length {G H : Hp} : ∀ {e : Env} {σ : St} {f : FP}, RepE g G H e σ f → e.length = σ.length
  | [], σ, f, h => by rw [h.1]; rfl
  | none :: es, σ, f, h => by
    obtain ⟨x, r, e, q⟩ := h
    rw [e, List.length_cons, List.length_cons, RepE.length q]
  | some o :: es, σ, f, h => by
    obtain ⟨v1, r, f1, f2, e, ef, q1, q2⟩ := h
    rw [e, List.length_cons, List.length_cons, RepE.length q2]
/-- one slot taken out -/
theorem RepE.take {G H : Hp} : ∀ {e : Env} {σ : St} {f : FP} {i : Nat} {o : O}, RepE g G H e σ f → e[i]? = some (some o) →
    ∃ v f1 f2, σ[i]? = some (some v) ∧ f = fpA f1 f2 ∧ RepO g G H o v f1 ∧ RepE g G H (e.set i none) σ f2
  | [], σ, f, i, o, h, e => by simp at e
  | none :: es, σ, f, 0, o, h, e => by simp at e
  | none :: es, σ, f, i + 1, o, h, e => by
    obtain ⟨x, r, rfl, q⟩ := h
    obtain ⟨v, f1, f2, e1, ef, q1, q2⟩ := RepE.take (i := i) q (by simpa using e)
    exact ⟨v, f1, f2, by simpa using e1, ef, q1, ⟨x, r, rfl, q2⟩⟩
  | some u :: es, σ, f, 0, o, h, e => by
    obtain ⟨v1, r, f1, f2, rfl, rfl, q1, q2⟩ := h
    simp at e
    subst e
    exact ⟨v1, f1, f2, rfl, rfl, q1, ⟨some v1, r, rfl, q2⟩⟩
  | some u :: es, σ, f, i + 1, o, h, e => by
    obtain ⟨v1, r, f1, f2, rfl, rfl, q1, q2⟩ := h
    obtain ⟨v, g1, g2, e1, ef, p1, p2⟩ := RepE.take (i := i) q2 (by simpa using e)
    exact ⟨v, g1, fpA f1 g2, by simpa using e1, by rw [ef, fpA_swap], p1, ⟨v1, r, f1, g2, rfl, rfl, q1, p2⟩⟩
/-- a slot filled (again) -/
theorem RepE.put {G H : Hp} : ∀ {e : Env} {σ : St} {f : FP} {i : Nat} {o : O} {v : V} {fo : FP}, RepE g G H e σ f → e[i]? = some none → RepO g G H o v fo → RepE g G H (e.set i (some o)) (σ.set i (some v)) (fpA fo f)
  | [], σ, f, i, o, v, fo, h, e, q => by simp at e
  | none :: es, σ, f, 0, o, v, fo, h, e, q => by
    obtain ⟨x, r, rfl, k⟩ := h
    exact ⟨v, r, fo, f, rfl, rfl, q, k⟩
  | none :: es, σ, f, i + 1, o, v, fo, h, e, q => by
    obtain ⟨x, r, rfl, k⟩ := h
    exact ⟨x, r.set i (some v), rfl, RepE.put (i := i) k (by simpa using e) q⟩
  | some u :: es, σ, f, 0, o, v, fo, h, e, q => by simp at e
  | some u :: es, σ, f, i + 1, o, v, fo, h, e, q => by
    obtain ⟨v1, r, f1, f2, rfl, rfl, q1, q2⟩ := h
    exact ⟨v1, r.set i (some v), f1, fpA fo f2, rfl, fpA_swap _ _ _, q1, RepE.put (i := i) q2 (by simpa using e) q⟩
/-- a slot forgotten -/
theorem RepE.drop {G H : Hp} : ∀ {e : Env} {σ : St} {f : FP} (i : Nat), RepE g G H e σ f → ∃ f', (∀ a, f' a ≤ f a) ∧ RepE g G H (e.set i none) σ f'
  | [], σ, f, i, h => ⟨f, fun _ => Nat.le_refl _, h⟩
  | none :: es, σ, f, 0, h => ⟨f, fun _ => Nat.le_refl _, h⟩
  | none :: es, σ, f, i + 1, h => by
    obtain ⟨x, r, rfl, k⟩ := h
    obtain ⟨f', l, q⟩ := RepE.drop i k
    exact ⟨f', l, ⟨x, r, rfl, q⟩⟩
  | some u :: es, σ, f, 0, h => by
    obtain ⟨v1, r, f1, f2, rfl, rfl, q1, q2⟩ := h
    exact ⟨f2, fun a => by simp only [fpA]; omega, ⟨some v1, r, rfl, q2⟩⟩
  | some u :: es, σ, f, i + 1, h => by
    obtain ⟨v1, r, f1, f2, rfl, rfl, q1, q2⟩ := h
    obtain ⟨f', l, q⟩ := RepE.drop i q2
    exact ⟨fpA f1 f', fun a => by have := l a; simp only [fpA]; omega, ⟨v1, r, f1, f', rfl, rfl, q1, q⟩⟩
/-- a slot's place may hold anything while the slot is empty -/
theorem RepE.any {G H : Hp} : ∀ {e : Env} {σ : St} {f : FP} {i : Nat} (x : Option V), RepE g G H e σ f → e[i]? = some none → RepE g G H e (σ.set i x) f
  | [], σ, f, i, x, h, e => by simp at e
  | none :: es, σ, f, 0, x, h, e => by
    obtain ⟨y, r, rfl, k⟩ := h
    exact ⟨x, r, rfl, k⟩
  | none :: es, σ, f, i + 1, x, h, e => by
    obtain ⟨y, r, rfl, k⟩ := h
    exact ⟨y, r.set i x, rfl, RepE.any (i := i) x k (by simpa using e)⟩
  | some u :: es, σ, f, 0, x, h, e => by simp at e
  | some u :: es, σ, f, i + 1, x, h, e => by
    obtain ⟨v1, r, f1, f2, rfl, rfl, q1, q2⟩ := h
    exact ⟨v1, r.set i x, f1, f2, rfl, rfl, q1, RepE.any (i := i) x q2 (by simpa using e)⟩
theorem set_same {α : Type} : ∀ {l : List α} {i : Nat} {x : α}, l[i]? = some x → l.set i x = l
  | [], _, _, h => by simp at h
  | a :: l, 0, x, h => by simp at h; subst h; rfl
  | a :: l, i + 1, x, h => by
    show a :: l.set i x = a :: l
    rw [set_same (l := l) (by simpa using h)]

/-! ### the state of a body: frozen G within H, slots σ, what they hold, what they own -/
structure Stt (G H : Hp) (σ : St) (e : Env) (f : FP) : Prop where
  sub : Sub G H
  rep : RepE g G H e σ f
  one : ∀ a, f a ≤ 1
  out : ∀ a, f a ≠ 0 → G a = none
/-- from (G, H) with f owned to (G', H') with f' owned -/
structure Step (G H : Hp) (f : FP) (G' H' : Hp) (f' : FP) : Prop where
  gm : Sub G G'
  keep : ∀ a o, H a = some o → f a = 0 → H' a = some o
  own : ∀ a, f' a ≠ 0 → f a ≠ 0 ∨ H a = none
  gn : ∀ a, G' a ≠ none → G a ≠ none ∨ f a ≠ 0 ∨ H a = none
  dom : ∀ a, H a ≠ none → H' a ≠ none
theorem Step.refl (G H : Hp) (f : FP) : Step G H f G H f := ⟨Sub.refl _, fun _ _ h _ => h, fun _ h => .inl h, fun _ h => .inl h, fun _ h => h⟩
theorem Step.trans {G H G1 H1 G2 H2 : Hp} {f f1 f2 : FP} (a : Step G H f G1 H1 f1) (b : Step G1 H1 f1 G2 H2 f2) : Step G H f G2 H2 f2 where
  gm := a.gm.trans b.gm
  keep := fun x o h hf => by
    refine b.keep x o (a.keep x o h hf) ?_
    cases e : f1 x with
    | zero => rfl
    | succ n =>
      rcases a.own x (by omega) with q | q
      · exact absurd hf q
      · rw [h] at q; cases q
  own := fun x h => by
    rcases b.own x h with q | q
    · exact a.own x q
    · refine .inr ?_
      cases e : H x with
      | none => rfl
      | some o => exact absurd q (a.dom x (by rw [e]; exact fun z => nomatch z))
  gn := fun x h => by
    rcases b.gn x h with q | q | q
    · exact a.gn x q
    · exact .inr (a.own x q)
    · refine .inr (.inr ?_)
      cases e : H x with
      | none => rfl
      | some o => exact absurd q (a.dom x (by rw [e]; exact fun z => nomatch z))
  dom := fun x h => b.dom x (a.dom x h)
/-- a step seen with more owned beside -/
theorem Step.frame {G H G1 H1 : Hp} {f f1 : FP} (k : FP) (a : Step G H f G1 H1 f1) : Step G H (fpA k f) G1 H1 (fpA k f1) where
  gm := a.gm
  keep := fun x o h hf => a.keep x o h (by simp only [fpA] at hf; omega)
  own := fun x h => by
    simp only [fpA] at h ⊢
    by_cases hk : k x = 0
    · rcases a.own x (by omega) with q | q
      · exact .inl (by omega)
      · exact .inr q
    · exact .inl (by omega)
  gn := fun x h => by
    rcases a.gn x h with q | q | q
    · exact .inl q
    · exact .inr (.inl (by simp only [fpA]; omega))
    · exact .inr (.inr q)
  dom := a.dom
theorem Step.less {G H G1 H1 : Hp} {f f1 k : FP} (a : Step G H f G1 H1 f1) (h : ∀ x, k x ≤ f1 x) : Step G H f G1 H1 k :=
  ⟨a.gm, a.keep, fun x q => a.own x (by have := h x; omega), a.gn, a.dom⟩
/-- what is owned beside a step is kept by it -/
theorem Step.kept {G H G1 H1 : Hp} {f f1 k : FP} (a : Step G H f G1 H1 f1) (h1 : ∀ x, k x ≠ 0 → f x = 0) {x : Addr} (hx : k x ≠ 0) : ∀ u, H x = some u → H1 x = some u := fun u e => a.keep x u e (h1 x hx)
end VS
namespace VS
open PySem L2
variable (g : Gl0)

/-- nothing is written: the frozen part and the heap grow by new things -/
structure Grow (G H G' H' : Hp) : Prop where
  gm : Sub G G'
  hm : Sub H H'
  gn : ∀ a, G' a ≠ none → G a ≠ none ∨ H a = none
  s' : Sub G' H'
theorem Grow.refl {G H : Hp} (s : Sub G H) : Grow G H G H := ⟨Sub.refl _, Sub.refl _, fun _ h => .inl h, s⟩
theorem Grow.trans {G H G1 H1 G2 H2 : Hp} (a : Grow G H G1 H1) (b : Grow G1 H1 G2 H2) : Grow G H G2 H2 where
  gm := a.gm.trans b.gm
  hm := a.hm.trans b.hm
  gn := fun x h => by
    rcases b.gn x h with q | q
    · exact a.gn x q
    · exact .inr (a.hm.noneOf q)
  s' := b.s'
theorem Sub.dom {H H' : Hp} (s : Sub H H') {a : Addr} (h : H a ≠ none) : H' a ≠ none := by
  cases e : H a with
  | none => exact absurd e h
  | some o => rw [s a o e]; exact fun z => nomatch z
theorem Grow.step {G H G' H' : Hp} (f : FP) (w : Grow G H G' H') : Step G H f G' H' f :=
  ⟨w.gm, fun a o h _ => w.hm a o h, fun _ h => .inl h, fun a h => (w.gn a h).elim .inl fun q => .inr (.inr q), fun _ h => w.hm.dom h⟩
theorem Grow.out {G H G' H' : Hp} (w : Grow G H G' H') {a : Addr} (h : H a ≠ none) (q : G a = none) : G' a = none := by
  cases e : G' a with
  | none => rfl
  | some o =>
    rcases w.gn a (by rw [e]; exact fun z => nomatch z) with z | z
    · exact absurd q z
    · exact absurd z h
variable {g} in
theorem Stt.grow {G H G' H' : Hp} {σ : St} {e : Env} {f : FP} (s : Stt g G H σ e f) (w : Grow G H G' H') : Stt g G' H' σ e f :=
  ⟨w.s', s.rep.mono g w.gm fun a _ u q => w.hm a u q, s.one, fun a h => w.out (s.rep.there g a h) (s.out a h)⟩
/-- a new frozen thing -/
theorem Grow.newT {G H : Hp} (s : Sub G H) {p : Addr} (hp : H p = none) (o : HO) : Grow G H (upd G p o) (upd H p o) where
  gm := Sub.new (s.noneOf hp)
  hm := Sub.new hp
  gn := fun a h => by
    by_cases e : a = p
    · subst e; exact .inr hp
    · rw [upd_ne e] at h; exact .inl h
  s' := fun a u h => by
    by_cases e : a = p
    · subst e; rw [upd_same] at h ⊢; exact h
    · rw [upd_ne e] at h ⊢; exact s a u h
/-- a new thing that is not frozen -/
theorem Grow.newO {G H : Hp} (s : Sub G H) {p : Addr} (hp : H p = none) (o : HO) : Grow G H G (upd H p o) :=
  ⟨Sub.refl _, Sub.new hp, fun _ h => .inl h, s.trans (Sub.new hp)⟩

/-! ### readings -/
abbrev DV := Env → Option T
abbrev DE := Env → Option (O × Env)
abbrev DP := Env → Option (O × (O → Option Env))
abbrev DB := Env → Option Bool
abbrev DBE := Env → Option (Bool × Env)
/-- an expression that writes nothing; its value is frozen -/
def rdV (d : DV) : TE := fun σ H Q => ∃ G e f t, Stt g G H σ e f ∧ d e = some t ∧ ∀ G' H' v, Grow G H G' H' → RepT g G' t v → Q v H'
/-- .. its value is looked at only -/
def rdQ (d : DV) : TE := fun σ H Q => ∃ G e f t, Stt g G H σ e f ∧ d e = some t ∧ ∀ G' H' v, Grow G H G' H' → RepT g H' t v → Q v H'
/-- a test that writes nothing -/
def rdB (d : DB) : TT := fun σ H Q => ∃ G e f b, Stt g G H σ e f ∧ d e = some b ∧ ∀ G' H', Grow G H G' H' → Q b H'
/-- how a thing at a place is put back -/
def Wand (G' H' : Hp) (σ : St) (set : O → Option Env) (v : V) (f0 : FP) : Prop :=
  ∀ G2 H2 o' f' e', set o' = some e' → Sub G' G2 → (∀ a, f0 a ≠ 0 → ∀ u, H' a = some u → H2 a = some u) → RepO g G2 H2 o' v f' → RepE g G2 H2 e' σ (fpA f' f0)
/-- a place -/
def rdP (p : DP) : TE := fun σ H Q => ∃ G e f o set, Stt g G H σ e f ∧ p e = some (o, set) ∧
  ∀ G' H' v f1 f0, Grow G H G' H' → f = fpA f1 f0 → RepO g G' H' o v f1 → Wand g G' H' σ set v f0 → Q v H'
/-- any expression -/
def PostE (G H : Hp) (f : FP) (σ : St) (o : O) (e' : Env) (Q : VK) : Prop :=
  ∀ G' H' v fo f', Stt g G' H' σ e' f' → RepO g G' H' o v fo → (∀ a, fo a + f' a ≤ 1) → (∀ a, fo a ≠ 0 → G' a = none) → Step G H f G' H' (fpA fo f') → Q v H'
def rdE (d : DE) : TE := fun σ H Q => ∃ G e f o e', Stt g G H σ e f ∧ d e = some (o, e') ∧ PostE g G H f σ o e' Q
def rdBE (d : DBE) : TT := fun σ H Q => ∃ G e f b e', Stt g G H σ e f ∧ d e = some (b, e') ∧ ∀ G' H' f', Stt g G' H' σ e' f' → Step G H f G' H' f' → Q b H'

theorem impE {X : Cx} {e : Expr} {t u : TE} (h : PE X e t) (k : ∀ σ H Q, u σ H Q → t σ H Q) : PE X e u := ⟨fun pins s σ H Q I q => h.run pins s σ H Q I (k σ H Q q)⟩
theorem impT {X : Cx} {e : Expr} {t u : TT} (h : PT X e t) (k : ∀ σ H Q, u σ H Q → t σ H Q) : PT X e u := ⟨fun pins s σ H Q I q => h.run pins s σ H Q I (k σ H Q q)⟩
theorem impW {X : Cx} {e : Expr} {t u : TT} (h : PW X e t) (k : ∀ σ H Q, u σ H Q → t σ H Q) : PW X e u := ⟨fun w pins s σ H Q I q => h.run w pins s σ H Q I (k σ H Q q)⟩
theorem impS {X : Cx} {e : Stmt} {t u : TS} (h : PS X e t) (k : ∀ D σ H, u D σ H → t D σ H) : PS X e u := ⟨fun pins s σ H D I q => h.run pins s σ H D I (k D σ H q)⟩
theorem impSs {X : Cx} {e : List Stmt} {t u : TS} (h : PSs X e t) (k : ∀ D σ H, u D σ H → t D σ H) : PSs X e u := ⟨fun pins s σ H D I q => h.run pins s σ H D I (k D σ H q)⟩

/-! ### from one to another -/
def vOfP (p : DP) : DV := fun e => match p e with
  | some (.val t, _) => some t
  | _ => none
def qOfP (p : DP) : DV := fun e => (p e).map fun x => x.1.fz
def eOfV (d : DV) : DE := fun e => (d e).map fun t => (.val t, e)
def beOfB (d : DB) : DBE := fun e => (d e).map fun b => (b, e)
section
variable {g} {X : Cx} {e : Expr}
theorem pv_p {p : DP} (h : PE X e (rdP g p)) : PE X e (rdV g (vOfP p)) := impE h fun σ H Q ⟨G, env, f, t, S, ht, k⟩ => by
  unfold vOfP at ht
  split at ht
  · rename_i t' set hp
    cases ht
    refine ⟨G, env, f, .val t, set, S, hp, fun G' H' v f1 f0 w ef r wd => ?_⟩
    unfold RepO at r
    exact k G' H' v w r.1
  · cases ht
theorem pq_p {p : DP} (h : PE X e (rdP g p)) : PE X e (rdQ g (qOfP p)) := impE h fun σ H Q ⟨G, env, f, t, S, ht, k⟩ => by
  unfold qOfP at ht
  cases hp : p env with
  | none => rw [hp] at ht; cases ht
  | some x =>
    obtain ⟨o, set⟩ := x
    rw [hp] at ht
    cases ht
    refine ⟨G, env, f, o, set, S, hp, fun G' H' v f1 f0 w ef r wd => ?_⟩
    exact k G' H' v w (RepO.view g w.s' r fun _ _ _ q => q)
theorem pq_v {d : DV} (h : PE X e (rdV g d)) : PE X e (rdQ g d) := impE h fun σ H Q ⟨G, env, f, t, S, ht, k⟩ =>
  ⟨G, env, f, t, S, ht, fun G' H' v w r => k G' H' v w (r.mono g w.s')⟩
theorem pe_v {d : DV} (h : PE X e (rdV g d)) : PE X e (rdE g (eOfV d)) := impE h fun σ H Q ⟨G, env, f, o, e', S, ht, k⟩ => by
  unfold eOfV at ht
  cases hd : d env with
  | none => rw [hd] at ht; cases ht
  | some t =>
    rw [hd] at ht
    cases ht
    refine ⟨G, env, f, t, S, hd, fun G' H' v w r => ?_⟩
    have S' := S.grow w
    refine k G' H' v fp0 f S' (by unfold RepO; exact ⟨r, rfl⟩) (fun a => by have := S.one a; simp only [fp0]; omega) (fun a h => absurd rfl h) ?_
    rw [fp0_A]
    exact w.step f
theorem pbe_b {d : DB} (h : PT X e (rdB g d)) : PT X e (rdBE g (beOfB d)) := impT h fun σ H Q ⟨G, env, f, o, e', S, ht, k⟩ => by
  unfold beOfB at ht
  cases hd : d env with
  | none => rw [hd] at ht; cases ht
  | some t =>
    rw [hd] at ht
    cases ht
    exact ⟨G, env, f, o, S, hd, fun G' H' w => k G' H' f (S.grow w) (w.step f)⟩
end

/-! ### names, constants -/
def vC (t : T) : DV := fun _ => some t
def pVar (i : Nat) : DP := fun e => match e[i]? with
  | some (some o) => some (o, fun o' => some (e.set i (some o')))
  | _ => none
/-- a name whose thing goes on to stand elsewhere: it is frozen -/
def eVar (i : Nat) : DE := fun e => match e[i]? with
  | some (some o) => some (.val o.fz, e.set i (some (.val o.fz)))
  | _ => none
section
variable {g} {X : Cx} {e : Expr}
theorem PE.const {v : V} {t : T} (h : PE X e (tC v)) (r : ∀ G, RepT g G t v) : PE X e (rdV g (vC t)) := impE h fun σ H Q ⟨G, env, f, t', S, ht, k⟩ => by
  cases ht
  exact k G H v (Grow.refl S.sub) (r G)
theorem RepT.int {G : Hp} {i : Int} : RepT g G (.int i) (.int i) := by unfold RepT; rfl
theorem RepT.bl {G : Hp} {i : Bool} : RepT g G (.bl i) (.bl i) := by unfold RepT; rfl
theorem RepT.str {G : Hp} {i : Str} : RepT g G (.str i) (.str i) := by unfold RepT; rfl
theorem RepT.non {G : Hp} : RepT g G .non .non := by unfold RepT; rfl
theorem pp_var {i : Nat} (h : PE X e (tVar i)) : PE X e (rdP g (pVar i)) := impE h fun σ H Q ⟨G, env, f, o, set, S, ht, k⟩ => by
  unfold pVar at ht
  split at ht
  · rename_i o' he
    cases ht
    obtain ⟨v, f1, f2, e1, ef, q1, q2⟩ := S.rep.take g he
    refine ⟨v, e1, k G H v f1 f2 (Grow.refl S.sub) ef q1 fun G2 H2 o2 f' e2 hs s2 kp r => ?_⟩
    cases hs
    have hi : i < env.length := (List.getElem?_eq_some_iff.mp he).1
    have z := (q2.mono g s2 (fun a ha u q => kp a ha u q)).put g (i := i) (by simp [hi]) r
    rw [List.set_set, set_same e1] at z
    exact z
  · cases ht
/-- an owned thing that is frozen from now on -/
theorem Stt.freeze {G H : Hp} {σ : St} {env : Env} {f : FP} {i : Nat} {o : O} (S : Stt g G H σ env f) (he : env[i]? = some (some o)) :
    ∃ v G' f', σ[i]? = some (some v) ∧ Stt g G' H σ (env.set i (some (.val o.fz))) f' ∧ RepT g G' o.fz v ∧ Step G H f G' H f' := by
  classical
  obtain ⟨v, f1, f2, e1, ef, q1, q2⟩ := S.rep.take g he
  have hi : i < env.length := (List.getElem?_eq_some_iff.mp he).1
  let G' : Hp := fun a => if f1 a ≠ 0 then H a else G a
  have s1 : Sub G G' := fun a u h => by
    show (if f1 a ≠ 0 then H a else G a) = some u
    by_cases z : f1 a ≠ 0
    · rw [if_pos z]; exact S.sub a u h
    · rw [if_neg z]; exact h
  have s2 : Sub G' H := fun a u h => by
    have h' : (if f1 a ≠ 0 then H a else G a) = some u := h
    by_cases z : f1 a ≠ 0
    · rw [if_pos z] at h'; exact h'
    · rw [if_neg z] at h'; exact S.sub a u h'
  have r : RepT g G' o.fz v := RepO.view g s1 q1 fun a ha u q => by
    show (if f1 a ≠ 0 then H a else G a) = some u
    rw [if_pos ha]; exact q
  refine ⟨v, G', f2, e1, ⟨s2, ?_, fun a => by have := S.one a; rw [ef] at this; simp only [fpA] at this; omega, fun a ha => ?_⟩, r, ⟨s1, fun a o h _ => h, fun a h => .inl (by rw [ef]; simp only [fpA]; omega), fun a h => ?_, fun _ h => h⟩⟩
  · have z := (q2.mono g s1 (fun a _ u q => q)).put g (i := i) (o := .val o.fz) (v := v) (fo := fp0) (by simp [hi]) (by unfold RepO; exact ⟨r, rfl⟩)
    rw [List.set_set, set_same e1, fp0_A] at z
    exact z
  · show (if f1 a ≠ 0 then H a else G a) = none
    have h1 : f1 a = 0 := by have := S.one a; rw [ef] at this; simp only [fpA] at this; omega
    rw [if_neg (by omega)]
    exact S.out a (by rw [ef]; simp only [fpA]; omega)
  · have h' : (if f1 a ≠ 0 then H a else G a) ≠ none := h
    by_cases z : f1 a ≠ 0
    · exact .inr (.inl (by rw [ef]; simp only [fpA]; omega))
    · rw [if_neg z] at h'; exact .inl h'
theorem pe_var' {i : Nat} (h : PE X e (tVar i)) : PE X e (rdE g (eVar i)) := impE h fun σ H Q ⟨G, env, f, o, e', S, ht, k⟩ => by
  unfold eVar at ht
  split at ht
  · rename_i o' he
    cases ht
    obtain ⟨v, G', f', e1, S', r, st⟩ := S.freeze he
    refine ⟨v, e1, k G' H v fp0 f' S' (by unfold RepO; exact ⟨r, rfl⟩) (fun a => by have := S'.one a; simp only [fp0]; omega) (fun a h => absurd rfl h) ?_⟩
    rw [fp0_A]
    exact st
  · cases ht
end
end VS
namespace VS
open PySem L2
variable {g : Gl0}

theorem Wand.mono {G H G' H' : Hp} {σ : St} {set : O → Option Env} {v : V} {f0 : FP} (w : Wand g G H σ set v f0) (s1 : Sub G G') (s2 : Sub H H') : Wand g G' H' σ set v f0 :=
  fun G2 H2 o' f' e' hs sg kp r => w G2 H2 o' f' e' hs (s1.trans sg) (fun a ha u q => kp a ha u (s2 a u q)) r
theorem wandNone {G H : Hp} {σ : St} {v : V} {f0 : FP} : Wand g G H σ (fun _ => none) v f0 := fun G2 H2 o' f' e' hs _ _ _ => nomatch hs

theorem RepOs.pick {G H : Hp} : ∀ {os : List O} {vs : List V} {f : FP} {j : Nat} {o : O}, RepOs g G H os vs f → os[j]? = some o →
    ∃ v f1 f2, vs[j]? = some v ∧ f = fpA f1 f2 ∧ RepO g G H o v f1 ∧
      ∀ G' H' o' f', Sub G G' → (∀ a, f2 a ≠ 0 → ∀ u, H a = some u → H' a = some u) → RepO g G' H' o' v f' → RepOs g G' H' (os.set j o') vs (fpA f' f2)
  | [], vs, f, j, o, h, e => by simp at e
  | x :: os, vs, f, 0, o, h, e => by
    unfold RepOs at h
    obtain ⟨v, r, f1, f2, rfl, rfl, q1, q2⟩ := h
    simp at e
    subst e
    refine ⟨v, f1, f2, rfl, rfl, q1, fun G' H' o' f' s k r' => ?_⟩
    show RepOs g G' H' (o' :: os) (v :: r) _
    unfold RepOs
    exact ⟨v, r, f', f2, rfl, rfl, r', q2.mono g s k⟩
  | x :: os, vs, f, j + 1, o, h, e => by
    unfold RepOs at h
    obtain ⟨v, r, f1, f2, rfl, rfl, q1, q2⟩ := h
    obtain ⟨v', g1, g2, e1, ef, p1, k⟩ := RepOs.pick (j := j) q2 (by simpa using e)
    refine ⟨v', g1, fpA f1 g2, by simpa using e1, by rw [ef, fpA_swap], p1, fun G' H' o' f' s kp r' => ?_⟩
    show RepOs g G' H' (x :: os.set j o') (v :: r) _
    unfold RepOs
    refine ⟨v, r, f1, fpA f' g2, rfl, fpA_swap _ _ _, q1.mono g s fun a ha => kp a ?_, k G' H' o' f' s (fun a ha => kp a ?_) r'⟩
    · simp only [fpA]; omega
    · simp only [fpA]; omega

def oIdx (o : O) (i : Int) (set : O → Option Env) : Option (O × (O → Option Env)) :=
  match o with
  | .val (.tup ts) => (atI ts i).map fun t => (.val t, fun _ => none)
  | .val (.lst ts) => (atI ts i).map fun t => (.val t, fun _ => none)
  | .val (.scr ns) => (atI ns i).map fun n => (.val (.int n), fun _ => none)
  | .lst os => (match ixN os.length i with
    | some j => (match os[j]? with
      | some o' => some (o', fun o2 => set (.lst (os.set j o2)))
      | none => none)
    | none => none)
  | _ => none
def pIdx (p : DP) (q : DV) : DP := fun e => match p e, q e with
  | some (o, set), some (.int i) => oIdx o i set
  | _, _ => none

theorem atI_get' {α : Type} {xs : List α} {i : Int} {v : α} (h : atI xs i = some v) : ∃ j, ixN xs.length i = some j ∧ xs[j]? = some v := by
  unfold atI at h
  cases e : ixN xs.length i with
  | none => rw [e] at h; cases h
  | some j => rw [e] at h; exact ⟨j, rfl, h⟩
theorem atI_of {α : Type} {xs : List α} {i : Int} {j : Nat} {v : α} (h : ixN xs.length i = some j) (k : xs[j]? = some v) : atI xs i = some v := by
  unfold atI
  rw [h]
  exact k
theorem RepTs.at {G : Hp} {ts : List T} {vs : List V} {i : Int} {t : T} (r : RepTs g G ts vs) (h : atI ts i = some t) : ∃ v, atI vs i = some v ∧ RepT g G t v := by
  obtain ⟨j, h1, h2⟩ := atI_get' h
  obtain ⟨v, h3, h4⟩ := r.get g h2
  exact ⟨v, atI_of (by rw [← r.length g]; exact h1) h3, h4⟩

section
variable {X : Cx} {a b : Expr} {pos : Pos}
theorem rdP_ix {p : DP} {q : DV} {ta tb : TE} {σ : St} {H : Hp} {Q : VK} (hK : X.K = g.K) (hta : ∀ σ H Q, rdP g p σ H Q → ta σ H Q) (htb : ∀ σ H Q, rdV g q σ H Q → tb σ H Q)
    (h : rdP g (pIdx p q) σ H Q) : tOp (rIx X.K) ta tb σ H Q := by
  obtain ⟨G, env, f, o, set, S, ht, k⟩ := h
  unfold pIdx at ht
  split at ht
  · rename_i o1 set1 i hp hq
    refine hta σ H _ ⟨G, env, f, o1, set1, S, hp, fun G1 H1 v f1 f0 w1 ef r1 wd1 => ?_⟩
    refine htb σ H1 _ ⟨G1, env, f, .int i, S.grow w1, hq, fun G2 H2 y w2 ry => ?_⟩
    unfold RepT at ry
    subst ry
    have r2 : RepO g G2 H2 o1 v f1 := r1.mono g w2.gm fun a _ u q => w2.hm a u q
    have wd2 := wd1.mono w2.gm w2.hm
    unfold oIdx at ht
    split at ht
    · rename_i ts
      cases e : atI ts i with
      | none => rw [e] at ht; cases ht
      | some t =>
        rw [e] at ht; cases ht
        unfold RepO at r2
        obtain ⟨r2, rfl⟩ := r2
        unfold RepT at r2
        obtain ⟨A, vs, rfl, sq, rs⟩ := r2
        obtain ⟨x, ex, rx⟩ := rs.at e
        refine .inr (.inl ⟨A, vs, i, x, rfl, rfl, by rw [hK]; exact w2.s'.sqT sq, ex, k G2 H2 x fp0 f (w1.trans w2) (fp0_A f).symm (by unfold RepO; exact ⟨rx, rfl⟩) wandNone⟩)
    · rename_i ts
      cases e : atI ts i with
      | none => rw [e] at ht; cases ht
      | some t =>
        rw [e] at ht; cases ht
        unfold RepO at r2
        obtain ⟨r2, rfl⟩ := r2
        unfold RepT at r2
        obtain ⟨A, vs, rfl, sq, rs⟩ := r2
        obtain ⟨x, ex, rx⟩ := rs.at e
        refine .inl ⟨A, vs, i, x, rfl, rfl, .inl (.inl (w2.s' _ _ sq)), ex, k G2 H2 x fp0 f (w1.trans w2) (fp0_A f).symm (by unfold RepO; exact ⟨rx, rfl⟩) wandNone⟩
    · rename_i ns
      cases e : atI ns i with
      | none => rw [e] at ht; cases ht
      | some t =>
        rw [e] at ht; cases ht
        unfold RepO at r2
        obtain ⟨r2, rfl⟩ := r2
        unfold RepT at r2
        obtain ⟨A, rfl, sq⟩ := r2
        obtain ⟨j, h1, h2⟩ := atI_get' e
        refine .inl ⟨A, ns.map V.int, i, .int t, rfl, rfl, by rw [hK]; exact w2.s'.sqL sq, atI_of (j := j) (by rw [List.length_map]; exact h1) (by rw [List.getElem?_map, h2]; rfl), k G2 H2 _ fp0 f (w1.trans w2) (fp0_A f).symm (by unfold RepO; exact ⟨RepT.int, rfl⟩) wandNone⟩
    · rename_i os
      cases e : ixN os.length i with
      | none => rw [e] at ht; cases ht
      | some j =>
        rw [e] at ht
        cases e2 : os[j]? with
        | none => simp only [e2] at ht; cases ht
        | some o2 =>
          simp only [e2] at ht
          cases ht
          unfold RepO at r2
          obtain ⟨A, vs, kf, rfl, sq, rfl, rs⟩ := r2
          obtain ⟨x, g1, g2, ex, rfl, rx, kx⟩ := rs.pick e2
          refine .inl ⟨A, vs, i, x, rfl, rfl, .inl (.inl sq), atI_of (j := j) (by rw [← rs.length g]; exact e) ex, ?_⟩
          refine k G2 H2 x g1 (fpA (fpA (fp1 A) g2) f0) (w1.trans w2) (by rw [ef]; funext b; simp only [fpA]; omega) rx ?_
          intro G3 H3 o' f' e' hs sg kp r
          have z := wd2 G3 H3 (.lst (os.set j o')) (fpA (fp1 A) (fpA f' g2)) e' hs sg (fun b hb => kp b (by simp only [fpA]; omega)) (by
            unfold RepO
            exact ⟨A, vs, fpA f' g2, rfl, kp A (by simp [fpA, fp1]) _ sq, rfl, kx G3 H3 o' f' sg (fun b hb => kp b (by simp only [fpA]; omega)) r⟩)
          rw [show fpA f' (fpA (fpA (fp1 A) g2) f0) = fpA (fpA (fp1 A) (fpA f' g2)) f0 by funext b; simp only [fpA]; omega]
          exact z
    · cases ht
  · cases ht
theorem pp_ix {p : DP} {q : DV} (hK : X.K = g.K) (ha : PE X a (rdP g p)) (hb : PE X b (rdV g q)) (hs : PlainIx b) : PE X (.Subscript a b pos) (rdP g (pIdx p q)) :=
  impE (pe_ix ix_seq ha hb hs) fun σ H Q h => rdP_ix hK (fun _ _ _ z => z) (fun _ _ _ z => z) h
end

/-! ### fields -/
def getF (n : Nat) : List (Nat × O) → Option O
  | [] => none
  | (m, o) :: r => if m = n then some o else getF n r
def setF (n : Nat) (x : O) : List (Nat × O) → List (Nat × O)
  | [] => []
  | (m, o) :: r => if m = n then (m, x) :: r else (m, o) :: setF n x r
def getT (n : Nat) : List (Nat × T) → Option T
  | [] => none
  | (m, o) :: r => if m = n then some o else getT n r
/-- the classes' facts -/
structure Gl0.Ok (g : Gl0) (nc nf : Nat) : Prop where
  inj : ∀ n m, g.fn n = g.fn m → n = m
  cls : ∀ c, c < nc → Cls g.K (g.C c)
  no : ∀ c n, c < nc → n < nf → NoAttr g.K (g.C c) (g.fn n)
def pAttr (nc nf n : Nat) (p : DP) : DP := fun e => match p e with
  | some (.val (.ins c fs), _) => if c < nc ∧ n < nf then (getT n fs).map fun t => (.val t, fun _ => none) else none
  | some (.ins c fs, set) => if c < nc ∧ n < nf then (getF n fs).map fun o => (o, fun o2 => set (.ins c (setF n o2 fs))) else none
  | _ => none
theorem RepF.look (inj : ∀ n m, g.fn n = g.fn m → n = m) {G : Hp} {n : Nat} {t : T} : ∀ {fs : List (Nat × T)} {fv : List (Str × V)}, RepF g G fs fv → getT n fs = some t → ∃ v, fv.lookup (g.fn n) = some v ∧ RepT g G t v
  | [], fv, h, e => nomatch e
  | (m, x) :: fs, fv, h, e => by
    unfold RepF at h
    obtain ⟨v, r, rfl, q, k⟩ := h
    unfold getT at e
    by_cases z : m = n
    · rw [if_pos z] at e
      cases e
      subst z
      exact ⟨v, by simp, q⟩
    · rw [if_neg z] at e
      obtain ⟨v', h1, h2⟩ := RepF.look inj k e
      refine ⟨v', ?_, h2⟩
      have : (g.fn n == g.fn m) = false := by
        cases q : (g.fn n == g.fn m) with
        | false => rfl
        | true => exact absurd (inj _ _ (beq_iff_eq.mp q)).symm z
      simp only [List.lookup_cons, this]
      exact h1
theorem RepOf.look (inj : ∀ n m, g.fn n = g.fn m → n = m) {G H : Hp} {n : Nat} {o : O} : ∀ {fs : List (Nat × O)} {fv : List (Str × V)} {f : FP}, RepOf g G H fs fv f → getF n fs = some o →
    ∃ v f1 f2, fv.lookup (g.fn n) = some v ∧ f = fpA f1 f2 ∧ RepO g G H o v f1 ∧
      ∀ G' H' o' f', Sub G G' → (∀ a, f2 a ≠ 0 → ∀ u, H a = some u → H' a = some u) → RepO g G' H' o' v f' → RepOf g G' H' (setF n o' fs) fv (fpA f' f2)
  | [], fv, f, h, e => nomatch e
  | (m, x) :: fs, fv, f, h, e => by
    unfold RepOf at h
    obtain ⟨v, r, f1, f2, rfl, rfl, q, k⟩ := h
    unfold getF at e
    by_cases z : m = n
    · rw [if_pos z] at e
      cases e
      subst z
      refine ⟨v, f1, f2, by simp, rfl, q, fun G' H' o' f' s kp r' => ?_⟩
      unfold setF
      rw [if_pos rfl]
      unfold RepOf
      exact ⟨v, r, f', f2, rfl, rfl, r', k.mono g s kp⟩
    · rw [if_neg z] at e
      obtain ⟨v', g1, g2, h1, rfl, h2, kx⟩ := RepOf.look inj k e
      have : (g.fn n == g.fn m) = false := by
        cases q : (g.fn n == g.fn m) with
        | false => rfl
        | true => exact absurd (inj _ _ (beq_iff_eq.mp q)).symm z
      refine ⟨v', g1, fpA f1 g2, by simp only [List.lookup_cons, this]; exact h1, fpA_swap _ _ _, h2, fun G' H' o' f' s kp r' => ?_⟩
      unfold setF
      rw [if_neg z]
      unfold RepOf
      exact ⟨v, r, f1, fpA f' g2, rfl, fpA_swap _ _ _, q.mono g s fun a ha => kp a (by simp only [fpA]; omega), kx G' H' o' f' s (fun a ha => kp a (by simp only [fpA]; omega)) r'⟩
section
variable {X : Cx} {a : Expr} {pos : Pos}
theorem pp_attr {nc nf n : Nat} {p : DP} {x : Str} (hK : X.K = g.K) (ok : g.Ok nc nf) (hx : x = g.fn n) (ha : PE X a (rdP g p)) (hb : attributeBase a x X.env (eval a X.env) = eval a X.env) : PE X (.Attribute a x pos) (rdP g (pAttr nc nf n p)) :=
  impE (pe_fld ha hb) fun σ H Q ⟨G, env, f, o, set, S, ht, k⟩ => by
    subst hx
    unfold pAttr at ht
    split at ht
    · rename_i c fs set' hp
      by_cases hc : c < nc ∧ n < nf
      · rw [if_pos hc] at ht
        cases e : getT n fs with
        | none => rw [e] at ht; cases ht
        | some t =>
          rw [e] at ht; cases ht
          refine ⟨G, env, f, _, set', S, hp, fun G' H' v f1 f0 w ef r wd => ?_⟩
          unfold RepO at r
          obtain ⟨r, rfl⟩ := r
          unfold RepT at r
          obtain ⟨A, dx, fv, rfl, q, rf⟩ := r
          obtain ⟨y, l, ry⟩ := RepF.look ok.inj rf e
          exact ⟨A, g.C c, dx, fv, y, rfl, w.s' _ _ q, by rw [hK]; exact ok.cls c hc.1, by rw [hK]; exact ok.no c n hc.1 hc.2, l, k G' H' y fp0 f w (fp0_A f).symm (by unfold RepO; exact ⟨ry, rfl⟩) wandNone⟩
      · rw [if_neg hc] at ht; cases ht
    · rename_i c fs set' hp
      by_cases hc : c < nc ∧ n < nf
      · rw [if_pos hc] at ht
        cases e : getF n fs with
        | none => rw [e] at ht; cases ht
        | some t =>
          rw [e] at ht; cases ht
          refine ⟨G, env, f, _, set', S, hp, fun G' H' v f1 f0 w ef r wd => ?_⟩
          unfold RepO at r
          obtain ⟨A, dx, fv, kf, rfl, q, rfl, rf⟩ := r
          obtain ⟨y, g1, g2, l, rfl, ry, kx⟩ := RepOf.look ok.inj rf e
          refine ⟨A, g.C c, dx, fv, y, rfl, q, by rw [hK]; exact ok.cls c hc.1, by rw [hK]; exact ok.no c n hc.1 hc.2, l, k G' H' y g1 (fpA (fpA (fp1 A) g2) f0) w (by rw [ef]; funext b; simp only [fpA]; omega) ry ?_⟩
          intro G3 H3 o' f' e' hs sg kp r
          have z := wd G3 H3 (.ins c (setF n o' fs)) (fpA (fp1 A) (fpA f' g2)) e' hs sg (fun b hb => kp b (by simp only [fpA]; omega)) (by
            unfold RepO
            exact ⟨A, dx, fv, fpA f' g2, rfl, kp A (by simp [fpA, fp1]) _ q, rfl, kx G3 H3 o' f' sg (fun b hb => kp b (by simp only [fpA]; omega)) r⟩)
          rw [show fpA f' (fpA (fpA (fp1 A) g2) f0) = fpA (fpA (fp1 A) (fpA f' g2)) f0 by funext b; simp only [fpA]; omega]
          exact z
      · rw [if_neg hc] at ht; cases ht
    · cases ht
end
end VS
namespace VS
open PySem L2
variable {g : Gl0}

/-! ### flat things, data -/
def T.flat : T → Option V
  | .non => some .non
  | .bl b => some (.bl b)
  | .int i => some (.int i)
  | .str s => some (.str s)
  | _ => none
def flats : List T → Option (List V)
  | [] => some []
  | t :: ts => match t.flat, flats ts with
    | some x, some r => some (x :: r)
    | _, _ => none
theorem RepT.flat {G : Hp} {t : T} {v x : V} (r : RepT g G t v) (h : t.flat = some x) : v = x ∧ flatV x = true := by
  cases t with
  | non => unfold T.flat at h; cases h; unfold RepT at r; exact ⟨r, rfl⟩
  | bl b => unfold T.flat at h; cases h; unfold RepT at r; exact ⟨r, rfl⟩
  | int b => unfold T.flat at h; cases h; unfold RepT at r; exact ⟨r, rfl⟩
  | str b => unfold T.flat at h; cases h; unfold RepT at r; exact ⟨r, rfl⟩
  | tup _ => cases h
  | lst _ => cases h
  | ins _ _ => cases h
  | scr _ => cases h
theorem RepTs.flat {G : Hp} : ∀ {ts : List T} {vs xs : List V}, RepTs g G ts vs → flats ts = some xs → vs = xs ∧ xs.all flatV = true
  | [], vs, xs, r, h => by unfold flats at h; cases h; unfold RepTs at r; exact ⟨r, rfl⟩
  | t :: ts, vs, xs, r, h => by
    unfold flats at h
    split at h
    · rename_i x y h1 h2
      cases h
      unfold RepTs at r
      obtain ⟨v, w, rfl, q, k⟩ := r
      obtain ⟨rfl, f1⟩ := q.flat h1
      obtain ⟨rfl, f2⟩ := RepTs.flat k h2
      exact ⟨rfl, by rw [List.all_cons, f1, f2]; rfl⟩
    · cases h
mutual
def T.dat : T → Option PyData
  | .non => some .none
  | .bl b => some (.bool b)
  | .int i => some (.int i)
  | .str s => some (.str s)
  | .tup ts => (dats ts).map .tuple
  | .lst ts => (dats ts).map .list
  | _ => none
def dats : List T → Option (List PyData)
  | [] => some []
  | t :: ts => match t.dat, dats ts with
    | some x, some r => some (x :: r)
    | _, _ => none
end
mutual
theorem RepT.dat {H : Hp} : ∀ {t : T} {v : V} {d : PyData}, RepT g H t v → t.dat = some d → Dp g.K H v d
  | .non, v, d, r, h => by unfold T.dat at h; cases h; unfold RepT at r; subst r; exact .non
  | .bl b, v, d, r, h => by unfold T.dat at h; cases h; unfold RepT at r; subst r; exact .bl b
  | .int b, v, d, r, h => by unfold T.dat at h; cases h; unfold RepT at r; subst r; exact .int b
  | .str b, v, d, r, h => by unfold T.dat at h; cases h; unfold RepT at r; subst r; exact .str b
  | .tup ts, v, d, r, h => by
    unfold T.dat at h
    cases e : dats ts with
    | none => rw [e] at h; cases h
    | some ds =>
      rw [e] at h; cases h
      unfold RepT at r
      obtain ⟨a, vs, rfl, q, k⟩ := r
      exact .tup q (RepTs.dat k e)
  | .lst ts, v, d, r, h => by
    unfold T.dat at h
    cases e : dats ts with
    | none => rw [e] at h; cases h
    | some ds =>
      rw [e] at h; cases h
      unfold RepT at r
      obtain ⟨a, vs, rfl, q, k⟩ := r
      exact .lst (SqL.of q) (RepTs.dat k e)
  | .ins _ _, v, d, r, h => by unfold T.dat at h; cases h
  | .scr _, v, d, r, h => by unfold T.dat at h; cases h
theorem RepTs.dat {H : Hp} : ∀ {ts : List T} {vs : List V} {ds : List PyData}, RepTs g H ts vs → dats ts = some ds → DpAll g.K H vs ds
  | [], vs, ds, r, h => by unfold dats at h; cases h; unfold RepTs at r; subst r; exact .nil
  | t :: ts, vs, ds, r, h => by
    unfold dats at h
    split at h
    · rename_i x y h1 h2
      cases h
      unfold RepTs at r
      obtain ⟨v, w, rfl, q, k⟩ := r
      exact .cons (RepT.dat q h1) (RepTs.dat k h2)
    · cases h
end

def eqT (a b : T) : Option Bool :=
  match a.flat, b.flat with
  | some x, some y => if scal x y = true then some (decide (x = y)) else none
  | _, _ => (match a.dat, b.dat with
    | some d, some e => if SeqAt.shaped d = true ∧ SeqAt.shaped e = true then some (PyData.eqv d e) else none
    | _, _ => none)
def inT (x y : T) : Option Bool :=
  match y with
  | .lst ts => (match x.flat, flats ts with
    | some x, some vs => some (inV x vs)
    | _, _ => (match x.dat, dats ts with
      | some d, some ds => if SeqAt.shaped d = true ∧ SeqAt.shaped (.list ds) = true then some (ds.any fun z => PyData.eqv z d) else none
      | _, _ => none))
  | .tup ts => (match x.flat, flats ts with
    | some x, some vs => some (inV x vs)
    | _, _ => none)
  | _ => none
def ltT (p : Int → Int → Bool) (a b : T) : Option Bool :=
  match a, b with
  | .int i, .int j => some (p i j)
  | _, _ => none
def isNon : T → Bool
  | .non => true
  | _ => false
def cmpT (op : CmpOp) (a b : T) : Option Bool :=
  match op with
  | .Eq => eqT a b
  | .NotEq => (eqT a b).map (!·)
  | .Lt => ltT (fun i j => decide (i < j)) a b
  | .LtE => ltT (fun i j => decide (i ≤ j)) a b
  | .Gt => ltT (fun i j => decide (j < i)) a b
  | .GtE => ltT (fun i j => decide (j ≤ i)) a b
  | .Is => if isNon b = true then some (isNon a) else none
  | .IsNot => if isNon b = true then some (!isNon a) else none
  | .In => inT a b
  | .NotIn => (inT a b).map (!·)
theorem RepT.isNon {G : Hp} {t : T} {v : V} (r : RepT g G t v) : decide (v = .non) = isNon t := by
  cases t <;> unfold RepT at r <;> unfold VS.isNon
  · subst r; rfl
  · subst r; rfl
  · subst r; rfl
  · subst r; rfl
  · obtain ⟨a, vs, rfl, _⟩ := r; rfl
  · obtain ⟨a, vs, rfl, _⟩ := r; rfl
  · obtain ⟨a, vs, _, rfl, _⟩ := r; rfl
  · obtain ⟨a, rfl, _⟩ := r; rfl
section
variable {X : Cx}
def rCmp (g : Gl0) (op : CmpOp) : R2 := fun x y H Q => ∃ a b k, RepT g H a x ∧ RepT g H b y ∧ cmpT op a b = some k ∧ Q (.bl k) H
theorem cmp_eq (hK : X.K = g.K) (hu : X.A.units + 65 < cLine) : OpR X (compareOp .Eq) (rCmp g .Eq) := by
  intro pins s σ H x y v u Q I rx ry h
  obtain ⟨a, b, k, ra, rb, e, q⟩ := h
  have e : eqT a b = some k := e
  unfold eqT at e
  split at e
  · rename_i x' y' h1 h2
    obtain ⟨rfl, _⟩ := ra.flat h1
    obtain ⟨rfl, _⟩ := rb.flat h2
    by_cases sc : scal x y = true
    · rw [if_pos sc] at e; cases e
      exact op_eq pins s σ H x y v u Q I rx ry ⟨sc, q⟩
    · rw [if_neg sc] at e; cases e
  · split at e
    · rename_i d e' h1 h2
      by_cases sc : SeqAt.shaped d = true ∧ SeqAt.shaped e' = true
      · rw [if_pos sc] at e; cases e
        exact op_eqD (by omega) pins s σ H x y v u Q I rx ry ⟨d, e', by rw [hK]; exact ra.dat h1, by rw [hK]; exact rb.dat h2, sc.1, sc.2, q⟩
      · rw [if_neg sc] at e; cases e
    · cases e
theorem cmp_ne (hK : X.K = g.K) (hu : X.A.units + 65 < cLine) : OpR X (compareOp .NotEq) (rCmp g .NotEq) := by
  intro pins s σ H x y v u Q I rx ry h
  obtain ⟨a, b, k, ra, rb, e, q⟩ := h
  have e : (eqT a b).map (!·) = some k := e
  cases e0 : eqT a b with
  | none => rw [e0] at e; cases e
  | some k0 =>
    rw [e0] at e; cases e
    unfold eqT at e0
    split at e0
    · rename_i x' y' h1 h2
      obtain ⟨rfl, _⟩ := ra.flat h1
      obtain ⟨rfl, _⟩ := rb.flat h2
      by_cases sc : scal x y = true
      · rw [if_pos sc] at e0; cases e0
        exact op_ne pins s σ H x y v u Q I rx ry ⟨sc, q⟩
      · rw [if_neg sc] at e0; cases e0
    · split at e0
      · rename_i d e' h1 h2
        by_cases sc : SeqAt.shaped d = true ∧ SeqAt.shaped e' = true
        · rw [if_pos sc] at e0; cases e0
          exact op_neD (by omega) pins s σ H x y v u Q I rx ry ⟨d, e', by rw [hK]; exact ra.dat h1, by rw [hK]; exact rb.dat h2, sc.1, sc.2, q⟩
        · rw [if_neg sc] at e0; cases e0
      · cases e0
theorem cmp_in (hK : X.K = g.K) (hu : X.A.units + 65 < cLine) : OpR X (compareOp .In) (rCmp g .In) := by
  intro pins s σ H x y v u Q I rx ry h
  obtain ⟨a, b, k, ra, rb, e, q⟩ := h
  have e : inT a b = some k := e
  unfold inT at e
  split at e
  · rename_i ts
    split at e
    · rename_i x' vs h1 h2
      cases e
      obtain ⟨rfl, f1⟩ := ra.flat h1
      unfold RepT at rb
      obtain ⟨A, ws, rfl, sq, rs⟩ := rb
      obtain ⟨rfl, f2⟩ := rs.flat h2
      exact op_in_seq pins s σ H _ _ v u Q I rx ry ⟨A, ws, rfl, .inl (SqL.of sq), f1, f2, q⟩
    · split at e
      · rename_i d ds h1 h2
        by_cases sc : SeqAt.shaped d = true ∧ SeqAt.shaped (.list ds) = true
        · rw [if_pos sc] at e; cases e
          exact op_inD hu pins s σ H x y v u Q I rx ry ⟨d, ds, by rw [hK]; exact ra.dat h1, by rw [hK]; exact rb.dat (by unfold T.dat; rw [h2]; rfl), sc.1, sc.2, q⟩
        · rw [if_neg sc] at e; cases e
      · cases e
  · rename_i ts
    split at e
    · rename_i x' vs h1 h2
      cases e
      obtain ⟨rfl, f1⟩ := ra.flat h1
      unfold RepT at rb
      obtain ⟨A, ws, rfl, sq, rs⟩ := rb
      obtain ⟨rfl, f2⟩ := rs.flat h2
      exact op_in_seq pins s σ H _ _ v u Q I rx ry ⟨A, ws, rfl, .inr (by rw [hK]; exact sq), f1, f2, q⟩
    · cases e
  · cases e
theorem cmp_notin (hK : X.K = g.K) (hu : X.A.units + 65 < cLine) : OpR X (compareOp .NotIn) (rCmp g .NotIn) := by
  intro pins s σ H x y v u Q I rx ry h
  obtain ⟨a, b, k, ra, rb, e, q⟩ := h
  have e : (inT a b).map (!·) = some k := e
  cases e0 : inT a b with
  | none => rw [e0] at e; cases e
  | some k0 =>
    rw [e0] at e; cases e
    unfold inT at e0
    split at e0
    · rename_i ts
      split at e0
      · rename_i x' vs h1 h2
        cases e0
        obtain ⟨rfl, f1⟩ := ra.flat h1
        unfold RepT at rb
        obtain ⟨A, ws, rfl, sq, rs⟩ := rb
        obtain ⟨rfl, f2⟩ := rs.flat h2
        exact op_notIn_seq pins s σ H _ _ v u Q I rx ry ⟨A, ws, rfl, .inl (SqL.of sq), f1, f2, q⟩
      · split at e0
        · rename_i d ds h1 h2
          by_cases sc : SeqAt.shaped d = true ∧ SeqAt.shaped (.list ds) = true
          · rw [if_pos sc] at e0; cases e0
            exact op_notInD hu pins s σ H x y v u Q I rx ry ⟨d, ds, by rw [hK]; exact ra.dat h1, by rw [hK]; exact rb.dat (by unfold T.dat; rw [h2]; rfl), sc.1, sc.2, q⟩
          · rw [if_neg sc] at e0; cases e0
        · cases e0
    · rename_i ts
      split at e0
      · rename_i x' vs h1 h2
        cases e0
        obtain ⟨rfl, f1⟩ := ra.flat h1
        unfold RepT at rb
        obtain ⟨A, ws, rfl, sq, rs⟩ := rb
        obtain ⟨rfl, f2⟩ := rs.flat h2
        exact op_notIn_seq pins s σ H _ _ v u Q I rx ry ⟨A, ws, rfl, .inr (by rw [hK]; exact sq), f1, f2, q⟩
      · cases e0
    · cases e0
theorem cmp_lt {op : CmpOp} {p : Int → Int → Bool} (ho : OpR X (compareOp op) (rI0 fun i j => .bl (p i j))) (hp : ∀ a b, cmpT op a b = ltT p a b) : OpR X (compareOp op) (rCmp g op) := by
  intro pins s σ H x y v u Q I rx ry h
  obtain ⟨a, b, k, ra, rb, e, q⟩ := h
  rw [hp] at e
  unfold ltT at e
  split at e
  · cases e
    unfold RepT at ra rb
    exact ho pins s σ H x y v u Q I rx ry ⟨_, _, ra, rb, q⟩
  · cases e
/-- every comparison -/
theorem cmp_all (hK : X.K = g.K) (hu : X.A.units + 65 < cLine) : ∀ op, OpR X (compareOp op) (rCmp g op)
  | .Eq => cmp_eq hK hu
  | .NotEq => cmp_ne hK hu
  | .Lt => cmp_lt op_lt fun _ _ => rfl
  | .LtE => cmp_lt op_le fun _ _ => rfl
  | .Gt => cmp_lt op_gt fun _ _ => rfl
  | .GtE => cmp_lt op_ge fun _ _ => rfl
  | .In => cmp_in hK hu
  | .NotIn => cmp_notin hK hu
  | .Is => by
    intro pins s σ H x y v u Q I rx ry h
    obtain ⟨a, b, k, ra, rb, e, q⟩ := h
    have e : (if isNon b = true then some (isNon a) else none) = some k := e
    by_cases hb : isNon b = true
    · rw [if_pos hb] at e; cases e
      have : y = .non := by have := rb.isNon; rw [hb] at this; exact of_decide_eq_true this
      exact op_isN pins s σ H x y v u Q I rx ry ⟨this, by rw [ra.isNon]; exact q⟩
    · rw [if_neg hb] at e; cases e
  | .IsNot => by
    intro pins s σ H x y v u Q I rx ry h
    obtain ⟨a, b, k, ra, rb, e, q⟩ := h
    have e : (if isNon b = true then some (!isNon a) else none) = some k := e
    by_cases hb : isNon b = true
    · rw [if_pos hb] at e; cases e
      have : y = .non := by have := rb.isNon; rw [hb] at this; exact of_decide_eq_true this
      exact op_notN pins s σ H x y v u Q I rx ry ⟨this, by rw [ra.isNon]; exact q⟩
    · rw [if_neg hb] at e; cases e

/-! ### a op b, a op b op c: views -/
def bCmp (op : CmpOp) (p q : DV) : DB := fun e => match p e, q e with
  | some a, some b => cmpT op a b
  | _, _ => none
def vOfB (d : DB) : DV := fun e => (d e).map T.bl
variable {a b c : Expr} {pos : Pos}
theorem rd_cmp {op : CmpOp} {p q : DV} {ta tb : TE} {σ : St} {H : Hp} {Q : VK} (hta : ∀ σ H Q, rdQ g p σ H Q → ta σ H Q) (htb : ∀ σ H Q, rdQ g q σ H Q → tb σ H Q)
    (h : ∃ G env f k, Stt g G H σ env f ∧ bCmp op p q env = some k ∧ ∀ G' H', Grow G H G' H' → Q (.bl k) H') : tOp (rCmp g op) ta tb σ H Q := by
  obtain ⟨G, env, f, k, S, ht, k1⟩ := h
  unfold bCmp at ht
  split at ht
  · rename_i x y h1 h2
    refine hta σ H _ ⟨G, env, f, x, S, h1, fun G1 H1 v w1 r1 => ?_⟩
    refine htb σ H1 _ ⟨G1, env, f, y, S.grow w1, h2, fun G2 H2 u w2 r2 => ?_⟩
    exact ⟨x, y, k, r1.mono g w2.hm, r2, ht, k1 G2 H2 (w1.trans w2)⟩
  · cases ht
theorem pt_cmpv (hK : X.K = g.K) (hu : X.A.units + 65 < cLine) {op : CmpOp} {p q : DV} (ha : PE X a (rdQ g p)) (hb : PE X b (rdQ g q)) (hm : behindInMarks op b = false) : PT X (.Compare a [op] [b] pos) (rdB g (bCmp op p q)) :=
  impT (pt_cmpR (cmp_all hK hu op) ha hb hm) fun σ H Q ⟨G, env, f, k, S, ht, k1⟩ =>
    rd_cmp (Q := fun x H' => ∃ k, x = .bl k ∧ Q k H') (fun _ _ _ z => z) (fun _ _ _ z => z) ⟨G, env, f, k, S, ht, fun G' H' w => ⟨k, rfl, k1 G' H' w⟩⟩
theorem pv_cmpv (hK : X.K = g.K) (hu : X.A.units + 65 < cLine) {op : CmpOp} {p q : DV} (ha : PE X a (rdQ g p)) (hb : PE X b (rdQ g q)) (hm : behindInMarks op b = false) : PE X (.Compare a [op] [b] pos) (rdV g (vOfB (bCmp op p q))) :=
  impE (pe_cmpR (cmp_all hK hu op) ha hb hm) fun σ H Q ⟨G, env, f, t, S, ht, k1⟩ => by
    unfold vOfB at ht
    cases e : bCmp op p q env with
    | none => rw [e] at ht; cases ht
    | some k =>
      rw [e] at ht; cases ht
      exact rd_cmp (fun _ _ _ z => z) (fun _ _ _ z => z) ⟨G, env, f, k, S, e, fun G' H' w => k1 G' H' _ w RepT.bl⟩
def bChain (op op' : CmpOp) (p q r : DV) : DB := fun e => match p e, q e with
  | some a, some b => (match cmpT op a b with
    | some true => (match r e with
      | some c => cmpT op' b c
      | none => none)
    | some false => some false
    | none => none)
  | _, _ => none
theorem rd_chain {op op' : CmpOp} {p q r : DV} {σ : St} {H : Hp} {Q : VK}
    (h : ∃ G env f k, Stt g G H σ env f ∧ bChain op op' p q r env = some k ∧ ∀ G' H', Grow G H G' H' → Q (.bl k) H') : tChain (rCmp g op) (rCmp g op') (rdQ g p) (rdQ g q) (rdQ g r) σ H Q := by
  obtain ⟨G, env, f, k, S, ht, k1⟩ := h
  unfold bChain at ht
  split at ht
  · rename_i x y h1 h2
    refine ⟨G, env, f, x, S, h1, fun G1 H1 v w1 r1 => ?_⟩
    refine ⟨G1, env, f, y, S.grow w1, h2, fun G2 H2 u w2 r2 => ?_⟩
    split at ht
    · rename_i hc
      refine ⟨x, y, true, r1.mono g w2.hm, r2, hc, true, rfl, ?_⟩
      refine iteT ?_
      split at ht
      · rename_i z hz
        refine ⟨G2, env, f, z, S.grow (w1.trans w2), hz, fun G3 H3 u3 w3 r3 => ?_⟩
        exact ⟨y, z, k, r2.mono g w3.hm, r3, ht, k1 G3 H3 ((w1.trans w2).trans w3)⟩
      · cases ht
    · rename_i hc
      cases ht
      exact ⟨x, y, false, r1.mono g w2.hm, r2, hc, false, rfl, iteF (k1 G2 H2 (w1.trans w2))⟩
    · cases ht
  · cases ht
theorem pt_chainv (hK : X.K = g.K) (hu : X.A.units + 65 < cLine) {op op' : CmpOp} {p q r : DV} (ha : PE X a (rdQ g p)) (hb : PE X b (rdQ g q)) (hc : PE X c (rdQ g r)) (hm : lastMarks [op, op'] [b, c] = false) :
    PT X (.Compare a [op, op'] [b, c] pos) (rdB g (bChain op op' p q r)) :=
  impT (pt_chain (cmp_all hK hu op) (cmp_all hK hu op') ha hb hc hm) fun σ H Q ⟨G, env, f, k, S, ht, k1⟩ =>
    rd_chain (Q := fun x H' => ∃ k, x = .bl k ∧ Q k H') ⟨G, env, f, k, S, ht, fun G' H' w => ⟨k, rfl, k1 G' H' w⟩⟩
theorem pv_chainv (hK : X.K = g.K) (hu : X.A.units + 65 < cLine) {op op' : CmpOp} {p q r : DV} (ha : PE X a (rdQ g p)) (hb : PE X b (rdQ g q)) (hc : PE X c (rdQ g r)) (hm : lastMarks [op, op'] [b, c] = false) :
    PE X (.Compare a [op, op'] [b, c] pos) (rdV g (vOfB (bChain op op' p q r))) :=
  impE (pe_chain (cmp_all hK hu op) (cmp_all hK hu op') ha hb hc hm) fun σ H Q ⟨G, env, f, t, S, ht, k1⟩ => by
    unfold vOfB at ht
    cases e : bChain op op' p q r env with
    | none => rw [e] at ht; cases ht
    | some k =>
      rw [e] at ht; cases ht
      exact rd_chain ⟨G, env, f, k, S, e, fun G' H' w => k1 G' H' _ w RepT.bl⟩

/-! ### and, or, not: pure -/
def bNot (d : DB) : DB := fun e => (d e).map (!·)
def bAnd (d k : DB) : DB := fun e => match d e with
  | some true => k e
  | some false => some false
  | none => none
def bOr (d k : DB) : DB := fun e => match d e with
  | some false => k e
  | some true => some true
  | none => none
theorem ptb_not {d : DB} (h : PT X a (rdB g d)) : PT X (.UnaryOp .Not a pos) (rdB g (bNot d)) := impT (pt_not h) fun σ H Q ⟨G, env, f, k, S, ht, k1⟩ => by
  unfold bNot at ht
  cases e : d env with
  | none => rw [e] at ht; cases ht
  | some b => rw [e] at ht; cases ht; exact ⟨G, env, f, b, S, e, fun G' H' w => k1 G' H' w⟩
theorem pwb_one {op : BoolOp} {d : DB} (h : PT X a (rdB g d)) : PW X (.BoolOp op [a] pos) (rdB g d) := by
  cases op
  · exact pw_and1 h
  · exact pw_or1 h
theorem pwb_and {d k : DB} {rest : List Expr} (ha : PT X a (rdB g d)) (hb : PW X (.BoolOp .And (b :: rest) pos) (rdB g k)) : PW X (.BoolOp .And (a :: b :: rest) pos) (rdB g (bAnd d k)) :=
  impW (pw_and ha hb) fun σ H Q ⟨G, env, f, r, S, ht, k1⟩ => by
    unfold bAnd at ht
    split at ht
    · rename_i e
      exact ⟨G, env, f, true, S, e, fun G' H' w => iteT ⟨G', env, f, r, S.grow w, ht, fun G2 H2 w2 => k1 G2 H2 (w.trans w2)⟩⟩
    · rename_i e
      cases ht
      exact ⟨G, env, f, false, S, e, fun G' H' w => iteF (k1 G' H' w)⟩
    · cases ht
theorem pwb_or {d k : DB} {rest : List Expr} (ha : PT X a (rdB g d)) (hb : PW X (.BoolOp .Or (b :: rest) pos) (rdB g k)) : PW X (.BoolOp .Or (a :: b :: rest) pos) (rdB g (bOr d k)) :=
  impW (pw_or ha hb) fun σ H Q ⟨G, env, f, r, S, ht, k1⟩ => by
    unfold bOr at ht
    split at ht
    · rename_i e
      exact ⟨G, env, f, false, S, e, fun G' H' w => iteF ⟨G', env, f, r, S.grow w, ht, fun G2 H2 w2 => k1 G2 H2 (w.trans w2)⟩⟩
    · rename_i e
      cases ht
      exact ⟨G, env, f, true, S, e, fun G' H' w => iteT (k1 G' H' w)⟩
    · cases ht
/-- as values -/
theorem pvb_not {d : DB} (h : PE X a (rdV g (vOfB d))) : PE X (.UnaryOp .Not a pos) (rdV g (vOfB (bNot d))) := impE (pe_not h) fun σ H Q ⟨G, env, f, t, S, ht, k1⟩ => by
  unfold vOfB bNot at ht
  cases e : d env with
  | none => rw [e] at ht; cases ht
  | some b =>
    rw [e] at ht; cases ht
    refine ⟨G, env, f, .bl b, S, by unfold vOfB; rw [e]; rfl, fun G' H' v w r => ?_⟩
    unfold RepT at r
    exact ⟨b, r, k1 G' H' _ w RepT.bl⟩
theorem pvb_one {op : BoolOp} {d : DB} (h : PE X a (rdV g (vOfB d))) : PE X (.BoolOp op [a] pos) (rdV g (vOfB d)) := pe_one h
theorem pvb_and {d k : DB} {rest : List Expr} (ha : PE X a (rdV g (vOfB d))) (hb : PE X (.BoolOp .And (b :: rest) pos) (rdV g (vOfB k))) : PE X (.BoolOp .And (a :: b :: rest) pos) (rdV g (vOfB (bAnd d k))) :=
  impE (pe_and ha hb) fun σ H Q ⟨G, env, f, t, S, ht, k1⟩ => by
    unfold vOfB bAnd at ht
    split at ht
    · rename_i e
      refine ⟨G, env, f, .bl true, S, by unfold vOfB; rw [e]; rfl, fun G' H' v w r => ?_⟩
      unfold RepT at r
      exact ⟨true, r, iteT ⟨G', env, f, t, S.grow w, ht, fun G2 H2 v2 w2 r2 => k1 G2 H2 v2 (w.trans w2) r2⟩⟩
    · rename_i e
      cases ht
      refine ⟨G, env, f, .bl false, S, by unfold vOfB; rw [e]; rfl, fun G' H' v w r => ?_⟩
      unfold RepT at r
      exact ⟨false, r, iteF (k1 G' H' _ w RepT.bl)⟩
    · cases ht
theorem pvb_or {d k : DB} {rest : List Expr} (ha : PE X a (rdV g (vOfB d))) (hb : PE X (.BoolOp .Or (b :: rest) pos) (rdV g (vOfB k))) : PE X (.BoolOp .Or (a :: b :: rest) pos) (rdV g (vOfB (bOr d k))) :=
  impE (pe_or ha hb) fun σ H Q ⟨G, env, f, t, S, ht, k1⟩ => by
    unfold vOfB bOr at ht
    split at ht
    · rename_i e
      refine ⟨G, env, f, .bl false, S, by unfold vOfB; rw [e]; rfl, fun G' H' v w r => ?_⟩
      unfold RepT at r
      exact ⟨false, r, iteF ⟨G', env, f, t, S.grow w, ht, fun G2 H2 v2 w2 r2 => k1 G2 H2 v2 (w.trans w2) r2⟩⟩
    · rename_i e
      cases ht
      refine ⟨G, env, f, .bl true, S, by unfold vOfB; rw [e]; rfl, fun G' H' v w r => ?_⟩
      unfold RepT at r
      exact ⟨true, r, iteT (k1 G' H' _ w RepT.bl)⟩
    · cases ht
end
end VS
namespace VS
open PySem L2
variable {g : Gl0}

def lim : Nat := 100000
theorem lim_le : lim ≤ sizeLine := by rw [sizeLine_eq]; decide

/-! ### a fresh thing is frozen -/
theorem freshFrz {G H G1 H1 : Hp} {o : O} {v : V} {fo : FP} (s1 : Sub G1 H1) (st : Step G H fp0 G1 H1 fo) (r : RepO g G1 H1 o v fo) (no : ∀ a, fo a ≠ 0 → G1 a = none) :
    ∃ G2, Grow G H G2 H1 ∧ RepT g G2 o.fz v ∧ Sub G1 G2 := by
  classical
  let G2 : Hp := fun a => if fo a ≠ 0 then H1 a else G1 a
  have h1 : Sub G1 G2 := fun a u h => by
    show (if fo a ≠ 0 then H1 a else G1 a) = some u
    by_cases z : fo a ≠ 0
    · rw [no a z] at h; cases h
    · rw [if_neg z]; exact h
  have h2 : Sub G2 H1 := fun a u h => by
    have h' : (if fo a ≠ 0 then H1 a else G1 a) = some u := h
    by_cases z : fo a ≠ 0
    · rw [if_pos z] at h'; exact h'
    · rw [if_neg z] at h'; exact s1 a u h'
  refine ⟨G2, ⟨st.gm.trans h1, fun a o h => st.keep a o h rfl, fun a h => ?_, h2⟩, RepO.view g h1 r fun a ha u q => ?_, h1⟩
  · have h' : (if fo a ≠ 0 then H1 a else G1 a) ≠ none := h
    by_cases z : fo a ≠ 0
    · rcases st.own a z with q | q
      · exact absurd rfl q
      · exact .inr q
    · rw [if_neg z] at h'
      rcases st.gn a h' with q | q | q
      · exact .inl q
      · exact absurd rfl q
      · exact .inr q
  · show (if fo a ≠ 0 then H1 a else G1 a) = some u
    rw [if_pos ha]; exact q

/-! ### arguments: frozen, looked at -/
abbrev DVs := Env → Option (List T)
def rdAV (g : Gl0) (d : DVs) : TA := fun σ H Q => ∃ G e f ts, Stt g G H σ e f ∧ d e = some ts ∧ ∀ G' H' vs, Grow G H G' H' → RepTs g G' ts vs → Q vs H'
def rdAQ (g : Gl0) (d : DVs) : TA := fun σ H Q => ∃ G e f ts, Stt g G H σ e f ∧ d e = some ts ∧ ∀ G' H' vs, Grow G H G' H' → RepTs g H' ts vs → Q vs H'
def asNil : DVs := fun _ => some []
def asCons (d : DV) (r : DVs) : DVs := fun e => match d e, r e with
  | some t, some ts => some (t :: ts)
  | _, _ => none
theorem impA {X : Cx} {e : List Expr} {t u : TA} (h : PA X e t) (k : ∀ σ H Q, u σ H Q → t σ H Q) : PA X e u := ⟨fun p pins s σ H Q I q => h.run p pins s σ H Q I (k σ H Q q)⟩
section
variable {X : Cx} {a : Expr} {es : List Expr}
theorem RepTs.nil {G : Hp} : RepTs g G [] [] := by unfold RepTs; rfl
theorem RepTs.cons {G : Hp} {t : T} {ts : List T} {v : V} {vs : List V} (h : RepT g G t v) (k : RepTs g G ts vs) : RepTs g G (t :: ts) (v :: vs) := by unfold RepTs; exact ⟨v, vs, rfl, h, k⟩
theorem pav_nil : PA X [] (rdAV g asNil) := impA pa_nil fun σ H Q ⟨G, env, f, ts, S, ht, k⟩ => by
  cases ht
  exact k G H [] (Grow.refl S.sub) RepTs.nil
theorem paq_nil : PA X [] (rdAQ g asNil) := impA pa_nil fun σ H Q ⟨G, env, f, ts, S, ht, k⟩ => by
  cases ht
  exact k G H [] (Grow.refl S.sub) RepTs.nil
theorem pav_cons {d : DV} {r : DVs} (h1 : PE X a (rdV g d)) (h2 : PA X es (rdAV g r)) (hs : starEach (a :: es) X.env = (false, eval a X.env) :: starEach es X.env) : PA X (a :: es) (rdAV g (asCons d r)) :=
  impA (pa_cons h1 h2 hs) fun σ H Q ⟨G, env, f, ts, S, ht, k⟩ => by
    unfold asCons at ht
    split at ht
    · rename_i t us e1 e2
      cases ht
      exact ⟨G, env, f, t, S, e1, fun G1 H1 v w1 r1 => ⟨G1, env, f, us, S.grow w1, e2, fun G2 H2 vs w2 r2 => k G2 H2 _ (w1.trans w2) (RepTs.cons (r1.mono g w2.gm) r2)⟩⟩
    · cases ht
theorem paq_cons {d : DV} {r : DVs} (h1 : PE X a (rdQ g d)) (h2 : PA X es (rdAQ g r)) (hs : starEach (a :: es) X.env = (false, eval a X.env) :: starEach es X.env) : PA X (a :: es) (rdAQ g (asCons d r)) :=
  impA (pa_cons h1 h2 hs) fun σ H Q ⟨G, env, f, ts, S, ht, k⟩ => by
    unfold asCons at ht
    split at ht
    · rename_i t us e1 e2
      cases ht
      exact ⟨G, env, f, t, S, e1, fun G1 H1 v w1 r1 => ⟨G1, env, f, us, S.grow w1, e2, fun G2 H2 vs w2 r2 => k G2 H2 _ (w1.trans w2) (RepTs.cons (r1.mono g w2.hm) r2)⟩⟩
    · cases ht
end

/-! ### tuples and lists, written -/
def vTup (r : DVs) : DV := fun e => match r e with
  | some ts => if ts.length ≤ lim then some (.tup ts) else none
  | none => none
def vLst (r : DVs) : DV := fun e => match r e with
  | some ts => if ts.length ≤ lim then some (.lst ts) else none
  | none => none
theorem RepT.tup {G : Hp} {a : Addr} {ts : List T} {vs : List V} (h : G a = some (.tup vs)) (r : RepTs g G ts vs) : RepT g G (.tup ts) (.ref a) := by unfold RepT; exact ⟨a, vs, rfl, SqT.of h, r⟩
theorem RepT.lst {G : Hp} {a : Addr} {ts : List T} {vs : List V} (h : G a = some (.lst vs)) (r : RepTs g G ts vs) : RepT g G (.lst ts) (.ref a) := by unfold RepT; exact ⟨a, vs, rfl, h, r⟩
section
variable {X : Cx} {es : List Expr} {pos : Pos}
theorem pv_tup {k0} {r : DVs} (h : PA X es (rdAV g r)) : PE X (.Tuple es k0 pos) (rdV g (vTup r)) := impE (pe_tup h) fun σ H Q ⟨G, env, f, t, S, ht, k⟩ => by
  unfold vTup at ht
  split at ht
  · rename_i ts e1
    by_cases hl : ts.length ≤ lim
    · rw [if_pos hl] at ht; cases ht
      refine ⟨G, env, f, ts, S, e1, fun G1 H1 vs w1 r1 => ⟨?_, fun p hp => ?_⟩⟩
      · rw [← r1.length g]; exact Nat.le_trans hl lim_le
      · have w2 := Grow.newT w1.s' hp (.tup vs)
        exact k _ _ _ (w1.trans w2) (RepT.tup upd_same (r1.mono g w2.gm))
    · rw [if_neg hl] at ht; cases ht
  · cases ht
theorem pv_lst {r : DVs} (h : PA X es (rdAV g r)) : PE X (.List es pos) (rdV g (vLst r)) := impE (pe_lst h) fun σ H Q ⟨G, env, f, t, S, ht, k⟩ => by
  unfold vLst at ht
  split at ht
  · rename_i ts e1
    by_cases hl : ts.length ≤ lim
    · rw [if_pos hl] at ht; cases ht
      refine ⟨G, env, f, ts, S, e1, fun G1 H1 vs w1 r1 => ⟨?_, fun p hp => ?_⟩⟩
      · rw [← r1.length g]; exact Nat.le_trans hl lim_le
      · have w2 := Grow.newT w1.s' hp (.lst vs)
        exact k _ _ _ (w1.trans w2) (RepT.lst upd_same (r1.mono g w2.gm))
    · rw [if_neg hl] at ht; cases ht
  · cases ht
end

/-! ### arithmetic, joining -/
/-- what an operation on frozen things gives: o new (or frozen) -/
def Res (g : Gl0) (G H : Hp) (o : O) (Q : VK) : Prop := ∀ G' H' v fo, Grow G H G' H' → RepO g G' H' o v fo → (∀ a, fo a ≤ 1) → (∀ a, fo a ≠ 0 → G' a = none ∧ H a = none) → Q v H'
theorem Res.val {G H : Hp} {t : T} {v : V} {Q : VK} (s : Sub G H) (q : Res g G H (.val t) Q) (r : RepT g G t v) : Q v H :=
  q G H v fp0 (Grow.refl s) (by unfold RepO; exact ⟨r, rfl⟩) (fun _ => Nat.zero_le _) (fun a h => absurd rfl h)
theorem Res.newT {G H : Hp} {t : T} {p : Addr} {ho : HO} {Q : VK} (s : Sub G H) (q : Res g G H (.val t) Q) (hp : H p = none) (r : RepT g (upd G p ho) t (.ref p)) : Q (.ref p) (upd H p ho) :=
  q _ _ _ fp0 (Grow.newT s hp ho) (by unfold RepO; exact ⟨r, rfl⟩) (fun _ => Nat.zero_le _) (fun a h => absurd rfl h)
/-- a new list of frozen items -/
theorem Res.newL {G H : Hp} {ts : List T} {vs : List V} {p : Addr} {Q : VK} (s : Sub G H) (q : Res g G H (.lst (ts.map O.val)) Q) (hp : H p = none) (r : RepTs g G ts vs) : Q (.ref p) (upd H p (.lst vs)) :=
  q _ _ _ (fpA (fp1 p) fp0) (Grow.newO s hp _) (by unfold RepO; exact ⟨p, vs, fp0, rfl, upd_same, rfl, RepOs.vals g r⟩) (fun a => by simp only [fpA, fp1, fp0]; split <;> omega) (fun a h => by
    have e : a = p := by
      simp only [fpA, fp1, fp0] at h
      by_cases z : a = p
      · exact z
      · rw [if_neg z] at h; exact absurd rfl h
    subst e
    exact ⟨s.noneOf hp, hp⟩)
def mulOk (i j : Int) : Bool := (decide (-(2 ^ 64) < i) && decide (i < 2 ^ 64)) || (decide (-(2 ^ 64) < j) && decide (j < 2 ^ 64))
def binT (op : Operator) (a b : T) : Option O :=
  match op, a, b with
  | .Add, .int i, .int j => some (.val (.int (i + j)))
  | .Sub, .int i, .int j => some (.val (.int (i - j)))
  | .Mult, .int i, .int j => if mulOk i j = true then some (.val (.int (i * j))) else none
  | .FloorDiv, .int i, .int j => if 0 < j ∧ j < 1073741824 then some (.val (.int (i / j))) else none
  | .Mod, .int i, .int j => if 0 < j then some (.val (.int (i % j))) else none
  | .Pow, .int i, .int j => if 0 ≤ j ∧ j ≤ 1000000 ∧ i.natAbs < 2 ^ 64 then some (.val (.int (i ^ j.toNat))) else none
  | .Add, .tup xs, .tup ys => if xs.length + ys.length ≤ lim then some (.val (.tup (xs ++ ys))) else none
  | .Add, .lst xs, .lst ys => if xs.length + ys.length ≤ lim then some (.lst ((xs ++ ys).map O.val)) else none
  | .Add, .str x, .str y => if x.length + y.length ≤ lim then some (.val (.str (x ++ y))) else none
  | _, _, _ => none
section
variable {X : Cx}
def rBin (g : Gl0) (op : Operator) : R2 := fun x y H Q => ∃ G a b o, Sub G H ∧ RepT g G a x ∧ RepT g G b y ∧ binT op a b = some o ∧ Res g G H o Q
theorem bin_all (hK : X.K = g.K) : ∀ op, OpR X (binaryOp op) (rBin g op) := by
  intro op pins s σ H x y v u Q I rx ry h
  obtain ⟨G, a, b, o, sg, ra, rb, e, q⟩ := h
  unfold binT at e
  split at e
  · cases e
    unfold RepT at ra rb
    exact op_add pins s σ H x y v u Q I rx ry ⟨_, _, ra, rb, q.val sg RepT.int⟩
  · cases e
    unfold RepT at ra rb
    exact op_sub pins s σ H x y v u Q I rx ry ⟨_, _, ra, rb, q.val sg RepT.int⟩
  · rename_i i j
    by_cases hc : mulOk i j = true
    · rw [if_pos hc] at e; cases e
      unfold RepT at ra rb
      refine op_mul pins s σ H x y v u Q I rx ry ⟨_, _, ra, rb, ?_, q.val sg RepT.int⟩
      unfold mulOk at hc
      simp only [Bool.or_eq_true, Bool.and_eq_true, decide_eq_true_eq] at hc
      exact hc
    · rw [if_neg hc] at e; cases e
  · rename_i i j
    by_cases hc : 0 < j ∧ j < 1073741824
    · rw [if_pos hc] at e; cases e
      unfold RepT at ra rb
      exact op_fdiv pins s σ H x y v u Q I rx ry ⟨_, _, ra, rb, hc, q.val sg RepT.int⟩
    · rw [if_neg hc] at e; cases e
  · rename_i i j
    by_cases hc : 0 < j
    · rw [if_pos hc] at e; cases e
      unfold RepT at ra rb
      exact op_mod pins s σ H x y v u Q I rx ry ⟨_, _, ra, rb, hc, q.val sg RepT.int⟩
    · rw [if_neg hc] at e; cases e
  · rename_i i j
    by_cases hc : 0 ≤ j ∧ j ≤ 1000000 ∧ i.natAbs < 2 ^ 64
    · rw [if_pos hc] at e; cases e
      unfold RepT at ra rb
      exact op_pow pins s σ H x y v u Q I rx ry ⟨_, _, ra, rb, hc, q.val sg RepT.int⟩
    · rw [if_neg hc] at e; cases e
  · rename_i xs ys
    by_cases hc : xs.length + ys.length ≤ lim
    · rw [if_pos hc] at e; cases e
      unfold RepT at ra rb
      obtain ⟨A, vs, rfl, qa, ra⟩ := ra
      obtain ⟨B, ws, rfl, qb, rb⟩ := rb
      refine op_catA pins s σ H _ _ v u Q I rx ry ⟨A, B, vs, ws, rfl, rfl, by rw [hK]; exact sg.sqT qa, by rw [hK]; exact sg.sqT qb, by rw [← ra.length g, ← rb.length g]; exact Nat.le_trans hc lim_le, fun z => ?_, fun _ z => ?_, fun _ _ p hp => ?_⟩
      · subst z
        have : xs = [] := List.length_eq_zero_iff.mp (ra.length g)
        subst this
        exact q.val sg (by unfold RepT; exact ⟨B, ws, rfl, qb, rb⟩)
      · subst z
        have : ys = [] := List.length_eq_zero_iff.mp (rb.length g)
        subst this
        rw [List.append_nil] at q
        exact q.val sg (by unfold RepT; exact ⟨A, vs, rfl, qa, ra⟩)
      · exact q.newT sg hp (RepT.tup upd_same ((ra.append g rb).mono g (Sub.new (sg.noneOf hp))))
    · rw [if_neg hc] at e; cases e
  · rename_i xs ys
    by_cases hc : xs.length + ys.length ≤ lim
    · rw [if_pos hc] at e; cases e
      unfold RepT at ra rb
      obtain ⟨A, vs, rfl, qa, ra⟩ := ra
      obtain ⟨B, ws, rfl, qb, rb⟩ := rb
      refine op_cat pins s σ H _ _ v u Q I rx ry ⟨A, B, vs, ws, rfl, rfl, sg _ _ qa, sg _ _ qb, by rw [← ra.length g, ← rb.length g]; exact Nat.le_trans hc lim_le, fun p hp => ?_⟩
      exact q.newL sg hp (ra.append g rb)
    · rw [if_neg hc] at e; cases e
  · rename_i x' y'
    by_cases hc : x'.length + y'.length ≤ lim
    · rw [if_pos hc] at e; cases e
      unfold RepT at ra rb
      exact op_add_str pins s σ H x y v u Q I rx ry ⟨_, _, ra, rb, Nat.le_trans hc lim_le, q.val sg RepT.str⟩
    · rw [if_neg hc] at e; cases e
  · cases e
/-- what Res gives to one who freezes it -/
theorem Res.frz {G H : Hp} {o : O} {Q : VK} (h : ∀ G' H' v, Grow G H G' H' → RepT g G' o.fz v → Q v H') : Res g G H o Q := fun G1 H1 v fo w r one no => by
  have st : Step G H fp0 G1 H1 fo := ⟨w.gm, fun a u z _ => w.hm a u z, fun a z => .inr (no a z).2, fun a z => (w.gn a z).elim .inl fun q => .inr (.inr q), fun _ z => w.hm.dom z⟩
  obtain ⟨G2, w2, r2, _⟩ := freshFrz w.s' st r fun a z => (no a z).1
  exact h G2 H1 v w2 r2
def vBin (op : Operator) (p q : DV) : DV := fun e => match p e, q e with
  | some a, some b => (binT op a b).map O.fz
  | _, _ => none
variable {a b : Expr} {pos : Pos}
theorem pv_bin (hK : X.K = g.K) {op : Operator} {p q : DV} (ha : PE X a (rdV g p)) (hb : PE X b (rdV g q)) : PE X (.BinOp a op b pos) (rdV g (vBin op p q)) :=
  impE (pe_op (bin_all hK op) ha hb) fun σ H Q ⟨G, env, f, t, S, ht, k⟩ => by
    unfold vBin at ht
    split at ht
    · rename_i x y h1 h2
      cases e : binT op x y with
      | none => rw [e] at ht; cases ht
      | some o =>
        rw [e] at ht; cases ht
        refine ⟨G, env, f, x, S, h1, fun G1 H1 v w1 r1 => ⟨G1, env, f, y, S.grow w1, h2, fun G2 H2 u w2 r2 => ?_⟩⟩
        exact ⟨G2, x, y, o, w2.s', r1.mono g w2.gm, r2, e, Res.frz fun G3 H3 v3 w3 r3 => k G3 H3 v3 ((w1.trans w2).trans w3) r3⟩
    · cases ht
def vNeg (p : DV) : DV := fun e => match p e with
  | some (.int i) => some (.int (-i))
  | _ => none
theorem pv_neg {p : DV} (ha : PE X a (rdV g p)) : PE X (.UnaryOp .USub a pos) (rdV g (vNeg p)) := impE (pe_un un_neg ha) fun σ H Q ⟨G, env, f, t, S, ht, k⟩ => by
  unfold vNeg at ht
  split at ht
  · rename_i i h1
    cases ht
    refine ⟨G, env, f, _, S, h1, fun G1 H1 v w1 r1 => ?_⟩
    unfold RepT at r1
    exact ⟨i, r1, k G1 H1 _ w1 RepT.int⟩
  · cases ht
def vIf (c : DB) (p q : DV) : DV := fun e => match c e with
  | some true => p e
  | some false => q e
  | none => none
theorem pv_if {c : Expr} {d : DB} {p q : DV} (hc : PT X c (rdB g d)) (ha : PE X a (rdV g p)) (hb : PE X b (rdV g q)) : PE X (.IfExp c a b pos) (rdV g (vIf d p q)) :=
  impE (pe_ifExp hc ha hb) fun σ H Q ⟨G, env, f, t, S, ht, k⟩ => by
    unfold vIf at ht
    split at ht
    · rename_i h1
      exact ⟨G, env, f, true, S, h1, fun G1 H1 w1 => iteT ⟨G1, env, f, t, S.grow w1, ht, fun G2 H2 v w2 r => k G2 H2 v (w1.trans w2) r⟩⟩
    · rename_i h1
      exact ⟨G, env, f, false, S, h1, fun G1 H1 w1 => iteF ⟨G1, env, f, t, S.grow w1, ht, fun G2 H2 v w2 r => k G2 H2 v (w1.trans w2) r⟩⟩
    · cases ht
end

/-! ### slices -/
def cutT (xs : List T) (lo hi : Option Int) : List T := (xs.drop (HT.sIx xs.length 0 lo)).take (HT.sIx xs.length xs.length hi - HT.sIx xs.length 0 lo)
theorem RepTs.cut {G : Hp} {xs : List T} {vs : List V} (r : RepTs g G xs vs) (l1 l2 : Option Int) : RepTs g G (cutT xs l1 l2) (cutV vs l1 l2) := by
  unfold cutT cutV
  rw [← r.length g]
  exact (r.drop g _).take g _
abbrev DO := Env → Option (Option Int)
def rdO (g : Gl0) (d : DO) : TO := fun σ H Q => ∃ G e f o, Stt g G H σ e f ∧ d e = some o ∧ ∀ G' H', Grow G H G' H' → Q o H'
def oNone : DO := fun _ => some none
def oSome (d : DV) : DO := fun e => match d e with
  | some (.int i) => some (some i)
  | _ => none
def vCut (p : DV) (lo hi : DO) : DV := fun e => match p e, lo e, hi e with
  | some (.tup xs), some l, some h => some (.tup (cutT xs l h))
  | some (.lst xs), some l, some h => some (.lst (cutT xs l h))
  | _, _, _ => none
section
variable {X : Cx} {a : Expr} {lo hi : Option Expr} {pos p2 : Pos}
theorem impO {X : Cx} {e : Option Expr} {t u : TO} (h : PO X e t) (k : ∀ σ H Q, u σ H Q → t σ H Q) : PO X e u := ⟨fun pins s σ H Q I q => h.run pins s σ H Q I (k σ H Q q)⟩
theorem poN : PO X none (rdO g oNone) := impO po_none fun σ H Q ⟨G, e, f, o, S, ht, k⟩ => by cases ht; exact k G H (Grow.refl S.sub)
theorem poS {d : DV} (h : PE X a (rdV g d)) : PO X (some a) (rdO g (oSome d)) := impO (po_some h) fun σ H Q ⟨G, e, f, o, S, ht, k⟩ => by
  unfold oSome at ht
  split at ht
  · rename_i i h1
    cases ht
    refine ⟨G, e, f, _, S, h1, fun G1 H1 v w1 r1 => ?_⟩
    unfold RepT at r1
    exact ⟨i, r1, k G1 H1 w1⟩
  · cases ht
theorem pv_cut (hK : X.K = g.K) {p : DV} {l h : DO} (he : PE X a (rdV g p)) (hl : PO X lo (rdO g l)) (hh : PO X hi (rdO g h)) : PE X (.Subscript a (.Slice lo hi none p2) pos) (rdV g (vCut p l h)) :=
  impE (pe_slice (sl_tupA.or sl_list) he hl hh) fun σ H Q ⟨G, env, f, t, S, ht, k⟩ => by
    unfold vCut at ht
    split at ht
    · rename_i xs l1 l2 h1 h2 h3
      cases ht
      refine ⟨G, env, f, _, S, h1, fun G1 H1 v w1 r1 => ⟨G1, env, f, _, S.grow w1, h2, fun G2 H2 w2 => ⟨G2, env, f, _, S.grow (w1.trans w2), h3, fun G3 H3 w3 => ?_⟩⟩⟩
      have w := (w1.trans w2).trans w3
      have r3 := r1.mono g (w2.gm.trans w3.gm)
      unfold RepT at r3
      obtain ⟨A, vs, rfl, qa, ra⟩ := r3
      have hl := ra.length g
      refine .inl ⟨A, vs, rfl, by rw [hK]; exact w3.s'.sqT qa, fun z => ?_, fun _ q hq => ?_⟩
      · refine k G3 H3 _ w ?_
        have : cutT xs l1 l2 = xs := by
          unfold cutT
          rw [hl, z.1, z.2, List.drop_zero, Nat.sub_zero, ← hl, List.take_length]
        rw [this]
        unfold RepT
        exact ⟨A, vs, rfl, qa, ra⟩
      · have w4 := Grow.newT w3.s' hq (.tup (cutV vs l1 l2))
        exact k _ _ _ (w.trans w4) (RepT.tup upd_same ((ra.cut l1 l2).mono g w4.gm))
    · rename_i xs l1 l2 h1 h2 h3
      cases ht
      refine ⟨G, env, f, _, S, h1, fun G1 H1 v w1 r1 => ⟨G1, env, f, _, S.grow w1, h2, fun G2 H2 w2 => ⟨G2, env, f, _, S.grow (w1.trans w2), h3, fun G3 H3 w3 => ?_⟩⟩⟩
      have w := (w1.trans w2).trans w3
      have r3 := r1.mono g (w2.gm.trans w3.gm)
      unfold RepT at r3
      obtain ⟨A, vs, rfl, qa, ra⟩ := r3
      have hl := ra.length g
      refine .inr ⟨A, vs, rfl, .inl (.inl (w3.s' _ _ qa)), fun q hq => ?_⟩
      have w4 := Grow.newT w3.s' hq (.lst (cutV vs l1 l2))
      exact k _ _ _ (w.trans w4) (RepT.lst upd_same ((ra.cut l1 l2).mono g w4.gm))
    · cases ht
end
end VS
namespace VS
open PySem PySem.Spec PyProof.Rows L2

/-- the set that set(..) begins with -/
abbrev noSet (w : World) : Obj := { cls := .type "set", dict := none, data := .set #[] 0 (.fresh 0 0 (!w.params.followText "set-order")) }

set_option maxHeartbeats 3200000 in
/-- set(xs), xs a list of ints: as a set whose table is told -/
theorem setOfList {P : Program} {w : World} {A : Around} {E : Value → Shared → Prop} {s : Shared} {l : Addr} {items : Array Value} (ns : List Int) {Q : Value → Shared → Prop}
    (noh : A.handled = none) (isl : s.heap.IsList l items) (areI : IntsAre items.toList ns) (few : ns.length + 1 < scanBound)
    (fin : ∀ (h' : Heap) (tk c : Nat), SetR w h' s.heap.objs.size (fun j => decide (j ∈ ns)) c → c ≤ ns.length → (∀ b o, s.heap.get? b = some o → h'.get? b = some o) → Q (.ref s.heap.objs.size) { s with heap := h', toks := tk }) :
    wpAny (model P w) A (call (.type "set") [.ref l]) Q E s := by
  have many : items.size = ns.length := by
    have z := IntsAre.length areI
    rwa [Array.length_toList] at z
  obtain ⟨m1, m2, m3⟩ := F.called_set.mro
  have m4 := F.called_set.made
  have m5 := F.called_set.sub
  refine wpAny_call (codeAny_of_tree ?_)
  show wpAny _ _ (callAny (.type "set") _) _ _ _
  refine wpAny_pure ⟨Code.quiet_builtin _ (by decide +kernel), codeAny_builtin F.entry_type_call ?_⟩
  rw [Around.under_plain (weight_type_call_type "set" [.ref l] []) rfl]
  have m6 := F.called_set.notType
  have m7 := F.called_set.canCreate
  have m8 := F.typeCall_set_1 (.ref l)
  repeat (any_goals (first | assumption | wp_step))
  -- the new set, then what fills it
  refine codeAny_mono (code_set_led1 (.ref l) (E := E) (Q₁ := fun v s1 => v = .ref s.heap.objs.size ∧ s1 = { s with heap := s.heap.push (noSet w) }) ⟨rfl, rfl⟩) fun r s1 hr => ?_
  rcases r with _ | fl
  · exact hr
  rcases fl with _ | _ | _ | v
  case next => exact hr.elim
  case brk => exact hr.elim
  case cont => exact hr.elim
  obtain ⟨rfl, rfl⟩ := hr
  have at0 : (s.heap.push (noSet w)).get? s.heap.objs.size = some (noSet w) := Heap.get?_push_size _ rfl
  have ty0 : Shared.TypeIs { s with heap := s.heap.push (noSet w) } (.ref s.heap.objs.size) "set" := ⟨_, at0, rfl⟩
  have n1 := F.called_set.init.lookup
  have n2 := F.called_set.init.bind (.ref s.heap.objs.size)
  repeat (any_goals (first | assumption | wp_step))
  refine codeAny_mono (codeAny_call_builtin (R := wants (fun r s2 => r = .none ∧ ∃ h' tk c, s2 = { s with heap := h', toks := tk } ∧ SetR w h' s.heap.objs.size (fun j => decide (j ∈ ns)) c ∧ c ≤ ns.length ∧
      (∀ b o, s.heap.get? b = some o → h'.get? b = some o)) E) F.called_set.init.plain F.entry_set_init (check_set_init_1 ty0 ?_)) fun r2 s2 hr2 => ?_
  · obtain ⟨⟨lc, ld, lx, ls⟩, hol, hcl, nl, hdl⟩ := isl
    simp only at hcl hdl
    subst hcl
    subst hdl
    have atl : (s.heap.push (noSet w)).get? l = some { cls := .type "list", dict := ld, data := .seq items nl, slots := ls } := Heap.get?_push_of_some _ hol
    have k1 := F.sub_list_set
    have k2 := F.sub_list_frozenset
    have k3 : (Value.type "list" == Value.type "dict") = false := by decide
    have lst1 : (s.heap.push (noSet w)).IsList l items := ⟨_, atl, rfl, nl, rfl⟩
    unfold Builtin.«set.__init__» noKeywords Builtin.Frozenset.updateFrom
    generalize hPI : pyIter = PI
    wp_walk
    subst hPI
    refine wpAny_pyIter_list lst1 ?_
    refine wpAny_bind (wpAny_runValue ?_)
    have lt1 : l < s.heap.objs.size := Heap.lt_size hol
    have noh3 : A.in1.in1.in1.handled = none := by simp [noh]
    have ne1 : l ≠ (s.heap.push (noSet w)).objs.size := by
      rw [Heap.size_push]
      exact Nat.ne_of_lt (Nat.lt_succ_of_lt lt1)
    have out1 : s.heap.objs.size ∉ [(s.heap.push (noSet w)).objs.size, l] := by
      rw [Heap.size_push]
      simp only [List.mem_cons, List.not_mem_nil, or_false, not_or]
      exact ⟨Nat.ne_of_lt (Nat.lt_succ_self _), Nat.ne_of_gt lt1⟩
    have hval : ∀ (i : Nat) (v : Value), items[i]? = some v → ∃ k t, ns[i]? = some k ∧ v = .int k t := fun i v hv => by
      have hi : i < ns.length := by rw [← many]; exact (Array.getElem?_eq_some_iff.mp hv).1
      obtain ⟨t, e⟩ := IntsAre.int_at areI i v (by rw [Array.getElem?_toList]; exact hv)
      refine ⟨ns[i], t, List.getElem?_eq_getElem hi, ?_⟩
      rw [e, List.getD_eq_getElem?_getD, List.getElem?_eq_getElem hi] <;> rfl
    refine set_update_ints ((Walks.list noh3 _ l ne1 items).toS) s.heap.objs.size out1 ns many few hval (items.size - 0) 0 _ (by omega) (Nat.zero_le _)
      ⟨⟨_, Heap.get?_push_size _ rfl, rfl, rfl⟩, (lst1.push _)⟩ ⟨0, Nat.le_refl 0, setR_new_at (Heap.get?_push_of_some _ at0)⟩ ?_
    intro s' c' hm hc' hS'
    obtain ⟨h', g2, d', tk', os'⟩ := s'
    have eg : g2 = s.gens := hm.gens
    have ed : d' = s.drawn := hm.drawn
    have eo : os' = s.os := hm.os
    subst eg
    subst ed
    subst eo
    show wpAny _ _ _ _ _ _
    refine wpAny_pure ?_
    show wpAny _ _ (ret Value.none) _ _ _
    rw [many] at hc'
    refine wpAny_pure ⟨rfl, h', tk', c', rfl, hS', hc', fun b o e => ?_⟩
    have b0 : b < s.heap.objs.size := Heap.lt_size e
    refine hm.heap b o ?_ (Heap.get?_push_of_some _ (Heap.get?_push_of_some _ e))
    simp only [List.mem_cons, List.not_mem_nil, or_false, not_or, Heap.size_push]
    exact ⟨Nat.ne_of_lt b0, Nat.ne_of_lt (Nat.lt_succ_of_lt b0)⟩
  · rcases r2 with _ | fl2
    · exact hr2
    rcases fl2 with _ | _ | _ | v2
    case next => exact hr2.elim
    case brk => exact hr2.elim
    case cont => exact hr2.elim
    obtain ⟨rfl, h', tk, c, rfl, hS', hc', hk'⟩ := hr2
    repeat (any_goals (first | assumption | wp_step))
    exact fin _ _ _ hS' hc' hk'

/-- set(xs) over the layer -/
def rSetI (K : PySem.W.Frag) (w : World) : List V → Hp → VK → Prop := fun vs H Q => ∃ (a : Addr) (ns : List Int), vs = [V.ref a] ∧ SqL K H a (ns.map V.int) ∧ ns.length ≤ 1000 ∧
  ∀ p c, H p = none → c ≤ ns.length → Q (.ref p) (upd H p (SetO w p (fun j => decide (j ∈ ns)) c))
theorem cr_setI {X : Cx} (hc : X.calm = true) : CallR X (.type "set") (rSetI X.K X.w) := by
  intro pins s σ H vs us Q I r h
  obtain ⟨a, ns, rfl, hs, few, q⟩ := h
  obtain ⟨its, rv, pl, hz⟩ := I.list hs
  rw [Vals.ref1 r]
  refine setOfList ns (I.ok.hd hc) pl.isList (by simpa using rv.ints) (by unfold scanBound; omega) fun h' tk c hS hc hk => ?_
  have J := I.laid (a := s.heap.objs.size) (o := SetO X.w s.heap.objs.size (fun j => decide (j ∈ ns)) c) (t' := tk) (h' := h') hk (Nat.le_refl _) (setO_new hS)
  exact ⟨.ref s.heap.objs.size, _, J, rfl, q _ c (I.hok.fresh (Nat.le_refl _)) hc⟩
end VS
namespace VS
open PySem L2
variable {g : Gl0}

/-! ### lists of numbers: greatest, least, sorted, without doubles -/
def maxI : List Int → Int
  | [] => 0
  | x :: xs => xs.foldl (fun a b => if b > a then b else a) x
def minI : List Int → Int
  | [] => 0
  | x :: xs => xs.foldl (fun a b => if b < a then b else a) x
theorem fold_max : ∀ (xs : List Int) (x : Int), (xs.foldl (fun a b => if b > a then b else a) x ∈ x :: xs) ∧ ∀ y ∈ x :: xs, y ≤ xs.foldl (fun a b => if b > a then b else a) x
  | [], x => ⟨by simp, fun y hy => by simp at hy; subst hy; exact Int.le_refl _⟩
  | z :: xs, x => by
    obtain ⟨k, hk, e⟩ : ∃ k, (k = if z > x then z else x) ∧ ((k = z ∧ x ≤ z) ∨ (k = x ∧ z ≤ x)) := by
      refine ⟨_, rfl, ?_⟩
      by_cases hz : z > x
      · rw [if_pos hz]; exact .inl ⟨rfl, by omega⟩
      · rw [if_neg hz]; exact .inr ⟨rfl, by omega⟩
    obtain ⟨h1, h2⟩ := fold_max xs k
    show List.foldl _ (if z > x then z else x) xs ∈ _ ∧ ∀ y ∈ x :: z :: xs, y ≤ List.foldl _ (if z > x then z else x) xs
    rw [← hk]
    have h3 := h2 k List.mem_cons_self
    refine ⟨?_, fun y hy => ?_⟩
    · rcases List.mem_cons.mp h1 with q | q
      · rw [q]
        rcases e with e | e
        · simp [e.1]
        · simp [e.1]
      · simp [q]
    · simp only [List.mem_cons] at hy
      rcases hy with q | q | q
      · omega
      · omega
      · exact h2 y (List.mem_cons_of_mem _ q)
theorem fold_min : ∀ (xs : List Int) (x : Int), (xs.foldl (fun a b => if b < a then b else a) x ∈ x :: xs) ∧ ∀ y ∈ x :: xs, xs.foldl (fun a b => if b < a then b else a) x ≤ y
  | [], x => ⟨by simp, fun y hy => by simp at hy; subst hy; exact Int.le_refl _⟩
  | z :: xs, x => by
    obtain ⟨k, hk, e⟩ : ∃ k, (k = if z < x then z else x) ∧ ((k = z ∧ z ≤ x) ∨ (k = x ∧ x ≤ z)) := by
      refine ⟨_, rfl, ?_⟩
      by_cases hz : z < x
      · rw [if_pos hz]; exact .inl ⟨rfl, by omega⟩
      · rw [if_neg hz]; exact .inr ⟨rfl, by omega⟩
    obtain ⟨h1, h2⟩ := fold_min xs k
    show List.foldl _ (if z < x then z else x) xs ∈ _ ∧ ∀ y ∈ x :: z :: xs, List.foldl _ (if z < x then z else x) xs ≤ y
    rw [← hk]
    have h3 := h2 k List.mem_cons_self
    refine ⟨?_, fun y hy => ?_⟩
    · rcases List.mem_cons.mp h1 with q | q
      · rw [q]
        rcases e with e | e
        · simp [e.1]
        · simp [e.1]
      · simp [q]
    · simp only [List.mem_cons] at hy
      rcases hy with q | q | q
      · omega
      · omega
      · exact h2 y (List.mem_cons_of_mem _ q)
theorem maxI_mem {xs : List Int} (h : 0 < xs.length) : maxI xs ∈ xs ∧ ∀ y ∈ xs, y ≤ maxI xs := by
  cases xs with
  | nil => simp at h
  | cons x xs => exact fold_max xs x
theorem minI_mem {xs : List Int} (h : 0 < xs.length) : minI xs ∈ xs ∧ ∀ y ∈ xs, minI xs ≤ y := by
  cases xs with
  | nil => simp at h
  | cons x xs => exact fold_min xs x
def sortI (xs : List Int) : List Int := xs.mergeSort fun a b => decide (a ≤ b)
theorem sortI_perm (xs : List Int) : (sortI xs).Perm xs := List.mergeSort_perm _ _
theorem sortI_up (xs : List Int) : (sortI xs).Pairwise (· ≤ ·) := by
  have h := List.pairwise_mergeSort (le := fun a b : Int => decide (a ≤ b)) (fun a b c h1 h2 => by simp only [decide_eq_true_eq] at *; omega) (fun a b => by simp only [Bool.or_eq_true, decide_eq_true_eq]; omega) xs
  exact h.imp fun z => by simpa using z
theorem sortI_the {xs ys : List Int} (p : ys.Perm xs) (u : ys.Pairwise (· ≤ ·)) : ys = sortI xs :=
  List.Perm.eq_of_pairwise (fun a b _ _ h1 h2 => Int.le_antisymm h1 h2) u (sortI_up xs) (p.trans (sortI_perm xs).symm)
def ssetI (xs : List Int) : List Int := sortI xs.eraseDups
theorem mem_eraseDups' {xs : List Int} {k : Int} : k ∈ xs.eraseDups ↔ k ∈ xs := by simp
theorem up_the : ∀ {xs ys : List Int}, xs.Pairwise (· < ·) → ys.Pairwise (· < ·) → (∀ k, k ∈ xs ↔ k ∈ ys) → xs = ys := by
  intro xs ys hx hy h
  have nd1 : xs.Nodup := hx.imp fun {a b} z => by omega
  have nd2 : ys.Nodup := hy.imp fun {a b} z => by omega
  have p : xs.Perm ys := (List.perm_ext_iff_of_nodup nd1 nd2).mpr h
  exact List.Perm.eq_of_pairwise (fun a b _ _ h1 h2 => Int.le_antisymm h1 h2) (hx.imp fun {a b} z => Int.le_of_lt z) (hy.imp fun {a b} z => Int.le_of_lt z) p
theorem nodup_eraseDups : ∀ (n : Nat) (xs : List Int), xs.length ≤ n → xs.eraseDups.Nodup
  | 0, xs, h => by
    have : xs = [] := List.length_eq_zero_iff.mp (by omega)
    subst this
    simp
  | n + 1, [], h => by simp
  | n + 1, x :: xs, h => by
    rw [List.eraseDups_cons, List.nodup_cons]
    refine ⟨fun z => ?_, nodup_eraseDups n _ ?_⟩
    · have z' := mem_eraseDups'.mp z
      simp at z'
    · have := List.length_filter_le (fun b => !b == x) xs
      simp only [List.length_cons] at h
      omega
theorem ssetI_mem {xs : List Int} {k : Int} : k ∈ ssetI xs ↔ k ∈ xs := by
  unfold ssetI
  rw [(sortI_perm _).mem_iff, mem_eraseDups']
theorem ssetI_up (xs : List Int) : (ssetI xs).Pairwise (· < ·) := by
  have h1 := sortI_up xs.eraseDups
  have h2 : (sortI xs.eraseDups).Nodup := (sortI_perm _).nodup_iff.mpr (nodup_eraseDups _ xs (Nat.le_refl _))
  exact (h1.and h2).imp fun {a b} z => by omega
theorem ssetI_the {xs ys : List Int} (u : ys.Pairwise (· < ·)) (h : ∀ k, k ∈ ys ↔ k ∈ xs) : ys = ssetI xs := up_the u (ssetI_up xs) fun k => by rw [h, ssetI_mem]
theorem len_eraseDups : ∀ (n : Nat) (xs : List Int), xs.length ≤ n → xs.eraseDups.length ≤ xs.length
  | 0, xs, h => by
    have : xs = [] := List.length_eq_zero_iff.mp (by omega)
    subst this
    simp
  | n + 1, [], h => by simp
  | n + 1, x :: xs, h => by
    rw [List.eraseDups_cons, List.length_cons, List.length_cons]
    have h1 := List.length_filter_le (fun b => !b == x) xs
    simp only [List.length_cons] at h
    have h2 := len_eraseDups n (xs.filter fun b => !b == x) (by omega)
    omega
theorem ssetI_len (xs : List Int) : (ssetI xs).length ≤ xs.length := by
  unfold ssetI
  rw [(sortI_perm _).length_eq]
  exact len_eraseDups _ xs (Nat.le_refl _)

def tInts : List T → Option (List Int)
  | [] => some []
  | .int i :: r => (tInts r).map (i :: ·)
  | _ :: _ => none
theorem tInts_eq : ∀ {ts : List T} {ns : List Int}, tInts ts = some ns → ts = ns.map T.int
  | [], ns, h => by unfold tInts at h; cases h; rfl
  | t :: r, ns, h => by
    unfold tInts at h
    split at h
    · cases h; rename_i hh; cases hh
    · rename_i i r' hh
      cases hh
      cases e : tInts r with
      | none => rw [e] at h; cases h
      | some ms => rw [e] at h; cases h; rw [tInts_eq e]; rfl
    · cases h
theorem tInts_of : ∀ ns : List Int, tInts (ns.map T.int) = some ns
  | [] => rfl
  | n :: ns => by
    show (tInts (ns.map T.int)).map (n :: ·) = _
    rw [tInts_of ns]
    rfl
def tBls : List T → Option (List Bool)
  | [] => some []
  | .bl i :: r => (tBls r).map (i :: ·)
  | _ :: _ => none
theorem tBls_eq : ∀ {ts : List T} {ns : List Bool}, tBls ts = some ns → ts = ns.map T.bl
  | [], ns, h => by unfold tBls at h; cases h; rfl
  | t :: r, ns, h => by
    unfold tBls at h
    split at h
    · cases h; rename_i hh; cases hh
    · rename_i i r' hh
      cases hh
      cases e : tBls r with
      | none => rw [e] at h; cases h
      | some ms => rw [e] at h; cases h; rw [tBls_eq e]; rfl
    · cases h
theorem tBls_of : ∀ ns : List Bool, tBls (ns.map T.bl) = some ns
  | [] => rfl
  | n :: ns => by
    show (tBls (ns.map T.bl)).map (n :: ·) = _
    rw [tBls_of ns]
    rfl

/-! ### built-ins that look at their arguments -/
def ResQ (g : Gl0) (H : Hp) (o : O) (Q : VK) : Prop := ∀ H' v fo, Sub H H' → (∀ G, RepO g G H' o v fo) → (∀ a, fo a ≤ 1) → (∀ a, fo a ≠ 0 → H a = none) → Q v H'
def rBQ (g : Gl0) (F : List T → Option O) : List V → Hp → VK → Prop := fun vs H Q => ∃ ts o, RepTs g H ts vs ∧ F ts = some o ∧ ResQ g H o Q
def rBV (g : Gl0) (F : List T → Option O) : List V → Hp → VK → Prop := fun vs H Q => ∃ G ts o, Sub G H ∧ RepTs g G ts vs ∧ F ts = some o ∧ Res g G H o Q
theorem ResQ.sc {H : Hp} {t : T} {v : V} {Q : VK} (q : ResQ g H (.val t) Q) (r : ∀ G, RepT g G t v) : Q v H :=
  q H v fp0 (Sub.refl H) (fun G => by unfold RepO; exact ⟨r G, rfl⟩) (fun _ => Nat.zero_le _) fun a h => absurd rfl h
theorem ResQ.ints {H : Hp} {ns : List Int} {p : Addr} {Q : VK} (q : ResQ g H (.lst (ns.map fun n => .val (.int n))) Q) (hp : H p = none) : Q (.ref p) (upd H p (.lst (ns.map V.int))) := by
  have e : (ns.map fun n => O.val (.int n)) = (ns.map T.int).map O.val := by rw [List.map_map]; rfl
  rw [e] at q
  refine q _ _ (fpA (fp1 p) fp0) (Sub.new hp) (fun G => by unfold RepO; exact ⟨p, _, fp0, rfl, upd_same, rfl, RepOs.vals g (RepTs.of_ints g ns)⟩) (fun a => by simp only [fpA, fp1, fp0]; split <;> omega) fun a h => ?_
  simp only [fpA, fp1, fp0] at h
  by_cases z : a = p
  · subst z; exact hp
  · rw [if_neg z] at h; exact absurd rfl h
theorem reps1 {H : Hp} {t : T} {vs : List V} (r : RepTs g H [t] vs) : ∃ v, vs = [v] ∧ RepT g H t v := by
  unfold RepTs at r
  obtain ⟨v, r', e, q, k⟩ := r
  unfold RepTs at k
  exact ⟨v, by rw [e, k], q⟩
theorem reps2 {H : Hp} {t u : T} {vs : List V} (r : RepTs g H [t, u] vs) : ∃ v w, vs = [v, w] ∧ RepT g H t v ∧ RepT g H u w := by
  unfold RepTs at r
  obtain ⟨v, r', e, q, k⟩ := r
  obtain ⟨w, e2, q2⟩ := reps1 k
  exact ⟨v, w, by rw [e, e2], q, q2⟩
section
variable {X : Cx}
def lenF : List T → Option O
  | [.lst ts] => some (.val (.int ts.length))
  | [.tup ts] => some (.val (.int ts.length))
  | [.scr ns] => some (.val (.int ns.length))
  | _ => none
theorem bq_len (hK : X.K = g.K) : CallR X (.builtin "len") (rBQ g lenF) := by
  intro pins s σ H xs us Q I r h
  obtain ⟨ts, o, rt, e, q⟩ := h
  unfold lenF at e
  split at e
  · cases e
    obtain ⟨v, rfl, r1⟩ := reps1 rt
    unfold RepT at r1
    obtain ⟨a, vs, rfl, hs, rs⟩ := r1
    refine call_len_seq pins s σ H _ us Q I r ⟨a, vs, rfl, .inl (SqL.of hs), ?_⟩
    rw [← rs.length g]
    exact q.sc fun G => RepT.int
  · cases e
    obtain ⟨v, rfl, r1⟩ := reps1 rt
    unfold RepT at r1
    obtain ⟨a, vs, rfl, hs, rs⟩ := r1
    refine call_len_seq pins s σ H _ us Q I r ⟨a, vs, rfl, .inr (by rw [hK]; exact hs), ?_⟩
    rw [← rs.length g]
    exact q.sc fun G => RepT.int
  · cases e
    obtain ⟨v, rfl, r1⟩ := reps1 rt
    unfold RepT at r1
    obtain ⟨a, rfl, hs⟩ := r1
    refine call_len_seq pins s σ H _ us Q I r ⟨a, _, rfl, .inl (by rw [hK]; exact hs), ?_⟩
    rw [List.length_map]
    exact q.sc fun G => RepT.int
  · cases e
def absF : List T → Option O
  | [.int i] => some (.val (.int (if i < 0 then -i else i)))
  | _ => none
theorem bq_abs : CallR X (.builtin "abs") (rBQ g absF) := by
  intro pins s σ H xs us Q I r h
  obtain ⟨ts, o, rt, e, q⟩ := h
  unfold absF at e
  split at e
  · cases e
    obtain ⟨v, rfl, r1⟩ := reps1 rt
    unfold RepT at r1
    subst r1
    exact call_abs pins s σ H _ us Q I r ⟨_, rfl, q.sc fun G => RepT.int⟩
  · cases e
def intF : List T → Option O
  | [.int i] => some (.val (.int i))
  | [.bl k] => some (.val (.int (if k then 1 else 0)))
  | _ => none
theorem bq_int : CallR X (.type "int") (rBQ g intF) := by
  intro pins s σ H xs us Q I r h
  obtain ⟨ts, o, rt, e, q⟩ := h
  unfold intF at e
  split at e
  · cases e
    obtain ⟨v, rfl, r1⟩ := reps1 rt
    unfold RepT at r1
    subst r1
    exact call_int1 pins s σ H _ us Q I r (.inl ⟨_, rfl, q.sc fun G => RepT.int⟩)
  · cases e
    obtain ⟨v, rfl, r1⟩ := reps1 rt
    unfold RepT at r1
    subst r1
    exact call_int1 pins s σ H _ us Q I r (.inr ⟨_, rfl, q.sc fun G => RepT.int⟩)
  · cases e
def maxF : List T → Option O
  | [.int i, .int j] => some (.val (.int (if j > i then j else i)))
  | [.lst ts] => (match tInts ts with
    | some ns => if 0 < ns.length then some (.val (.int (maxI ns))) else none
    | none => none)
  | _ => none
theorem lstInts {H : Hp} {ts : List T} {ns : List Int} {v : V} (r : RepT g H (.lst ts) v) (e : tInts ts = some ns) : ∃ a, v = .ref a ∧ H a = some (.lst (ns.map V.int)) := by
  unfold RepT at r
  obtain ⟨a, vs, rfl, hs, rs⟩ := r
  rw [tInts_eq e] at rs
  rw [rs.ints g] at hs
  exact ⟨a, rfl, hs⟩
theorem lstBls {H : Hp} {ts : List T} {ns : List Bool} {v : V} (r : RepT g H (.lst ts) v) (e : tBls ts = some ns) : ∃ a, v = .ref a ∧ H a = some (.lst (ns.map V.bl)) := by
  unfold RepT at r
  obtain ⟨a, vs, rfl, hs, rs⟩ := r
  rw [tBls_eq e] at rs
  rw [rs.bls g] at hs
  exact ⟨a, rfl, hs⟩
theorem bq_max (hc : X.calm = true) : CallR X (.builtin "max") (rBQ g maxF) := by
  intro pins s σ H xs us Q I r h
  obtain ⟨ts, o, rt, e, q⟩ := h
  unfold maxF at e
  split at e
  · cases e
    obtain ⟨v, w, rfl, r1, r2⟩ := reps2 rt
    unfold RepT at r1 r2
    subst r1 r2
    exact call_max2 hc pins s σ H _ us Q I r ⟨_, _, rfl, q.sc fun G => RepT.int⟩
  · split at e
    · rename_i ts' ns e1
      by_cases hl : 0 < ns.length
      · rw [if_pos hl] at e; cases e
        obtain ⟨v, rfl, r1⟩ := reps1 rt
        obtain ⟨a, rfl, hs⟩ := lstInts r1 e1
        refine cr_max hc pins s σ H _ us Q I r ⟨a, ns, rfl, SqL.of hs, hl, fun m hm hle => ?_⟩
        obtain ⟨k1, k2⟩ := maxI_mem hl
        have : m = maxI ns := Int.le_antisymm (k2 m hm) (hle _ k1)
        rw [this]
        exact q.sc fun G => RepT.int
      · rw [if_neg hl] at e; cases e
    · cases e
  · cases e
def minF : List T → Option O
  | [.int i, .int j] => some (.val (.int (if j < i then j else i)))
  | [.lst ts] => (match tInts ts with
    | some ns => if 0 < ns.length then some (.val (.int (minI ns))) else none
    | none => none)
  | _ => none
theorem bq_min (hc : X.calm = true) : CallR X (.builtin "min") (rBQ g minF) := by
  intro pins s σ H xs us Q I r h
  obtain ⟨ts, o, rt, e, q⟩ := h
  unfold minF at e
  split at e
  · cases e
    obtain ⟨v, w, rfl, r1, r2⟩ := reps2 rt
    unfold RepT at r1 r2
    subst r1 r2
    exact call_min2 hc pins s σ H _ us Q I r ⟨_, _, rfl, q.sc fun G => RepT.int⟩
  · split at e
    · rename_i ts' ns e1
      by_cases hl : 0 < ns.length
      · rw [if_pos hl] at e; cases e
        obtain ⟨v, rfl, r1⟩ := reps1 rt
        obtain ⟨a, rfl, hs⟩ := lstInts r1 e1
        refine cr_min hc pins s σ H _ us Q I r ⟨a, ns, rfl, SqL.of hs, hl, fun m hm hle => ?_⟩
        obtain ⟨k1, k2⟩ := minI_mem hl
        have : m = minI ns := Int.le_antisymm (hle _ k1) (k2 m hm)
        rw [this]
        exact q.sc fun G => RepT.int
      · rw [if_neg hl] at e; cases e
    · cases e
  · cases e
def sumF : List T → Option O
  | [.lst ts] => (tInts ts).map fun ns => .val (.int ns.sum)
  | _ => none
theorem bq_sum (hc : X.calm = true) : CallR X (.builtin "sum") (rBQ g sumF) := by
  intro pins s σ H xs us Q I r h
  obtain ⟨ts, o, rt, e, q⟩ := h
  unfold sumF at e
  split at e
  · rename_i ts'
    cases e1 : tInts ts' with
    | none => rw [e1] at e; cases e
    | some ns =>
      rw [e1] at e; cases e
      obtain ⟨v, rfl, r1⟩ := reps1 rt
      obtain ⟨a, rfl, hs⟩ := lstInts r1 e1
      exact cr_sum hc pins s σ H _ us Q I r ⟨a, ns, rfl, SqL.of hs, q.sc fun G => RepT.int⟩
  · cases e
def anyF : List T → Option O
  | [.lst ts] => (tBls ts).map fun ns => .val (.bl (ns.any id))
  | _ => none
def allF : List T → Option O
  | [.lst ts] => (tBls ts).map fun ns => .val (.bl (ns.all id))
  | _ => none
theorem bq_any (hc : X.calm = true) : CallR X (.builtin "any") (rBQ g anyF) := by
  intro pins s σ H xs us Q I r h
  obtain ⟨ts, o, rt, e, q⟩ := h
  unfold anyF at e
  split at e
  · rename_i ts'
    cases e1 : tBls ts' with
    | none => rw [e1] at e; cases e
    | some ns =>
      rw [e1] at e; cases e
      obtain ⟨v, rfl, r1⟩ := reps1 rt
      obtain ⟨a, rfl, hs⟩ := lstBls r1 e1
      exact cr_any hc pins s σ H _ us Q I r ⟨a, ns, rfl, SqL.of hs, q.sc fun G => RepT.bl⟩
  · cases e
theorem bq_all (hc : X.calm = true) : CallR X (.builtin "all") (rBQ g allF) := by
  intro pins s σ H xs us Q I r h
  obtain ⟨ts, o, rt, e, q⟩ := h
  unfold allF at e
  split at e
  · rename_i ts'
    cases e1 : tBls ts' with
    | none => rw [e1] at e; cases e
    | some ns =>
      rw [e1] at e; cases e
      obtain ⟨v, rfl, r1⟩ := reps1 rt
      obtain ⟨a, rfl, hs⟩ := lstBls r1 e1
      exact cr_all hc pins s σ H _ us Q I r ⟨a, ns, rfl, SqL.of hs, q.sc fun G => RepT.bl⟩
  · cases e
def sortF : List T → Option O
  | [.lst ts] => (tInts ts).map fun ns => .lst ((sortI ns).map fun n => .val (.int n))
  | _ => none
theorem bq_sort : CallR X (.builtin "sorted") (rBQ g sortF) := by
  intro pins s σ H xs us Q I r h
  obtain ⟨ts, o, rt, e, q⟩ := h
  unfold sortF at e
  split at e
  · rename_i ts'
    cases e1 : tInts ts' with
    | none => rw [e1] at e; cases e
    | some ns =>
      rw [e1] at e; cases e
      obtain ⟨v, rfl, r1⟩ := reps1 rt
      obtain ⟨a, rfl, hs⟩ := lstInts r1 e1
      refine cr_sortedI pins s σ H _ us Q I r ⟨a, ns, rfl, SqL.of hs, fun ns' p pm up hp => ?_⟩
      rw [sortI_the pm up]
      exact q.ints hp
  · cases e
def sTrue : Str := "True"
def sFalse : Str := "False"
def sNone : Str := "None"
def reprF : List T → Option O
  | [.int i] => if i.natAbs.log2 < 1920 then some (.val (.str (toString i : String))) else none
  | [.bl b] => some (.val (.str (if b then sTrue else sFalse)))
  | [.non] => some (.val (.str sNone))
  | _ => none
theorem bq_repr : CallR X (.builtin "repr") (rBQ g reprF) := by
  intro pins s σ H xs us Q I r h
  obtain ⟨ts, o, rt, e, q⟩ := h
  unfold reprF at e
  split at e
  · rename_i i
    by_cases hl : i.natAbs.log2 < 1920
    · rw [if_pos hl] at e; cases e
      obtain ⟨v, rfl, r1⟩ := reps1 rt
      unfold RepT at r1
      subst r1
      exact SkE.call_repr_int pins s σ H _ us Q I r ⟨_, rfl, hl, q.sc fun G => RepT.str⟩
    · rw [if_neg hl] at e; cases e
  · rename_i b
    cases e
    obtain ⟨v, rfl, r1⟩ := reps1 rt
    unfold RepT at r1
    subst r1
    obtain ⟨u, rfl, r2⟩ := vals1 r
    cases (show u = Value.bool b from r2)
    have q' := q.sc (v := .str (if b then sTrue else sFalse)) fun G => RepT.str
    cases b
    · exact PySem.P.repr_of_bool ⟨.str sFalse, H, I.tok _, ⟨_, rfl⟩, q'⟩
    · exact PySem.P.repr_of_bool ⟨.str sTrue, H, I.tok _, ⟨_, rfl⟩, q'⟩
  · cases e
    obtain ⟨v, rfl, r1⟩ := reps1 rt
    unfold RepT at r1
    subst r1
    obtain ⟨u, rfl, r2⟩ := vals1 r
    cases (show u = Value.none from r2)
    exact PySem.P.repr_of_none ⟨.str sNone, H, I.tok _, ⟨_, rfl⟩, q.sc fun G => RepT.str⟩
  · cases e

/-! ### built-ins that hand on what they are given -/
def tupleF : List T → Option O
  | [.lst ts] => some (.val (.tup ts))
  | [.tup ts] => some (.val (.tup ts))
  | _ => none
theorem bv_tuple (hK : X.K = g.K) : CallR X (.type "tuple") (rBV g tupleF) := by
  intro pins s σ H xs us Q I r h
  obtain ⟨G, ts, o, sg, rt, e, q⟩ := h
  unfold tupleF at e
  split at e
  · cases e
    obtain ⟨v, rfl, r1⟩ := reps1 rt
    unfold RepT at r1
    obtain ⟨a, vs, rfl, hs, rs⟩ := r1
    refine call_tuple_of pins s σ H _ us Q I r ⟨a, vs, rfl, .inl ⟨SqL.of (sg _ _ hs), fun p hp => ?_⟩⟩
    exact q.newT sg hp (RepT.tup upd_same (rs.mono g (Sub.new (sg.noneOf hp))))
  · cases e
    obtain ⟨v, rfl, r1⟩ := reps1 rt
    have r1' := r1
    unfold RepT at r1
    obtain ⟨a, vs, rfl, hs, rs⟩ := r1
    exact call_tuple_of pins s σ H _ us Q I r ⟨a, vs, rfl, .inr ⟨by rw [hK]; exact sg.sqT hs, q.val sg r1'⟩⟩
  · cases e
def listF : List T → Option O
  | [.lst ts] => some (.lst (ts.map O.val))
  | [.tup ts] => some (.lst (ts.map O.val))
  | _ => none
theorem bv_list (hK : X.K = g.K) : CallR X (.type "list") (rBV g listF) := by
  intro pins s σ H xs us Q I r h
  obtain ⟨G, ts, o, sg, rt, e, q⟩ := h
  unfold listF at e
  split at e
  · cases e
    obtain ⟨v, rfl, r1⟩ := reps1 rt
    unfold RepT at r1
    obtain ⟨a, vs, rfl, hs, rs⟩ := r1
    exact call_list_of pins s σ H _ us Q I r ⟨a, vs, rfl, .inl (SqL.of (sg _ _ hs)), fun p hp => q.newL sg hp rs⟩
  · cases e
    obtain ⟨v, rfl, r1⟩ := reps1 rt
    unfold RepT at r1
    obtain ⟨a, vs, rfl, hs, rs⟩ := r1
    exact call_list_of pins s σ H _ us Q I r ⟨a, vs, rfl, .inr (by rw [hK]; exact sg.sqT hs), fun p hp => q.newL sg hp rs⟩
  · cases e
def divF : List T → Option O
  | [.int i, .int j] => if 0 < j ∧ j < 1073741824 then some (.val (.tup [.int (i / j), .int (i % j)])) else none
  | _ => none
theorem bv_div : CallR X (.builtin "divmod") (rBV g divF) := by
  intro pins s σ H xs us Q I r h
  obtain ⟨G, ts, o, sg, rt, e, q⟩ := h
  unfold divF at e
  split at e
  · rename_i i j
    by_cases hl : 0 < j ∧ j < 1073741824
    · rw [if_pos hl] at e; cases e
      obtain ⟨v, w, rfl, r1, r2⟩ := reps2 rt
      unfold RepT at r1 r2
      subst r1 r2
      refine call_divmod pins s σ H _ us Q I r ⟨_, _, rfl, hl, fun p hp => ?_⟩
      exact q.newT sg hp (RepT.tup upd_same (RepTs.cons RepT.int (RepTs.cons RepT.int RepTs.nil)))
    · rw [if_neg hl] at e; cases e
  · cases e
end
end VS
namespace VS
open PySem L2
variable {g : Gl0}

/-! ### calls of built-ins -/
structure Blt (X : Cx) (x : Str) (f : Value) : Prop where
  gl : Gl X x
  mg : X.mg x = none
  bt : bootBuiltins x = some f
  nn : x ≠ "__name__"
  nd : (x == ("__debug__" : Str)) = false
def kindBT : Value → Bool
  | .builtin _ => true
  | .type _ => true
  | _ => false
/-- no argument has a star -/
def plainE : Expr → Bool
  | .Starred _ _ => false
  | _ => true
theorem star_cons {e : Expr} {es : List Expr} {env : PySem.Env} (h : plainE e = true) : starEach (e :: es) env = (false, eval e env) :: starEach es env := by
  cases e <;> first | rfl | cases h
theorem star_all {env : PySem.Env} {pos : Pos} : ∀ {es : List Expr}, es.all plainE = true → (backTo pos (starEach es env)).any (·.1) = false
  | [], _ => rfl
  | e :: es, h => by
    rw [List.all_cons, Bool.and_eq_true] at h
    rw [star_cons h.1]
    unfold backTo
    rw [List.map_cons, List.any_cons]
    exact star_all h.2
section
variable {X : Cx} {x : Str} {e : Expr} {es : List Expr} {p pos : Pos}
theorem pe_blt {f : Value} {r : List V → Hp → VK → Prop} {t : TA} (hf : kindBT f = true) (B : Blt X x f) (hc : CallR X f r) (ha : PA X (e :: es) t) (hp : (e :: es).all plainE = true) : PE X (.Call (.Name x p) (e :: es) [] pos) (tCB r t) := by
  have hp' := hp
  rw [List.all_cons, Bool.and_eq_true] at hp
  cases f with
  | builtin id => exact pe_callB hc B.gl B.mg B.bt ha B.nn B.nd (star_cons hp.1) (star_all hp.2)
  | type id => exact pe_callTy hc B.gl B.mg B.bt ha B.nn B.nd (star_cons hp.1) (star_all hp.2)
  | _ => cases hf
/-- an expression that writes nothing, whose value is new as far as it is one's own -/
abbrev DN := Env → Option O
def rdN (g : Gl0) (d : DN) : TE := fun σ H Q => ∃ G e f o, Stt g G H σ e f ∧ d e = some o ∧ Res g G H o Q
theorem ResQ.res {G H : Hp} {o : O} {Q : VK} (s : Sub G H) (q : Res g G H o Q) : ResQ g H o Q := fun H' v fo hm r one no =>
  q G H' v fo ⟨Sub.refl _, hm, fun _ z => .inl z, s.trans hm⟩ (r G) one fun a z => ⟨s.noneOf (no a z), no a z⟩
theorem Res.later {G H G1 H1 : Hp} {o : O} {Q : VK} (w : Grow G H G1 H1) (k : Res g G H o Q) : Res g G1 H1 o Q := fun G2 H2 v fo w2 r one no =>
  k G2 H2 v fo (w.trans w2) r one fun a z => ⟨(no a z).1, w.hm.noneOf (no a z).2⟩
theorem Res.post {G H : Hp} {σ : St} {env : Env} {f : FP} {o : O} {Q : VK} (S : Stt g G H σ env f) (k : PostE g G H f σ o env Q) : Res g G H o Q := fun G2 H2 v fo w r one no => by
  have S2 := S.grow w
  refine k G2 H2 v fo f S2 r (fun a => ?_) (fun a z => (no a z).1) ⟨w.gm, fun a u z _ => w.hm a u z, fun a z => ?_, fun a z => (w.gn a z).elim .inl fun q => .inr (.inr q), fun a z => w.hm.dom z⟩
  · have h1 := one a
    have h2 := S.one a
    by_cases z : fo a = 0
    · omega
    · by_cases z2 : f a = 0
      · omega
      · exact absurd (no a z).2 (S.rep.there g a z2)
  · simp only [fpA] at z
    by_cases z2 : fo a = 0
    · exact .inl (by omega)
    · exact .inr (no a z2).2
def vOfN (d : DN) : DV := fun e => (d e).map O.fz
def eOfN (d : DN) : DE := fun e => (d e).map fun o => (o, e)
def nOfV (d : DV) : DN := fun e => (d e).map O.val
theorem pv_n {d : DN} (h : PE X e (rdN g d)) : PE X e (rdV g (vOfN d)) := impE h fun σ H Q ⟨G, env, f, t, S, ht, k⟩ => by
  unfold vOfN at ht
  cases e1 : d env with
  | none => rw [e1] at ht; cases ht
  | some o => rw [e1] at ht; cases ht; exact ⟨G, env, f, o, S, e1, Res.frz k⟩
theorem pe_n {d : DN} (h : PE X e (rdN g d)) : PE X e (rdE g (eOfN d)) := impE h fun σ H Q ⟨G, env, f, o, e', S, ht, k⟩ => by
  unfold eOfN at ht
  cases e1 : d env with
  | none => rw [e1] at ht; cases ht
  | some o => rw [e1] at ht; cases ht; exact ⟨G, env, f, o, S, e1, Res.post S k⟩
theorem pn_v {d : DV} (h : PE X e (rdV g d)) : PE X e (rdN g (nOfV d)) := impE h fun σ H Q ⟨G, env, f, o, S, ht, k⟩ => by
  unfold nOfV at ht
  cases e1 : d env with
  | none => rw [e1] at ht; cases ht
  | some o =>
    rw [e1] at ht; cases ht
    exact ⟨G, env, f, _, S, e1, fun G1 H1 v w r => k G1 H1 v fp0 w (by unfold RepO; exact ⟨r, rfl⟩) (fun _ => Nat.zero_le _) fun a h => absurd rfl h⟩
def nCallB (F : List T → Option O) (as : DVs) : DN := fun e => match as e with
  | some ts => F ts
  | none => none
theorem pn_callBQ {f : Value} {F : List T → Option O} {as : DVs} (hf : kindBT f = true) (B : Blt X x f) (hc : CallR X f (rBQ g F)) (ha : PA X (e :: es) (rdAQ g as)) (hp : (e :: es).all plainE = true) :
    PE X (.Call (.Name x p) (e :: es) [] pos) (rdN g (nCallB F as)) := impE (pe_blt hf B hc ha hp) fun σ H Q ⟨G, env, f, o, S, ht, k⟩ => by
  unfold nCallB at ht
  split at ht
  · rename_i ts h1
    exact ⟨G, env, f, ts, S, h1, fun G1 H1 vs w1 r1 => ⟨ts, o, r1, ht, ResQ.res w1.s' (Res.later w1 k)⟩⟩
  · cases ht
theorem pn_callBV {f : Value} {F : List T → Option O} {as : DVs} (hf : kindBT f = true) (B : Blt X x f) (hc : CallR X f (rBV g F)) (ha : PA X (e :: es) (rdAV g as)) (hp : (e :: es).all plainE = true) :
    PE X (.Call (.Name x p) (e :: es) [] pos) (rdN g (nCallB F as)) := impE (pe_blt hf B hc ha hp) fun σ H Q ⟨G, env, f, o, S, ht, k⟩ => by
  unfold nCallB at ht
  split at ht
  · rename_i ts h1
    exact ⟨G, env, f, ts, S, h1, fun G1 H1 vs w1 r1 => ⟨G1, ts, o, w1.s', r1, ht, Res.later w1 k⟩⟩
  · cases ht

/-! ### sorted(set(xs)) of ints -/
def ssetF : List T → Option O
  | [.lst ts] => (match tInts ts with
    | some ns => if ns.length < 64 then some (.lst ((ssetI ns).map fun n => .val (.int n))) else none
    | none => none)
  | _ => none
theorem pn_sset {as : DVs} {y : Str} {p2 pos2 : Pos} (hc : X.calm = true) (B : Blt X x (.builtin "sorted")) (B2 : Blt X y (.type "set")) (ha : PA X [e] (rdAQ g as)) (hp : plainE e = true) :
    PE X (.Call (.Name x p) [.Call (.Name y p2) [e] [] pos2] [] pos) (rdN g (nCallB ssetF as)) :=
  impE (pe_callB (cr_sortedSet hc) B.gl B.mg B.bt (pa_cons (pe_callTy (cr_setI hc) B2.gl B2.mg B2.bt ha B2.nn B2.nd (star_cons hp) rfl) pa_nil rfl) B.nn B.nd rfl rfl) fun σ H Q ⟨G, env, f, o, S, ht, k⟩ => by
    unfold nCallB at ht
    split at ht
    · rename_i ts h1
      unfold ssetF at ht
      split at ht
      · rename_i ts'
        cases e1 : tInts ts' with
        | none => rw [e1] at ht; cases ht
        | some ns =>
          simp only [e1] at ht
          by_cases hl : ns.length < 64
          · rw [if_pos hl] at ht; cases ht
            refine ⟨G, env, f, _, S, h1, fun G1 H1 vs w1 r1 => ?_⟩
            obtain ⟨v, rfl, r2⟩ := reps1 r1
            obtain ⟨a, rfl, hs⟩ := lstInts r2 e1
            refine ⟨a, ns, rfl, SqL.of hs, by omega, fun q c hq hcn => ?_⟩
            have w2 := Grow.newO w1.s' hq (SetO X.w q (fun j => decide (j ∈ ns)) c)
            refine ⟨q, _, c, rfl, upd_same, by omega, fun ms r up mem _ hr => ?_⟩
            have : ms = ssetI ns := ssetI_the up fun j => by rw [mem]; simp
            rw [this]
            exact (ResQ.res (w1.trans w2).s' (Res.later (w1.trans w2) k)).ints hr
          · rw [if_neg hl] at ht; cases ht
      · cases ht
    · cases ht
end

/-! ### isinstance -/
inductive Ty where
  | nonT | boolT | intT | strT | tupT | lstT
  deriving DecidableEq
def Ty.s : Ty → String
  | .nonT => "NoneType"
  | .boolT => "bool"
  | .intT => "int"
  | .strT => "str"
  | .tupT => "tuple"
  | .lstT => "list"
def T.ty : T → Option Ty
  | .non => some .nonT
  | .bl _ => some .boolT
  | .int _ => some .intT
  | .str _ => some .strT
  | .tup _ => some .tupT
  | .lst _ => some .lstT
  | .scr _ => some .lstT
  | .ins _ _ => none
def isTy (a b : Ty) : Bool := decide (a = b) || (decide (a = .boolT) && decide (b = .intT))
theorem kit_all : ∀ a b : Ty, kitB a.s b.s = some (isTy a b)
  | .nonT, .nonT => by decide +kernel
  | .nonT, .boolT => by decide +kernel
  | .nonT, .intT => by decide +kernel
  | .nonT, .strT => by decide +kernel
  | .nonT, .tupT => by decide +kernel
  | .nonT, .lstT => by decide +kernel
  | .boolT, .nonT => by decide +kernel
  | .boolT, .boolT => by decide +kernel
  | .boolT, .intT => by decide +kernel
  | .boolT, .strT => by decide +kernel
  | .boolT, .tupT => by decide +kernel
  | .boolT, .lstT => by decide +kernel
  | .intT, .nonT => by decide +kernel
  | .intT, .boolT => by decide +kernel
  | .intT, .intT => by decide +kernel
  | .intT, .strT => by decide +kernel
  | .intT, .tupT => by decide +kernel
  | .intT, .lstT => by decide +kernel
  | .strT, .nonT => by decide +kernel
  | .strT, .boolT => by decide +kernel
  | .strT, .intT => by decide +kernel
  | .strT, .strT => by decide +kernel
  | .strT, .tupT => by decide +kernel
  | .strT, .lstT => by decide +kernel
  | .tupT, .nonT => by decide +kernel
  | .tupT, .boolT => by decide +kernel
  | .tupT, .intT => by decide +kernel
  | .tupT, .strT => by decide +kernel
  | .tupT, .tupT => by decide +kernel
  | .tupT, .lstT => by decide +kernel
  | .lstT, .nonT => by decide +kernel
  | .lstT, .boolT => by decide +kernel
  | .lstT, .intT => by decide +kernel
  | .lstT, .strT => by decide +kernel
  | .lstT, .tupT => by decide +kernel
  | .lstT, .lstT => by decide +kernel
theorem RepT.tyX {H : Hp} {t : T} {v : V} {y : Ty} (r : RepT g H t v) (h : t.ty = some y) : TyX g.K H v (.type y.s) := by
  cases t with
  | non => cases h; unfold RepT at r; subst r; exact .base .non
  | bl b => cases h; unfold RepT at r; subst r; exact .base (.bl _)
  | int b => cases h; unfold RepT at r; subst r; exact .base (.int _)
  | str b => cases h; unfold RepT at r; subst r; exact .base (.str _)
  | tup ts =>
    cases h
    unfold RepT at r
    obtain ⟨a, vs, rfl, q, _⟩ := r
    rcases q with (q | ⟨o, q⟩) | ⟨o, its, n, q, c, _⟩
    · exact .base (.tup q)
    · exact .fTuple q
    · exact .kTuple q c
  | lst ts =>
    cases h
    unfold RepT at r
    obtain ⟨a, vs, rfl, q, _⟩ := r
    exact .base (.lst q)
  | scr ns =>
    cases h
    unfold RepT at r
    obtain ⟨a, rfl, q⟩ := r
    rcases q with (q | ⟨o, q⟩) | ⟨o, its, n, q, c, _⟩
    · exact .base (.lst q)
    · exact .base (.frz q)
    · exact .kList q c
  | ins c fs => cases h
def bIsi (d : DV) (ys : List Ty) : DB := fun e => match d e with
  | some t => (match t.ty with
    | some a => some (ys.any (isTy a))
    | none => none)
  | none => none
section
variable {X : Cx} {x : Str} {e : Expr} {es : List Expr} {p pos : Pos}
theorem pe_ty {x : Str} {n : String} {p : Pos} (B : Blt X x (.type n)) : PE X (.Name x p) (tC (.ty n)) := pe_bltn B.gl B.mg B.bt rfl B.nn B.nd
theorem pv_isi {d : DV} {y : Str} {b : Ty} {p2 : Pos} (hK : X.K = g.K) (B : Blt X x (.builtin "isinstance")) (B2 : Blt X y (.type b.s)) (ha : PE X e (rdQ g d)) (hp : plainE e = true) :
    PE X (.Call (.Name x p) [e, .Name y p2] [] pos) (rdV g (vOfB (bIsi d [b]))) :=
  impE (pe_callB call_isi B.gl B.mg B.bt (pa_cons ha (pa_cons (pe_ty B2) pa_nil rfl) (star_cons hp)) B.nn B.nd (star_cons hp) rfl) fun σ H Q ⟨G, env, f, t, S, ht, k⟩ => by
    unfold vOfB bIsi at ht
    cases h1 : d env with
    | none => rw [h1] at ht; cases ht
    | some u =>
      simp only [h1] at ht
      cases h2 : u.ty with
      | none => simp only [h2] at ht; cases ht
      | some a =>
        simp only [h2] at ht; cases ht
        refine ⟨G, env, f, u, S, h1, fun G1 H1 v w1 r1 => ?_⟩
        refine ⟨v, .ty b.s, .type a.s, .type b.s, isTy a b, rfl, .ty _, by rw [hK]; exact r1.tyX h2, by exact kit_ty (kit_all a b), ?_⟩
        have : isTy a b = [b].any (isTy a) := by simp
        rw [this]
        exact k G1 H1 _ w1 RepT.bl
theorem pv_isi2 {d : DV} {y z : Str} {b c : Ty} {p2 p3 pos2 : Pos} {k0} (hK : X.K = g.K) (B : Blt X x (.builtin "isinstance")) (B2 : Blt X y (.type b.s)) (B3 : Blt X z (.type c.s)) (ha : PE X e (rdQ g d)) (hp : plainE e = true) :
    PE X (.Call (.Name x p) [e, .Tuple [.Name y p2, .Name z p3] k0 pos2] [] pos) (rdV g (vOfB (bIsi d [b, c]))) :=
  impE (pe_callB call_isiT B.gl B.mg B.bt (pa_cons ha (pa_cons (pe_tup (pa_cons (pe_ty B2) (pa_cons (pe_ty B3) pa_nil rfl) rfl)) pa_nil rfl) (star_cons hp)) B.nn B.nd (star_cons hp) rfl) fun σ H Q ⟨G, env, f, t, S, ht, k⟩ => by
    unfold vOfB bIsi at ht
    cases h1 : d env with
    | none => rw [h1] at ht; cases ht
    | some u =>
      simp only [h1] at ht
      cases h2 : u.ty with
      | none => simp only [h2] at ht; cases ht
      | some a =>
        simp only [h2] at ht; cases ht
        refine ⟨G, env, f, u, S, h1, fun G1 H1 v w1 r1 => ⟨by show 2 ≤ sizeLine; rw [sizeLine_eq]; decide, fun q hq => ?_⟩⟩
        have w2 := Grow.newO w1.s' hq (.tup [.ty b.s, .ty c.s])
        refine ⟨v, q, [.ty b.s, .ty c.s], .type a.s, [.type b.s, .type c.s], [b, c].any (isTy a), rfl, upd_same, .cons (.ty _) (.cons (.ty _) .nil), by rw [hK]; exact (r1.mono g w2.hm).tyX h2, ?_, k G1 _ _ (w1.trans w2) RepT.bl⟩
        refine kitAny_cons (kit_ty (kit_all a b)) (fun z1 => kitAny_cons (kit_ty (kit_all a c)) (fun z2 => ?_) fun z2 => ?_) fun z1 => ?_
        · rw [kitAny_nil]
          simp [z1, z2]
        · simp [z2]
        · simp [z1]
/-- from a value that is a truth value to a test -/
theorem ptb_of {d : DB} (h : PE X e (rdV g (vOfB d))) (he : ∀ whole, isTrue e X.env whole = (do let v ← whole; standAt e.pos; holding [v] (truthy v))) : PT X e (rdB g d) :=
  impT (pt_val h he) fun σ H Q ⟨G, env, f, b, S, ht, k⟩ => ⟨G, env, f, .bl b, S, by unfold vOfB; rw [ht]; rfl, fun G1 H1 v w r => by
    unfold RepT at r
    exact ⟨b, r, k G1 H1 w⟩⟩
def bOfV (d : DV) : DB := fun e => match d e with
  | some (.bl b) => some b
  | _ => none
theorem ptb_v {d : DV} (h : PE X e (rdV g d)) (he : ∀ whole, isTrue e X.env whole = (do let v ← whole; standAt e.pos; holding [v] (truthy v))) : PT X e (rdB g (bOfV d)) :=
  impT (pt_val h he) fun σ H Q ⟨G, env, f, b, S, ht, k⟩ => by
    unfold bOfV at ht
    split at ht
    · rename_i b' h1
      cases ht
      refine ⟨G, env, f, _, S, h1, fun G1 H1 v w r => ?_⟩
      unfold RepT at r
      exact ⟨_, r, k G1 H1 w⟩
    · cases ht
theorem pvb_v {d : DV} (h : PE X e (rdV g d)) : PE X e (rdV g (vOfB (bOfV d))) := impE h fun σ H Q ⟨G, env, f, t, S, ht, k⟩ => by
  unfold vOfB bOfV at ht
  split at ht
  · rename_i b' h1
    cases ht
    exact ⟨G, env, f, _, S, h1, k⟩
  · cases ht
end
end VS
namespace VS
open PySem L2
variable {g : Gl0}

/-! ### new lists of one's own -/
abbrev DNs := Env → Option (List O)
def ResA (g : Gl0) (G H : Hp) (os : List O) (Q : List V → Hp → Prop) : Prop := ∀ G' H' vs fo, Grow G H G' H' → RepOs g G' H' os vs fo → (∀ a, fo a ≤ 1) → (∀ a, fo a ≠ 0 → G' a = none ∧ H a = none) → Q vs H'
def rdAN (g : Gl0) (d : DNs) : TA := fun σ H Q => ∃ G e f os, Stt g G H σ e f ∧ d e = some os ∧ ResA g G H os Q
def nsNil : DNs := fun _ => some []
def nsCons (d : DN) (r : DNs) : DNs := fun e => match d e, r e with
  | some t, some ts => some (t :: ts)
  | _, _ => none
def nLst (r : DNs) : DN := fun e => match r e with
  | some ts => if ts.length ≤ lim then some (.lst ts) else none
  | none => none
theorem fp1_ne {a b : Addr} (h : fp1 a b ≠ 0) : b = a := by
  unfold fp1 at h
  by_cases z : b = a
  · exact z
  · rw [if_neg z] at h; exact absurd rfl h
section
variable {X : Cx} {a b : Expr} {es : List Expr} {pos : Pos}
theorem pan_nil : PA X [] (rdAN g nsNil) := impA pa_nil fun σ H Q ⟨G, env, f, ts, S, ht, k⟩ => by
  cases ht
  exact k G H [] fp0 (Grow.refl S.sub) (by unfold RepOs; exact ⟨rfl, rfl⟩) (fun _ => Nat.zero_le _) fun a h => absurd rfl h
theorem pan_cons {d : DN} {r : DNs} (h1 : PE X a (rdN g d)) (h2 : PA X es (rdAN g r)) (hs : starEach (a :: es) X.env = (false, eval a X.env) :: starEach es X.env) : PA X (a :: es) (rdAN g (nsCons d r)) :=
  impA (pa_cons h1 h2 hs) fun σ H Q ⟨G, env, f, ts, S, ht, k⟩ => by
    unfold nsCons at ht
    split at ht
    · rename_i t us e1 e2
      cases ht
      refine ⟨G, env, f, t, S, e1, fun G1 H1 v f1 w1 r1 one1 no1 => ⟨G1, env, f, us, S.grow w1, e2, fun G2 H2 vs f2 w2 r2 one2 no2 => ?_⟩⟩
      refine k G2 H2 _ (fpA f1 f2) (w1.trans w2) (by unfold RepOs; exact ⟨v, vs, f1, f2, rfl, rfl, r1.mono g w2.gm fun x _ u q => w2.hm x u q, r2⟩) (fun x => ?_) fun x z => ?_
      · have h1 := one1 x
        have h2 := one2 x
        simp only [fpA]
        by_cases z : f2 x = 0
        · omega
        · by_cases z1 : f1 x = 0
          · omega
          · exact absurd (no2 x z).2 (RepO.there g r1 x z1)
      · simp only [fpA] at z
        by_cases z1 : f1 x = 0
        · have := no2 x (by omega)
          exact ⟨this.1, w1.hm.noneOf this.2⟩
        · exact ⟨w2.out (RepO.there g r1 x z1) (no1 x z1).1, (no1 x z1).2⟩
    · cases ht
theorem pn_lst {r : DNs} (h : PA X es (rdAN g r)) : PE X (.List es pos) (rdN g (nLst r)) := impE (pe_lst h) fun σ H Q ⟨G, env, f, t, S, ht, k⟩ => by
  unfold nLst at ht
  split at ht
  · rename_i ts e1
    by_cases hl : ts.length ≤ lim
    · rw [if_pos hl] at ht; cases ht
      refine ⟨G, env, f, ts, S, e1, fun G1 H1 vs fo w1 r1 one no => ⟨?_, fun p hp => ?_⟩⟩
      · rw [← r1.length g]; exact Nat.le_trans hl lim_le
      · have w2 := Grow.newO w1.s' hp (.lst vs)
        refine k G1 _ _ (fpA (fp1 p) fo) (w1.trans w2) (by unfold RepO; exact ⟨p, vs, fo, rfl, upd_same, rfl, r1.mono g (Sub.refl _) fun x _ u q => w2.hm x u q⟩) (fun x => ?_) fun x z => ?_
        · have := one x
          simp only [fpA]
          by_cases z : fo x = 0
          · simp only [fp1]; split <;> omega
          · have : x ≠ p := fun e => by subst e; exact RepOs.there g r1 x z hp
            simp only [fp1, if_neg this]; omega
        · simp only [fpA] at z
          by_cases z1 : fo x = 0
          · have : x = p := fp1_ne (a := p) (by omega)
            subst this
            exact ⟨w1.s'.noneOf hp, w1.hm.noneOf hp⟩
          · exact no x z1
    · rw [if_neg hl] at ht; cases ht
  · cases ht
def nBin (op : Operator) (p q : DV) : DN := fun e => match p e, q e with
  | some a, some b => binT op a b
  | _, _ => none
theorem pn_bin (hK : X.K = g.K) {op : Operator} {p q : DV} (ha : PE X a (rdV g p)) (hb : PE X b (rdV g q)) : PE X (.BinOp a op b pos) (rdN g (nBin op p q)) :=
  impE (pe_op (bin_all hK op) ha hb) fun σ H Q ⟨G, env, f, o, S, ht, k⟩ => by
    unfold nBin at ht
    split at ht
    · rename_i x y h1 h2
      refine ⟨G, env, f, x, S, h1, fun G1 H1 v w1 r1 => ⟨G1, env, f, y, S.grow w1, h2, fun G2 H2 u w2 r2 => ?_⟩⟩
      exact ⟨G2, x, y, o, w2.s', r1.mono g w2.gm, r2, ht, Res.later (w1.trans w2) k⟩
    · cases ht
end

/-! ### defs of the program -/
abbrev FT := List O → Option (O × List O)
/-- what a def promises: F its function on trees, io the places of the parameters whose things it may write -/
def spF (g : Gl0) (io : List Nat) (F : FT) : Sp := fun vs H Q _ => ∃ G f os r outs, Sub G H ∧ RepOs g G H os vs f ∧ (∀ a, f a ≤ 1) ∧ (∀ a, f a ≠ 0 → G a = none) ∧ F os = some (r, outs) ∧
  ∀ G' H' v fr fo, Sub G' H' → RepO g G' H' r v fr → RepOs g G' H' outs (io.filterMap fun i => vs[i]?) fo → (∀ a, fr a + fo a ≤ 1) → (∀ a, fr a + fo a ≠ 0 → G' a = none) → Step G H f G' H' (fpA fr fo) → Q v H'
/-- a def as it is called from X, with so many values that fill up -/
structure Cal (g : Gl0) (X : Cx) (x : Str) (io : List Nat) (dts : List T) (F : FT) : Prop where
  ok : ∃ k f fd ps dvs ds, FnOk X.prog X.w X.K X.mg X.base CX0 k f fd ps (spF g io F) ∧ Room k X.A ∧ X.mg x = some (.ref f) ∧ PySem.W.keepIn X.K (.ref f) = true ∧ Binds X.K fd ps ds ∧ Vals dvs ds ∧ flats dts = some dvs
theorem RepTs.of_flats {G : Hp} : ∀ {ts : List T} {vs : List V}, flats ts = some vs → RepTs g G ts vs
  | [], vs, h => by unfold flats at h; cases h; exact RepTs.nil
  | t :: ts, vs, h => by
    unfold flats at h
    split at h
    · rename_i x y h1 h2
      cases h
      refine RepTs.cons ?_ (RepTs.of_flats h2)
      cases t <;> unfold T.flat at h1 <;> first | cases h1 | skip
      · exact RepT.non
      · exact RepT.bl
      · exact RepT.int
      · exact RepT.str
    · cases h
/-- called with frozen things, writing nothing -/
def nCallU (F : FT) (dts : List T) (as : DVs) : DN := fun e => match as e with
  | some ts => (match F ((ts ++ dts).map O.val) with
    | some (r, []) => some r
    | _ => none)
  | none => none
theorem spF_pure {G H : Hp} {ts : List T} {vs : List V} {F : FT} {r : O} {Q : VK} {E : XK} {io : List Nat} (s : Sub G H) (rt : RepTs g G ts vs) (hF : F (ts.map O.val) = some (r, [])) (hio : io = []) (k : Res g G H r Q) : spF g io F vs H Q E := by
  subst hio
  refine ⟨G, fp0, ts.map O.val, r, [], s, RepOs.vals g rt, fun _ => Nat.zero_le _, fun a h => absurd rfl h, hF, fun G1 H1 v fr fo s1 r1 r2 one no st => ?_⟩
  unfold RepOs at r2
  obtain ⟨_, rfl⟩ := r2
  rw [fpA_0] at st
  refine k G1 H1 v fr ⟨st.gm, fun a o h => st.keep a o h rfl, fun a h => (st.gn a h).elim .inl fun q => q.elim (fun z => absurd rfl z) .inr, s1⟩ r1 (fun a => by have := one a; omega) fun a z => ⟨no a (by omega), (st.own a z).elim (fun z => absurd rfl z) id⟩
section
variable {X : Cx} {x : Str} {e : Expr} {es : List Expr} {p pos : Pos}
theorem pn_callU {F : FT} {dts : List T} {as : DVs} (hg : Gl X x) (c : Cal g X x [] dts F) (ha : PA X (e :: es) (rdAV g as)) (hp : (e :: es).all plainE = true) (hdb : (x == ("__debug__" : Str)) = false) :
    PE X (.Call (.Name x p) (e :: es) [] pos) (rdN g (nCallU F dts as)) := by
  obtain ⟨k, f, fd, ps, dvs, ds, ok, hr, hm, hk, hb, hd, hfl⟩ := c.ok
  have hp' := hp
  rw [List.all_cons, Bool.and_eq_true] at hp
  refine impE (pe_call ok hr hg hm hk hb hd pass0 ha hdb (star_cons hp.1) (star_all hp.2)) fun σ H Q ⟨G, env, fp, o, S, ht, k⟩ => ?_
  unfold nCallU at ht
  split at ht
  · rename_i ts h1
    split at ht
    · rename_i r hF
      cases ht
      exact ⟨G, env, fp, ts, S, h1, fun G1 H1 vs w1 r1 => spF_pure w1.s' (r1.append g (RepTs.of_flats hfl)) hF rfl (Res.later w1 k)⟩
    · cases ht
  · cases ht
theorem pn_callU0 {F : FT} {dts : List T} (hg : Gl X x) (c : Cal g X x [] dts F) (hdb : (x == ("__debug__" : Str)) = false) :
    PE X (.Call (.Name x p) [] [] pos) (rdN g (nCallU F dts asNil)) := by
  obtain ⟨k, f, fd, ps, dvs, ds, ok, hr, hm, hk, hb, hd, hfl⟩ := c.ok
  refine impE (pe_call0 ok hr hg hm hk hb hd pass0 hdb) fun σ H Q ⟨G, env, fp, o, S, ht, k⟩ => ?_
  unfold nCallU asNil at ht
  simp only at ht
  split at ht
  · rename_i r hF
    cases ht
    exact spF_pure (E := E0) (ts := [] ++ dts) (vs := [] ++ dvs) S.sub (RepTs.of_flats hfl) hF rfl k
  · cases ht
end
/-- a method as it is called from X -/
structure CalM (g : Gl0) (X : Cx) (c : Nat) (m : Str) (io : List Nat) (dts : List T) (F : FT) : Prop where
  cl : Cls X.K (g.C c)
  nof : ∀ n, g.fn n ≠ m
  ok : ∃ k f fd ps dvs ds, FnOk X.prog X.w X.K X.mg X.base CX0 k f fd ps (spF g io F) ∧ Room k X.A ∧ Meth X.K (g.C c) m f ∧ Binds X.K fd ps ds ∧ Vals dvs ds ∧ flats dts = some dvs
theorem RepF.none {G : Hp} {m : Str} (no : ∀ n, g.fn n ≠ m) : ∀ {fs : List (Nat × T)} {fv : List (Str × V)}, RepF g G fs fv → fv.lookup m = none
  | [], fv, h => by unfold RepF at h; subst h; rfl
  | (n, t) :: fs, fv, h => by
    unfold RepF at h
    obtain ⟨v, r, rfl, _, k⟩ := h
    have : (m == g.fn n) = false := by
      cases q : (m == g.fn n) with
      | false => rfl
      | true => exact absurd (beq_iff_eq.mp q).symm (no n)
    simp only [List.lookup_cons, this]
    exact RepF.none no k
def nCallM (c : Nat) (F : FT) (dts : List T) (o : DV) (as : DVs) : DN := fun e => match o e, as e with
  | some (.ins c' fs), some ts => if c' = c then (match F ((T.ins c' fs :: (ts ++ dts)).map O.val) with
    | some (r, []) => some r
    | _ => none) else none
  | _, _ => none
section
variable {X : Cx} {m : Str} {o e : Expr} {es : List Expr} {apos pos : Pos}
theorem pn_callM {c : Nat} {F : FT} {dts : List T} {od : DV} {as : DVs} {pl : Sem Bool} (cal : CalM g X c m [] dts F) (ho : PE X o (rdV g od)) (ha : PA X (e :: es) (rdAV g as)) (hp : (e :: es).all plainE = true)
    (ht : eval (.Call (.Attribute o m apos) (e :: es) [] pos) X.env = (do
      let ov ← eval o X.env
      standAt apos.atName
      let (f, first) ← holding [ov] (getMethod ov m pl)
      callWith pos f first (backTo pos (starEach (e :: es) X.env)) (backToKw pos (keywordEach [] X.env)))) :
    PE X (.Call (.Attribute o m apos) (e :: es) [] pos) (rdN g (nCallM c F dts od as)) := by
  obtain ⟨k, f, fd, ps, dvs, ds, ok, hr, hm, hb, hd, hfl⟩ := cal.ok
  have hp' := hp
  rw [List.all_cons, Bool.and_eq_true] at hp
  refine impE (pe_meth ho cal.cl hm ok hr hb hd pass0 ha (star_cons hp.1) (star_all hp.2) ht) fun σ H Q ⟨G, env, fp, o, S, ht, k⟩ => ?_
  unfold nCallM at ht
  split at ht
  · rename_i c' fs ts h1 h2
    by_cases hc : c' = c
    · rw [if_pos hc] at ht
      subst hc
      split at ht
      · rename_i r hF
        cases ht
        refine ⟨G, env, fp, _, S, h1, fun G1 H1 v w1 r1 => ?_⟩
        have r1' := r1
        unfold RepT at r1
        obtain ⟨a, dx, fv, rfl, q, rf⟩ := r1
        refine ⟨a, dx, fv, rfl, w1.s' _ _ q, RepF.none cal.nof rf, G1, env, fp, ts, S.grow w1, h2, fun G2 H2 vs w2 r2 => ?_⟩
        exact spF_pure (ts := T.ins c' fs :: (ts ++ dts)) w2.s' (RepTs.cons (r1'.mono g w2.gm) (r2.append g (RepTs.of_flats hfl))) hF rfl (Res.later (w1.trans w2) k)
      · cases ht
    · rw [if_neg hc] at ht; cases ht
  · cases ht
theorem pn_callM0 {c : Nat} {F : FT} {dts : List T} {od : DV} {pl : Sem Bool} (cal : CalM g X c m [] dts F) (ho : PE X o (rdV g od))
    (ht : eval (.Call (.Attribute o m apos) [] [] pos) X.env = (do
      let ov ← eval o X.env
      standAt apos.atName
      let (f, first) ← holding [ov] (getMethod ov m pl)
      callWith pos f first (backTo pos (starEach [] X.env)) (backToKw pos (keywordEach [] X.env)))) :
    PE X (.Call (.Attribute o m apos) [] [] pos) (rdN g (nCallM c F dts od asNil)) := by
  obtain ⟨k, f, fd, ps, dvs, ds, ok, hr, hm, hb, hd, hfl⟩ := cal.ok
  refine impE (pe_meth0 ho cal.cl hm ok hr hb hd pass0 ht) fun σ H Q ⟨G, env, fp, o, S, ht, k⟩ => ?_
  unfold nCallM asNil at ht
  split at ht
  · rename_i c' fs ts h1 h2
    cases h2
    by_cases hc : c' = c
    · rw [if_pos hc] at ht
      subst hc
      split at ht
      · rename_i r hF
        cases ht
        refine ⟨G, env, fp, _, S, h1, fun G1 H1 v w1 r1 => ?_⟩
        have r1' := r1
        unfold RepT at r1
        obtain ⟨a, dx, fv, rfl, q, rf⟩ := r1
        refine ⟨a, dx, fv, rfl, w1.s' _ _ q, RepF.none cal.nof rf, ?_⟩
        exact spF_pure (E := E0) (ts := T.ins c' fs :: ([] ++ dts)) (vs := V.ref a :: ([] ++ dvs)) w1.s' (RepTs.cons r1' (RepTs.of_flats hfl)) hF rfl (Res.later w1 k)
      · cases ht
    · rw [if_neg hc] at ht; cases ht
  · cases ht
end

/-! ### targets -/
/-- two states of the slots that differ at most at these -/
structure Ag (ss : List Nat) (σ σ' : St) : Prop where
  len : σ'.length = σ.length
  out : ∀ i, i ∉ ss → σ'[i]? = σ[i]?
theorem Ag.refl (ss : List Nat) (σ : St) : Ag ss σ σ := ⟨rfl, fun _ _ => rfl⟩
theorem Ag.trans {ss tt : List Nat} {σ σ1 σ2 : St} (a : Ag ss σ σ1) (b : Ag tt σ1 σ2) : Ag (ss ++ tt) σ σ2 :=
  ⟨b.len.trans a.len, fun i h => by rw [b.out i fun z => h (by simp [z]), a.out i fun z => h (by simp [z])]⟩
theorem Ag.more {ss tt : List Nat} {σ σ1 : St} (a : Ag ss σ σ1) (h : ∀ i ∈ ss, i ∈ tt) : Ag tt σ σ1 := ⟨a.len, fun i z => a.out i fun q => z (h i q)⟩
abbrev BO := O → Env → Option Env
def rdG (g : Gl0) (ss : List Nat) (b : BO) : TG := fun v σ H Q => ∃ G e f o fo e', Stt g G H σ e f ∧ RepO g G H o v fo ∧ (∀ a, fo a + f a ≤ 1) ∧ (∀ a, fo a ≠ 0 → G a = none) ∧ b o e = some e' ∧
  ∀ G' H' σ' f', Stt g G' H' σ' e' f' → Step G H (fpA fo f) G' H' f' → Ag ss σ σ' → Q σ' H'
theorem impG {X : Cx} {e : Expr} {t u : TG} (h : PG X e t) (k : ∀ v σ H Q, u v σ H Q → t v σ H Q) : PG X e u := ⟨fun pins s σ H v w Q I r q => h.run pins s σ H v w Q I r (k v σ H Q q)⟩
def bName (i : Nat) : BO := fun o e => if i < e.length then some (e.set i (some o)) else none
theorem Stt.set {G H : Hp} {σ : St} {e : Env} {f fo : FP} {i : Nat} {o : O} {v : V} (S : Stt g G H σ e f) (r : RepO g G H o v fo) (one : ∀ a, fo a + f a ≤ 1) (out : ∀ a, fo a ≠ 0 → G a = none) (hi : i < e.length) :
    ∃ f', Stt g G H (σ.set i (some v)) (e.set i (some o)) f' ∧ ∀ a, f' a ≤ fo a + f a := by
  obtain ⟨f1, l1, q1⟩ := S.rep.drop g i
  have q2 := q1.put g (i := i) (v := v) (by simp [hi]) r
  rw [List.set_set] at q2
  refine ⟨fpA fo f1, ⟨S.sub, q2, fun a => ?_, fun a z => ?_⟩, fun a => ?_⟩
  · have := one a; have := l1 a; simp only [fpA]; omega
  · simp only [fpA] at z
    by_cases z1 : fo a = 0
    · exact S.out a (by have := l1 a; omega)
    · exact out a z1
  · have := l1 a; simp only [fpA]; omega
theorem set_other {σ : St} {i j : Nat} {x : Option V} (h : j ∉ [i]) : (σ.set i x)[j]? = σ[j]? := by
  rw [List.getElem?_set_ne]
  intro e
  exact h (by simp [e])
section
variable {X : Cx} {e : Expr} {es : List Expr} {pos : Pos}
theorem pgName {i : Nat} (h : PG X e (gName i)) : PG X e (rdG g [i] (bName i)) := impG h fun v σ H Q ⟨G, env, f, o, fo, e', S, r, one, out, hb, k⟩ => by
  unfold bName at hb
  by_cases hi : i < env.length
  · rw [if_pos hi] at hb; cases hb
    obtain ⟨f', S', l⟩ := S.set r one out hi
    exact k G H _ f' S' ((Step.refl G H (fpA fo f)).less fun x => l x) ⟨by rw [List.length_set], fun j hj => set_other hj⟩
  · rw [if_neg hi] at hb; cases hb
abbrev BTs := List T → Env → Option Env
/-- several, from a frozen tuple -/
def rdGs (g : Gl0) (ss : List Nat) (b : BTs) : TGs := fun vs σ H Q => ∃ G e f ts e', Stt g G H σ e f ∧ RepTs g G ts vs ∧ b ts e = some e' ∧
  ∀ G' H' σ' f', Stt g G' H' σ' e' f' → Step G H f G' H' f' → Ag ss σ σ' → Q σ' H'
theorem impGs {X : Cx} {e : List Expr} {t u : TGs} (h : PGs X e t) (k : ∀ v σ H Q, u v σ H Q → t v σ H Q) : PGs X e u := ⟨fun pins s σ H v w Q I r q => h.run pins s σ H v w Q I r (k v σ H Q q)⟩
def btNil : BTs := fun ts e => match ts with
  | [] => some e
  | _ => none
def btCons (b : BO) (r : BTs) : BTs := fun ts e => match ts with
  | t :: us => (match b (.val t) e with
    | some e1 => r us e1
    | none => none)
  | [] => none
theorem pgsNil : PGs X [] (rdGs g [] btNil) := impGs pgs_nil fun vs σ H Q ⟨G, env, f, ts, e', S, r, hb, k⟩ => by
  unfold btNil at hb
  split at hb
  · cases hb
    unfold RepTs at r
    exact ⟨r, k G H σ f S (Step.refl _ _ _) (Ag.refl _ _)⟩
  · cases hb
theorem RepTs.mono' {G H : Hp} {ts : List T} {vs : List V} (s : Sub G H) (r : RepTs g G ts vs) : RepTs g H ts vs := r.mono g s
theorem pgsCons {ss tt : List Nat} {b : BO} {r : BTs} (h1 : PG X e (rdG g ss b)) (h2 : PGs X es (rdGs g tt r)) (hs : (assignEach (e :: es) X.env).map (·.2) = assign e X.env :: (assignEach es X.env).map (·.2)) :
    PGs X (e :: es) (rdGs g (ss ++ tt) (btCons b r)) := impGs (pgs_cons h1 h2 hs) fun vs σ H Q ⟨G, env, f, ts, e', S, rt, hb, k⟩ => by
  unfold btCons at hb
  split at hb
  · rename_i t us
    split at hb
    · rename_i e1 hb1
      unfold RepTs at rt
      obtain ⟨v, w, rfl, q, m⟩ := rt
      refine ⟨v, w, rfl, G, env, f, .val t, fp0, e1, S, by unfold RepO; exact ⟨q, rfl⟩, fun a => by have := S.one a; simp only [fp0]; omega, fun a z => absurd rfl z, hb1, fun G1 H1 σ1 f1 S1 st1 ag1 => ?_⟩
      rw [fp0_A] at st1
      exact ⟨G1, e1, f1, us, e', S1, m.mono g st1.gm, hb, fun G2 H2 σ2 f2 S2 st2 ag2 => k G2 H2 σ2 f2 S2 (st1.trans st2) (ag1.trans ag2)⟩
    · cases hb
  · cases hb
def bTup (n : Nat) (r : BTs) : BO := fun o e => match o with
  | .val (.tup ts) => if ts.length = n then r ts e else none
  | _ => none
theorem pgTup {k0 : Nat} {ss : List Nat} {r : BTs} {n : Nat} (hK : X.K = g.K) (hc : X.calm = true) (h : PGs X es (rdGs g ss r)) (hn : (assignEach es X.env).length = n) (hst : (assignEach es X.env).findIdx? (·.1) = none) :
    PG X (.Tuple es k0 pos) (rdG g ss (bTup n r)) := impG (pg_tup hc h hn hst) fun v σ H Q ⟨G, env, f, o, fo, e', S, rr, one, out, hb, k⟩ => by
  unfold bTup at hb
  split at hb
  · rename_i ts
    by_cases hl : ts.length = n
    · rw [if_pos hl] at hb
      unfold RepO at rr
      obtain ⟨rr, rfl⟩ := rr
      unfold RepT at rr
      obtain ⟨a, vs, rfl, sq, rs⟩ := rr
      refine ⟨a, vs, rfl, by rw [hK]; exact S.sub.sqT sq, by rw [← rs.length g]; exact hl, G, env, f, ts, e', S, rs, hb, fun G' H' σ' f' S' st ag => k G' H' σ' f' S' ?_ ag⟩
      rw [fp0_A]
      exact st
    · rw [if_neg hl] at hb; cases hb
  · cases hb
end
end VS
namespace VS
open PySem L2
variable {g : Gl0}

/-! ### what is walked -/
/-- J goes through the items ts, whatever grows meanwhile -/
def IterOk (g : Gl0) (G0 : Hp) (J : It) (ts : List T) : Prop := ∀ i G H, Sub G0 G → Sub G H → i ≤ ts.length →
  (∀ t, ts[i]? = some t → J.go i H ∧ ∀ x H', J.yld i H x H' → ∃ G', Grow G H G' H' ∧ RepT g G' t x) ∧ (i = ts.length → J.stop i H)
theorem iter_lst {G0 : Hp} {a : Addr} {vs : List V} {ts : List T} (h : G0 a = some (.lst vs)) (r : RepTs g G0 ts vs) (K : PySem.W.Frag) : IterOk g G0 (Itl K a) ts := fun i G H s1 s2 hi => by
  have sq : SqL K H a vs := SqL.of (s2 _ _ (s1 _ _ h))
  refine ⟨fun t ht => ?_, fun e => ⟨vs, sq, by rw [e, r.length g]; exact Nat.le_refl _⟩⟩
  obtain ⟨v, e1, rv⟩ := r.get g ht
  refine ⟨⟨vs, v, sq, e1⟩, fun x H' y => ?_⟩
  obtain ⟨rfl, y⟩ := y
  have e2 := y vs sq
  rw [e1] at e2
  cases e2
  exact ⟨G, Grow.refl s2, rv.mono g s1⟩
theorem iter_tup {G0 : Hp} {a : Addr} {vs : List V} {ts : List T} {K : PySem.W.Frag} (h : SqT K G0 a vs) (r : RepTs g G0 ts vs) : IterOk g G0 (Itt K a) ts := fun i G H s1 s2 hi => by
  have sq : SqT K H a vs := s2.sqT (s1.sqT h)
  refine ⟨fun t ht => ?_, fun e => ⟨vs, sq, by rw [e, r.length g]; exact Nat.le_refl _⟩⟩
  obtain ⟨v, e1, rv⟩ := r.get g ht
  refine ⟨⟨vs, v, sq, e1⟩, fun x H' y => ?_⟩
  obtain ⟨rfl, y⟩ := y
  have e2 := y vs sq
  rw [e1] at e2
  cases e2
  exact ⟨G, Grow.refl s2, rv.mono g s1⟩
def rngT (lo : Int) (n : Nat) : List T := (List.range n).map fun (i : Nat) => T.int (lo + i)
theorem iter_rng {G0 : Hp} {lo : Int} {n : Nat} : IterOk g G0 (Itr lo n) (rngT lo n) := fun i G H s1 s2 hi => by
  have hl : (rngT lo n).length = n := by simp [rngT]
  refine ⟨fun t ht => ?_, fun e => by rw [e, hl]; exact Nat.le_refl n⟩
  have hlt : i < n := by rw [← hl]; exact (List.getElem?_eq_some_iff.mp ht).1
  have e1 : t = .int (lo + i) := by
    unfold rngT at ht
    rw [List.getElem?_map, List.getElem?_range hlt] at ht
    exact (Option.some.inj ht).symm
  subst e1
  refine ⟨hlt, fun x H' y => ?_⟩
  obtain ⟨rfl, rfl⟩ := y
  exact ⟨G, Grow.refl s2, RepT.int⟩
def enumT : Nat → List T → List T
  | _, [] => []
  | i, t :: ts => .tup [.int (i : Nat), t] :: enumT (i + 1) ts
theorem enumT_len : ∀ (ts : List T) (i : Nat), (enumT i ts).length = ts.length
  | [], _ => rfl
  | t :: ts, i => by unfold enumT; rw [List.length_cons, List.length_cons, enumT_len ts]
theorem enumT_get : ∀ (ts : List T) (k i : Nat) (t : T), (enumT k ts)[i]? = some t → ∃ u, ts[i]? = some u ∧ t = .tup [.int ((k + i : Nat) : Int), u]
  | [], k, i, t, h => by simp [enumT] at h
  | u :: ts, k, 0, t, h => by simp [enumT] at h; exact ⟨u, rfl, by rw [← h]; simp⟩
  | u :: ts, k, i + 1, t, h => by
    obtain ⟨w, h1, h2⟩ := enumT_get ts (k + 1) i t (by simpa [enumT] using h)
    exact ⟨w, by simpa using h1, by rw [h2]; congr 4; omega⟩
theorem iter_enum {G0 : Hp} {a : Addr} {vs : List V} {ts : List T} (h : G0 a = some (.lst vs)) (r : RepTs g G0 ts vs) (K : PySem.W.Frag) : IterOk g G0 (Ite K a) (enumT 0 ts) := fun i G H s1 s2 hi => by
  have sq : SqL K H a vs := SqL.of (s2 _ _ (s1 _ _ h))
  refine ⟨fun t ht => ?_, fun e => ⟨vs, sq, by rw [e, enumT_len, r.length g]; exact Nat.le_refl _⟩⟩
  obtain ⟨u, hu, rfl⟩ := enumT_get ts 0 i t ht
  obtain ⟨v, e1, rv⟩ := r.get g hu
  refine ⟨⟨vs, v, sq, e1⟩, fun x H' y => ?_⟩
  obtain ⟨p, z, rfl, hp, rfl, y⟩ := y
  have e2 := y vs sq
  rw [e1] at e2
  cases e2
  have w := Grow.newT s2 hp (.tup [.int (i : Nat), v])
  refine ⟨_, w, RepT.tup upd_same (RepTs.cons ?_ (RepTs.cons (rv.mono g (s1.trans w.gm)) RepTs.nil))⟩
  rw [Nat.zero_add]
  exact RepT.int
/-- quiet sources -/
def rdJ (g : Gl0) (d : DVs) : TI := fun σ H R => ∃ G e f ts, Stt g G H σ e f ∧ d e = some ts ∧ ∀ G' H' J, Grow G H G' H' → IterOk g G' J ts → R J H'
/-- sources -/
def rdI (g : Gl0) (d : Env → Option (List T × Env)) : TI := fun σ H R => ∃ G e f ts e', Stt g G H σ e f ∧ d e = some (ts, e') ∧ ∀ G' H' f' J, Stt g G' H' σ e' f' → Step G H f G' H' f' → IterOk g G' J ts → R J H'
def iOfJ (d : DVs) : Env → Option (List T × Env) := fun e => (d e).map fun ts => (ts, e)
section
variable {X : Cx} {tg l : Expr}
theorem impI {t u : TI} (h : PI X tg l t) (k : ∀ σ H R, u σ H R → t σ H R) : PI X tg l u := ⟨fun pins s σ H R I q => h.run pins s σ H R I (k σ H R q)⟩
theorem pi_j {d : DVs} (h : PI X tg l (rdJ g d)) : PI X tg l (rdI g (iOfJ d)) := impI h fun σ H R ⟨G, env, f, ts, e', S, ht, k⟩ => by
  unfold iOfJ at ht
  cases e1 : d env with
  | none => rw [e1] at ht; cases ht
  | some us => rw [e1] at ht; cases ht; exact ⟨G, env, f, ts, S, e1, fun G' H' J w io => k G' H' f J (S.grow w) (w.step f) io⟩
def seqT : T → Option (List T)
  | .lst ts => some ts
  | .tup ts => some ts
  | _ => none
def jSeq (d : DV) : DVs := fun e => match d e with
  | some t => seqT t
  | none => none
theorem pj_seq {d : DV} (hK : X.K = g.K) (h : PE X l (rdV g d)) : PI X tg l (rdJ g (jSeq d)) := ⟨fun pins s σ H R I ⟨G, env, f, ts, S, ht, k⟩ => by
  unfold jSeq at ht
  cases e1 : d env with
  | none => rw [e1] at ht; cases ht
  | some t =>
    simp only [e1] at ht
    unfold seqT at ht
    split at ht
    · cases ht
      refine (pi_list h).run pins s σ H R I ⟨G, env, f, _, S, e1, fun G1 H1 v w r => ?_⟩
      unfold RepT at r
      obtain ⟨a, vs, rfl, sq, rs⟩ := r
      exact ⟨a, rfl, ⟨vs, SqL.of (w.s' _ _ sq)⟩, k G1 H1 _ w (iter_lst sq rs X.K)⟩
    · cases ht
      refine (pi_tup h).run pins s σ H R I ⟨G, env, f, _, S, e1, fun G1 H1 v w r => ?_⟩
      unfold RepT at r
      obtain ⟨a, vs, rfl, sq, rs⟩ := r
      rw [← hK] at sq
      exact ⟨a, rfl, ⟨vs, w.s'.sqT sq⟩, k G1 H1 _ w (iter_tup sq rs)⟩
    · cases ht⟩
/-- a source whose thing is one's own (a name): it is frozen -/
def iSeq (d : DE) : Env → Option (List T × Env) := fun e => match d e with
  | some (o, e') => (match seqT o.fz with
    | some ts => some (ts, e')
    | none => none)
  | none => none
/-- what an owned value becomes when it is frozen -/
theorem frzE {G H G1 H1 : Hp} {σ : St} {e1 : Env} {f fo f1 : FP} {o : O} {v : V} (S1 : Stt g G1 H1 σ e1 f1) (r : RepO g G1 H1 o v fo) (one : ∀ a, fo a + f1 a ≤ 1) (out : ∀ a, fo a ≠ 0 → G1 a = none) (st : Step G H f G1 H1 (fpA fo f1)) :
    ∃ G2, Stt g G2 H1 σ e1 f1 ∧ Step G H f G2 H1 f1 ∧ RepT g G2 o.fz v := by
  classical
  let G2 : Hp := fun a => if fo a ≠ 0 then H1 a else G1 a
  have s1 : Sub G1 G2 := fun a u h => by
    show (if fo a ≠ 0 then H1 a else G1 a) = some u
    by_cases z : fo a ≠ 0
    · rw [out a z] at h; cases h
    · rw [if_neg z]; exact h
  have s2 : Sub G2 H1 := fun a u h => by
    have h' : (if fo a ≠ 0 then H1 a else G1 a) = some u := h
    by_cases z : fo a ≠ 0
    · rw [if_pos z] at h'; exact h'
    · rw [if_neg z] at h'; exact S1.sub a u h'
  refine ⟨G2, ⟨s2, S1.rep.mono g s1 fun a _ u q => q, S1.one, fun a z => ?_⟩, ⟨st.gm.trans s1, st.keep, fun a z => st.own a (by simp only [fpA]; omega), fun a z => ?_, st.dom⟩, RepO.view g s1 r fun a ha u q => ?_⟩
  · show (if fo a ≠ 0 then H1 a else G1 a) = none
    rw [if_neg (by have := one a; omega)]
    exact S1.out a z
  · have h' : (if fo a ≠ 0 then H1 a else G1 a) ≠ none := z
    by_cases z1 : fo a ≠ 0
    · rcases st.own a (by simp only [fpA]; omega) with q | q
      · exact .inr (.inl q)
      · exact .inr (.inr q)
    · rw [if_neg z1] at h'; exact st.gn a h'
  · show (if fo a ≠ 0 then H1 a else G1 a) = some u
    rw [if_pos ha]; exact q
theorem pi_seq {d : DE} (hK : X.K = g.K) (h : PE X l (rdE g d)) : PI X tg l (rdI g (iSeq d)) := ⟨fun pins s σ H R I ⟨G, env, f, ts, e', S, ht, k⟩ => by
  unfold iSeq at ht
  cases e1 : d env with
  | none => rw [e1] at ht; cases ht
  | some q =>
    obtain ⟨o, e2⟩ := q
    simp only [e1] at ht
    cases e3 : seqT o.fz with
    | none => simp only [e3] at ht; cases ht
    | some us =>
      simp only [e3] at ht; cases ht
      generalize ho : o.fz = t at e3
      unfold seqT at e3
      split at e3
      · cases e3
        refine (pi_list h).run pins s σ H R I ⟨G, env, f, o, _, S, e1, fun G1 H1 v fo f1 S1 r one out st => ?_⟩
        obtain ⟨G2, S2, st2, r2⟩ := frzE S1 r one out st
        rw [ho] at r2
        unfold RepT at r2
        obtain ⟨a, vs, rfl, sq, rs⟩ := r2
        exact ⟨a, rfl, ⟨vs, SqL.of (S2.sub _ _ sq)⟩, k G2 H1 f1 _ S2 st2 (iter_lst sq rs X.K)⟩
      · cases e3
        refine (pi_tup h).run pins s σ H R I ⟨G, env, f, o, _, S, e1, fun G1 H1 v fo f1 S1 r one out st => ?_⟩
        obtain ⟨G2, S2, st2, r2⟩ := frzE S1 r one out st
        rw [ho] at r2
        unfold RepT at r2
        obtain ⟨a, vs, rfl, sq, rs⟩ := r2
        rw [← hK] at sq
        exact ⟨a, rfl, ⟨vs, S2.sub.sqT sq⟩, k G2 H1 f1 _ S2 st2 (iter_tup sq rs)⟩
      · cases e3⟩
variable {a b : Expr} {p pos : Pos}
def rngOk (j : Int) : Bool := decide (-(2 ^ 62) ≤ j) && decide (j < 2 ^ 62)
theorem rngOk_of {j : Int} (h : rngOk j = true) : -(2 ^ 62) ≤ j ∧ j < 2 ^ 62 := by
  unfold rngOk at h
  simpa using h
def jRng1 (d : DV) : DVs := fun e => match d e with
  | some (.int j) => if rngOk j = true then some (rngT 0 j.toNat) else none
  | _ => none
theorem pj_rng1 {d : DV} (hg : Gl X "range") (hm : X.mg "range" = none) (h : PE X a (rdV g d)) (hp : plainE a = true) : PI X tg (.Call (.Name "range" p) [a] [] pos) (rdJ g (jRng1 d)) :=
  impI (pi_range1 hg hm (pa_cons h pa_nil (star_cons hp)) (star_cons hp)) fun σ H R ⟨G, env, f, ts, S, ht, k⟩ => by
    unfold jRng1 at ht
    split at ht
    · rename_i j h1
      by_cases hj : rngOk j = true
      · rw [if_pos hj] at ht; cases ht
        refine ⟨G, env, f, _, S, h1, fun G1 H1 v w r => ?_⟩
        unfold RepT at r
        subst r
        exact ⟨j, rfl, (rngOk_of hj).1, (rngOk_of hj).2, k G1 H1 _ w iter_rng⟩
      · rw [if_neg hj] at ht; cases ht
    · cases ht
def iRng1 (d : DE) : Env → Option (List T × Env) := fun e => match d e with
  | some (.val (.int j), e') => if rngOk j = true then some (rngT 0 j.toNat, e') else none
  | _ => none
theorem pi_rng1 {d : DE} (hg : Gl X "range") (hm : X.mg "range" = none) (h : PE X a (rdE g d)) (hp : plainE a = true) : PI X tg (.Call (.Name "range" p) [a] [] pos) (rdI g (iRng1 d)) :=
  impI (pi_range1 hg hm (pa_cons h pa_nil (star_cons hp)) (star_cons hp)) fun σ H R ⟨G, env, f, ts, e', S, ht, k⟩ => by
    unfold iRng1 at ht
    split at ht
    · rename_i j e2 h1
      by_cases hj : rngOk j = true
      · rw [if_pos hj] at ht; cases ht
        refine ⟨G, env, f, _, _, S, h1, fun G1 H1 v fo f1 S1 r one out st => ?_⟩
        unfold RepO at r
        obtain ⟨r, rfl⟩ := r
        unfold RepT at r
        subst r
        rw [fp0_A] at st
        exact ⟨j, rfl, (rngOk_of hj).1, (rngOk_of hj).2, k G1 H1 f1 _ S1 st iter_rng⟩
      · rw [if_neg hj] at ht; cases ht
    · cases ht
def jRng2 (d d' : DV) : DVs := fun e => match d e, d' e with
  | some (.int i), some (.int j) => if rngOk i = true ∧ rngOk j = true then some (rngT i (j - i).toNat) else none
  | _, _ => none
theorem pj_rng2 {d d' : DV} (hg : Gl X "range") (hm : X.mg "range" = none) (h : PE X a (rdV g d)) (h' : PE X b (rdV g d')) (hp : plainE a = true) (hp' : plainE b = true) :
    PI X tg (.Call (.Name "range" p) [a, b] [] pos) (rdJ g (jRng2 d d')) :=
  impI (pi_range2 hg hm (pa_cons h (pa_cons h' pa_nil (star_cons hp')) (star_cons hp)) (by rw [star_cons hp, star_cons hp']; rfl) (star_cons hp')) fun σ H R ⟨G, env, f, ts, S, ht, k⟩ => by
    unfold jRng2 at ht
    split at ht
    · rename_i i j h1 h2
      by_cases hj : rngOk i = true ∧ rngOk j = true
      · rw [if_pos hj] at ht; cases ht
        refine ⟨G, env, f, _, S, h1, fun G1 H1 v w r => ⟨G1, env, f, _, S.grow w, h2, fun G2 H2 u w2 r2 => ?_⟩⟩
        unfold RepT at r r2
        subst r r2
        exact ⟨i, j, rfl, ⟨(rngOk_of hj.1).1, (rngOk_of hj.1).2, (rngOk_of hj.2).1, (rngOk_of hj.2).2⟩, k G2 H2 _ (w.trans w2) iter_rng⟩
      · rw [if_neg hj] at ht; cases ht
    · cases ht
def jEnum (d : DV) : DVs := fun e => match d e with
  | some (.lst ts) => some (enumT 0 ts)
  | _ => none
theorem pj_enum {d : DV} {elts : List Expr} {kk : Nat} {tpos : Pos} (hg : Gl X "enumerate") (hm : X.mg "enumerate" = none) (h : PE X a (rdV g d)) (hp : plainE a = true) :
    PI X (.Tuple elts kk tpos) (.Call (.Name "enumerate" p) [a] [] pos) (rdJ g (jEnum d)) :=
  impI (pi_enum hg hm (pa_cons h pa_nil (star_cons hp)) (star_cons hp)) fun σ H R ⟨G, env, f, ts, S, ht, k⟩ => by
    unfold jEnum at ht
    split at ht
    · rename_i us h1
      cases ht
      refine ⟨G, env, f, _, S, h1, fun G1 H1 v w r => ?_⟩
      unfold RepT at r
      obtain ⟨A, vs, rfl, sq, rs⟩ := r
      exact ⟨A, vs, rfl, SqL.of (w.s' _ _ sq), k G1 H1 _ w (iter_enum sq rs X.K)⟩
    · cases ht
end

/-! ### targets of a walk: names, tuples of names -/
def rdGq (g : Gl0) (ss : List Nat) (b : BO) : TG := fun v σ H Q => ∃ G e f t e', Stt g G H σ e f ∧ RepT g G t v ∧ b (.val t) e = some e' ∧ ∀ σ' f', Stt g G H σ' e' f' → (∀ a, f' a ≤ f a) → Ag ss σ σ' → Q σ' H
def rdGsq (g : Gl0) (ss : List Nat) (b : BTs) : TGs := fun vs σ H Q => ∃ G e f ts e', Stt g G H σ e f ∧ RepTs g G ts vs ∧ b ts e = some e' ∧ ∀ σ' f', Stt g G H σ' e' f' → (∀ a, f' a ≤ f a) → Ag ss σ σ' → Q σ' H
section
variable {X : Cx} {e : Expr} {es : List Expr} {pos : Pos}
theorem pgqName {i : Nat} (h : PG X e (gName i)) : PG X e (rdGq g [i] (bName i)) := impG h fun v σ H Q ⟨G, env, f, t, e', S, r, hb, k⟩ => by
  unfold bName at hb
  by_cases hi : i < env.length
  · rw [if_pos hi] at hb; cases hb
    obtain ⟨f', S', l⟩ := S.set (o := .val t) (v := v) (fo := fp0) (by unfold RepO; exact ⟨r, rfl⟩) (fun a => by have := S.one a; simp only [fp0]; omega) (fun a z => absurd rfl z) hi
    exact k _ f' S' (fun a => by have := l a; simp only [fp0] at this; omega) ⟨by rw [List.length_set], fun j hj => set_other hj⟩
  · rw [if_neg hi] at hb; cases hb
theorem pgsqNil : PGs X [] (rdGsq g [] btNil) := impGs pgs_nil fun vs σ H Q ⟨G, env, f, ts, e', S, r, hb, k⟩ => by
  unfold btNil at hb
  split at hb
  · cases hb
    unfold RepTs at r
    exact ⟨r, k σ f S (fun _ => Nat.le_refl _) (Ag.refl _ _)⟩
  · cases hb
theorem pgsqCons {ss tt : List Nat} {b : BO} {r : BTs} (h1 : PG X e (rdGq g ss b)) (h2 : PGs X es (rdGsq g tt r)) (hs : (assignEach (e :: es) X.env).map (·.2) = assign e X.env :: (assignEach es X.env).map (·.2)) :
    PGs X (e :: es) (rdGsq g (ss ++ tt) (btCons b r)) := impGs (pgs_cons h1 h2 hs) fun vs σ H Q ⟨G, env, f, ts, e', S, rt, hb, k⟩ => by
  unfold btCons at hb
  split at hb
  · rename_i t us
    split at hb
    · rename_i e1 hb1
      unfold RepTs at rt
      obtain ⟨v, w, rfl, q, m⟩ := rt
      exact ⟨v, w, rfl, G, env, f, t, e1, S, q, hb1, fun σ1 f1 S1 l1 ag1 => ⟨G, e1, f1, us, e', S1, m, hb, fun σ2 f2 S2 l2 ag2 => k σ2 f2 S2 (fun a => Nat.le_trans (l2 a) (l1 a)) (ag1.trans ag2)⟩⟩
    · cases hb
  · cases hb
theorem pgqTup {k0 : Nat} {ss : List Nat} {r : BTs} {n : Nat} (hK : X.K = g.K) (hc : X.calm = true) (h : PGs X es (rdGsq g ss r)) (hn : (assignEach es X.env).length = n) (hst : (assignEach es X.env).findIdx? (·.1) = none) :
    PG X (.Tuple es k0 pos) (rdGq g ss (bTup n r)) := impG (pg_tup hc h hn hst) fun v σ H Q ⟨G, env, f, t, e', S, rr, hb, k⟩ => by
  unfold bTup at hb
  split at hb
  · rename_i ts heq
    cases heq
    by_cases hl : ts.length = n
    · rw [if_pos hl] at hb
      unfold RepT at rr
      obtain ⟨a, vs, rfl, sq, rs⟩ := rr
      exact ⟨a, vs, rfl, by rw [hK]; exact S.sub.sqT sq, by rw [← rs.length g]; exact hl, G, env, f, ts, e', S, rs, hb, k⟩
    · rw [if_neg hl] at hb; cases hb
  · cases hb
end

/-! ### comprehensions -/
def wipeE (e : Env) : List Nat → Env
  | [] => e
  | v :: vs => (wipeE e vs).set v none
theorem Stt.wiped {G H : Hp} {σ : St} {e : Env} {f : FP} (S : Stt g G H σ e f) : ∀ vs : List Nat, ∃ f', Stt g G H (wipe σ vs) (wipeE e vs) f' ∧ ∀ a, f' a ≤ f a
  | [] => ⟨f, S, fun _ => Nat.le_refl _⟩
  | v :: vs => by
    obtain ⟨f1, S1, l1⟩ := S.wiped vs
    obtain ⟨f2, l2, r2⟩ := S1.rep.drop g v
    have l : ∀ a, f2 a ≤ f1 a := l2
    refine ⟨f2, ⟨S.sub, ?_, fun a => Nat.le_trans (l a) (S1.one a), fun a z => S1.out a (by have := l a; omega)⟩, fun a => Nat.le_trans (l a) (l1 a)⟩
    show RepE g G H ((wipeE e vs).set v none) ((wipe σ vs).set v none) f2
    by_cases hv : v < (wipeE e vs).length
    · exact r2.any g none (by simp [hv])
    · have h1 : (wipeE e vs).set v none = wipeE e vs := List.set_eq_of_length_le (by omega)
      have h2 : (wipe σ vs).set v none = wipe σ vs := List.set_eq_of_length_le (by rw [← S1.rep.length g]; omega)
      rw [h2]
      exact r2
theorem wipe_get {σ : St} {i : Nat} : ∀ {vs : List Nat}, i ∈ vs → i < σ.length → (wipe σ vs)[i]? = some none
  | [], h, _ => by simp at h
  | v :: vs, h, hl => by
    unfold wipe
    by_cases e : v = i
    · subst e
      rw [List.getElem?_set_self (by rw [wipe_length]; exact hl)]
    · rw [List.getElem?_set_ne e]
      exact wipe_get (by simpa [Ne.symm e] using h) hl
theorem wipe_not {σ : St} {i : Nat} : ∀ {vs : List Nat}, i ∉ vs → (wipe σ vs)[i]? = σ[i]?
  | [], _ => rfl
  | v :: vs, h => by
    unfold wipe
    rw [List.getElem?_set_ne fun e => h (by simp [e])]
    exact wipe_not fun z => h (by simp [z])
theorem Ag.wiped {ss vs : List Nat} {σ σ' : St} (a : Ag ss σ σ') (h : ∀ i ∈ ss, i ∈ vs) : wipe σ' vs = wipe σ vs := by
  refine List.ext_getElem? fun i => ?_
  by_cases hi : i ∈ vs
  · by_cases hl : i < σ.length
    · rw [wipe_get hi hl, wipe_get hi (by rw [a.len]; exact hl)]
    · rw [List.getElem?_eq_none (by rw [wipe_length, a.len]; omega), List.getElem?_eq_none (by rw [wipe_length]; omega)]
  · rw [wipe_not hi, wipe_not hi]
    exact a.out i fun z => hi (h i z)
theorem wipe_wipe {σ : St} {vs : List Nat} : wipe (wipe σ vs) vs = wipe σ vs := by
  refine List.ext_getElem? fun i => ?_
  by_cases hi : i ∈ vs
  · by_cases hl : i < σ.length
    · rw [wipe_get hi (by rw [wipe_length]; exact hl), wipe_get hi hl]
    · rw [List.getElem?_eq_none (by rw [wipe_length, wipe_length]; omega), List.getElem?_eq_none (by rw [wipe_length]; omega)]
  · rw [wipe_not hi]
def compGo (b : BO) (c : DB) (d : DN) (e : Env) : List T → Option (List O)
  | [] => some []
  | t :: ts => (match b (.val t) e with
    | some e1 => (match c e1 with
      | some true => (match d e1, compGo b c d e ts with
        | some o, some os => some (o :: os)
        | _, _ => none)
      | some false => compGo b c d e ts
      | none => none)
    | none => none)
def nComp (src : DVs) (vs : List Nat) (b : BO) (c : DB) (d : DN) : DN := fun e => match src e with
  | some ts => if ts.length ≤ lim then (compGo b c d (wipeE e vs) ts).map O.lst else none
  | none => none
def bTrue : DB := fun _ => some true
theorem ptsT {X : Cx} : PTs X [] (rdB g bTrue) := ⟨fun pins s σ H Q I ⟨G, e, f, b, S, ht, k⟩ => by
  cases ht
  exact pts_nil.run pins s σ H Q I (k G H (Grow.refl S.sub))⟩
theorem pts1 {X : Cx} {e : Expr} {d : DB} (h : PT X e (rdB g d)) : PTs X [e] (rdB g d) := pts_one h
theorem RepOs.app {G H : Hp} : ∀ {os ps : List O} {vs ws : List V} {f k : FP}, RepOs g G H os vs f → RepOs g G H ps ws k → RepOs g G H (os ++ ps) (vs ++ ws) (fpA f k)
  | [], ps, vs, ws, f, k, h, r => by
    unfold RepOs at h
    obtain ⟨rfl, rfl⟩ := h
    rw [fp0_A]
    exact r
  | o :: os, ps, vs, ws, f, k, h, r => by
    unfold RepOs at h
    obtain ⟨v, r1, f1, f2, rfl, rfl, q, m⟩ := h
    show RepOs g G H (o :: (os ++ ps)) (v :: (r1 ++ ws)) _
    unfold RepOs
    exact ⟨v, _, f1, fpA f2 k, rfl, fpA_assoc _ _ _, q, RepOs.app m r⟩
theorem comp_read {ss vs : List Nat} {src : DVs} {b : BO} {c : DB} {d : DN} {σ : St} {H : Hp} {Q : VK} (hss : ∀ i ∈ ss, i ∈ vs) (h : rdN g (nComp src vs b c d) σ H Q) :
    tLc (rdJ g src) (rdGq g ss b) (rdB g c) (rdN g d) vs σ H Q := by
  obtain ⟨G, env, f, o, S, ht, k⟩ := h
  unfold nComp at ht
  split at ht
  · rename_i ts hs
    by_cases hl : ts.length ≤ lim
    · rw [if_pos hl] at ht
      cases e1 : compGo b c d (wipeE env vs) ts with
      | none => rw [e1] at ht; cases ht
      | some os =>
        rw [e1] at ht; cases ht
        refine ⟨G, env, f, ts, S, hs, fun G1 H1 J w1 io D hD => ?_⟩
        have S1 := S.grow w1
        refine ⟨fun i m H' => m = ts.length - i ∧ i ≤ ts.length ∧ ∃ Gi ps us fa rest, Grow G1 H1 Gi H' ∧ H' D = some (.lst us) ∧ Gi D = none ∧ RepOs g Gi H' ps us fa ∧ (∀ a, fa a ≤ 1) ∧ (∀ a, fa a ≠ 0 → Gi a = none ∧ H1 a = none ∧ a ≠ D) ∧ ps.length ≤ i ∧
          compGo b c d (wipeE env vs) (ts.drop i) = some rest ∧ ps ++ rest = os, ⟨ts.length, by simp, Nat.zero_le _, G1, [], [], fp0, os, ?_, upd_same, w1.s'.noneOf hD, by unfold RepOs; exact ⟨rfl, rfl⟩, fun _ => Nat.zero_le _, fun a z => absurd rfl z, Nat.le_refl _, by rw [List.drop_zero]; exact e1, rfl⟩, ?_⟩
        · exact Grow.newO w1.s' hD _
        · rintro i m H' ⟨rfl, hi, Gi, ps, us, fa, rest, w, hDl, hDn, rs, one, out, hps, hgo, hap⟩
          obtain ⟨io1, io2⟩ := io i Gi H' w.gm w.s' hi
          by_cases hlt : i < ts.length
          · refine .inr ?_
            have hti : ts[i]? = some ts[i] := List.getElem?_eq_getElem hlt
            obtain ⟨jgo, jy⟩ := io1 _ hti
            refine ⟨jgo, fun H2 => ts.length - (i + 1) < ts.length - i ∧ i + 1 ≤ ts.length ∧ ∃ Gi ps us fa rest, Grow G1 H1 Gi H2 ∧ H2 D = some (.lst us) ∧ Gi D = none ∧ RepOs g Gi H2 ps us fa ∧ (∀ a, fa a ≤ 1) ∧ (∀ a, fa a ≠ 0 → Gi a = none ∧ H1 a = none ∧ a ≠ D) ∧ ps.length ≤ i + 1 ∧
              compGo b c d (wipeE env vs) (ts.drop (i + 1)) = some rest ∧ ps ++ rest = os, fun H2 ⟨z1, z2, z⟩ => ⟨_, z1, rfl, z2, z⟩, fun x H2 y => ?_⟩
            obtain ⟨G2, w2, rx⟩ := jy x H2 y
            rw [List.drop_eq_getElem_cons hlt] at hgo
            unfold compGo at hgo
            split at hgo
            · rename_i e2 hb
              obtain ⟨f2, S2, l2⟩ := (S1.grow (w.trans w2)).wiped vs
              refine ⟨G2, wipeE env vs, f2, ts[i], e2, S2, rx, hb, fun σ3 f3 S3 l3 ag => ⟨?_, ?_⟩⟩
              · rw [ag.wiped hss, wipe_wipe]
              · -- D is neither frozen nor owned by the slots; what was made stands
                have w12 := w.trans w2
                have D2 : H2 D = some (.lst us) := w2.hm _ _ hDl
                have Dn2 : G2 D = none := w2.out (by rw [hDl]; exact fun z => nomatch z) hDn
                have rs2 : RepOs g G2 H2 ps us fa := rs.mono g w2.gm fun a _ u q => w2.hm a u q
                have out2 : ∀ a, fa a ≠ 0 → G2 a = none ∧ H1 a = none ∧ a ≠ D := fun a z => ⟨w2.out (RepOs.there g rs a z) (out a z).1, (out a z).2⟩
                split at hgo
                · rename_i hc
                  refine ⟨G2, e2, f3, true, S3, hc, fun G4 H4 w4 => iteT ?_⟩
                  split at hgo
                  · rename_i o1 os1 hd1 hr1
                    cases hgo
                    refine ⟨G4, e2, f3, o1, S3.grow w4, hd1, fun G5 H5 v5 fo5 w5 r5 one5 no5 => ?_⟩
                    have w45 := w4.trans w5
                    have D5 : H5 D = some (.lst us) := w45.hm _ _ D2
                    have Dn5 : G5 D = none := w45.out (by rw [D2]; exact fun z => nomatch z) Dn2
                    refine ⟨us, D5, ?_, by omega, hlt, G5, ps ++ [o1], us ++ [v5], fpA fa fo5, os1, ?_, upd_same, Dn5, ?_, fun a => ?_, fun a z => ?_, ?_, hr1, by rw [List.append_assoc]; exact hap⟩
                    · have h1 := rs.length g
                      have h2 := lim_le
                      omega
                    · have w15 := w12.trans w45
                      refine ⟨w15.gm, fun a u q => ?_, w15.gn, fun a u q => ?_⟩
                      · rw [upd_ne (ne_of_none q hD)]
                        exact w15.hm a u q
                      · rw [upd_ne (ne_of_none q Dn5)]
                        exact w15.s' a u q
                    · have q1 : RepOs g G5 (upd H5 D (.lst (us ++ [v5]))) ps us fa := rs2.mono g w45.gm fun a ha u q => by
                        rw [upd_ne (out2 a ha).2.2]
                        exact w45.hm a u q
                      have q2 : RepO g G5 (upd H5 D (.lst (us ++ [v5]))) o1 v5 fo5 := r5.mono g (Sub.refl _) fun a ha u q => by
                        rw [upd_ne fun e => ?_]
                        · exact q
                        · subst e
                          have := (no5 a ha).2
                          rw [w4.hm _ _ D2] at this
                          cases this
                      refine RepOs.app q1 ?_
                      unfold RepOs
                      exact ⟨v5, [], fo5, fp0, rfl, (fpA_0 _).symm, q2, by unfold RepOs; exact ⟨rfl, rfl⟩⟩
                    · have h1 := one a
                      have h2 := one5 a
                      simp only [fpA]
                      by_cases z : fo5 a = 0
                      · omega
                      · by_cases z2 : fa a = 0
                        · omega
                        · exact absurd (w4.hm.noneOf (no5 a z).2) (RepOs.there g rs2 a z2)
                    · simp only [fpA] at z
                      by_cases z2 : fa a = 0
                      · have n5 := no5 a (by omega)
                        refine ⟨n5.1, w12.hm.noneOf (w4.hm.noneOf n5.2), fun e => ?_⟩
                        subst e
                        have := n5.2
                        rw [w4.hm _ _ D2] at this
                        cases this
                      · exact ⟨w45.out (RepOs.there g rs2 a z2) (out2 a z2).1, (out2 a z2).2⟩
                    · rw [List.length_append]
                      show ps.length + 1 ≤ i + 1
                      omega
                  · cases hgo
                · rename_i hc
                  refine ⟨G2, e2, f3, false, S3, hc, fun G4 H4 w4 => iteF ?_⟩
                  refine ⟨by omega, hlt, G4, ps, us, fa, rest, w12.trans w4, w4.hm _ _ D2, w4.out (by rw [D2]; exact fun z => nomatch z) Dn2, rs2.mono g w4.gm (fun a _ u q => w4.hm a u q), one, fun a z => ⟨w4.out (RepOs.there g rs2 a z) (out2 a z).1, (out2 a z).2⟩, by omega, hgo, hap⟩
                · cases hgo
            · cases hgo
          · have hie : i = ts.length := by omega
            refine .inl ⟨io2 hie, ?_⟩
            subst hie
            rw [List.drop_length] at hgo
            cases hgo
            rw [List.append_nil] at hap
            subst hap
            refine k Gi H' _ (fpA (fp1 D) fa) (w1.trans w) (by unfold RepO; exact ⟨D, us, fa, rfl, hDl, rfl, rs⟩) (fun a => ?_) fun a z => ?_
            · have h1 := one a
              simp only [fpA, fp1]
              by_cases z : fa a = 0
              · split <;> omega
              · rw [if_neg (out a z).2.2]; omega
            · simp only [fpA] at z
              by_cases z2 : fa a = 0
              · have : a = D := fp1_ne (a := D) (by omega)
                subst this
                exact ⟨hDn, w1.hm.noneOf hD⟩
              · exact ⟨(out a z2).1, w1.hm.noneOf (out a z2).2.1⟩
    · rw [if_neg hl] at ht; cases ht
  · cases ht
end VS
namespace VS
open PySem L2
variable {g : Gl0}

/-! ### one, two values that are used up -/
section
variable {σ : St} {H : Hp}
theorem rd_one {d : DE} {R : V → Hp → Prop} (h : ∃ G e f o e', Stt g G H σ e f ∧ d e = some (o, e') ∧ ∀ G' H' v f', Stt g G' H' σ e' f' → Step G H f G' H' f' → RepT g G' o.fz v → R v H') : rdE g d σ H R := by
  obtain ⟨G, e, f, o, e', S, ht, k⟩ := h
  refine ⟨G, e, f, o, e', S, ht, fun G1 H1 v fo f1 S1 r one out st => ?_⟩
  obtain ⟨G2, S2, st2, r2⟩ := frzE S1 r one out st
  exact k G2 H1 v f1 S2 st2 r2
theorem rd_two {da db : DE} {R : V → V → Hp → Prop} (h : ∃ G e f o1 e1 o2 e2, Stt g G H σ e f ∧ da e = some (o1, e1) ∧ db e1 = some (o2, e2) ∧
    ∀ G' H' v w f', Stt g G' H' σ e2 f' → Step G H f G' H' f' → RepT g G' o1.fz v → RepT g G' o2.fz w → R v w H') : rdE g da σ H fun v H1 => rdE g db σ H1 fun w H2 => R v w H2 := by
  obtain ⟨G, e, f, o1, e1, o2, e2, S, h1, h2, k⟩ := h
  refine rd_one ⟨G, e, f, o1, e1, S, h1, fun G1 H1 v f1 S1 st1 r1 => ?_⟩
  exact rd_one ⟨G1, e1, f1, o2, e2, S1, h2, fun G2 H2 w f2 S2 st2 r2 => k G2 H2 v w f2 S2 (st1.trans st2) (r1.mono g st2.gm) r2⟩
end
/-- what a result of frozen things is, behind steps -/
theorem PostE.of {G H G1 H1 : Hp} {σ : St} {e' : Env} {f f1 : FP} {o : O} {Q : VK} (st : Step G H f G1 H1 f1) (S1 : Stt g G1 H1 σ e' f1) (k : PostE g G H f σ o e' Q) : Res g G1 H1 o Q := by
  refine Res.post S1 fun G2 H2 v fo f2 S2 r one out st2 => ?_
  exact k G2 H2 v fo f2 S2 r one out (st.trans st2)
def eBin (op : Operator) (p q : DE) : DE := fun e => match p e with
  | some (a, e1) => (match q e1 with
    | some (b, e2) => (binT op a.fz b.fz).map fun o => (o, e2)
    | none => none)
  | none => none
def beCmp (op : CmpOp) (p q : DE) : DBE := fun e => match p e with
  | some (a, e1) => (match q e1 with
    | some (b, e2) => (cmpT op a.fz b.fz).map fun o => (o, e2)
    | none => none)
  | none => none
def eOfB (d : DBE) : DE := fun e => (d e).map fun x => (.val (.bl x.1), x.2)
section
variable {X : Cx} {a b : Expr} {pos : Pos}
theorem pe_bin' (hK : X.K = g.K) {op : Operator} {p q : DE} (ha : PE X a (rdE g p)) (hb : PE X b (rdE g q)) : PE X (.BinOp a op b pos) (rdE g (eBin op p q)) :=
  impE (pe_op (bin_all hK op) ha hb) fun σ H Q ⟨G, env, f, o, e', S, ht, k⟩ => by
    unfold eBin at ht
    split at ht
    · rename_i x e1 h1
      split at ht
      · rename_i y e2 h2
        cases h3 : binT op x.fz y.fz with
        | none => rw [h3] at ht; cases ht
        | some r =>
          rw [h3] at ht; cases ht
          refine rd_two ⟨G, env, f, x, e1, y, _, S, h1, h2, fun G1 H1 v w f1 S1 st r1 r2 => ?_⟩
          exact ⟨G1, x.fz, y.fz, o, S1.sub, r1, r2, h3, PostE.of st S1 k⟩
      · cases ht
    · cases ht
theorem rd_cmpE {op : CmpOp} {p q : DE} {σ : St} {H : Hp} {Q : VK} (h : ∃ G env f k e', Stt g G H σ env f ∧ beCmp op p q env = some (k, e') ∧ ∀ G' H' f', Stt g G' H' σ e' f' → Step G H f G' H' f' → Q (.bl k) H') :
    tOp (rCmp g op) (rdE g p) (rdE g q) σ H Q := by
  obtain ⟨G, env, f, k, e', S, ht, k1⟩ := h
  unfold beCmp at ht
  split at ht
  · rename_i x e1 h1
    split at ht
    · rename_i y e2 h2
      cases h3 : cmpT op x.fz y.fz with
      | none => rw [h3] at ht; cases ht
      | some r =>
        rw [h3] at ht; cases ht
        refine rd_two ⟨G, env, f, x, e1, y, _, S, h1, h2, fun G1 H1 v w f1 S1 st r1 r2 => ?_⟩
        exact ⟨x.fz, y.fz, k, r1.mono g S1.sub, r2.mono g S1.sub, h3, k1 G1 H1 f1 S1 st⟩
    · cases ht
  · cases ht
theorem pt_cmpE (hK : X.K = g.K) (hu : X.A.units + 65 < cLine) {op : CmpOp} {p q : DE} (ha : PE X a (rdE g p)) (hb : PE X b (rdE g q)) (hm : behindInMarks op b = false) : PT X (.Compare a [op] [b] pos) (rdBE g (beCmp op p q)) :=
  impT (pt_cmpR (cmp_all hK hu op) ha hb hm) fun σ H Q ⟨G, env, f, k, e', S, ht, k1⟩ =>
    rd_cmpE (Q := fun x H' => ∃ k, x = .bl k ∧ Q k H') ⟨G, env, f, k, e', S, ht, fun G' H' f' S' st => ⟨k, rfl, k1 G' H' f' S' st⟩⟩
theorem PostE.sc {G H G1 H1 : Hp} {σ : St} {e' : Env} {f f1 : FP} {t : T} {v : V} {Q : VK} (st : Step G H f G1 H1 f1) (S1 : Stt g G1 H1 σ e' f1) (k : PostE g G H f σ (.val t) e' Q) (r : RepT g G1 t v) : Q v H1 :=
  k G1 H1 v fp0 f1 S1 (by unfold RepO; exact ⟨r, rfl⟩) (fun a => by have := S1.one a; simp only [fp0]; omega) (fun a z => absurd rfl z) (by rw [fp0_A]; exact st)
theorem pe_cmpE (hK : X.K = g.K) (hu : X.A.units + 65 < cLine) {op : CmpOp} {p q : DE} (ha : PE X a (rdE g p)) (hb : PE X b (rdE g q)) (hm : behindInMarks op b = false) : PE X (.Compare a [op] [b] pos) (rdE g (eOfB (beCmp op p q))) :=
  impE (pe_cmpR (cmp_all hK hu op) ha hb hm) fun σ H Q ⟨G, env, f, o, e', S, ht, k1⟩ => by
    unfold eOfB at ht
    cases h1 : beCmp op p q env with
    | none => rw [h1] at ht; cases ht
    | some x =>
      rw [h1] at ht; cases ht
      exact rd_cmpE ⟨G, env, f, x.1, x.2, S, h1, fun G' H' f' S' st => PostE.sc st S' k1 RepT.bl⟩
def beOfE (d : DE) : DBE := fun e => match d e with
  | some (.val (.bl b), e') => some (b, e')
  | _ => none
theorem ptbe_e {d : DE} (h : PE X a (rdE g d)) (he : ∀ whole, isTrue a X.env whole = (do let v ← whole; standAt a.pos; holding [v] (truthy v))) : PT X a (rdBE g (beOfE d)) :=
  impT (pt_val h he) fun σ H Q ⟨G, env, f, b, e', S, ht, k⟩ => by
    unfold beOfE at ht
    split at ht
    · rename_i b' e1 h1
      cases ht
      refine rd_one ⟨G, env, f, _, _, S, h1, fun G1 H1 v f1 S1 st r => ?_⟩
      unfold O.fz RepT at r
      exact ⟨_, r, k G1 H1 f1 S1 st⟩
    · cases ht
def beNot (d : DBE) : DBE := fun e => (d e).map fun x => (!x.1, x.2)
def beAnd (d k : DBE) : DBE := fun e => match d e with
  | some (true, e1) => k e1
  | some (false, e1) => some (false, e1)
  | none => none
def beOr (d k : DBE) : DBE := fun e => match d e with
  | some (false, e1) => k e1
  | some (true, e1) => some (true, e1)
  | none => none
theorem ptbe_not {d : DBE} (h : PT X a (rdBE g d)) : PT X (.UnaryOp .Not a pos) (rdBE g (beNot d)) := impT (pt_not h) fun σ H Q ⟨G, env, f, k, e', S, ht, k1⟩ => by
  unfold beNot at ht
  cases e : d env with
  | none => rw [e] at ht; cases ht
  | some b => rw [e] at ht; cases ht; exact ⟨G, env, f, b.1, b.2, S, e, fun G' H' f' S' st => k1 G' H' f' S' st⟩
theorem pwbe_one {op : BoolOp} {d : DBE} (h : PT X a (rdBE g d)) : PW X (.BoolOp op [a] pos) (rdBE g d) := by
  cases op
  · exact pw_and1 h
  · exact pw_or1 h
theorem pwbe_and {d k : DBE} {rest : List Expr} (ha : PT X a (rdBE g d)) (hb : PW X (.BoolOp .And (b :: rest) pos) (rdBE g k)) : PW X (.BoolOp .And (a :: b :: rest) pos) (rdBE g (beAnd d k)) :=
  impW (pw_and ha hb) fun σ H Q ⟨G, env, f, r, e', S, ht, k1⟩ => by
    unfold beAnd at ht
    split at ht
    · rename_i e1 e
      exact ⟨G, env, f, true, e1, S, e, fun G' H' f' S' st => iteT ⟨G', e1, f', r, e', S', ht, fun G2 H2 f2 S2 st2 => k1 G2 H2 f2 S2 (st.trans st2)⟩⟩
    · rename_i e1 e
      cases ht
      exact ⟨G, env, f, false, _, S, e, fun G' H' f' S' st => iteF (k1 G' H' f' S' st)⟩
    · cases ht
theorem pwbe_or {d k : DBE} {rest : List Expr} (ha : PT X a (rdBE g d)) (hb : PW X (.BoolOp .Or (b :: rest) pos) (rdBE g k)) : PW X (.BoolOp .Or (a :: b :: rest) pos) (rdBE g (beOr d k)) :=
  impW (pw_or ha hb) fun σ H Q ⟨G, env, f, r, e', S, ht, k1⟩ => by
    unfold beOr at ht
    split at ht
    · rename_i e1 e
      exact ⟨G, env, f, false, e1, S, e, fun G' H' f' S' st => iteF ⟨G', e1, f', r, e', S', ht, fun G2 H2 f2 S2 st2 => k1 G2 H2 f2 S2 (st.trans st2)⟩⟩
    · rename_i e1 e
      cases ht
      exact ⟨G, env, f, true, _, S, e, fun G' H' f' S' st => iteT (k1 G' H' f' S' st)⟩
    · cases ht
def eIf (c : DBE) (p q : DE) : DE := fun e => match c e with
  | some (true, e1) => p e1
  | some (false, e1) => q e1
  | none => none
theorem pe_if' {c : Expr} {d : DBE} {p q : DE} (hc : PT X c (rdBE g d)) (ha : PE X a (rdE g p)) (hb : PE X b (rdE g q)) : PE X (.IfExp c a b pos) (rdE g (eIf d p q)) :=
  impE (pe_ifExp hc ha hb) fun σ H Q ⟨G, env, f, o, e', S, ht, k⟩ => by
    unfold eIf at ht
    split at ht
    · rename_i e1 h1
      exact ⟨G, env, f, true, e1, S, h1, fun G1 H1 f1 S1 st => iteT ⟨G1, e1, f1, o, e', S1, ht, fun G2 H2 v fo f2 S2 r one out st2 => k G2 H2 v fo f2 S2 r one out (st.trans st2)⟩⟩
    · rename_i e1 h1
      exact ⟨G, env, f, false, e1, S, h1, fun G1 H1 f1 S1 st => iteF ⟨G1, e1, f1, o, e', S1, ht, fun G2 H2 v fo f2 S2 r one out st2 => k G2 H2 v fo f2 S2 r one out (st.trans st2)⟩⟩
    · cases ht
end

/-! ### arguments that may be one's own; some are lent -/
abbrev DA := Env → Option (List O × Env)
def Mv (mv : List (Option Nat)) (vs : List V) (σ : St) : Prop := ∀ (j i : Nat), mv[j]? = some (some i) → ∃ w, vs[j]? = some w ∧ σ[i]? = some (some w)
def rdA (g : Gl0) (mv : List (Option Nat)) (d : DA) : TA := fun σ H Q => ∃ G e f os e', Stt g G H σ e f ∧ d e = some (os, e') ∧
  ∀ G' H' vs fo f', Stt g G' H' σ e' f' → RepOs g G' H' os vs fo → (∀ a, fo a + f' a ≤ 1) → (∀ a, fo a ≠ 0 → G' a = none) → Step G H f G' H' (fpA fo f') → Mv mv vs σ → Q vs H'
def daNil : DA := fun e => some ([], e)
def daCons (d : DE) (r : DA) : DA := fun e => match d e with
  | some (o, e1) => (match r e1 with
    | some (os, e2) => some (o :: os, e2)
    | none => none)
  | none => none
/-- a name whose thing is lent: it is taken out of its slot -/
def eMove (i : Nat) : DE := fun e => match e[i]? with
  | some (some o) => some (o, e.set i none)
  | _ => none
section
variable {X : Cx} {a : Expr} {es : List Expr}
theorem paNil : PA X [] (rdA g [] daNil) := impA pa_nil fun σ H Q ⟨G, env, f, os, e', S, ht, k⟩ => by
  cases ht
  exact k G H [] fp0 f S (by unfold RepOs; exact ⟨rfl, rfl⟩) (fun a => by have := S.one a; simp only [fp0]; omega) (fun a z => absurd rfl z) (by rw [fp0_A]; exact Step.refl _ _ _) fun j i h => by simp at h
/-- what is held beside is still held behind more steps -/
theorem Stt.beside {G1 H1 G2 H2 : Hp} {f1 k1 f2 : FP} (one : ∀ a, k1 a + f1 a ≤ 1) (out : ∀ a, k1 a ≠ 0 → G1 a = none) (there : ∀ a, k1 a ≠ 0 → H1 a ≠ none) (st : Step G1 H1 f1 G2 H2 f2) (one2 : ∀ a, f2 a ≤ 1) :
    (∀ a, k1 a + f2 a ≤ 1) ∧ (∀ a, k1 a ≠ 0 → G2 a = none) ∧ (∀ a, k1 a ≠ 0 → ∀ u, H1 a = some u → H2 a = some u) := by
  refine ⟨fun a => ?_, fun a z => ?_, fun a z u q => st.keep a u q (by have := one a; omega)⟩
  · have h1 := one a
    have h2 := one2 a
    by_cases z : k1 a = 0
    · omega
    · by_cases z2 : f2 a = 0
      · omega
      · rcases st.own a z2 with q | q
        · omega
        · exact absurd q (there a z)
  · cases e : G2 a with
    | none => rfl
    | some o =>
      rcases st.gn a (by rw [e]; exact fun z => nomatch z) with q | q | q
      · exact absurd (out a z) q
      · have := one a; omega
      · exact absurd q (there a z)
theorem pa_core {m : Option Nat} {mv : List (Option Nat)} {d : DE} {r : DA} {te : TE} (hte : ∀ σ H (Q : VK), (∃ G e f o e', Stt g G H σ e f ∧ d e = some (o, e') ∧ ∀ G' H' v fo f', Stt g G' H' σ e' f' → RepO g G' H' o v fo → (∀ a, fo a + f' a ≤ 1) → (∀ a, fo a ≠ 0 → G' a = none) → Step G H f G' H' (fpA fo f') →
      (∀ i, m = some i → σ[i]? = some (some v)) → Q v H') → te σ H Q) (h2 : PA X es (rdA g mv r)) (h1 : PE X a te) (hs : starEach (a :: es) X.env = (false, eval a X.env) :: starEach es X.env) : PA X (a :: es) (rdA g (m :: mv) (daCons d r)) :=
  impA (pa_cons h1 h2 hs) fun σ H Q ⟨G, env, f, os, e', S, ht, k⟩ => by
    unfold daCons at ht
    split at ht
    · rename_i o e1 hd
      split at ht
      · rename_i ps e2 hr
        cases ht
        refine hte σ H _ ⟨G, env, f, o, e1, S, hd, fun G1 H1 v fo f1 S1 r1 one1 out1 st1 hm => ?_⟩
        refine ⟨G1, e1, f1, ps, _, S1, hr, fun G2 H2 vs fp f2 S2 r2 one2 out2 st2 hmv => ?_⟩
        obtain ⟨b1, b2, b3⟩ := Stt.beside one1 out1 (fun a z => RepO.there g r1 a z) st2 (fun a => by have := one2 a; simp only [fpA]; omega)
        refine k G2 H2 (v :: vs) (fpA fo fp) f2 S2 (by unfold RepOs; exact ⟨v, vs, fo, fp, rfl, rfl, r1.mono g st2.gm b3, r2⟩) (fun a => by have := b1 a; simp only [fpA] at this ⊢; omega) (fun a z => ?_) ?_ fun j i hj => ?_
        · simp only [fpA] at z
          by_cases z1 : fo a = 0
          · exact out2 a (by omega)
          · exact b2 a z1
        · have := st1.trans (st2.frame fo)
          rw [← fpA_assoc] at this
          exact this
        · cases j with
          | zero => exact ⟨v, rfl, hm i (by simpa using hj)⟩
          | succ j => exact hmv j i (by simpa using hj)
      · cases ht
    · cases ht
theorem paCons {mv : List (Option Nat)} {d : DE} {r : DA} (h1 : PE X a (rdE g d)) (h2 : PA X es (rdA g mv r)) (hs : starEach (a :: es) X.env = (false, eval a X.env) :: starEach es X.env) : PA X (a :: es) (rdA g (none :: mv) (daCons d r)) :=
  pa_core (fun σ H Q ⟨G, env, f, o, e', S, hd, k⟩ => ⟨G, env, f, o, e', S, hd, fun G1 H1 v fo f1 S1 r one out st => k G1 H1 v fo f1 S1 r one out st fun i z => nomatch z⟩) h2 h1 hs
theorem paMove {i : Nat} {mv : List (Option Nat)} {r : DA} (h1 : PE X a (tVar i)) (h2 : PA X es (rdA g mv r)) (hs : starEach (a :: es) X.env = (false, eval a X.env) :: starEach es X.env) : PA X (a :: es) (rdA g (some i :: mv) (daCons (eMove i) r)) :=
  pa_core (fun σ H Q ⟨G, env, f, o, e', S, hd, k⟩ => by
    unfold eMove at hd
    split at hd
    · rename_i o' he
      cases hd
      obtain ⟨v, f1, f2, e1, ef, q1, q2⟩ := S.rep.take g he
      have one : ∀ a, f1 a + f2 a ≤ 1 := fun a => by have := S.one a; rw [ef] at this; simpa only [fpA] using this
      refine ⟨v, e1, k G H v f1 f2 ⟨S.sub, q2, fun a => by have := one a; omega, fun a z => S.out a (by rw [ef]; simp only [fpA]; omega)⟩ q1 one (fun a z => S.out a (by rw [ef]; simp only [fpA]; omega)) (by rw [← ef]; exact Step.refl _ _ _) fun j hj => ?_⟩
      cases hj
      exact e1
    · cases hd) h2 h1 hs
/-- put back what was lent -/
def putB : List (Option Nat) → List O → Env → Option Env
  | [], [], e => some e
  | none :: ss, _ :: os, e => putB ss os e
  | some i :: ss, o :: os, e => (match e[i]? with
    | some none => putB ss os (e.set i (some o))
    | _ => none)
  | _, _, _ => none
theorem putB_ok {G H : Hp} {σ : St} : ∀ {ss : List (Option Nat)} {os : List O} {ws : List V} {e e' : Env} {f fo : FP}, putB ss os e = some e' → RepE g G H e σ f → RepOs g G H os ws fo →
    (∀ (k i : Nat) (w : V), ss[k]? = some (some i) → ws[k]? = some w → σ[i]? = some (some w)) → ∃ f', RepE g G H e' σ f' ∧ ∀ a, f' a ≤ fo a + f a
  | [], [], ws, e, e', f, fo, h, r, q, k => by
    unfold putB at h
    cases h
    exact ⟨f, r, fun a => by omega⟩
  | none :: ss, o :: os, ws, e, e', f, fo, h, r, q, k => by
    unfold putB at h
    unfold RepOs at q
    obtain ⟨v, w, f1, f2, rfl, rfl, q1, q2⟩ := q
    obtain ⟨f', r', l⟩ := putB_ok h r q2 fun j i w' h1 h2 => k (j + 1) i w' (by simpa using h1) (by simpa using h2)
    exact ⟨f', r', fun a => by have := l a; simp only [fpA]; omega⟩
  | some i :: ss, o :: os, ws, e, e', f, fo, h, r, q, k => by
    unfold putB at h
    unfold RepOs at q
    obtain ⟨v, w, f1, f2, rfl, rfl, q1, q2⟩ := q
    split at h
    · rename_i he
      have z := r.put g (v := v) he q1
      rw [set_same (k 0 i v rfl rfl)] at z
      obtain ⟨f', r', l⟩ := putB_ok h z q2 fun j i w' h1 h2 => k (j + 1) i w' (by simpa using h1) (by simpa using h2)
      exact ⟨f', r', fun a => by have := l a; simp only [fpA] at this ⊢; omega⟩
    · cases h
  | [], _ :: _, ws, e, e', f, fo, h, r, q, k => by unfold putB at h; cases h
  | none :: _, [], ws, e, e', f, fo, h, r, q, k => by unfold putB at h; cases h
  | some _ :: _, [], ws, e, e', f, fo, h, r, q, k => by unfold putB at h; cases h
theorem RepOs.of_flats {G H : Hp} {ts : List T} {vs : List V} (h : flats ts = some vs) : RepOs g G H (ts.map O.val) vs fp0 := RepOs.vals g (RepTs.of_flats h)
/-- a call that may write what it is lent -/
def eCallU (F : FT) (io : List Nat) (mv : List (Option Nat)) (dts : List T) (as : DA) : DE := fun e => match as e with
  | some (os, e1) => (match F (os ++ dts.map O.val) with
    | some (r, outs) => (match putB (io.map fun j => (mv[j]?).join) outs e1 with
      | some e2 => some (r, e2)
      | none => none)
    | none => none)
  | none => none
theorem filt_get {io : List Nat} {vs : List V} (h : ∀ j ∈ io, j < vs.length) : ∀ (k j : Nat), io[k]? = some j → (io.filterMap fun i => vs[i]?)[k]? = vs[j]? := by
  induction io with
  | nil => intro k j e; simp at e
  | cons i io ih =>
    intro k j e
    have hi := h i List.mem_cons_self
    rw [List.filterMap_cons, List.getElem?_eq_getElem hi]
    cases k with
    | zero =>
      simp at e
      subst e
      simp [List.getElem?_eq_getElem hi]
    | succ k => exact ih (fun j hj => h j (List.mem_cons_of_mem _ hj)) k j (by simpa using e)
theorem filt_len {io : List Nat} {vs : List V} (h : ∀ j ∈ io, j < vs.length) : (io.filterMap fun i => vs[i]?).length = io.length := by
  induction io with
  | nil => rfl
  | cons i io ih =>
    rw [List.filterMap_cons, List.getElem?_eq_getElem (h i List.mem_cons_self)]
    simp [ih fun j hj => h j (List.mem_cons_of_mem _ hj)]
/-- the caller's side of such a call -/
theorem spF_call {G H G1 H1 : Hp} {σ : St} {e1 e2 : Env} {f fo f1 : FP} {os : List O} {vs dvs : List V} {F : FT} {io : List Nat} {mv : List (Option Nat)} {dts : List T} {r : O} {outs : List O} {Q : VK} {E : XK}
    (S1 : Stt g G1 H1 σ e1 f1) (ro : RepOs g G1 H1 os vs fo) (one : ∀ a, fo a + f1 a ≤ 1) (out : ∀ a, fo a ≠ 0 → G1 a = none) (st : Step G H f G1 H1 (fpA fo f1)) (hmv : Mv mv vs σ) (hfl : flats dts = some dvs)
    (hF : F (os ++ dts.map O.val) = some (r, outs)) (hio : ∀ j ∈ io, j < vs.length) (hput : putB (io.map fun j => (mv[j]?).join) outs e1 = some e2) (k : PostE g G H f σ r e2 Q) : spF g io F (vs ++ dvs) H1 Q E := by
  have ro' : RepOs g G1 H1 (os ++ dts.map O.val) (vs ++ dvs) fo := by
    have := RepOs.app ro (RepOs.of_flats (G := G1) (H := H1) hfl)
    rw [fpA_0] at this
    exact this
  refine ⟨G1, fo, _, r, outs, S1.sub, ro', fun a => by have := one a; omega, out, hF, fun G2 H2 v fr fo2 s2 rr rouT one2 out2 st2 => ?_⟩
  obtain ⟨b1, b2, b3⟩ := Stt.beside (k1 := f1) (f1 := fo) (fun a => by have := one a; omega) (fun a z => S1.out a z) (fun a z => S1.rep.there g a z) st2 (fun a => by have := one2 a; simpa only [fpA] using this)
  have re : RepE g G2 H2 e1 σ f1 := S1.rep.mono g st2.gm b3
  have hio' : ∀ j ∈ io, j < (vs ++ dvs).length := fun j hj => by rw [List.length_append]; have := hio j hj; omega
  obtain ⟨f2, r2, l2⟩ := putB_ok hput re rouT fun kk i w h1 h2 => by
    rw [List.getElem?_map] at h1
    cases e : io[kk]? with
    | none => rw [e] at h1; cases h1
    | some j =>
      rw [e] at h1
      have h1' : (mv[j]?).join = some i := by simpa using h1
      have h3 : mv[j]? = some (some i) := by
        cases e3 : mv[j]? with
        | none => rw [e3] at h1'; cases h1'
        | some q => rw [e3] at h1'; simp at h1'; rw [h1']
      rw [filt_get hio' kk j e, List.getElem?_append_left (hio j (List.mem_of_getElem? e))] at h2
      obtain ⟨w', h4, h5⟩ := hmv j i h3
      rw [h2] at h4
      cases h4
      exact h5
  have onef : ∀ a, fr a + f2 a ≤ 1 := fun a => by
    have h1 := b1 a
    have h2 := l2 a
    have h3 := one2 a
    simp only [fpA] at h1
    omega
  refine k G2 H2 v fr f2 ⟨s2, r2, fun a => by have := onef a; omega, fun a z => ?_⟩ rr onef (fun a z => out2 a (by omega)) ?_
  · have := l2 a
    by_cases z1 : fo2 a = 0
    · exact b2 a (by omega)
    · exact out2 a (by omega)
  · have st3 := st2.frame f1
    have st4 : Step G H f G2 H2 (fpA f1 (fpA fr fo2)) := by
      rw [fpA_comm fo f1] at st
      exact st.trans st3
    exact st4.less fun a => by have := l2 a; simp only [fpA]; omega
variable {x : Str} {p pos : Pos}
theorem pe_callU {e : Expr} {F : FT} {io : List Nat} {dts : List T} {mv : List (Option Nat)} {as : DA} (hg : Gl X x) (c : Cal g X x io dts F) (ha : PA X (e :: es) (rdA g mv as)) (hp : (e :: es).all plainE = true) (hdb : (x == ("__debug__" : Str)) = false)
    (hio : ∀ j ∈ io, j < (e :: es).length) (hlen : ∀ env os e1, as env = some (os, e1) → os.length = (e :: es).length) :
    PE X (.Call (.Name x p) (e :: es) [] pos) (rdE g (eCallU F io mv dts as)) := by
  obtain ⟨k, f, fd, ps, dvs, ds, ok, hr, hm, hk, hb, hd, hfl⟩ := c.ok
  have hp' := hp
  rw [List.all_cons, Bool.and_eq_true] at hp
  refine impE (pe_call ok hr hg hm hk hb hd pass0 ha hdb (star_cons hp.1) (star_all hp.2)) fun σ H Q ⟨G, env, fp, o, e', S, ht, k⟩ => ?_
  unfold eCallU at ht
  split at ht
  · rename_i os e1 h1
    split at ht
    · rename_i r outs hF
      split at ht
      · rename_i e2 hput
        cases ht
        refine ⟨G, env, fp, os, e1, S, h1, fun G1 H1 vs fo f1 S1 ro one out st hmv => ?_⟩
        exact spF_call S1 ro one out st hmv hfl hF (fun j hj => by rw [← ro.length g, hlen _ _ _ h1]; exact hio j hj) hput k
      · cases ht
    · cases ht
  · cases ht
/-- a class as it is called from X -/
structure CalC (g : Gl0) (X : Cx) (x : Str) (c : Nat) (dts : List T) (F : FT) : Prop where
  ok : ∃ k f fd ps dvs ds, FnOk X.prog X.w X.K X.mg X.base CX0 k f fd ps (spF g [0] F) ∧ Room (k + 1) X.A ∧ X.mg x = some (.ref (g.C c)) ∧ Mk X.K (g.C c) f ∧ Binds X.K fd ps ds ∧ Vals dvs ds ∧ flats dts = some dvs
/-- a new instance -/
def eMake (c : Nat) (F : FT) (dts : List T) (as : DA) : DE := fun e => match as e with
  | some (os, e1) => (match F (O.ins c [] :: (os ++ dts.map O.val)) with
    | some (.val .non, [o]) => some (o, e1)
    | _ => none)
  | none => none
theorem pe_make' {e : Expr} {F : FT} {c : Nat} {dts : List T} {mv : List (Option Nat)} {as : DA} (hg : Gl X x) (cal : CalC g X x c dts F) (ha : PA X (e :: es) (rdA g mv as)) (hp : (e :: es).all plainE = true) (hdb : (x == ("__debug__" : Str)) = false) :
    PE X (.Call (.Name x p) (e :: es) [] pos) (rdE g (eMake c F dts as)) := by
  obtain ⟨k, f, fd, ps, dvs, ds, ok, hr, hm, hk, hb, hd, hfl⟩ := cal.ok
  have hp' := hp
  rw [List.all_cons, Bool.and_eq_true] at hp
  refine impE (pe_make hk ok hr hg hm hb hd pass0 ha hdb (star_cons hp.1) (star_all hp.2)) fun σ H Q ⟨G, env, fp, o, e', S, ht, k⟩ => ?_
  unfold eMake at ht
  split at ht
  · rename_i os e1 h1
    split at ht
    · rename_i o1 hF
      cases ht
      refine ⟨G, env, fp, os, _, S, h1, fun G1 H1 vs fo f1 S1 ro one out st hmv x dx hx hdx hne => ?_⟩
      have w1 := Grow.newO S1.sub hdx (.own x)
      have hx' : (upd H1 dx (.own x)) x = none := by rw [upd_ne hne.symm]; exact hx
      have w2 := Grow.newO w1.s' hx' (.ins (g.C c) dx [])
      have w := w1.trans w2
      have ro' : RepOs g G1 (upd (upd H1 dx (.own x)) x (.ins (g.C c) dx [])) (O.ins c [] :: (os ++ dts.map O.val)) (V.ref x :: (vs ++ dvs)) (fpA (fp1 x) fo) := by
        unfold RepOs
        refine ⟨_, _, fp1 x, fo, rfl, rfl, ?_, ?_⟩
        · unfold RepO
          exact ⟨x, dx, [], fp0, rfl, upd_same, (fpA_0 _).symm, by unfold RepOf; exact ⟨rfl, rfl⟩⟩
        · have := RepOs.app (ro.mono g (Sub.refl _) fun a _ u q => w.hm a u q) (RepOs.of_flats (g := g) (G := G1) (H := upd (upd H1 dx (.own x)) x (.ins (g.C c) dx [])) hfl)
          rw [fpA_0] at this
          exact this
      have nx : ∀ a, fo a ≠ 0 → a ≠ x := fun a z e => by subst e; exact RepOs.there g ro a z hx
      refine ⟨G1, fpA (fp1 x) fo, _, .val .non, [_], w.s', ro', fun a => ?_, fun a z => ?_, hF, fun G2 H2 v fr fo2 s2 rr rou one2 out2 st2 => ?_⟩
      · have := one a
        simp only [fpA, fp1]
        by_cases z : a = x
        · subst z
          have h0 : fo a = 0 := Classical.byContradiction fun z => nx a z rfl
          rw [if_pos rfl]; omega
        · rw [if_neg z]; omega
      · simp only [fpA] at z
        by_cases z1 : fo a = 0
        · have : a = x := fp1_ne (a := x) (by omega)
          subst this
          exact S1.sub.noneOf hx
        · exact out a z1
      · unfold RepO at rr
        obtain ⟨rr, rfl⟩ := rr
        unfold RepT at rr
        refine ⟨rr, ?_⟩
        have rou' : RepOs g G2 H2 [o] [V.ref x] fo2 := rou
        unfold RepOs at rou'
        obtain ⟨v', r', g1, g2, ev, rfl, q1, q2⟩ := rou'
        cases ev
        unfold RepOs at q2
        obtain ⟨_, rfl⟩ := q2
        rw [fpA_0] at one2 out2 st2
        rw [fp0_A] at st2
        -- what is beside: the slots
        have stw : Step G H fp G1 (upd (upd H1 dx (.own x)) x (.ins (g.C c) dx [])) (fpA (fp1 x) (fpA fo f1)) := by
          have s3 := st.trans (w.step (fpA fo f1))
          refine ⟨s3.gm, s3.keep, fun a z => ?_, s3.gn, s3.dom⟩
          simp only [fpA] at z
          by_cases z1 : fo a + f1 a = 0
          · have : a = x := fp1_ne (a := x) (by omega)
            subst this
            right
            cases eH : H a with
            | none => rfl
            | some u => exact absurd hx (st.dom a (by rw [eH]; exact fun z => nomatch z))
          · exact s3.own a (by simp only [fpA]; exact z1)
        have nf : ∀ a, f1 a ≠ 0 → a ≠ x := fun a z e => by subst e; exact S1.rep.there g a z hx
        obtain ⟨b1, b2, b3⟩ := Stt.beside (k1 := f1) (f1 := fpA (fp1 x) fo) (fun a => by
            have := one a
            simp only [fpA, fp1]
            by_cases z : a = x
            · subst z
              have h0 : fo a = 0 := Classical.byContradiction fun z => nx a z rfl
              have h1 : f1 a = 0 := Classical.byContradiction fun z => nf a z rfl
              rw [if_pos rfl]; omega
            · rw [if_neg z]; omega) (fun a z => S1.out a z) (fun a z => w.hm.dom (S1.rep.there g a z)) st2 (fun a => by have := one2 a; simp only [fp0] at this; omega)
        refine k G2 H2 _ g1 f1 ⟨s2, S1.rep.mono g st2.gm fun a z u q => b3 a z u (w.hm a u q), S1.one, b2⟩ q1 (fun a => by have := b1 a; omega) (fun a z => out2 a (by simp only [fp0]; omega)) ?_
        have s4 := st2.frame f1
        have e1 : fpA (fp1 x) (fpA fo f1) = fpA f1 (fpA (fp1 x) fo) := by funext a; simp only [fpA]; omega
        rw [e1] at stw
        have s5 := stw.trans s4
        rw [fpA_comm f1 g1] at s5
        exact s5
    · cases ht
  · cases ht
end
end VS
namespace VS
open PySem L2
variable {g : Gl0}

/-! ### more expressions -/
theorem RepOs.frz {G H J : Hp} (s : Sub G J) {os : List O} {vs : List V} {f : FP} (r : RepOs g G H os vs f) (k : ∀ a, f a ≠ 0 → ∀ u, H a = some u → J a = some u) : RepTs g J (fzs os) vs := RepOs.view g s r k
/-- what is one's own beside the slots is frozen -/
theorem frzA {G H G1 H1 : Hp} {σ : St} {e1 : Env} {f fo f1 : FP} {os : List O} {vs : List V} (S1 : Stt g G1 H1 σ e1 f1) (r : RepOs g G1 H1 os vs fo) (one : ∀ a, fo a + f1 a ≤ 1) (out : ∀ a, fo a ≠ 0 → G1 a = none) (st : Step G H f G1 H1 (fpA fo f1)) :
    ∃ G2, Stt g G2 H1 σ e1 f1 ∧ Step G H f G2 H1 f1 ∧ RepTs g G2 (fzs os) vs := by
  classical
  let G2 : Hp := fun a => if fo a ≠ 0 then H1 a else G1 a
  have s1 : Sub G1 G2 := fun a u h => by
    show (if fo a ≠ 0 then H1 a else G1 a) = some u
    by_cases z : fo a ≠ 0
    · rw [out a z] at h; cases h
    · rw [if_neg z]; exact h
  have s2 : Sub G2 H1 := fun a u h => by
    have h' : (if fo a ≠ 0 then H1 a else G1 a) = some u := h
    by_cases z : fo a ≠ 0
    · rw [if_pos z] at h'; exact h'
    · rw [if_neg z] at h'; exact S1.sub a u h'
  refine ⟨G2, ⟨s2, S1.rep.mono g s1 fun a _ u q => q, S1.one, fun a z => ?_⟩, ⟨st.gm.trans s1, st.keep, fun a z => st.own a (by simp only [fpA]; omega), fun a z => ?_, st.dom⟩, RepOs.frz s1 r fun a ha u q => ?_⟩
  · show (if fo a ≠ 0 then H1 a else G1 a) = none
    rw [if_neg (by have := one a; omega)]
    exact S1.out a z
  · have h' : (if fo a ≠ 0 then H1 a else G1 a) ≠ none := z
    by_cases z1 : fo a ≠ 0
    · rcases st.own a (by simp only [fpA]; omega) with q | q
      · exact .inr (.inl q)
      · exact .inr (.inr q)
    · rw [if_neg z1] at h'; exact st.gn a h'
  · show (if fo a ≠ 0 then H1 a else G1 a) = some u
    rw [if_pos ha]; exact q
def eTup (as : DA) : DE := fun e => match as e with
  | some (os, e1) => if os.length ≤ lim then some (.val (.tup (fzs os)), e1) else none
  | none => none
/-- a built-in of frozen things, of any arguments -/
def eCallV (F : List T → Option O) (as : DA) : DE := fun e => match as e with
  | some (os, e1) => (F (fzs os)).map fun o => (o, e1)
  | none => none
section
variable {X : Cx} {e : Expr} {es : List Expr} {x : Str} {p pos : Pos}
theorem pe_tup' {k0} {mv : List (Option Nat)} {as : DA} (h : PA X es (rdA g mv as)) : PE X (.Tuple es k0 pos) (rdE g (eTup as)) := impE (pe_tup h) fun σ H Q ⟨G, env, f, o, e', S, ht, k⟩ => by
  unfold eTup at ht
  split at ht
  · rename_i os e1 h1
    by_cases hl : os.length ≤ lim
    · rw [if_pos hl] at ht; cases ht
      refine ⟨G, env, f, os, _, S, h1, fun G1 H1 vs fo f1 S1 r one out st _ => ⟨by rw [← r.length g]; exact Nat.le_trans hl lim_le, fun q hq => ?_⟩⟩
      obtain ⟨G2, S2, st2, r2⟩ := frzA S1 r one out st
      have w := Grow.newT S2.sub hq (.tup vs)
      exact PostE.sc (st2.trans (w.step f1)) (S2.grow w) k (RepT.tup upd_same (r2.mono g w.gm))
    · rw [if_neg hl] at ht; cases ht
  · cases ht
theorem pe_callV {f : Value} {F : List T → Option O} {mv : List (Option Nat)} {as : DA} (hf : kindBT f = true) (B : Blt X x f) (hc : CallR X f (rBV g F)) (ha : PA X (e :: es) (rdA g mv as)) (hp : (e :: es).all plainE = true) :
    PE X (.Call (.Name x p) (e :: es) [] pos) (rdE g (eCallV F as)) := impE (pe_blt hf B hc ha hp) fun σ H Q ⟨G, env, f, o, e', S, ht, k⟩ => by
  unfold eCallV at ht
  split at ht
  · rename_i os e1 h1
    cases h2 : F (fzs os) with
    | none => rw [h2] at ht; cases ht
    | some r =>
      rw [h2] at ht; cases ht
      refine ⟨G, env, f, os, _, S, h1, fun G1 H1 vs fo f1 S1 r one out st _ => ?_⟩
      obtain ⟨G2, S2, st2, r2⟩ := frzA S1 r one out st
      exact ⟨G2, fzs os, o, S2.sub, r2, h2, PostE.of st2 S2 k⟩
  · cases ht
theorem pe_callQ {f : Value} {F : List T → Option O} {mv : List (Option Nat)} {as : DA} (hf : kindBT f = true) (B : Blt X x f) (hc : CallR X f (rBQ g F)) (ha : PA X (e :: es) (rdA g mv as)) (hp : (e :: es).all plainE = true) :
    PE X (.Call (.Name x p) (e :: es) [] pos) (rdE g (eCallV F as)) := impE (pe_blt hf B hc ha hp) fun σ H Q ⟨G, env, f, o, e', S, ht, k⟩ => by
  unfold eCallV at ht
  split at ht
  · rename_i os e1 h1
    cases h2 : F (fzs os) with
    | none => rw [h2] at ht; cases ht
    | some r =>
      rw [h2] at ht; cases ht
      refine ⟨G, env, f, os, _, S, h1, fun G1 H1 vs fo f1 S1 r one out st _ => ?_⟩
      obtain ⟨G2, S2, st2, r2⟩ := frzA S1 r one out st
      exact ⟨fzs os, o, r2.mono g S2.sub, h2, ResQ.res S2.sub (PostE.of st2 S2 k)⟩
  · cases ht
variable {a b : Expr}
def idxT (t : T) (i : Int) : Option T := match t with
  | .tup ts => atI ts i
  | .lst ts => atI ts i
  | .scr ns => (atI ns i).map T.int
  | _ => none
theorem idx_read (hK : X.K = g.K) {G H : Hp} {t u : T} {v : V} {i : Int} {Q : VK} (s : Sub G H) (r : RepT g G t v) (h : idxT t i = some u) (k : ∀ w, RepT g G u w → Q w H) : rIx X.K v (.int i) H Q := by
  unfold idxT at h
  split at h
  · unfold RepT at r
    obtain ⟨A, vs, rfl, sq, rs⟩ := r
    obtain ⟨x, ex, rx⟩ := rs.at h
    exact .inr (.inl ⟨A, vs, i, x, rfl, rfl, by rw [hK]; exact s.sqT sq, ex, k x rx⟩)
  · unfold RepT at r
    obtain ⟨A, vs, rfl, sq, rs⟩ := r
    obtain ⟨x, ex, rx⟩ := rs.at h
    exact .inl ⟨A, vs, i, x, rfl, rfl, .inl (.inl (s _ _ sq)), ex, k x rx⟩
  · rename_i ns
    cases e : atI ns i with
    | none => rw [e] at h; cases h
    | some m =>
      rw [e] at h; cases h
      unfold RepT at r
      obtain ⟨A, rfl, sq⟩ := r
      obtain ⟨j, h1, h2⟩ := atI_get' e
      exact .inl ⟨A, ns.map V.int, i, .int m, rfl, rfl, by rw [hK]; exact s.sqL sq, atI_of (j := j) (by rw [List.length_map]; exact h1) (by rw [List.getElem?_map, h2]; rfl), k _ RepT.int⟩
  · cases h
def vIdx (p q : DV) : DV := fun e => match p e, q e with
  | some t, some (.int i) => idxT t i
  | _, _ => none
theorem pv_idx (hK : X.K = g.K) {p q : DV} (ha : PE X a (rdV g p)) (hb : PE X b (rdV g q)) (hs : PlainIx b) : PE X (.Subscript a b pos) (rdV g (vIdx p q)) :=
  impE (pe_ix ix_seq ha hb hs) fun σ H Q ⟨G, env, f, t, S, ht, k⟩ => by
    unfold vIdx at ht
    split at ht
    · rename_i u i h1 h2
      refine ⟨G, env, f, u, S, h1, fun G1 H1 v w r => ⟨G1, env, f, _, S.grow w, h2, fun G2 H2 y w2 r2 => ?_⟩⟩
      unfold RepT at r2
      subst r2
      exact idx_read hK w2.s' (r.mono g w2.gm) ht fun z rz => k G2 H2 z (w.trans w2) rz
    · cases ht
def eIdx (p q : DE) : DE := fun e => match p e with
  | some (a, e1) => (match q e1 with
    | some (.val (.int i), e2) => (idxT a.fz i).map fun t => (.val t, e2)
    | _ => none)
  | none => none
theorem pe_idx' (hK : X.K = g.K) {p q : DE} (ha : PE X a (rdE g p)) (hb : PE X b (rdE g q)) (hs : PlainIx b) : PE X (.Subscript a b pos) (rdE g (eIdx p q)) :=
  impE (pe_ix ix_seq ha hb hs) fun σ H Q ⟨G, env, f, o, e', S, ht, k⟩ => by
    unfold eIdx at ht
    split at ht
    · rename_i x e1 h1
      split at ht
      · rename_i i e2 h2
        cases h3 : idxT x.fz i with
        | none => rw [h3] at ht; cases ht
        | some u =>
          rw [h3] at ht; cases ht
          refine rd_two ⟨G, env, f, x, e1, _, _, S, h1, h2, fun G1 H1 v w f1 S1 st r1 r2 => ?_⟩
          unfold O.fz RepT at r2
          subst r2
          exact idx_read hK S1.sub r1 h3 fun z rz => PostE.sc st S1 k rz
      · cases ht
    · cases ht

/-! ### lists that are written -/
theorem atList {H : Hp} {a : Addr} {xs : List V} {K : PySem.W.Frag} (h : H a = some (.lst xs)) : tyV K "list" (.ref a) H := Or.inl ⟨rfl, _, Or.inl (Or.inl h)⟩
/-- a write at a place: what follows -/
theorem write_at {G H G1 H1 : Hp} {σ : St} {env e' : Env} {f f0 k : FP} {a : Addr} {vs : List V} {vs' : List V} {set : O → Option Env} {os' : List O} {k' : FP}
    (S : Stt g G H σ env f) (w : Grow G H G1 H1) (ef : f = fpA (fpA (fp1 a) k) f0) (ha : H1 a = some (.lst vs)) (wd : Wand g G1 H1 σ set (.ref a) f0) (hs : set (.lst os') = some e')
    (rs : RepOs g G1 (upd H1 a (.lst vs')) os' vs' k') (hk : ∀ b, k' b ≠ 0 → b ≠ a) (onek : ∀ b, k' b + (fpA (fp1 a) f0) b ≤ 1) (outk : ∀ b, k' b ≠ 0 → G1 b = none) :
    Stt g G1 (upd H1 a (.lst vs')) σ e' (fpA (fpA (fp1 a) k') f0) ∧ (∀ x, (fpA (fpA (fp1 a) k') f0) x ≠ 0 → f x ≠ 0 ∨ k' x ≠ 0) ∧ (∀ b u, H1 b = some u → f b = 0 → (upd H1 a (.lst vs')) b = some u) ∧ (∀ b, H1 b ≠ none → (upd H1 a (.lst vs')) b ≠ none) := by
  have S1 := S.grow w
  have fa : f a ≠ 0 := by rw [ef]; simp [fpA, fp1]
  have f0a : f0 a = 0 := by have := S.one a; rw [ef] at this; simp [fpA, fp1] at this; omega
  have ga : G1 a = none := S1.out a fa
  have sub' : Sub G1 (upd H1 a (.lst vs')) := fun b u q => by
    rw [upd_ne (ne_of_none q ga)]
    exact w.s' b u q
  have rep := wd G1 (upd H1 a (.lst vs')) (.lst os') (fpA (fp1 a) k') e' hs (Sub.refl _) (fun b hb u q => by
    rw [upd_ne fun e => by subst e; exact hb f0a]
    exact q) (by
    unfold RepO
    exact ⟨a, vs', k', rfl, upd_same, rfl, rs⟩)
  refine ⟨⟨sub', rep, fun b => ?_, fun b z => ?_⟩, fun b z => ?_, fun b u q hz => ?_, fun b q => ?_⟩
  · have := onek b
    simp only [fpA] at this ⊢
    omega
  · simp only [fpA] at z
    by_cases z1 : k' b = 0
    · refine S1.out b ?_
      rw [ef]
      simp only [fpA]
      omega
    · exact outk b z1
  · simp only [fpA] at z
    by_cases z1 : k' b = 0
    · left
      rw [ef]
      simp only [fpA]
      omega
    · exact .inr z1
  · rw [upd_ne fun e => by subst e; exact fa hz]
    exact q
  · by_cases e : b = a
    · subst e; rw [upd_same]; exact fun z => nomatch z
    · rw [upd_ne e]; exact q
/-- p.append(d), d writing nothing -/
def eAppend (p : DP) (d : DN) : DE := fun e => match p e, d e with
  | some (.lst os, set), some o => if os.length < lim then (set (.lst (os ++ [o]))).map fun e' => (.val .non, e') else none
  | _, _ => none
variable {o : Expr} {apos : Pos}
theorem pe_append {pd : DP} {d : DN} (ho : PE X o (rdP g pd)) (he : PE X e (rdN g d)) (hp : plainE e = true) 
    (hb : PE X (.Call (.Attribute o "append" apos) [e] [] pos) (tBM X.K "list" rAppend (rdP g pd) (tCons (rdN g d) tNil))) :
    PE X (.Call (.Attribute o "append" apos) [e] [] pos) (rdE g (eAppend pd d)) := impE hb fun σ H Q ⟨G, env, f, r, e', S, ht, k⟩ => by
  unfold eAppend at ht
  split at ht
  · rename_i os set o1 h1 h2
    by_cases hl : os.length < lim
    · rw [if_pos hl] at ht
      cases h3 : set (.lst (os ++ [o1])) with
      | none => rw [h3] at ht; cases ht
      | some e2 =>
        rw [h3] at ht; cases ht
        refine ⟨G, env, f, _, set, S, h1, fun G1 H1 v f1 f0 w ef r1 wd => ?_⟩
        unfold RepO at r1
        obtain ⟨a, vs, k1, rfl, ha, rfl, rs⟩ := r1
        refine ⟨atList ha, G1, env, f, o1, S.grow w, h2, fun G2 H2 y fy w2 ry oney noy => ?_⟩
        have ha2 := w2.hm _ _ ha
        have nya : ∀ b, fy b ≠ 0 → b ≠ a := fun b z e => by subst e; have := (noy b z).2; rw [ha] at this; cases this
        have k1a : ∀ b, k1 b ≠ 0 → b ≠ a := fun b z e => by
          subst e
          have := S.one b
          rw [ef] at this
          simp [fpA, fp1] at this
          omega
        refine ⟨a, vs, y, rfl, rfl, ha2, by rw [← rs.length g]; exact Nat.lt_of_lt_of_le hl lim_le, ?_⟩
        have S1 := S.grow w
        have rs' : RepOs g G2 (upd H2 a (.lst (vs ++ [y]))) (os ++ [o1]) (vs ++ [y]) (fpA fy k1) := by
          refine RepOs.snoc g (ry.mono g (Sub.refl _) fun b hb u q => ?_) (rs.mono g w2.gm fun b hb u q => ?_)
          · rw [upd_ne (nya b hb)]; exact q
          · rw [upd_ne (k1a b hb)]; exact w2.hm b u q
        have fyf : ∀ b, fy b ≠ 0 → f b = 0 := fun b z => Classical.byContradiction fun z2 => (S1.rep.there g b z2) (noy b z).2
        obtain ⟨S3, own3, keep3, dom3⟩ := write_at S (w.trans w2) ef ha2 (wd.mono w2.gm w2.hm) h3 rs' (fun b z => by
          simp only [fpA] at z
          by_cases z1 : fy b = 0
          · exact k1a b (by omega)
          · exact nya b z1) (fun b => by
          have h1 := S.one b
          rw [ef] at h1
          simp only [fpA] at h1 ⊢
          by_cases z1 : fy b = 0
          · omega
          · have h2 := fyf b z1
            rw [ef] at h2
            simp only [fpA] at h2
            have := oney b
            omega) fun b z => by
          simp only [fpA] at z
          by_cases z1 : fy b = 0
          · exact (S1.grow w2).out b (by rw [ef]; simp only [fpA]; omega)
          · exact (noy b z1).1
        refine PostE.sc (G1 := G2) ⟨(w.trans w2).gm, fun b u q hz => keep3 b u ((w.trans w2).hm b u q) hz, fun b z => ?_, fun b z => ((w.trans w2).gn b z).elim .inl fun q => .inr (.inr q), fun b z => dom3 b ((w.trans w2).hm.dom z)⟩ S3 k RepT.non
        rcases own3 b z with q | q
        · exact .inl q
        · simp only [fpA] at q
          by_cases z1 : fy b = 0
          · left
            rw [ef]
            simp only [fpA]
            omega
          · exact .inr (w.hm.noneOf (noy b z1).2)
    · rw [if_neg hl] at ht; cases ht
  · cases ht
/-- x.append(d), x a name, d any -/
def eAppendN (i : Nat) (d : DE) : DE := fun e => match e[i]?, d e with
  | some (some (.lst _)), some (o, e1) => (match e1[i]? with
    | some (some (.lst os)) => if os.length < lim then some (.val .non, e1.set i (some (.lst (os ++ [o])))) else none
    | _ => none)
  | _, _ => none
theorem pe_appendN {i : Nat} {d : DE} (hb : PE X (.Call (.Attribute o "append" apos) [e] [] pos) (tBM X.K "list" rAppend (tVar i) (tCons (rdE g d) tNil))) :
    PE X (.Call (.Attribute o "append" apos) [e] [] pos) (rdE g (eAppendN i d)) := impE hb fun σ H Q ⟨G, env, f, r, e', S, ht, k⟩ => by
  unfold eAppendN at ht
  split at ht
  · rename_i os0 o1 e1 h1 h2
    split at ht
    · rename_i os h3
      by_cases hl : os.length < lim
      · rw [if_pos hl] at ht; cases ht
        obtain ⟨v0, g1, g2, ev, _, q1, _⟩ := S.rep.take g h1
        unfold RepO at q1
        obtain ⟨a, vs0, k0, rfl, ha0, _, _⟩ := q1
        refine ⟨_, ev, atList ha0, G, env, f, o1, e1, S, h2, fun G1 H1 y fy f1 S1 ry oney outy st => ?_⟩
        obtain ⟨v1, f1a, f1b, ev1, ef1, q2, q3⟩ := S1.rep.take g h3
        rw [ev] at ev1
        cases ev1
        unfold RepO at q2
        obtain ⟨a', vs, k1, ea, ha, rfl, rs⟩ := q2
        cases ea
        have hi : i < e1.length := (List.getElem?_eq_some_iff.mp h3).1
        have fa : f1 a ≠ 0 := by rw [ef1]; simp [fpA, fp1]
        have fya : ∀ b, fy b ≠ 0 → b ≠ a := fun b z e => by subst e; have := oney b; omega
        have onef : ∀ b, (fpA (fpA (fp1 a) k1) f1b) b ≤ 1 := fun b => by rw [← ef1]; exact S1.one b
        have k1a : ∀ b, k1 b ≠ 0 → b ≠ a := fun b z e => by
          subst e
          have := onef b
          simp [fpA, fp1] at this
          omega
        have f1ba : ∀ b, f1b b ≠ 0 → b ≠ a := fun b z e => by
          subst e
          have := onef b
          simp [fpA, fp1] at this
          omega
        have ga : G1 a = none := S1.out a fa
        refine ⟨a, vs, y, rfl, rfl, ha, by rw [← rs.length g]; exact Nat.lt_of_lt_of_le hl lim_le, ?_⟩
        have rep := (q3.mono g (H' := upd H1 a (.lst (vs ++ [y]))) (Sub.refl G1) fun b hb u q => by rw [upd_ne (f1ba b hb)]; exact q).put g (i := i) (o := .lst (os ++ [o1])) (v := .ref a) (fo := fpA (fp1 a) (fpA fy k1)) (by simp [hi]) (by
          unfold RepO
          refine ⟨a, vs ++ [y], fpA fy k1, rfl, upd_same, rfl, RepOs.snoc g (ry.mono g (Sub.refl _) fun b hb u q => ?_) (rs.mono g (Sub.refl _) fun b hb u q => ?_)⟩
          · rw [upd_ne (fya b hb)]; exact q
          · rw [upd_ne (k1a b hb)]; exact q)
        rw [List.set_set, set_same ev] at rep
        have sub' : Sub G1 (upd H1 a (.lst (vs ++ [y]))) := fun b u q => by
          rw [upd_ne (ne_of_none q ga)]
          exact S1.sub b u q
        have tot : ∀ b, (fpA (fpA (fp1 a) (fpA fy k1)) f1b) b = fy b + f1 b := fun b => by rw [ef1]; simp only [fpA]; omega
        refine PostE.sc (G1 := G1) (f1 := fpA (fpA (fp1 a) (fpA fy k1)) f1b) ⟨st.gm, fun b u q hz => ?_, fun b z => ?_, st.gn, fun b z => ?_⟩ ⟨sub', rep, fun b => by rw [tot b]; exact oney b, fun b z => ?_⟩ k RepT.non
        · have h4 := st.keep b u q hz
          rw [upd_ne fun e => ?_]
          · exact h4
          · subst e
            rcases st.own b (by simp only [fpA]; omega) with q' | q'
            · exact q' hz
            · rw [q] at q'; cases q'
        · rw [tot b] at z
          exact st.own b (by simp only [fpA]; exact z)
        · by_cases e : b = a
          · subst e; rw [upd_same]; exact fun z => nomatch z
          · rw [upd_ne e]; exact st.dom b z
        · rw [tot b] at z
          by_cases z1 : fy b = 0
          · exact S1.out b (by omega)
          · exact outy b z1
      · rw [if_neg hl] at ht; cases ht
    · cases ht
  · cases ht
/-- p.extend(d), d a frozen list -/
def eExtend (p : DP) (d : DV) : DE := fun e => match p e, d e with
  | some (.lst os, set), some (.lst ts) => if os.length + ts.length ≤ lim then (set (.lst (os ++ ts.map O.val))).map fun e' => (.val .non, e') else none
  | _, _ => none
theorem pe_extend {pd : DP} {d : DV} (hb : PE X (.Call (.Attribute o "extend" apos) [e] [] pos) (tBM X.K "list" rExtend (rdP g pd) (tCons (rdV g d) tNil))) :
    PE X (.Call (.Attribute o "extend" apos) [e] [] pos) (rdE g (eExtend pd d)) := impE hb fun σ H Q ⟨G, env, f, r, e', S, ht, k⟩ => by
  unfold eExtend at ht
  split at ht
  · rename_i os set ts h1 h2
    by_cases hl : os.length + ts.length ≤ lim
    · rw [if_pos hl] at ht
      cases h3 : set (.lst (os ++ ts.map O.val)) with
      | none => rw [h3] at ht; cases ht
      | some e2 =>
        rw [h3] at ht; cases ht
        refine ⟨G, env, f, _, set, S, h1, fun G1 H1 v f1 f0 w ef r1 wd => ?_⟩
        unfold RepO at r1
        obtain ⟨a, vs, k1, rfl, ha, rfl, rs⟩ := r1
        refine ⟨atList ha, G1, env, f, _, S.grow w, h2, fun G2 H2 y w2 ry => ?_⟩
        unfold RepT at ry
        obtain ⟨b, ws, rfl, hb, rw'⟩ := ry
        have ha2 := w2.hm _ _ ha
        have k1a : ∀ b, k1 b ≠ 0 → b ≠ a := fun b z e => by
          subst e
          have := S.one b
          rw [ef] at this
          simp [fpA, fp1] at this
          omega
        refine ⟨a, b, vs, ws, rfl, rfl, ha2, w2.s' _ _ hb, by rw [← rs.length g, ← rw'.length g]; exact Nat.le_trans hl lim_le, ?_⟩
        have S1 := S.grow w
        have rs' : RepOs g G2 (upd H2 a (.lst (vs ++ ws))) (os ++ ts.map O.val) (vs ++ ws) (fpA k1 fp0) :=
          RepOs.app (rs.mono g w2.gm fun b hb u q => by rw [upd_ne (k1a b hb)]; exact w2.hm b u q) (RepOs.vals g rw')
        rw [fpA_0] at rs'
        obtain ⟨S3, own3, keep3, dom3⟩ := write_at S (w.trans w2) ef ha2 (wd.mono w2.gm w2.hm) h3 rs' k1a (fun b => by
          have h1 := S.one b
          rw [ef] at h1
          simp only [fpA] at h1 ⊢
          omega) fun b z => (S1.grow w2).out b (by rw [ef]; simp only [fpA]; omega)
        refine PostE.sc (G1 := G2) ⟨(w.trans w2).gm, fun b u q hz => keep3 b u ((w.trans w2).hm b u q) hz, fun b z => .inl ((own3 b z).elim id fun q => by rw [ef]; simp only [fpA]; omega), fun b z => ((w.trans w2).gn b z).elim .inl fun q => .inr (.inr q), fun b z => dom3 b ((w.trans w2).hm.dom z)⟩ S3 k RepT.non
    · rw [if_neg hl] at ht; cases ht
  · cases ht
theorem RepOs.last {G H : Hp} {o1 : O} : ∀ {os : List O} {vs : List V} {f : FP}, RepOs g G H (os ++ [o1]) vs f → ∃ ws y f1 f2, vs = ws ++ [y] ∧ f = fpA f1 f2 ∧ RepOs g G H os ws f1 ∧ RepO g G H o1 y f2
  | [], vs, f, h => by
    have h' : RepOs g G H [o1] vs f := h
    unfold RepOs at h'
    obtain ⟨v, r, f1, f2, rfl, rfl, q, m⟩ := h'
    unfold RepOs at m
    obtain ⟨rfl, rfl⟩ := m
    exact ⟨[], v, fp0, f1, rfl, fpA_comm _ _, by unfold RepOs; exact ⟨rfl, rfl⟩, q⟩
  | o :: os, vs, f, h => by
    have h' : RepOs g G H (o :: (os ++ [o1])) vs f := h
    unfold RepOs at h'
    obtain ⟨v, r, f1, f2, rfl, rfl, q, m⟩ := h'
    obtain ⟨ws, y, g1, g2, rfl, rfl, m1, m2⟩ := RepOs.last m
    exact ⟨v :: ws, y, fpA f1 g1, g2, rfl, (fpA_assoc _ _ _).symm, by unfold RepOs; exact ⟨v, ws, f1, g1, rfl, rfl, q, m1⟩, m2⟩
/-- p.pop() -/
def ePop (p : DP) : DE := fun e => match p e with
  | some (.lst os, set) => (match os.getLast?, set (.lst os.dropLast) with
    | some o, some e' => some (o, e')
    | _, _ => none)
  | _ => none
theorem pe_pop {pd : DP} (hb : PE X (.Call (.Attribute o "pop" apos) [] [] pos) (tBM0 X.K "list" rPop (rdP g pd))) :
    PE X (.Call (.Attribute o "pop" apos) [] [] pos) (rdE g (ePop pd)) := impE hb fun σ H Q ⟨G, env, f, r, e', S, ht, k⟩ => by
  unfold ePop at ht
  split at ht
  · rename_i os set h1
    split at ht
    · rename_i o1 e2 h2 h3
      cases ht
      refine ⟨G, env, f, _, set, S, h1, fun G1 H1 v f1 f0 w ef r1 wd => ?_⟩
      unfold RepO at r1
      obtain ⟨a, vs, k1, rfl, ha, rfl, rs⟩ := r1
      refine ⟨atList ha, ?_⟩
      have eo : os = os.dropLast ++ [r] := by
        have hne : os ≠ [] := fun z => by subst z; simp at h2
        have := List.getLast?_eq_some_getLast hne
        rw [this] at h2
        cases h2
        exact (List.dropLast_concat_getLast hne).symm
      rw [eo] at rs
      obtain ⟨ws, y, g1, g2, rfl, rfl, m1, m2⟩ := RepOs.last rs
      have kk : ∀ b, g1 b + g2 b ≤ 1 ∧ (g1 b + g2 b ≠ 0 → b ≠ a) := fun b => by
        have := S.one b
        rw [ef] at this
        simp only [fpA, fp1] at this
        refine ⟨by omega, fun z e => ?_⟩
        subst e
        rw [if_pos rfl] at this
        omega
      refine ⟨a, ws ++ [y], y, rfl, rfl, ha, by simp, ?_⟩
      rw [List.dropLast_concat]
      have S1 := S.grow w
      have rs' : RepOs g G1 (upd H1 a (.lst ws)) os.dropLast ws g1 := m1.mono g (Sub.refl _) fun b hb u q => by rw [upd_ne ((kk b).2 (by omega))]; exact q
      obtain ⟨S3, own3, keep3, dom3⟩ := write_at (k' := g1) S w ef ha wd h3 rs' (fun b z => (kk b).2 (by omega)) (fun b => by
        have h1 := S.one b
        rw [ef] at h1
        simp only [fpA] at h1 ⊢
        omega) fun b z => S1.out b (by rw [ef]; simp only [fpA]; omega)
      refine k G1 _ y g2 _ S3 (m2.mono g (Sub.refl _) fun b hb u q => by rw [upd_ne ((kk b).2 (by omega))]; exact q) (fun b => by
        have h1 := S.one b
        rw [ef] at h1
        simp only [fpA] at h1 ⊢
        omega) (fun b z => S1.out b (by rw [ef]; simp only [fpA]; omega)) ⟨w.gm, fun b u q hz => keep3 b u (w.hm b u q) hz, fun b z => ?_, fun b z => (w.gn b z).elim .inl fun q => .inr (.inr q), fun b z => dom3 b (w.hm.dom z)⟩
      left
      rw [ef]
      simp only [fpA] at z ⊢
      omega
    · cases ht
  · cases ht
theorem RepOs.setAt {G H : Hp} {o : O} {v : V} {fo : FP} : ∀ {os : List O} {vs : List V} {j : Nat} {k : FP}, RepOs g G H os vs k → j < os.length → RepO g G H o v fo →
    ∃ k2, RepOs g G H (os.set j o) (vs.set j v) (fpA fo k2) ∧ ∀ b, k2 b ≤ k b
  | [], vs, j, k, h, hj, ro => by simp at hj
  | o0 :: os, vs, 0, k, h, hj, ro => by
    unfold RepOs at h
    obtain ⟨u, rr, a1, a2, rfl, rfl, b1, b2⟩ := h
    refine ⟨a2, ?_, fun b => by simp only [fpA]; omega⟩
    show RepOs g G H (o :: os) (v :: rr) _
    unfold RepOs
    exact ⟨v, rr, fo, a2, rfl, rfl, ro, b2⟩
  | o0 :: os, vs, j + 1, k, h, hj, ro => by
    unfold RepOs at h
    obtain ⟨u, rr, a1, a2, rfl, rfl, b1, b2⟩ := h
    obtain ⟨k2, r2, l2⟩ := RepOs.setAt (j := j) b2 (by simpa using hj) ro
    refine ⟨fpA a1 k2, ?_, fun b => by have := l2 b; simp only [fpA]; omega⟩
    show RepOs g G H (o0 :: os.set j o) (u :: rr.set j v) _
    unfold RepOs
    exact ⟨u, _, a1, fpA fo k2, rfl, fpA_swap _ _ _, b1, r2⟩
/-- p[q] = .. -/
def bSub (p : DP) (q : DV) : BO := fun o e => match p e, q e with
  | some (.lst os, set), some (.int i) => (match ixN os.length i with
    | some j => if j < os.length then set (.lst (os.set j o)) else none
    | none => none)
  | _, _ => none
theorem pgSub {pd : DP} {q : DV} {oe ie : Expr} (ho : PE X oe (rdP g pd)) (hi : PE X ie (rdV g q))
    (ha : ∀ v, assign (.Subscript oe ie pos) X.env v = (do
      let ov ← holding [v] (eval oe X.env)
      let iv ← holding [v, ov] (eval ie X.env)
      standAt pos
      holding [v, ov, iv] (setItem ov iv v)
      release [v, ov, iv] [])) : PG X (.Subscript oe ie pos) (rdG g [] (bSub pd q)) := impG (pg_sub ho hi set_list ha) fun v σ H Q ⟨G, env, f, o, fo, e', S, r, one, out, hb, k⟩ => by
  unfold bSub at hb
  split at hb
  · rename_i os set i h1 h2
    split at hb
    · rename_i j h3
      by_cases hj : j < os.length
      · rw [if_pos hj] at hb
        refine ⟨G, env, f, _, set, S, h1, fun G1 H1 v1 f1 f0 w ef r1 wd => ?_⟩
        unfold RepO at r1
        obtain ⟨a, vs, k1, rfl, ha1, rfl, rs⟩ := r1
        refine ⟨G1, env, f, _, S.grow w, h2, fun G2 H2 y w2 ry => ?_⟩
        unfold RepT at ry
        subst ry
        have ha2 := w2.hm _ _ ha1
        refine ⟨a, vs, i, j, rfl, rfl, ha2, by rw [← rs.length g]; exact h3, ?_⟩
        have hoj : os[j]? = some os[j] := List.getElem?_eq_getElem hj
        obtain ⟨v2, g1, g2, e2, rfl, q1, _⟩ := rs.pick hoj
        have ww := w.trans w2
        have k1a : ∀ b, (fpA g1 g2) b ≠ 0 → b ≠ a := fun b z e => by
          subst e
          have := S.one b
          rw [ef] at this
          simp [fpA, fp1] at this
          simp only [fpA] at z
          omega
        have foa : ∀ b, fo b ≠ 0 → b ≠ a := fun b z e => by
          subst e
          have := one b
          rw [ef] at this
          simp [fpA, fp1] at this
          omega
        obtain ⟨k2, rs2, lk⟩ := RepOs.setAt (g := g) (G := G2) (H := upd H2 a (.lst (vs.set j v))) (rs.mono g w2.gm fun b hb u q => by rw [upd_ne (k1a b hb)]; exact w2.hm b u q) hj (r.mono g ww.gm fun b hb u q => by rw [upd_ne (foa b hb)]; exact ww.hm b u q)
        have S1 := S.grow w
        have tot : ∀ b, fo b + (fp1 a b + (g1 b + g2 b) + f0 b) ≤ 1 := fun b => by have := one b; rw [ef] at this; simpa only [fpA] using this
        obtain ⟨S3, own3, keep3, dom3⟩ := write_at (k' := fpA fo k2) S ww ef ha2 (wd.mono w2.gm w2.hm) hb rs2 (fun b z => by
          simp only [fpA] at z
          by_cases z1 : fo b = 0
          · exact k1a b (by have := lk b; simp only [fpA] at this ⊢; omega)
          · exact foa b z1) (fun b => by
          have h1 := tot b
          have h2 := lk b
          simp only [fpA] at h2 ⊢
          omega) fun b z => by
          simp only [fpA] at z
          by_cases z1 : fo b = 0
          · exact (S1.grow w2).out b (by have := lk b; rw [ef]; simp only [fpA] at this ⊢; omega)
          · exact ww.out (RepO.there g r b z1) (out b z1)
        refine k G2 _ σ _ S3 ⟨ww.gm, fun b u q hz => keep3 b u (ww.hm b u q) (by simp only [fpA] at hz; omega), fun b z => .inl ?_, fun b z => (ww.gn b z).elim .inl fun q => .inr (.inr q), fun b z => dom3 b (ww.hm.dom z)⟩ (Ag.refl _ _)
        rcases own3 b z with q | q
        · simp only [fpA]; omega
        · have := lk b
          simp only [fpA] at q this ⊢
          rw [ef]
          simp only [fpA]
          omega
      · rw [if_neg hj] at hb; cases hb
    · cases hb
  · cases hb
end
end VS
namespace VS
open PySem L2
open PyProof.Rows (envOfC)
variable {g : Gl0}

/-! ### statements -/
inductive Out where
  | nx
  | rt (o : O)
  | bk
  | ct
abbrev DS := Env → Option (Out × Env)
structure Keep (ks : List Nat) (σ σ' : St) : Prop where
  len : σ'.length = σ.length
  at_ : ∀ i ∈ ks, σ'[i]? = σ[i]?
theorem Keep.refl (ks : List Nat) (σ : St) : Keep ks σ σ := ⟨rfl, fun _ _ => rfl⟩
theorem Keep.trans {ks : List Nat} {σ σ1 σ2 : St} (a : Keep ks σ σ1) (b : Keep ks σ1 σ2) : Keep ks σ σ2 := ⟨b.len.trans a.len, fun i h => (b.at_ i h).trans (a.at_ i h)⟩
theorem Ag.keep {ss ks : List Nat} {σ σ' : St} (a : Ag ss σ σ') (h : ∀ i ∈ ks, i ∉ ss) : Keep ks σ σ' := ⟨a.len, fun i hi => a.out i (h i hi)⟩
def Fin (g : Gl0) (ks : List Nat) (G H : Hp) (f : FP) (σ : St) (D : Ends) (e' : Env) : Out → Prop
  | .nx => ∀ G' H' σ' f', Stt g G' H' σ' e' f' → Step G H f G' H' f' → Keep ks σ σ' → D.nx σ' H'
  | .bk => ∀ G' H' σ' f', Stt g G' H' σ' e' f' → Step G H f G' H' f' → Keep ks σ σ' → D.bk σ' H'
  | .ct => ∀ G' H' σ' f', Stt g G' H' σ' e' f' → Step G H f G' H' f' → Keep ks σ σ' → D.ct σ' H'
  | .rt o => ∀ G' H' σ' v fo f', Stt g G' H' σ' e' f' → RepO g G' H' o v fo → (∀ a, fo a + f' a ≤ 1) → (∀ a, fo a ≠ 0 → G' a = none) → Step G H f G' H' (fpA fo f') → Keep ks σ σ' → D.rt v H'
theorem Fin.later {ks : List Nat} {G H G1 H1 : Hp} {f f1 : FP} {σ σ1 : St} {D : Ends} {e' : Env} {r : Out} (st : Step G H f G1 H1 f1) (kp : Keep ks σ σ1) (k : Fin g ks G H f σ D e' r) : Fin g ks G1 H1 f1 σ1 D e' r := by
  cases r with
  | nx => exact fun G' H' σ' f' S' st' kp' => k G' H' σ' f' S' (st.trans st') (kp.trans kp')
  | bk => exact fun G' H' σ' f' S' st' kp' => k G' H' σ' f' S' (st.trans st') (kp.trans kp')
  | ct => exact fun G' H' σ' f' S' st' kp' => k G' H' σ' f' S' (st.trans st') (kp.trans kp')
  | rt o => exact fun G' H' σ' v fo f' S' r one out st' kp' => k G' H' σ' v fo f' S' r one out (st.trans st') (kp.trans kp')
def rdS (g : Gl0) (ks : List Nat) (d : DS) : TS := fun D σ H => ∃ G e f r e', Stt g G H σ e f ∧ d e = some (r, e') ∧ Fin g ks G H f σ D e' r
def sNil : DS := fun e => some (.nx, e)
def sSeq (a b : DS) : DS := fun e => match a e with
  | some (.nx, e1) => b e1
  | x => x
def sIf (c : DBE) (a b : DS) : DS := fun e => match c e with
  | some (true, e1) => a e1
  | some (false, e1) => b e1
  | none => none
def sDrop (d : DE) : DS := fun e => match d e with
  | some (_, e1) => some (.nx, e1)
  | none => none
def sRet (d : DE) : DS := fun e => match d e with
  | some (o, e1) => some (.rt o, e1)
  | none => none
def sRetN : DS := fun e => some (.rt (.val .non), e)
def sBrk : DS := fun e => some (.bk, e)
def sCnt : DS := fun e => some (.ct, e)
def sNever : DS := fun _ => none
def sSet (i : Nat) (d : DE) : DS := fun e => match d e with
  | some (o, e1) => if i < e1.length then some (.nx, e1.set i (some o)) else none
  | none => none
def sAsg (d : DE) (b : BO) : DS := fun e => match d e with
  | some (o, e1) => (match b o e1 with
    | some e2 => some (.nx, e2)
    | none => none)
  | none => none
section
variable {X : Cx} {ks : List Nat} {st : Stmt} {rest : List Stmt} {a b c : DS} {e : Expr} {pos : Pos}
theorem qsNil : PSs X [] (rdS g ks sNil) := impSs pss_nil fun D σ H ⟨G, env, f, r, e', S, ht, k⟩ => by
  cases ht
  exact k G H σ f S (Step.refl _ _ _) (Keep.refl _ _)
theorem qsOne (h : PS X st (rdS g ks a)) : PSs X [st] (rdS g ks a) := pss_one h
theorem qsCons (h1 : PS X st (rdS g ks a)) (h2 : PSs X rest (rdS g ks b)) : PSs X (st :: rest) (rdS g ks (sSeq a b)) := impSs (pss_cons h1 h2) fun D σ H ⟨G, env, f, r, e', S, ht, k⟩ => by
  unfold sSeq at ht
  split at ht
  · rename_i e1 h1
    exact ⟨G, env, f, .nx, e1, S, h1, fun G1 H1 σ1 f1 S1 st1 kp1 => ⟨G1, e1, f1, r, e', S1, ht, k.later st1 kp1⟩⟩
  · rename_i hne
    refine ⟨G, env, f, r, e', S, ht, ?_⟩
    cases r with
    | nx => exact absurd ht (hne e')
    | bk => exact k
    | ct => exact k
    | rt o => exact k
theorem qNever : PS X st (rdS g ks sNever) := impS ps_never fun D σ H ⟨G, env, f, r, e', S, ht, k⟩ => nomatch ht
theorem qPass : PS X (.Pass pos) (rdS g ks sNil) := impS ps_pass fun D σ H ⟨G, env, f, r, e', S, ht, k⟩ => by
  cases ht
  exact k G H σ f S (Step.refl _ _ _) (Keep.refl _ _)
theorem qBrk : PS X (.Break pos) (rdS g ks sBrk) := impS ps_break fun D σ H ⟨G, env, f, r, e', S, ht, k⟩ => by
  cases ht
  exact k G H σ f S (Step.refl _ _ _) (Keep.refl _ _)
theorem qCnt : PS X (.Continue pos) (rdS g ks sCnt) := impS ps_continue fun D σ H ⟨G, env, f, r, e', S, ht, k⟩ => by
  cases ht
  exact k G H σ f S (Step.refl _ _ _) (Keep.refl _ _)
theorem qIf {t : Expr} {p q : List Stmt} {d : DBE} (hc : PT X t (rdBE g d)) (ha : PSs X p (rdS g ks a)) (hb : PSs X q (rdS g ks b)) : PS X (.If t p q pos) (rdS g ks (sIf d a b)) := impS (ps_if hc ha hb) fun D σ H ⟨G, env, f, r, e', S, ht, k⟩ => by
  unfold sIf at ht
  split at ht
  · rename_i e1 h1
    exact ⟨G, env, f, true, e1, S, h1, fun G1 H1 f1 S1 st1 => iteT ⟨G1, e1, f1, r, e', S1, ht, k.later st1 (Keep.refl _ _)⟩⟩
  · rename_i e1 h1
    exact ⟨G, env, f, false, e1, S, h1, fun G1 H1 f1 S1 st1 => iteF ⟨G1, e1, f1, r, e', S1, ht, k.later st1 (Keep.refl _ _)⟩⟩
  · cases ht
theorem qDrop {d : DE} (h : PE X e (rdE g d)) (hs : swapsWith e none pos.line X.env = pure false := by rfl) : PS X (.Expr e pos) (rdS g ks (sDrop d)) := impS (ps_expr h hs) fun D σ H ⟨G, env, f, r, e', S, ht, k⟩ => by
  unfold sDrop at ht
  split at ht
  · rename_i o e1 h1
    cases ht
    exact ⟨G, env, f, o, _, S, h1, fun G1 H1 v fo f1 S1 r1 one out st1 => k G1 H1 σ f1 S1 (st1.less fun x => by simp only [fpA]; omega) (Keep.refl _ _)⟩
  · cases ht
theorem qRet {d : DE} (h : PE X e (rdE g d)) : PS X (.Return (some e) pos) (rdS g ks (sRet d)) := impS (ps_ret h) fun D σ H ⟨G, env, f, r, e', S, ht, k⟩ => by
  unfold sRet at ht
  split at ht
  · rename_i o e1 h1
    cases ht
    exact ⟨G, env, f, o, _, S, h1, fun G1 H1 v fo f1 S1 r1 one out st1 => k G1 H1 σ v fo f1 S1 r1 one out st1 (Keep.refl _ _)⟩
  · cases ht
theorem qRetN : PS X (.Return none pos) (rdS g ks sRetN) := impS ps_retN fun D σ H ⟨G, env, f, r, e', S, ht, k⟩ => by
  cases ht
  exact k G H σ .non fp0 f S (by unfold RepO; exact ⟨RepT.non, rfl⟩) (fun a => by have := S.one a; simp only [fp0]; omega) (fun a z => absurd rfl z) (by rw [fp0_A]; exact Step.refl _ _ _) (Keep.refl _ _)
theorem keepSet {ks : List Nat} {σ : St} {i : Nat} {x : Option V} (h : ks.contains i = false) : Keep ks σ (σ.set i x) := ⟨List.length_set, fun j hj => by
  rw [List.getElem?_set_ne]
  intro e
  subst e
  rw [List.contains_iff_mem.mpr hj] at h
  cases h⟩
theorem sSet_read {i : Nat} {d : DE} {D : Ends} {σ : St} {H : Hp} (hk : ks.contains i = false) (h : rdS g ks (sSet i d) D σ H) : tAsg (rdE g d) (gName i) D σ H := by
  obtain ⟨G, env, f, r, e', S, ht, k⟩ := h
  unfold sSet at ht
  split at ht
  · rename_i o e1 h1
    by_cases hi : i < e1.length
    · rw [if_pos hi] at ht; cases ht
      refine ⟨G, env, f, o, e1, S, h1, fun G1 H1 v fo f1 S1 r1 one out st1 => ?_⟩
      obtain ⟨f2, S2, l2⟩ := S1.set r1 one out hi
      exact k G1 H1 _ f2 S2 (st1.less fun x => l2 x) (keepSet hk)
    · rw [if_neg hi] at ht; cases ht
  · cases ht
theorem qSet {i : Nat} {d : DE} {x : Str} {pos' : Pos} (hN : X.N.Nodup) (hi : X.N[i]? = some x) (hx : Loc X.env.scope x) (he : PE X e (rdE g d)) (hk : ks.contains i = false) (hf : X.fn x = true ∨ X.env.scope.names.lookup x = some .local) (hs : swapsWith e (some (.Name x pos')) pos.line X.env = pure false := by rfl) :
    PS X (.Assign [.Name x pos'] e pos) (rdS g ks (sSet i d)) := impS (ps_set hN hi hx he hs hf) fun D σ H h => sSet_read hk h
theorem qAsg {tg : Expr} {ss : List Nat} {d : DE} {bb : BO} (he : PE X e (rdE g d)) (hg : PG X tg (rdG g ss bb)) (hk : ks.all (fun i => !ss.contains i) = true) (hs : swapsWithSole [tg] e pos.line X.env = pure false) (hw : swappedStores [tg] e X.env = pure none)
    (h1 : (assignEach [tg] X.env).map (·.2) = [assign tg X.env] := by rfl) : PS X (.Assign [tg] e pos) (rdS g ks (sAsg d bb)) := impS (ps_asg he hg hs hw h1) fun D σ H ⟨G, env, f, r, e', S, ht, k⟩ => by
  unfold sAsg at ht
  split at ht
  · rename_i o e1 h2
    split at ht
    · rename_i e2 h3
      cases ht
      refine ⟨G, env, f, o, e1, S, h2, fun G1 H1 v fo f1 S1 r1 one out st1 => ?_⟩
      refine ⟨G1, e1, f1, o, fo, _, S1, r1, one, out, h3, fun G2 H2 σ2 f2 S2 st2 ag => k G2 H2 σ2 f2 S2 (st1.trans st2) (ag.keep fun i hi => ?_)⟩
      have := List.all_eq_true.mp hk i hi
      simpa using this
    · cases ht
  · cases ht
/-- a name's thing is taken out -/
theorem pe_move {i : Nat} (h : PE X e (tVar i)) : PE X e (rdE g (eMove i)) := impE h fun σ H Q ⟨G, env, f, o, e', S, ht, k⟩ => by
  unfold eMove at ht
  split at ht
  · rename_i o' he
    cases ht
    obtain ⟨v, f1, f2, e1, ef, q1, q2⟩ := S.rep.take g he
    have one : ∀ a, f1 a + f2 a ≤ 1 := fun a => by have := S.one a; rw [ef] at this; simpa only [fpA] using this
    exact ⟨v, e1, k G H v f1 f2 ⟨S.sub, q2, fun a => by have := one a; omega, fun a z => S.out a (by rw [ef]; simp only [fpA]; omega)⟩ q1 one (fun a z => S.out a (by rw [ef]; simp only [fpA]; omega)) (by rw [← ef]; exact Step.refl _ _ _)⟩
  · cases ht

/-! ### loops -/
def whGo (c : DBE) (b : DS) : Nat → Env → Option (Out × Env)
  | 0, _ => none
  | n + 1, e => (match c e with
    | some (false, e1) => some (.nx, e1)
    | some (true, e1) => (match b e1 with
      | some (.nx, e2) => whGo c b n e2
      | some (.ct, e2) => whGo c b n e2
      | some (.bk, e2) => some (.nx, e2)
      | some (.rt o, e2) => some (.rt o, e2)
      | none => none)
    | none => none)
theorem whGo_more {c : DBE} {b : DS} {r : Out × Env} : ∀ {n m : Nat} {e : Env}, whGo c b n e = some r → n ≤ m → whGo c b m e = some r
  | 0, m, e, h, _ => by cases h
  | n + 1, 0, e, _, l => by omega
  | n + 1, m + 1, e, h, l => by
    unfold whGo at h ⊢
    split at h
    · exact h
    · rename_i e1 h1
      split at h
      · exact whGo_more h (by omega)
      · exact whGo_more h (by omega)
      · exact h
      · exact h
      · exact h
    · exact h
open Classical in
noncomputable def sWhile (c : DBE) (b : DS) : DS := fun e => if h : ∃ n r, whGo c b n e = some r then some h.choose_spec.choose else none
theorem sWhile_eq {c : DBE} {b : DS} {n : Nat} {e : Env} {r : Out × Env} (h : whGo c b n e = some r) : sWhile c b e = some r := by
  have hx : ∃ n r, whGo c b n e = some r := ⟨n, r, h⟩
  unfold sWhile
  rw [dif_pos hx]
  have h2 := hx.choose_spec.choose_spec
  rcases Nat.le_total n hx.choose with l | l
  · exact h2.symm.trans (whGo_more h l)
  · exact (whGo_more h2 l).symm.trans h
theorem sWhile_ex {c : DBE} {b : DS} {e : Env} {r : Out × Env} (h : sWhile c b e = some r) : ∃ n, whGo c b n e = some r := by
  unfold sWhile at h
  split at h
  · rename_i hx
    cases h
    exact ⟨_, hx.choose_spec.choose_spec⟩
  · cases h
theorem qWhile {t : Expr} {body : List Stmt} {d : DBE} (hp : PassesOwn (model X.prog X.w) X.A X.env X.xe) (hc : PT X t (rdBE g d)) (hb : PSs X body (rdS g ks b)) : PS X (.While t body [] pos) (rdS g ks (sWhile d b)) := impS (ps_while hp hc hb) fun D σ H ⟨G, env, f, r, e', S, ht, k⟩ => by
  obtain ⟨n, hn⟩ := sWhile_ex ht
  refine ⟨fun m σ1 H1 => ∃ G1 e1 f1, Stt g G1 H1 σ1 e1 f1 ∧ Step G H f G1 H1 f1 ∧ Keep ks σ σ1 ∧ whGo d b m e1 = some (r, e'), ⟨n, G, env, f, S, Step.refl _ _ _, Keep.refl _ _, hn⟩, ?_⟩
  rintro m σ1 H1 ⟨G1, e1, f1, S1, st1, kp1, h1⟩
  cases m with
  | zero => cases h1
  | succ m =>
    unfold whGo at h1
    split at h1
    · rename_i e2 hc2
      cases h1
      exact ⟨G1, e1, f1, false, _, S1, hc2, fun G2 H2 f2 S2 st2 => iteF (k G2 H2 σ1 f2 S2 (st1.trans st2) kp1)⟩
    · rename_i e2 hc2
      refine ⟨G1, e1, f1, true, e2, S1, hc2, fun G2 H2 f2 S2 st2 => iteT ?_⟩
      refine ⟨fun σ3 H3 => ∃ G3 e3 f3, Stt g G3 H3 σ3 e3 f3 ∧ Step G H f G3 H3 f3 ∧ Keep ks σ σ3 ∧ whGo d b m e3 = some (r, e'), fun σ3 H3 q => ⟨m, Nat.lt_succ_self _, q⟩, ?_⟩
      have st := st1.trans st2
      split at h1
      · rename_i e3 hb3
        exact ⟨G2, e2, f2, .nx, e3, S2, hb3, fun G3 H3 σ3 f3 S3 st3 kp3 => ⟨G3, e3, f3, S3, st.trans st3, kp1.trans kp3, h1⟩⟩
      · rename_i e3 hb3
        exact ⟨G2, e2, f2, .ct, e3, S2, hb3, fun G3 H3 σ3 f3 S3 st3 kp3 => ⟨G3, e3, f3, S3, st.trans st3, kp1.trans kp3, h1⟩⟩
      · rename_i e3 hb3
        cases h1
        exact ⟨G2, e2, f2, .bk, _, S2, hb3, fun G3 H3 σ3 f3 S3 st3 kp3 => k G3 H3 σ3 f3 S3 (st.trans st3) (kp1.trans kp3)⟩
      · rename_i o e3 hb3
        cases h1
        exact ⟨G2, e2, f2, .rt o, _, S2, hb3, fun G3 H3 σ3 v fo f3 S3 r3 one3 out3 st3 kp3 => k G3 H3 σ3 v fo f3 S3 r3 one3 out3 (st.trans st3) (kp1.trans kp3)⟩
      · cases h1
    · cases h1
def forGo (bd : BO) (b : DS) : List T → Env → Option (Out × Env)
  | [], e => some (.nx, e)
  | t :: ts, e => (match bd (.val t) e with
    | some e1 => (match b e1 with
      | some (.nx, e2) => forGo bd b ts e2
      | some (.ct, e2) => forGo bd b ts e2
      | some (.bk, e2) => some (.nx, e2)
      | some (.rt o, e2) => some (.rt o, e2)
      | none => none)
    | none => none)
def sFor (src : Env → Option (List T × Env)) (bd : BO) (b : DS) : DS := fun e => match src e with
  | some (ts, e1) => forGo bd b ts e1
  | none => none
theorem qFor {tg iter : Expr} {body : List Stmt} {src : Env → Option (List T × Env)} {ss : List Nat} {bd : BO} (hp : PassesOwn (model X.prog X.w) X.A X.env X.xe) (hc : X.calm = true) (hi : PI X tg iter (rdI g src)) (hg : PG X tg (rdGq g ss bd)) (hb : PSs X body (rdS g ks b))
    (hk : ks.all (fun i => !ss.contains i) = true) (hs : ∀ x, foldedSetIterable iter X.env x = pure x := by intro _; rfl) : PS X (.For tg iter body [] pos) (rdS g ks (sFor src bd b)) := impS (ps_for hp hc hi hg hb hs) fun D σ H ⟨G, env, f, r, e', S, ht, k⟩ => by
  unfold sFor at ht
  split at ht
  · rename_i ts e1 hs1
    refine ⟨G, env, f, ts, e1, S, hs1, fun G1 H1 f1 J S1 st1 io => ?_⟩
    refine ⟨fun i m σ2 H2 => m = ts.length - i ∧ i ≤ ts.length ∧ ∃ G2 e2 f2, Stt g G2 H2 σ2 e2 f2 ∧ Step G1 H1 f1 G2 H2 f2 ∧ Keep ks σ σ2 ∧ forGo bd b (ts.drop i) e2 = some (r, e'), ⟨ts.length, by simp, Nat.zero_le _, G1, e1, f1, S1, Step.refl _ _ _, Keep.refl _ _, by rw [List.drop_zero]; exact ht⟩, ?_⟩
    rintro i m σ2 H2 ⟨rfl, hi, G2, e2, f2, S2, st2, kp2, h2⟩
    obtain ⟨io1, io2⟩ := io i G2 H2 st2.gm S2.sub hi
    by_cases hlt : i < ts.length
    · refine .inr ?_
      have hti : ts[i]? = some ts[i] := List.getElem?_eq_getElem hlt
      obtain ⟨jgo, jy⟩ := io1 _ hti
      refine ⟨jgo, fun σ3 H3 => ∃ G3 e3 f3, Stt g G3 H3 σ3 e3 f3 ∧ Step G1 H1 f1 G3 H3 f3 ∧ Keep ks σ σ3 ∧ forGo bd b (ts.drop (i + 1)) e3 = some (r, e'), fun σ3 H3 q => ⟨ts.length - (i + 1), by omega, rfl, hlt, q⟩, fun x H3 y => ?_⟩
      obtain ⟨G3, w3, rx⟩ := jy x H3 y
      rw [List.drop_eq_getElem_cons hlt] at h2
      unfold forGo at h2
      have kkp : ∀ {σ4}, Ag ss σ2 σ4 → Keep ks σ σ4 := fun ag => kp2.trans (ag.keep fun i hi => by have := List.all_eq_true.mp hk i hi; simpa using this)
      split at h2
      · rename_i e4 hb4
        refine ⟨G3, e2, f2, ts[i], e4, S2.grow w3, rx, hb4, fun σ4 f4 S4 l4 ag => ?_⟩
        have st4 : Step G1 H1 f1 G3 H3 f4 := (st2.trans (w3.step f2)).less l4
        split at h2
        · rename_i e5 hb5
          exact ⟨G3, e4, f4, .nx, e5, S4, hb5, fun G5 H5 σ5 f5 S5 st5 kp5 => ⟨G5, e5, f5, S5, st4.trans st5, (kkp ag).trans kp5, h2⟩⟩
        · rename_i e5 hb5
          exact ⟨G3, e4, f4, .ct, e5, S4, hb5, fun G5 H5 σ5 f5 S5 st5 kp5 => ⟨G5, e5, f5, S5, st4.trans st5, (kkp ag).trans kp5, h2⟩⟩
        · rename_i e5 hb5
          cases h2
          exact ⟨G3, e4, f4, .bk, _, S4, hb5, fun G5 H5 σ5 f5 S5 st5 kp5 => k G5 H5 σ5 f5 S5 (st1.trans (st4.trans st5)) ((kkp ag).trans kp5)⟩
        · rename_i o e5 hb5
          cases h2
          exact ⟨G3, e4, f4, .rt o, _, S4, hb5, fun G5 H5 σ5 v fo f5 S5 r5 one5 out5 st5 kp5 => k G5 H5 σ5 v fo f5 S5 r5 one5 out5 (st1.trans (st4.trans st5)) ((kkp ag).trans kp5)⟩
        · cases h2
      · cases h2
    · have hie : i = ts.length := by omega
      refine .inl ⟨io2 hie, ?_⟩
      subst hie
      rw [List.drop_length] at h2
      cases h2
      exact k G2 H2 σ2 f2 S2 (st1.trans st2) kp2
  · cases ht
end

/-! ### a def by its body -/
def outsE : List Nat → Env → Option (List O)
  | [], _ => some []
  | i :: is, e => (match e[i]? with
    | some (some o) => (match outsE is (e.set i none) with
      | some os => some (o :: os)
      | none => none)
    | _ => none)
theorem outsE_ok {G H : Hp} {σ : St} {vs : List V} : ∀ {is : List Nat} {e : Env} {os : List O} {f : FP}, RepE g G H e σ f → outsE is e = some os → (∀ i ∈ is, ∃ v, vs[i]? = some v ∧ σ[i]? = some (some v)) →
    ∃ fo, RepOs g G H os (is.filterMap fun i => vs[i]?) fo ∧ ∀ a, fo a ≤ f a
  | [], e, os, f, h, ho, _ => by
    cases ho
    exact ⟨fp0, by unfold RepOs; exact ⟨rfl, rfl⟩, fun a => Nat.zero_le _⟩
  | i :: is, e, os, f, h, ho, hv => by
    unfold outsE at ho
    split at ho
    · rename_i o he
      split at ho
      · rename_i os1 h1
        cases ho
        obtain ⟨v, f1, f2, e1, ef, q1, q2⟩ := h.take g he
        obtain ⟨v', hv1, hv2⟩ := hv i List.mem_cons_self
        rw [e1] at hv2
        cases hv2
        obtain ⟨fo, r, l⟩ := outsE_ok q2 h1 fun j hj => hv j (List.mem_cons_of_mem _ hj)
        refine ⟨fpA f1 fo, ?_, fun a => by have := l a; rw [ef]; simp only [fpA]; omega⟩
        rw [List.filterMap_cons, hv1]
        unfold RepOs
        exact ⟨v, _, f1, fo, rfl, rfl, q1, r⟩
      · cases ho
    · cases ho
def runF (np n : Nat) (io : List Nat) (d : DS) : FT := fun os => if os.length = np then (match d (os.map some ++ List.replicate (n - np) none) with
    | some (.nx, e') => (outsE io e').map fun x => (.val .non, x)
    | some (.rt o, e') => (outsE io e').map fun x => (o, x)
    | _ => none) else none
theorem RepE.start {G H : Hp} {n : Nat} : ∀ {os : List O} {vs : List V} {f : FP}, RepOs g G H os vs f → RepE g G H (os.map some ++ List.replicate n none) (vs.map some ++ List.replicate n none) f
  | [], vs, f, h => by
    unfold RepOs at h
    obtain ⟨rfl, rfl⟩ := h
    show RepE g G H (List.replicate n none) (List.replicate n none) fp0
    induction n with
    | zero => exact ⟨rfl, rfl⟩
    | succ n ih => exact ⟨none, _, rfl, ih⟩
  | o :: os, vs, f, h => by
    unfold RepOs at h
    obtain ⟨v, r, f1, f2, rfl, rfl, q, m⟩ := h
    exact ⟨v, _, f1, f2, rfl, rfl, q, RepE.start m⟩
theorem fn_run {P : Program} {w : World} {K : PySem.W.Frag} {mg : Str → Option Value} {base : Heap} {x qual : Str} {params : Arguments} {body : List Stmt} {scope : Scope} {dvs : List V} {kws : List (Str × V)} {f : Addr} {fd : FuncData} {N ps : List Str} {k : Nat} {io : List Nat} {d : DS}
    (F : FunD K x qual params body scope dvs kws f fd) (S : FnScope N ps scope) (hio : io.all (fun i => decide (i < ps.length)) = true)
    (hb : ∀ (cdv : Value) (A : Around) (outer : List PySem.Env) (s : Shared) (H : Hp) (E : XK), Room k (A.deeper (envOfC qual scope s.heap.objs.size f cdv)) → PSs (cxOf CX0 P w K mg base N qual scope f cdv A outer s H E) body (rdS g io d)) :
    FnOk P w K mg base CX0 (k + 1) f fd ps (spF g io (runF ps.length N.length io d)) := by
  have hlen : ∀ vs H Q E, spF g io (runF ps.length N.length io d) vs H Q E → vs.length = ps.length := fun vs H Q E ⟨G, fp, os, r, outs, s, ro, one, out, hF, k⟩ => by
    unfold runF at hF
    by_cases hl : os.length = ps.length
    · rw [← ro.length g]; exact hl
    · rw [if_neg hl] at hF; cases hF
  refine F.ok S hlen fun cdv A outer s H vs Q E hr hsp => ⟨_, hb cdv A outer s H E hr, ?_⟩
  have hvl := hlen _ _ _ _ hsp
  obtain ⟨G, fp, os, r, outs, sb, ro, one, out, hF, k⟩ := hsp
  unfold runF at hF
  have hl : os.length = ps.length := by rw [ro.length g]; exact hvl
  rw [if_pos hl] at hF
  have hst : L2.start N vs = vs.map some ++ List.replicate (N.length - ps.length) none := by rw [← hvl]; rfl
  have St0 : Stt g G H (L2.start N vs) (os.map some ++ List.replicate (N.length - ps.length) none) fp := ⟨sb, by rw [hst]; exact RepE.start ro, one, out⟩
  have hat : ∀ i ∈ io, ∃ v, vs[i]? = some v ∧ (L2.start N vs)[i]? = some (some v) := fun i hi => by
    have h1 : i < ps.length := by simpa using List.all_eq_true.mp hio i hi
    have h2 : i < vs.length := by rw [hvl]; exact h1
    refine ⟨vs[i], List.getElem?_eq_getElem h2, ?_⟩
    unfold L2.start
    rw [List.getElem?_append_left (by rw [List.length_map]; exact h2), List.getElem?_map, List.getElem?_eq_getElem h2]
    rfl
  split at hF
  · rename_i e' hd
    cases ho : outsE io e' with
    | none => rw [ho] at hF; cases hF
    | some x =>
      rw [ho] at hF; cases hF
      refine ⟨G, _, fp, .nx, e', St0, hd, fun G1 H1 σ1 f1 S1 st1 kp1 => ?_⟩
      obtain ⟨fo, r1, l1⟩ := outsE_ok (vs := vs) S1.rep ho fun i hi => by
        obtain ⟨v, h1, h2⟩ := hat i hi
        exact ⟨v, h1, by rw [kp1.at_ i hi]; exact h2⟩
      refine k G1 H1 .non fp0 fo S1.sub (by unfold RepO; exact ⟨RepT.non, rfl⟩) r1 (fun a => by have := S1.one a; have := l1 a; simp only [fp0]; omega) (fun a z => S1.out a (by have := l1 a; simp only [fp0] at z; omega)) ?_
      rw [fp0_A]
      exact st1.less l1
  · rename_i o e' hd
    cases ho : outsE io e' with
    | none => rw [ho] at hF; cases hF
    | some x =>
      rw [ho] at hF; cases hF
      refine ⟨G, _, fp, .rt r, e', St0, hd, fun G1 H1 σ1 v fr f1 S1 rr one1 out1 st1 kp1 => ?_⟩
      obtain ⟨fo, r1, l1⟩ := outsE_ok (vs := vs) S1.rep ho fun i hi => by
        obtain ⟨v, h1, h2⟩ := hat i hi
        exact ⟨v, h1, by rw [kp1.at_ i hi]; exact h2⟩
      refine k G1 H1 v fr fo S1.sub rr r1 (fun a => by have := one1 a; have := l1 a; omega) (fun a z => ?_) (st1.less fun a => by have := l1 a; simp only [fpA]; omega)
      by_cases z1 : fr a = 0
      · exact S1.out a (by have := l1 a; omega)
      · exact out1 a z1
  · cases hF
end VS
namespace VS
open PySem L2
open PyProof.Rows (envOfC)
variable {g : Gl0}

/-! ### what a test of the scope alone says -/
theorem kind_at {e1 e2 : PySem.Env} (h : e1.scope = e2.scope) (x : Str) : e1.kindOf x = e2.kindOf x := by unfold PySem.Env.kindOf; rw [h]
theorem block_at {e1 e2 : PySem.Env} (h : e1.scope = e2.scope) : e1.blockKind = e2.blockKind := by unfold PySem.Env.blockKind; rw [h]
theorem swapped_at {e1 e2 : PySem.Env} (h : e1.scope = e2.scope) (ts : List Expr) (v : Expr) : swappedStores ts v e1 = swappedStores ts v e2 := by
  unfold swappedStores
  simp only [block_at h, funext (kind_at h)]
theorem swaps_at {e1 e2 : PySem.Env} (h : e1.scope = e2.scope) (v : Expr) (t : Option Expr) (l : Nat) : swapsWith v t l e1 = swapsWith v t l e2 := by
  unfold swapsWith
  simp only [block_at h, funext (kind_at h), h]
def envD (sc : Scope) : PySem.Env := envOfC "" sc 0 0 .none

/-! ### several targets from values of one's own -/
abbrev BOs := List O → Env → Option Env
def rdGsO (g : Gl0) (ss : List Nat) (b : BOs) : TGs := fun vs σ H Q => ∃ G e f os fo e', Stt g G H σ e f ∧ RepOs g G H os vs fo ∧ (∀ a, fo a + f a ≤ 1) ∧ (∀ a, fo a ≠ 0 → G a = none) ∧ b os e = some e' ∧
  ∀ G' H' σ' f', Stt g G' H' σ' e' f' → Step G H (fpA fo f) G' H' f' → Ag ss σ σ' → Q σ' H'
def boNil : BOs := fun os e => match os with
  | [] => some e
  | _ => none
def boCons (b : BO) (r : BOs) : BOs := fun os e => match os with
  | o :: os' => (match b o e with
    | some e1 => r os' e1
    | none => none)
  | [] => none
section
variable {X : Cx} {e : Expr} {es : List Expr} {pos : Pos}
theorem pgsoNil : PGs X [] (rdGsO g [] boNil) := impGs pgs_nil fun vs σ H Q ⟨G, env, f, os, fo, e', S, r, one, out, hb, k⟩ => by
  unfold boNil at hb
  split at hb
  · cases hb
    unfold RepOs at r
    exact ⟨r.1, k G H σ f S ((Step.refl G H (fpA fo f)).less fun x => by simp only [fpA]; omega) (Ag.refl _ _)⟩
  · cases hb
theorem pgsoCons {ss tt : List Nat} {b : BO} {r : BOs} (h1 : PG X e (rdG g ss b)) (h2 : PGs X es (rdGsO g tt r)) (hs : (assignEach (e :: es) X.env).map (·.2) = assign e X.env :: (assignEach es X.env).map (·.2)) :
    PGs X (e :: es) (rdGsO g (ss ++ tt) (boCons b r)) := impGs (pgs_cons h1 h2 hs) fun vs σ H Q ⟨G, env, f, os, fo, e', S, ro, one, out, hb, k⟩ => by
  unfold boCons at hb
  split at hb
  · rename_i o os'
    split at hb
    · rename_i e1 hb1
      unfold RepOs at ro
      obtain ⟨v, w, f1, f2, rfl, rfl, q, m⟩ := ro
      refine ⟨v, w, rfl, G, env, f, o, f1, e1, S, q, fun a => by have := one a; simp only [fpA] at this; omega, fun a z => out a (by simp only [fpA]; omega), hb1, fun G1 H1 σ1 g1 S1 st1 ag1 => ?_⟩
      obtain ⟨b1, b2, b3⟩ := Stt.beside (k1 := f2) (f1 := fpA f1 f) (fun a => by have := one a; simp only [fpA] at this ⊢; omega) (fun a z => out a (by simp only [fpA]; omega)) (fun a z => RepOs.there g m a z) st1 (fun a => S1.one a)
      refine ⟨G1, e1, g1, os', f2, e', S1, m.mono g st1.gm b3, b1, b2, hb, fun G2 H2 σ2 g2 S2 st2 ag2 => k G2 H2 σ2 g2 S2 ?_ (ag1.trans ag2)⟩
      have e1 : fpA (fpA f1 f2) f = fpA f2 (fpA f1 f) := by funext a; simp only [fpA]; omega
      rw [e1]
      exact (st1.frame f2).trans st2
    · cases hb
  · cases hb
def sTupAsg (n : Nat) (as : DA) (b : BOs) : DS := fun e => match as e with
  | some (os, e1) => if os.length = n ∧ n ≤ lim then (match b os e1 with
    | some e2 => some (.nx, e2)
    | none => none) else none
  | none => none
variable {ks : List Nat}
theorem qTupAsg {ts : List Expr} {k1 k2 : Nat} {p1 p2 : Pos} {mv : List (Option Nat)} {as : DA} {ss : List Nat} {b : BOs} {n : Nat} (hK : X.K = g.K) (hc : X.calm = true) (ha : PA X es (rdA g mv as)) (hg : PGs X ts (rdGsO g ss b)) (hk : ks.all (fun i => !ss.contains i) = true)
    (hn : (assignEach ts X.env).length = n) (hst : (assignEach ts X.env).findIdx? (·.1) = none)
    (hs : swapsWithSole [.Tuple ts k1 p1] (.Tuple es k2 p2) pos.line X.env = pure false) (hw : swappedStores [.Tuple ts k1 p1] (.Tuple es k2 p2) X.env = pure none)
    (h1 : (assignEach [.Tuple ts k1 p1] X.env).map (·.2) = [assign (.Tuple ts k1 p1) X.env]) : PS X (.Assign [.Tuple ts k1 p1] (.Tuple es k2 p2) pos) (rdS g ks (sTupAsg n as b)) :=
  impS (ps_asg (pe_tup ha) (pg_tup hc hg hn hst) hs hw h1) fun D σ H ⟨G, env, f, r, e', S, ht, k⟩ => by
    unfold sTupAsg at ht
    split at ht
    · rename_i os e1 h1
      by_cases hl : os.length = n ∧ n ≤ lim
      · rw [if_pos hl] at ht
        split at ht
        · rename_i e2 h2
          cases ht
          refine ⟨G, env, f, os, e1, S, h1, fun G1 H1 vs fo f1 S1 r1 one out st _ => ⟨by rw [← r1.length g, hl.1]; exact Nat.le_trans hl.2 lim_le, fun q hq => ?_⟩⟩
          have w := Grow.newO S1.sub hq (.tup vs)
          refine ⟨q, vs, rfl, SqT.of upd_same, by rw [← r1.length g]; exact hl.1, G1, e1, f1, os, fo, _, S1.grow w, r1.mono g (Sub.refl _) (fun a _ u z => w.hm a u z), one, out, h2, fun G2 H2 σ2 f2 S2 st2 ag => ?_⟩
          exact k G2 H2 σ2 f2 S2 (st.trans ((w.step (fpA fo f1)).trans st2)) (ag.keep fun i hi => by have := List.all_eq_true.mp hk i hi; simpa using this)
        · cases ht
      · rw [if_neg hl] at ht; cases ht
    · cases ht
theorem par_read {i j : Nat} {as : DA} {mv : List (Option Nat)} {D : Ends} {σ : St} {H : Hp} (hki : ks.contains i = false) (hkj : ks.contains j = false) (h : rdS g ks (sTupAsg 2 as (boCons (bName i) (boCons (bName j) boNil))) D σ H) : tPar i j (rdA g mv as) D σ H := by
  obtain ⟨G, env, f, r, e', S, ht, k⟩ := h
  unfold sTupAsg at ht
  split at ht
  · rename_i os e1 h1
    by_cases hl : os.length = 2 ∧ 2 ≤ lim
    · rw [if_pos hl] at ht
      split at ht
      · rename_i e2 h2
        cases ht
        refine ⟨G, env, f, os, e1, S, h1, fun G1 H1 vs fo f1 S1 r1 one out st _ => ?_⟩
        match os, hl.1, r1, h2 with
        | [o1, o2], _, r1, h2 =>
          unfold RepOs at r1
          obtain ⟨v, w1, fa, fb, rfl, rfl, qa, m⟩ := r1
          unfold RepOs at m
          obtain ⟨w, w2, fb1, fc, rfl, rfl, qb, m2⟩ := m
          unfold RepOs at m2
          obtain ⟨rfl, rfl⟩ := m2
          refine ⟨v, w, rfl, ?_⟩
          rw [fpA_0] at one out st
          unfold boCons bName at h2
          by_cases hi : i < e1.length
          · simp only [if_pos hi] at h2
            by_cases hj : j < (e1.set i (some o1)).length
            · simp only [if_pos hj] at h2
              unfold boNil at h2
              cases h2
              obtain ⟨f2, S2, l2⟩ := S1.set qa (fun a => by have := one a; simp only [fpA] at this; omega) (fun a z => out a (by simp only [fpA]; omega)) hi
              obtain ⟨f3, S3, l3⟩ := S2.set qb (fun a => by have := one a; have := l2 a; simp only [fpA] at *; omega) (fun a z => out a (by simp only [fpA]; omega)) hj
              refine k G1 H1 _ f3 S3 (st.less fun a => ?_) ((keepSet hki).trans (keepSet hkj))
              have := l2 a; have := l3 a; simp only [fpA]; omega
            · simp only [if_neg hj] at h2; cases h2
          · simp only [if_neg hi] at h2; cases h2
      · cases ht
    · rw [if_neg hl] at ht; cases ht
  · cases ht
theorem qPar2 {i j : Nat} {x y : Str} {a b : Expr} {px py pt : Pos} {kt k2 pt2} {mv : List (Option Nat)} {as : DA} (hc : X.calm = true) (hN : X.N.Nodup) (hi : X.N[i]? = some x) (hj : X.N[j]? = some y) (hij : i ≠ j)
    (hx : X.env.scope.names.lookup x = some .local) (hy : X.env.scope.names.lookup y = some .local) (ha : PA X [a, b] (rdA g mv as)) (hki : ks.contains i = false) (hkj : ks.contains j = false)
    (hw : swappedStores [.Tuple [.Name x px, .Name y py] kt pt] (.Tuple [a, b] k2 pt2) X.env = pure (some [x, y]))
    (hs : swapsWithSole [.Tuple [.Name x px, .Name y py] kt pt] (.Tuple [a, b] k2 pt2) pos.line X.env = pure false := by rfl) :
    PS X (.Assign [.Tuple [.Name x px, .Name y py] kt pt] (.Tuple [a, b] k2 pt2) pos) (rdS g ks (sTupAsg 2 as (boCons (bName i) (boCons (bName j) boNil)))) :=
  impS (ps_par hc hN hi hj hij hx hy ha hw hs) fun D σ H h => par_read hki hkj h
theorem par3_read {i j l : Nat} {as : DA} {mv : List (Option Nat)} {D : Ends} {σ : St} {H : Hp} (hki : ks.contains i = false) (hkj : ks.contains j = false) (hkl : ks.contains l = false) (h : rdS g ks (sTupAsg 3 as (boCons (bName i) (boCons (bName j) (boCons (bName l) boNil)))) D σ H) : tPar3 i j l (rdA g mv as) D σ H := by
  obtain ⟨G, env, f, r, e', S, ht, k⟩ := h
  unfold sTupAsg at ht
  split at ht
  · rename_i os e1 h1
    by_cases hl : os.length = 3 ∧ 3 ≤ lim
    · rw [if_pos hl] at ht
      split at ht
      · rename_i e2 h2
        cases ht
        refine ⟨G, env, f, os, e1, S, h1, fun G1 H1 vs fo f1 S1 r1 one out st _ => ?_⟩
        match os, hl.1, r1, h2 with
        | [o1, o2, o3], _, r1, h2 =>
          unfold RepOs at r1
          obtain ⟨v, w1, fa, fb, rfl, rfl, qa, m⟩ := r1
          unfold RepOs at m
          obtain ⟨w, w2, fb1, fc, rfl, rfl, qb, m2⟩ := m
          unfold RepOs at m2
          obtain ⟨u, w3, fc1, fd, rfl, rfl, qc, m3⟩ := m2
          unfold RepOs at m3
          obtain ⟨rfl, rfl⟩ := m3
          refine ⟨v, w, u, rfl, ?_⟩
          rw [fpA_0] at one out st
          unfold boCons bName at h2
          by_cases hi : i < e1.length
          · simp only [if_pos hi] at h2
            by_cases hj : j < (e1.set i (some o1)).length
            · simp only [if_pos hj] at h2
              by_cases hll : l < ((e1.set i (some o1)).set j (some o2)).length
              · simp only [if_pos hll] at h2
                unfold boNil at h2
                cases h2
                obtain ⟨f2, S2, l2⟩ := S1.set qa (fun a => by have := one a; simp only [fpA] at this; omega) (fun a z => out a (by simp only [fpA]; omega)) hi
                obtain ⟨f3, S3, l3⟩ := S2.set qb (fun a => by have := one a; have := l2 a; simp only [fpA] at *; omega) (fun a z => out a (by simp only [fpA]; omega)) hj
                obtain ⟨f4, S4, l4⟩ := S3.set qc (fun a => by have := one a; have := l2 a; have := l3 a; simp only [fpA] at *; omega) (fun a z => out a (by simp only [fpA]; omega)) hll
                refine k G1 H1 _ f4 S4 (st.less fun a => ?_) (((keepSet hki).trans (keepSet hkj)).trans (keepSet hkl))
                have := l2 a; have := l3 a; have := l4 a; simp only [fpA]; omega
              · simp only [if_neg hll] at h2; cases h2
            · simp only [if_neg hj] at h2; cases h2
          · simp only [if_neg hi] at h2; cases h2
      · cases ht
    · rw [if_neg hl] at ht; cases ht
  · cases ht
theorem qPar3 {i j l : Nat} {x y z : Str} {a b c : Expr} {px py pz pt : Pos} {kt k2 pt2} {mv : List (Option Nat)} {as : DA} (hc : X.calm = true) (hN : X.N.Nodup) (hi : X.N[i]? = some x) (hj : X.N[j]? = some y) (hl : X.N[l]? = some z) (hij : i ≠ j) (hil : i ≠ l) (hjl : j ≠ l)
    (hx : X.env.scope.names.lookup x = some .local) (hy : X.env.scope.names.lookup y = some .local) (hz : X.env.scope.names.lookup z = some .local) (ha : PA X [a, b, c] (rdA g mv as)) (hki : ks.contains i = false) (hkj : ks.contains j = false) (hkl : ks.contains l = false)
    (hw : swappedStores [.Tuple [.Name x px, .Name y py, .Name z pz] kt pt] (.Tuple [a, b, c] k2 pt2) X.env = pure (some [x, y, z]))
    (hs : swapsWithSole [.Tuple [.Name x px, .Name y py, .Name z pz] kt pt] (.Tuple [a, b, c] k2 pt2) pos.line X.env = pure false := by rfl) :
    PS X (.Assign [.Tuple [.Name x px, .Name y py, .Name z pz] kt pt] (.Tuple [a, b, c] k2 pt2) pos) (rdS g ks (sTupAsg 3 as (boCons (bName i) (boCons (bName j) (boCons (bName l) boNil))))) :=
  impS (ps_par3 hc hN hi hj hl hij hil hjl hx hy hz ha hw hs) fun D σ H h => par3_read hki hkj hkl h

/-! ### name = [..] where the list is stored within the block -/
theorem rdN_E {d : DN} {σ : St} {H : Hp} {Q : VK} (h : rdE g (eOfN d) σ H Q) : rdN g d σ H Q := by
  obtain ⟨G, env, f, o, e', S, ht, k⟩ := h
  unfold eOfN at ht
  cases h1 : d env with
  | none => rw [h1] at ht; cases ht
  | some t => rw [h1] at ht; cases ht; exact ⟨G, env, f, _, S, h1, Res.post S k⟩
theorem rdN_EV {d : DN} {σ : St} {H : Hp} {Q : VK} (h : rdE g (eOfV (vOfN d)) σ H Q) : rdN g d σ H Q := by
  obtain ⟨G, env, f, o, e', S, ht, k⟩ := h
  unfold eOfV vOfN at ht
  cases h1 : d env with
  | none => rw [h1] at ht; cases ht
  | some t =>
    rw [h1] at ht; cases ht
    refine ⟨G, env, f, _, S, h1, Res.frz fun G' H' v w r => ?_⟩
    exact k G' H' v fp0 f (S.grow w) (by unfold RepO; exact ⟨r, rfl⟩) (fun a => by have := S.one a; simp only [fp0]; omega) (fun a h => absurd rfl h) (by rw [fp0_A]; exact w.step f)
section
variable {i : Nat} {y : Str} {py : Pos} {elt tg iter : Expr} {ifs : List Expr} {scope : Scope} {own : List (Str × Nat)} {spos : Pos} {ss : List Nat} {src : DVs} {b : BO} {c : DB} {d : DN}
theorem pn_lc (hc : X.calm = true) (hN : X.N.Nodup) (hi : PI X tg iter (rdJ g src)) (ok : BlkOk X.N X.env.scope scope own)
    (hg : ∀ (s : Shared) (H : Hp) (C : Addr) (cl : List (Str × Addr)) (fp : List Addr), PG (X.blk s H scope (compEnvC scope cl C X.env) fp) tg (rdGq g ss b)) (ht : ∀ (s : Shared) (H : Hp) (C : Addr) (cl : List (Str × Addr)) (fp : List Addr), PTs (X.blk s H scope (compEnvC scope cl C X.env) fp) ifs (rdB g c))
    (he : ∀ (s : Shared) (H : Hp) (C : Addr) (cl : List (Str × Addr)) (fp : List Addr), PE (X.blk s H scope (compEnvC scope cl C X.env) fp) elt (rdN g d)) (hss : ss.all (fun i => (own.map (·.2)).contains i) = true) (hs : ∀ x, foldedSetIterable iter X.env x = pure x := by intro _; rfl) :
    PE X (.ListComp elt [⟨tg, iter, ifs, 0⟩] scope pos) (rdN g (nComp src (own.map (·.2)) b c d)) := impE (pe_lc hc hN hi ok hg ht he hs) fun σ H Q h => comp_read (fun i hi => by have := List.all_eq_true.mp hss i hi; simpa using this) h
theorem qSetLc (hc : X.calm = true) (hN : X.N.Nodup) (hy : X.N[i]? = some y) (hyl : X.env.scope.names.lookup y = some .local)
    (hsw : swapsWith (.ListComp elt [⟨tg, iter, ifs, 0⟩] scope pos) (some (.Name y py)) spos.line X.env = pure true) (hi : PI X tg iter (rdJ g src)) (ok : BlkOk X.N X.env.scope scope own)
    (hg : ∀ (s : Shared) (H : Hp) (C : Addr) (cl : List (Str × Addr)) (fp : List Addr), PG (X.blk s H scope (compEnvC scope cl C X.env) fp) tg (rdGq g ss b)) (ht : ∀ (s : Shared) (H : Hp) (C : Addr) (cl : List (Str × Addr)) (fp : List Addr), PTs (X.blk s H scope (compEnvC scope cl C X.env) fp) ifs (rdB g c))
    (he : ∀ (s : Shared) (H : Hp) (C : Addr) (cl : List (Str × Addr)) (fp : List Addr), PE (X.blk s H scope (compEnvC scope cl C X.env) fp) elt (rdN g d)) (hss : ss.all (fun i => (own.map (·.2)).contains i) = true) (hk : ks.contains i = false) (hs : ∀ x, foldedSetIterable iter X.env x = pure x := by intro _; rfl) :
    PS X (.Assign [.Name y py] (.ListComp elt [⟨tg, iter, ifs, 0⟩] scope pos) spos) (rdS g ks (sSet i (eOfN (nComp src (own.map (·.2)) b c d)))) := impS (ps_setLc hc hN hy hyl hsw hi ok hg ht he hs) fun D σ H h =>
  comp_read (fun i hi => by have := List.all_eq_true.mp hss i hi; simpa using this) (rdN_E (sSet_read hk h))
theorem qSetLcF (hc : X.calm = true) (hN : X.N.Nodup) (hy : X.N[i]? = some y) (hyl : X.env.scope.names.lookup y = some .local)
    (hsw : swapsWith (.ListComp elt [⟨tg, iter, ifs, 0⟩] scope pos) (some (.Name y py)) spos.line X.env = pure true) (hi : PI X tg iter (rdJ g src)) (ok : BlkOk X.N X.env.scope scope own)
    (hg : ∀ (s : Shared) (H : Hp) (C : Addr) (cl : List (Str × Addr)) (fp : List Addr), PG (X.blk s H scope (compEnvC scope cl C X.env) fp) tg (rdGq g ss b)) (ht : ∀ (s : Shared) (H : Hp) (C : Addr) (cl : List (Str × Addr)) (fp : List Addr), PTs (X.blk s H scope (compEnvC scope cl C X.env) fp) ifs (rdB g c))
    (he : ∀ (s : Shared) (H : Hp) (C : Addr) (cl : List (Str × Addr)) (fp : List Addr), PE (X.blk s H scope (compEnvC scope cl C X.env) fp) elt (rdN g d)) (hss : ss.all (fun i => (own.map (·.2)).contains i) = true) (hk : ks.contains i = false) (hs : ∀ x, foldedSetIterable iter X.env x = pure x := by intro _; rfl) :
    PS X (.Assign [.Name y py] (.ListComp elt [⟨tg, iter, ifs, 0⟩] scope pos) spos) (rdS g ks (sSet i (eOfV (vOfN (nComp src (own.map (·.2)) b c d))))) := impS (ps_setLc hc hN hy hyl hsw hi ok hg ht he hs) fun D σ H h =>
  comp_read (fun i hi => by have := List.all_eq_true.mp hss i hi; simpa using this) (rdN_EV (sSet_read hk h))
end

/-! ### freezing -/
def eFrz (d : DE) : DE := fun e => match d e with
  | some (o, e1) => some (.val o.fz, e1)
  | none => none
theorem pe_frz {d : DE} (h : PE X e (rdE g d)) : PE X e (rdE g (eFrz d)) := impE h fun σ H Q ⟨G, env, f, o, e', S, ht, k⟩ => by
  unfold eFrz at ht
  split at ht
  · rename_i o1 e1 h1
    cases ht
    exact rd_one ⟨G, env, f, o1, _, S, h1, fun G1 H1 v f1 S1 st r => PostE.sc st S1 k r⟩
  · cases ht

/-! ### copies of lists that are still written -/
def tVals : List O → Option (List T)
  | [] => some []
  | .val t :: os => (match tVals os with
    | some ts => some (t :: ts)
    | none => none)
  | _ => none
theorem tVals_eq : ∀ {os : List O} {ts : List T}, tVals os = some ts → os = ts.map O.val
  | [], ts, h => by unfold tVals at h; cases h; rfl
  | .val t :: os, ts, h => by
    unfold tVals at h
    split at h
    · rename_i us h1
      cases h
      rw [tVals_eq h1]
      rfl
    · cases h
  | .lst _ :: os, ts, h => by unfold tVals at h; cases h
  | .ins _ _ :: os, ts, h => by unfold tVals at h; cases h
theorem tVals_of : ∀ ts : List T, tVals (ts.map O.val) = some ts
  | [] => rfl
  | t :: ts => by
    show tVals (O.val t :: ts.map O.val) = _
    unfold tVals
    rw [tVals_of ts]
theorem RepOs.valsInv {G H : Hp} : ∀ {ts : List T} {vs : List V} {f : FP}, RepOs g G H (ts.map O.val) vs f → RepTs g G ts vs
  | [], vs, f, h => by
    have h' : RepOs g G H [] vs f := h
    unfold RepOs at h'
    unfold RepTs
    exact h'.1
  | t :: ts, vs, f, h => by
    have h' : RepOs g G H (O.val t :: ts.map O.val) vs f := h
    unfold RepOs at h'
    obtain ⟨v, r, f1, f2, rfl, rfl, q, m⟩ := h'
    unfold RepO at q
    exact RepTs.cons q.1 (RepOs.valsInv m)
def dLst (p : DP) : DVs := fun e => match p e with
  | some (.lst os, _) => tVals os
  | _ => none
def nCopy (p : DP) : DN := fun e => (dLst p e).map fun ts => .lst (ts.map O.val)
def vCopyT (p : DP) : DV := fun e => (dLst p e).map T.tup
theorem pa_one' {ta : TE} (h : PE X e ta) (hs : plainE e = true) : PA X [e] (fun σ H Q => ta σ H fun v H1 => Q [v] H1) := impA (pa_cons h pa_nil (star_cons hs)) fun σ H Q q => q
theorem pn_copy {x : Str} {p : Pos} {pd : DP} (B : Blt X x (.type "list")) (h : PE X e (rdP g pd)) (hp : plainE e = true) : PE X (.Call (.Name x p) [e] [] pos) (rdN g (nCopy pd)) :=
  impE (pe_blt rfl B call_list_of (pa_one' h hp) (by simp [hp])) fun σ H Q ⟨G, env, f, o, S, ht, k⟩ => by
    unfold nCopy dLst at ht
    split at ht
    · rename_i os st h1
      cases h2 : tVals os with
      | none => rw [h2] at ht; cases ht
      | some ts =>
        rw [h2] at ht; cases ht
        refine ⟨G, env, f, _, st, S, h1, fun G1 H1 v f1 f0 w ef r wd => ?_⟩
        unfold RepO at r
        obtain ⟨a, vs, k1, rfl, ha, rfl, rs⟩ := r
        rw [tVals_eq h2] at rs
        exact ⟨a, vs, rfl, .inl (SqL.of ha), fun p hp => Res.newL w.s' (k.later w) hp rs.valsInv⟩
    · cases ht
theorem pv_copyT {x : Str} {p : Pos} {pd : DP} (B : Blt X x (.type "tuple")) (h : PE X e (rdP g pd)) (hp : plainE e = true) : PE X (.Call (.Name x p) [e] [] pos) (rdV g (vCopyT pd)) :=
  impE (pe_blt rfl B call_tuple_of (pa_one' h hp) (by simp [hp])) fun σ H Q ⟨G, env, f, o, S, ht, k⟩ => by
    unfold vCopyT dLst at ht
    split at ht
    · rename_i os st h1
      cases h2 : tVals os with
      | none => rw [h2] at ht; cases ht
      | some ts =>
        rw [h2] at ht; cases ht
        refine ⟨G, env, f, _, st, S, h1, fun G1 H1 v f1 f0 w ef r wd => ?_⟩
        unfold RepO at r
        obtain ⟨a, vs, k1, rfl, ha, rfl, rs⟩ := r
        rw [tVals_eq h2] at rs
        refine ⟨a, vs, rfl, .inl ⟨SqL.of ha, fun p hp => ?_⟩⟩
        have w2 := Grow.newT w.s' hp (.tup vs)
        exact k _ _ _ (w.trans w2) (RepT.tup upd_same (rs.valsInv.mono g w2.gm))
    · cases ht
/-- for i, x in enumerate(xs), xs frozen by it -/
def iEnum (d : DE) : Env → Option (List T × Env) := fun e => match d e with
  | some (o, e1) => (match o.fz with
    | .lst ts => some (enumT 0 ts, e1)
    | _ => none)
  | none => none
theorem pi_enum' {d : DE} {elts : List Expr} {kk : Nat} {tpos p : Pos} (hg : Gl X "enumerate") (hm : X.mg "enumerate" = none) (h : PE X e (rdE g d)) (hp : plainE e = true) :
    PI X (.Tuple elts kk tpos) (.Call (.Name "enumerate" p) [e] [] pos) (rdI g (iEnum d)) :=
  impI (pi_enum hg hm (pa_cons h pa_nil (star_cons hp)) (star_cons hp)) fun σ H R ⟨G, env, f, ts, e', S, ht, k⟩ => by
    unfold iEnum at ht
    split at ht
    · rename_i o e1 h1
      split at ht
      · rename_i us h2
        cases ht
        refine rd_one (R := fun v H1 => _) ⟨G, env, f, o, _, S, h1, fun G1 H1 v f1 S1 st r => ?_⟩
        rw [h2] at r
        unfold RepT at r
        obtain ⟨A, vs, rfl, sq, rs⟩ := r
        exact ⟨A, vs, rfl, SqL.of (S1.sub _ _ sq), k G1 H1 f1 _ S1 st (iter_enum sq rs X.K)⟩
      · cases ht
    · cases ht

/-! ### self.f = .. -/
def putO (n : Nat) (o : O) : List (Nat × O) → List (Nat × O)
  | [] => [(n, o)]
  | (m, x) :: r => if m = n then (m, o) :: r else (m, x) :: putO n o r
theorem RepOf.putF (inj : ∀ n m, g.fn n = g.fn m → n = m) {G H : Hp} {n : Nat} {o : O} {v : V} {fo : FP} (q : RepO g G H o v fo) : ∀ {fs : List (Nat × O)} {fv : List (Str × V)} {f : FP}, RepOf g G H fs fv f → ∃ f', RepOf g G H (putO n o fs) (L2.putF (g.fn n) v fv) (fpA fo f') ∧ ∀ a, f' a ≤ f a
  | [], fv, f, h => by
    unfold RepOf at h
    obtain ⟨rfl, rfl⟩ := h
    refine ⟨fp0, ?_, fun _ => Nat.le_refl _⟩
    show RepOf g G H [(n, o)] [(g.fn n, v)] _
    unfold RepOf
    exact ⟨v, [], fo, fp0, rfl, rfl, q, by unfold RepOf; exact ⟨rfl, rfl⟩⟩
  | (m, x) :: fs, fv, f, h => by
    unfold RepOf at h
    obtain ⟨u, r, f1, f2, rfl, rfl, q1, m1⟩ := h
    unfold putO L2.putF
    by_cases hm : m = n
    · subst hm
      rw [if_pos rfl, if_pos rfl]
      refine ⟨f2, ?_, fun a => by simp only [fpA]; omega⟩
      unfold RepOf
      exact ⟨v, r, fo, f2, rfl, rfl, q, m1⟩
    · rw [if_neg hm, if_neg fun z => hm (inj _ _ z)]
      obtain ⟨f', r', l⟩ := RepOf.putF inj q m1
      refine ⟨fpA f1 f', ?_, fun a => by have := l a; simp only [fpA]; omega⟩
      unfold RepOf
      exact ⟨u, _, f1, fpA fo f', rfl, fpA_swap _ _ _, q1, r'⟩
theorem RepOf.length {G H : Hp} : ∀ {fs : List (Nat × O)} {fv : List (Str × V)} {f : FP}, RepOf g G H fs fv f → fs.length = fv.length
  | [], fv, f, h => by unfold RepOf at h; rw [h.1]; rfl
  | (m, x) :: fs, fv, f, h => by
    unfold RepOf at h
    obtain ⟨u, r, f1, f2, rfl, rfl, q1, m1⟩ := h
    rw [List.length_cons, List.length_cons, RepOf.length m1]
def sFldSet (i c n : Nat) (d : DE) : DS := fun e => match d e with
  | some (o, e1) => (match e1[i]? with
    | some (some (.ins c' fs)) => if c' = c ∧ fs.length < 900 then some (.nx, e1.set i (some (.ins c' (putO n o fs)))) else none
    | _ => none)
  | none => none
theorem qFld {i nc nf c n : Nat} {x : Str} {o value : Expr} {pos' : Pos} {d : DE} (hK : X.K = g.K) (ok : g.Ok nc nf) (hc : c < nc) (hn : n < nf) (hx : x = g.fn n) (ho : PE X o (tVar i)) (hv : PE X value (rdE g d))
    (hs : swapsWith value (some (.Attribute o x pos')) pos.line X.env = pure false := by rfl) : PS X (.Assign [.Attribute o x pos'] value pos) (rdS g ks (sFldSet i c n d)) :=
  impS (ps_fld ho hv hs) fun D σ H ⟨G, env, f, r, e', S, ht, k⟩ => by
    unfold sFldSet at ht
    split at ht
    · rename_i o1 e1 h1
      split at ht
      · rename_i c' fs h2
        by_cases hl : c' = c ∧ fs.length < 900
        · rw [if_pos hl] at ht; cases ht
          refine ⟨G, env, f, o1, e1, S, h1, fun G1 H1 v fo f1 S1 r1 one out st => ?_⟩
          obtain ⟨w, fa, fb, e2, ef, q1, q2⟩ := S1.rep.take g h2
          unfold RepO at q1
          obtain ⟨a, dx, fv, k1, rfl, ha, rfl, rf⟩ := q1
          obtain ⟨hcc, hll⟩ := hl
          subst hcc
          subst hx
          have hi : i < e1.length := (List.getElem?_eq_some_iff.mp h2).1
          have onef : ∀ b, fo b + (fpA (fpA (fp1 a) k1) fb) b ≤ 1 := fun b => by rw [← ef]; exact one b
          have k1a : ∀ b, k1 b ≠ 0 → b ≠ a := fun b z e => by
            subst e
            have := onef b
            simp [fpA, fp1] at this
            omega
          have fba : ∀ b, fb b ≠ 0 → b ≠ a := fun b z e => by
            subst e
            have := onef b
            simp [fpA, fp1] at this
            omega
          have foa : ∀ b, fo b ≠ 0 → b ≠ a := fun b z e => by
            subst e
            have := onef b
            simp [fpA, fp1] at this
            omega
          have fa1 : f1 a ≠ 0 := by rw [ef]; simp [fpA, fp1]
          have ga : G1 a = none := S1.out a fa1
          refine ⟨_, e2, a, g.C c', dx, fv, rfl, ha, by rw [hK]; exact ok.cls c' hc, by rw [hK]; exact ok.no c' n hc hn, by rw [← rf.length]; omega, ?_⟩
          obtain ⟨k2, rf2, lk⟩ := RepOf.putF (n := n) ok.inj (r1.mono g (G' := G1) (H' := upd H1 a (.ins (g.C c') dx (L2.putF (g.fn n) v fv))) (Sub.refl _) fun b hb u q => by rw [upd_ne (foa b hb)]; exact q) (rf.mono g (G' := G1) (H' := upd H1 a (.ins (g.C c') dx (L2.putF (g.fn n) v fv))) (Sub.refl _) fun b hb u q => by rw [upd_ne (k1a b hb)]; exact q)
          have rep := (q2.mono g (H' := upd H1 a (.ins (g.C c') dx (L2.putF (g.fn n) v fv))) (Sub.refl G1) fun b hb u q => by rw [upd_ne (fba b hb)]; exact q).put g (i := i) (o := .ins c' (putO n o1 fs)) (v := .ref a) (fo := fpA (fp1 a) (fpA fo k2)) (by simp [hi]) (by
            unfold RepO
            exact ⟨a, dx, _, fpA fo k2, rfl, upd_same, rfl, rf2⟩)
          rw [List.set_set, set_same e2] at rep
          have sub' : Sub G1 (upd H1 a (.ins (g.C c') dx (L2.putF (g.fn n) v fv))) := fun b u q => by
            rw [upd_ne (ne_of_none q ga)]
            exact S1.sub b u q
          have tot : ∀ b, (fpA (fpA (fp1 a) (fpA fo k2)) fb) b ≤ fo b + f1 b := fun b => by have := lk b; rw [ef]; simp only [fpA]; omega
          refine k G1 _ σ _ ⟨sub', rep, fun b => Nat.le_trans (tot b) (one b), fun b z => ?_⟩ ⟨st.gm, fun b u q hz => ?_, fun b z => st.own b (by have := tot b; simp only [fpA] at *; omega), st.gn, fun b z => ?_⟩ (Keep.refl _ _)
          · have := tot b
            by_cases z1 : fo b = 0
            · exact S1.out b (by omega)
            · exact out b z1
          · have h4 := st.keep b u q hz
            rw [upd_ne fun e => ?_]
            · exact h4
            · subst e
              rcases st.own b (by simp only [fpA]; omega) with q' | q'
              · exact q' hz
              · rw [q] at q'; cases q'
          · by_cases e : b = a
            · subst e; rw [upd_same]; exact fun z => nomatch z
            · rw [upd_ne e]; exact st.dom b z
        · rw [if_neg hl] at ht; cases ht
      · cases ht
    · cases ht

/-! ### a dict of the module -/
structure KD (g : Gl0) (X : Cx) (x : Str) (tb : List (Str × T)) : Prop where
  nd : (x == ("__debug__" : Str)) = false
  ex : ∃ d es n, X.mg x = some (.ref d) ∧ KDict X.K X.w d es n ∧ ∀ z t, tb.lookup z = some t → ∃ u v, PySem.W.nsIn X.K d z = some (some u) ∧ RelV v u ∧ ∀ G, RepT g G t v
def bInK (tb : List (Str × T)) (neg : Bool) (p : DV) : DB := fun e => match p e with
  | some (.str z) => if (tb.lookup z).isSome = true then some (!neg) else none
  | _ => none
def vItK (tb : List (Str × T)) (p : DV) : DV := fun e => match p e with
  | some (.str z) => tb.lookup z
  | _ => none
variable {x : Str} {p : Pos}
theorem ptb_inK {tb : List (Str × T)} {pd : DV} (kd : KD g X x tb) (hg : Gl X x) (h : PE X e (rdV g pd)) : PT X (.Compare e [.In] [.Name x p] pos) (rdB g (bInK tb false pd)) := by
  obtain ⟨d, es, n, hm, D, hl⟩ := kd.ex
  refine impT (pt_cmpR (op_in_kd D) h (pe_glob hg hm (v := .ref d) rfl kd.nd) rfl) fun σ H Q ⟨G, env, f, b, S, ht, k⟩ => ?_
  unfold bInK at ht
  split at ht
  · rename_i z h1
    by_cases hz : (tb.lookup z).isSome = true
    · rw [if_pos hz] at ht; cases ht
      obtain ⟨t, ht⟩ := Option.isSome_iff_exists.mp hz
      obtain ⟨u, v, e1, _⟩ := hl z t ht
      refine ⟨G, env, f, _, S, h1, fun G1 H1 v w r => ?_⟩
      unfold RepT at r
      exact ⟨z, _, r, rfl, e1, _, rfl, k G1 H1 w⟩
    · rw [if_neg hz] at ht; cases ht
  · cases ht
theorem ptb_notInK {tb : List (Str × T)} {pd : DV} (kd : KD g X x tb) (hg : Gl X x) (h : PE X e (rdV g pd)) : PT X (.Compare e [.NotIn] [.Name x p] pos) (rdB g (bInK tb true pd)) := by
  obtain ⟨d, es, n, hm, D, hl⟩ := kd.ex
  refine impT (pt_cmpR (op_notIn_kd D) h (pe_glob hg hm (v := .ref d) rfl kd.nd) rfl) fun σ H Q ⟨G, env, f, b, S, ht, k⟩ => ?_
  unfold bInK at ht
  split at ht
  · rename_i z h1
    by_cases hz : (tb.lookup z).isSome = true
    · rw [if_pos hz] at ht; cases ht
      obtain ⟨t, ht⟩ := Option.isSome_iff_exists.mp hz
      obtain ⟨u, v, e1, _⟩ := hl z t ht
      refine ⟨G, env, f, _, S, h1, fun G1 H1 v w r => ?_⟩
      unfold RepT at r
      exact ⟨z, _, r, rfl, e1, _, rfl, k G1 H1 w⟩
    · rw [if_neg hz] at ht; cases ht
  · cases ht
theorem pv_itK {tb : List (Str × T)} {pd : DV} (kd : KD g X x tb) (hg : Gl X x) (h : PE X e (rdV g pd)) (hs : PlainIx e) : PE X (.Subscript (.Name x p) e pos) (rdV g (vItK tb pd)) := by
  obtain ⟨d, es, n, hm, D, hl⟩ := kd.ex
  refine impE (pe_ix ix_kdict (pe_glob hg hm (v := .ref d) rfl kd.nd) h hs) fun σ H Q ⟨G, env, f, t, S, ht, k⟩ => ?_
  unfold vItK at ht
  split at ht
  · rename_i z h1
    obtain ⟨u, v, e1, r1, r2⟩ := hl z t ht
    refine ⟨G, env, f, _, S, h1, fun G1 H1 v' w r => ?_⟩
    unfold RepT at r
    exact ⟨d, z, v, rfl, r, ⟨es, n, u, D.at_, D.lit, e1, r1⟩, k G1 H1 v w (r2 G1)⟩
  · cases ht

/-! ### isinstance of an own class -/
structure IsC (g : Gl0) (X : Cx) (x : Str) (c : Nat) : Prop where
  nd : (x == ("__debug__" : Str)) = false
  mg : X.mg x = some (.ref (g.C c))
  ins : C8.InsC X.K (g.C c)
def bIsC (c : Nat) (d : DV) : DB := fun e => match d e with
  | some (.ins c' _) => if c' = c then some true else none
  | _ => none
theorem pv_isiC {d : DV} {y : Str} {c : Nat} {p2 : Pos} (B : Blt X x (.builtin "isinstance")) (B2 : IsC g X y c) (hg : Gl X y) (ha : PE X e (rdQ g d)) (hp : plainE e = true) :
    PE X (.Call (.Name x p) [e, .Name y p2] [] pos) (rdV g (vOfB (bIsC c d))) :=
  impE (pe_callB call_isi B.gl B.mg B.bt (pa_cons ha (pa_cons (pe_glob hg B2.mg (v := .ref (g.C c)) rfl B2.nd) pa_nil rfl) (star_cons hp)) B.nn B.nd (star_cons hp) rfl) fun σ H Q ⟨G, env, f, t, S, ht, k⟩ => by
    unfold vOfB bIsC at ht
    split at ht
    · rename_i c' fs h1
      by_cases hc : c' = c
      · rw [if_pos hc] at ht
        cases ht
        subst hc
        refine ⟨G, env, f, _, S, h1, fun G1 H1 v w1 r1 => ?_⟩
        unfold RepT at r1
        obtain ⟨a, dx, fv, rfl, q, rf⟩ := r1
        exact ⟨_, .ref (g.C c'), .ref (g.C c'), .ref (g.C c'), true, rfl, .own _, .base (TyOf.ins q B2.ins.cl B2.ins.ha B2.ins.hn B2.ins.htk B2.ins.hm), B2.ins.me, k G1 H1 _ w1 RepT.bl⟩
      · rw [if_neg hc] at ht; cases ht
    · cases ht

/-! ### a call by keyword of one parameter -/
structure CalK (g : Gl0) (X : Cx) (x y : Str) (F : FT) : Prop where
  nd : (x == ("__debug__" : Str)) = false
  ok : ∃ k f fd ps, FnOk X.prog X.w X.K X.mg X.base CX0 k f fd ps (spF g [] F) ∧ Room k X.A ∧ X.mg x = some (.ref f) ∧ PySem.W.keepIn X.K (.ref f) = true ∧ KBinds X.K fd ps [y] (fun us ws => us ++ ws) (fun vs zs => vs ++ zs)
theorem pn_callK1 {y : Str} {F : FT} {d : DV} {kpos : Pos} (hg : Gl X x) (c : CalK g X x y F) (h : PE X e (rdV g d)) : PE X (.Call (.Name x p) [] [⟨some y, e, kpos⟩] pos) (rdN g (nCallU F [] (asCons d asNil))) := by
  obtain ⟨k, f, fd, ps, ok, hr, hm, hk, hb⟩ := c.ok
  refine ⟨fun pins s σ H Q I q => ?_⟩
  obtain ⟨G, env, fp, o, S, ht, kk⟩ := q
  refine wpAny_Call_Name_kw (ld_glob I hg hm ?_ c.nd)
  refine PySem.W.callWith_KW0 (h₀ := X.base) I.ok.mod.kin hk rfl ?_ rfl
  have hkw : PK X [⟨some y, e, kpos⟩] (tCons (rdV g d) tNil) := pk_cons h pk_nil
  unfold nCallU asCons asNil at ht
  split at ht
  · rename_i ts h1
    split at h1
    · rename_i t us e1 e2
      cases e2
      cases h1
      split at ht
      · rename_i r hF
        cases ht
        have h0 := hkw.run pos pins s σ H (fun zs H2 => spF g [] F ([] ++ zs) H2 Q E0) I ⟨G, env, fp, t, S, e1, fun G1 H1 v w r1 => spF_pure (E := E0) (ts := [t]) w.s' (RepTs.cons r1 RepTs.nil) hF rfl (kk.later w)⟩
        exact thn h0 fun ws s2 ⟨zs, H2, I2, rz, q2⟩ => ⟨I2.kIn, run_fnk ok hr hb pass0 I2 .nil rz q2⟩
      · cases ht
    · cases h1
  · cases ht
end
end VS
namespace VS
open PySem L2
open PyProof.Rows (envOfC)

/-! ### a law's own context: what stays the same through the walk -/
structure Ctx where
  g : Gl0
  P : Program
  w : World
  mg : Str → Option Value
  base : Heap
structure XOk (C : Ctx) (k : Nat) (X : Cx) (N : List Str) (sc : Scope) (fl : List Str) : Prop where
  eP : X.prog = C.P
  ew : X.w = C.w
  eK : X.K = C.g.K
  em : X.mg = C.mg
  eb : X.base = C.base
  eN : X.N = N
  es : X.env.scope = sc
  nd : N.Nodup
  calm : X.calm = true
  room : Room k X.A
  pass : PassesOwn (model X.prog X.w) X.A X.env X.xe
  fn : ∀ x ∈ fl, X.fn x = true
def vaC (N : List Str) (sc : Scope) (i : Nat) (x : Str) : Bool :=
  decide (N[i]? = some x) && (match sc.names.lookup x with
    | some .local => true
    | some .cell => true
    | some .free => true
    | _ => false) && !(x == ("__debug__" : Str)) && !(x == ("__classdict__" : Str))
def tgC (N : List Str) (sc : Scope) (fl : List Str) (i : Nat) (x : Str) : Bool :=
  decide (N[i]? = some x) && (match sc.names.lookup x with
    | some .local => true
    | some .cell => fl.contains x
    | _ => false)
def lcC (N : List Str) (sc : Scope) (i : Nat) (x : Str) : Bool :=
  decide (N[i]? = some x) && (match sc.names.lookup x with
    | some .local => true
    | _ => false)
def glC (sc : Scope) (x : Str) : Bool := match sc.names.lookup x with
  | some .globalImplicit => true
  | _ => false
def ownC (scope : Scope) : List Str := scope.names.filterMap fun y => match y.2 with
  | .cell => (match scope.names.lookup y.1 with
    | some .cell => some y.1
    | _ => none)
  | _ => none
section
variable {C : Ctx} {k : Nat} {X : Cx} {N : List Str} {sc : Scope} {fl : List Str}
theorem XOk.units (h : XOk C k X N sc fl) : X.A.units + 65 < cLine := by have := h.room.un; omega
theorem XOk.ndX (h : XOk C k X N sc fl) : X.N.Nodup := by rw [h.eN]; exact h.nd
theorem XOk.tv (h : XOk C k X N sc fl) {i : Nat} {x : Str} {p : Pos} (hc : vaC N sc i x = true) : PE X (.Name x p) (tVar i) := by
  unfold vaC at hc
  simp only [Bool.and_eq_true, decide_eq_true_eq, Bool.not_eq_true'] at hc
  obtain ⟨⟨⟨h1, h2⟩, h3⟩, h4⟩ := hc
  refine pe_var (by rw [h.eN]; exact h1) ?_ h3 h4
  unfold Vis
  rw [h.es]
  split at h2
  · exact .inl (by assumption)
  · exact .inr (.inl (by assumption))
  · exact .inr (.inr (by assumption))
  · cases h2
theorem XOk.pv (h : XOk C k X N sc fl) {i : Nat} {x : Str} {p : Pos} (hc : vaC N sc i x = true) : PE X (.Name x p) (rdP C.g (pVar i)) := pp_var (h.tv hc)
theorem XOk.tgA (h : XOk C k X N sc fl) {i : Nat} {x : Str} (hc : tgC N sc fl i x = true) : X.N[i]? = some x ∧ L2.Loc X.env.scope x ∧ (X.fn x = true ∨ X.env.scope.names.lookup x = some .local) := by
  unfold tgC at hc
  simp only [Bool.and_eq_true, decide_eq_true_eq] at hc
  obtain ⟨h1, h2⟩ := hc
  refine ⟨by rw [h.eN]; exact h1, ?_⟩
  unfold L2.Loc
  rw [h.es]
  split at h2
  · rename_i q; exact ⟨.inl q, .inr q⟩
  · rename_i q; exact ⟨.inr q, .inl (h.fn x (by simpa using h2))⟩
  · cases h2
theorem XOk.lcA (h : XOk C k X N sc fl) {i : Nat} {x : Str} (hc : lcC N sc i x = true) : X.N[i]? = some x ∧ X.env.scope.names.lookup x = some .local := by
  unfold lcC at hc
  simp only [Bool.and_eq_true, decide_eq_true_eq] at hc
  obtain ⟨h1, h2⟩ := hc
  refine ⟨by rw [h.eN]; exact h1, ?_⟩
  rw [h.es]
  split at h2
  · assumption
  · cases h2
theorem XOk.tg (h : XOk C k X N sc fl) {i : Nat} {x : Str} {p : Pos} (hc : tgC N sc fl i x = true) : PG X (.Name x p) (rdG C.g [i] (bName i)) := by
  obtain ⟨h1, h2, h3⟩ := h.tgA hc
  exact pgName (pg_name h.ndX h1 h2 h3)
theorem XOk.tq (h : XOk C k X N sc fl) {i : Nat} {x : Str} {p : Pos} (hc : tgC N sc fl i x = true) : PG X (.Name x p) (rdGq C.g [i] (bName i)) := by
  obtain ⟨h1, h2, h3⟩ := h.tgA hc
  exact pgqName (pg_name h.ndX h1 h2 h3)
theorem XOk.gl (h : XOk C k X N sc fl) {x : Str} (hc : glC sc x = true) : Gl X x := by
  unfold Gl PySem.Env.kindOf
  rw [h.es]
  unfold glC at hc
  split at hc
  · assumption
  · cases hc
theorem XOk.sw (h : XOk C k X N sc fl) {v : Expr} {t : Option Expr} {l : Nat} {r : Sem Bool} (e : swapsWith v t l (envD sc) = r) : swapsWith v t l X.env = r := (swaps_at (e2 := envD sc) h.es v t l).trans e
theorem XOk.st (h : XOk C k X N sc fl) {ts : List Expr} {v : Expr} {r : Sem (Option (List Str))} (e : swappedStores ts v (envD sc) = r) : swappedStores ts v X.env = r := (swapped_at (e2 := envD sc) h.es ts v).trans e
theorem XOk.bk (h : XOk C k X N sc fl) {scope : Scope} {own : List (Str × Nat)} (hb : blkC N sc scope own = true) : BlkOk X.N X.env.scope scope own := by
  rw [h.eN, h.es]
  exact blkOk_by hb
theorem XOk.blk (h : XOk C k X N sc fl) {scope : Scope} (s : Shared) (H : Hp) (Cc : Addr) (cl : List (Str × Addr)) (fp : List Addr) : XOk C k (X.blk s H scope (compEnvC scope cl Cc X.env) fp) N (relS scope sc) (ownC scope) where
  eP := h.eP
  ew := h.ew
  eK := h.eK
  em := h.em
  eb := h.eb
  eN := h.eN
  es := by
    show relS scope X.env.scope = _
    rw [h.es]
  nd := h.nd
  calm := h.calm
  room := h.room
  pass := PassesOwn.never
  fn := fun x hx => by
    show (scope.names.lookup x == some .cell) = true
    unfold ownC at hx
    obtain ⟨y, hy, e⟩ := List.mem_filterMap.mp hx
    split at e
    · split at e
      · rename_i q
        cases e
        rw [q]
        rfl
      · cases e
    · cases e

/-! ### built-ins -/
structure BltC (C : Ctx) (x : Str) (f : Value) : Prop where
  mg : C.mg x = none
  bt : bootBuiltins x = some f
  nn : x ≠ "__name__"
  nd : (x == ("__debug__" : Str)) = false
theorem XOk.blt (h : XOk C k X N sc fl) {x : Str} {f : Value} (b : BltC C x f) (hc : glC sc x = true) : Blt X x f := ⟨h.gl hc, by rw [h.em]; exact b.mg, b.bt, b.nn, b.nd⟩
/-! ### defs -/
structure Def (C : Ctx) (k : Nat) (x : Str) (io : List Nat) (dts : List T) (F : FT) : Prop where
  nd : (x == ("__debug__" : Str)) = false
  ok : ∃ f fd ps dvs ds, FnOk C.P C.w C.g.K C.mg C.base CX0 k f fd ps (spF C.g io F) ∧ C.mg x = some (.ref f) ∧ PySem.W.keepIn C.g.K (.ref f) = true ∧ Binds C.g.K fd ps ds ∧ Vals dvs ds ∧ flats dts = some dvs
theorem XOk.cal (h : XOk C k X N sc fl) {x : Str} {io : List Nat} {dts : List T} {F : FT} (d : Def C k x io dts F) : VS.Cal C.g X x io dts F := by
  obtain ⟨f, fd, ps, dvs, ds, h1, h2, h3, h4, h5, h6⟩ := d.ok
  exact ⟨k, f, fd, ps, dvs, ds, by rw [h.eP, h.ew, h.eK, h.em, h.eb]; exact h1, h.room, by rw [h.em]; exact h2, by rw [h.eK]; exact h3, by rw [h.eK]; exact h4, h5, h6⟩
structure DefM (C : Ctx) (k : Nat) (c : Nat) (m : Str) (io : List Nat) (dts : List T) (F : FT) : Prop where
  cl : Cls C.g.K (C.g.C c)
  nof : ∀ n, C.g.fn n ≠ m
  ok : ∃ f fd ps dvs ds, FnOk C.P C.w C.g.K C.mg C.base CX0 k f fd ps (spF C.g io F) ∧ Meth C.g.K (C.g.C c) m f ∧ Binds C.g.K fd ps ds ∧ Vals dvs ds ∧ flats dts = some dvs
theorem XOk.calM (h : XOk C k X N sc fl) {c : Nat} {x : Str} {io : List Nat} {dts : List T} {F : FT} (d : DefM C k c x io dts F) : VS.CalM C.g X c x io dts F := by
  obtain ⟨f, fd, ps, dvs, ds, h1, h2, h4, h5, h6⟩ := d.ok
  exact ⟨by rw [h.eK]; exact d.cl, d.nof, k, f, fd, ps, dvs, ds, by rw [h.eP, h.ew, h.eK, h.em, h.eb]; exact h1, h.room, by rw [h.eK]; exact h2, by rw [h.eK]; exact h4, h5, h6⟩
/-- a class's __init__ one level lower (at level 0: nothing) -/
structure DefC (C : Ctx) (k : Nat) (x : Str) (c : Nat) (dts : List T) (F : FT) : Prop where
  nd : (x == ("__debug__" : Str)) = false
  ok : (∀ os, F os = none) ∨ ∃ j f fd ps dvs ds, k = j + 1 ∧ FnOk C.P C.w C.g.K C.mg C.base CX0 j f fd ps (spF C.g [0] F) ∧ C.mg x = some (.ref (C.g.C c)) ∧ Mk C.g.K (C.g.C c) f ∧ Binds C.g.K fd ps ds ∧ Vals dvs ds ∧ flats dts = some dvs
theorem XOk.make (h : XOk C k X N sc fl) {x : Str} {c : Nat} {dts : List T} {F : FT} {p pos : Pos} {e : Expr} {es : List Expr} {mv : List (Option Nat)} {as : DA} (hg : Gl X x) (d : DefC C k x c dts F) (ha : PA X (e :: es) (rdA C.g mv as)) (hp : (e :: es).all plainE = true) :
    PE X (.Call (.Name x p) (e :: es) [] pos) (rdE C.g (eMake c F dts as)) := by
  rcases d.ok with z | ⟨j, f, fd, ps, dvs, ds, e, h1, h2, h3, h4, h5, h6⟩
  · refine ⟨fun pins s σ H Q I ⟨G, env, fp, o, e', S, ht, k⟩ => ?_⟩
    unfold eMake at ht
    split at ht
    · rw [z] at ht; cases ht
    · cases ht
  · exact pe_make' hg ⟨j, f, fd, ps, dvs, ds, by rw [h.eP, h.ew, h.eK, h.em, h.eb]; exact h1, by rw [← e]; exact h.room, by rw [h.em]; exact h2, by rw [h.eK]; exact h3, by rw [h.eK]; exact h4, h5, h6⟩ ha hp d.nd
structure DefK (C : Ctx) (k : Nat) (x y : Str) (F : FT) : Prop where
  nd : (x == ("__debug__" : Str)) = false
  ok : ∃ f fd ps, FnOk C.P C.w C.g.K C.mg C.base CX0 k f fd ps (spF C.g [] F) ∧ C.mg x = some (.ref f) ∧ PySem.W.keepIn C.g.K (.ref f) = true ∧ KBinds C.g.K fd ps [y] (fun us ws => us ++ ws) (fun vs zs => vs ++ zs)
theorem XOk.calK (h : XOk C k X N sc fl) {x y : Str} {F : FT} (d : DefK C k x y F) : VS.CalK C.g X x y F := by
  obtain ⟨f, fd, ps, h1, h2, h3, h4⟩ := d.ok
  exact ⟨d.nd, k, f, fd, ps, by rw [h.eP, h.ew, h.eK, h.em, h.eb]; exact h1, h.room, by rw [h.em]; exact h2, by rw [h.eK]; exact h3, by rw [h.eK]; exact h4⟩
structure IntC (C : Ctx) (x : Str) (i : Int) : Prop where
  nd : (x == ("__debug__" : Str)) = false
  mg : ∃ u, C.mg x = some u ∧ RelV (.int i) u
theorem XOk.ci (h : XOk C k X N sc fl) {x : Str} {i : Int} {p : Pos} (d : IntC C x i) (hc : glC sc x = true) : PE X (.Name x p) (rdV C.g (vC (.int i))) := by
  obtain ⟨u, h1, h2⟩ := d.mg
  exact PE.const (pe_glob (h.gl hc) (by rw [h.em]; exact h1) h2 d.nd) fun G => RepT.int
structure KDC (C : Ctx) (x : Str) (tb : List (Str × T)) : Prop where
  nd : (x == ("__debug__" : Str)) = false
  ex : ∃ d es n, C.mg x = some (.ref d) ∧ KDict C.g.K C.w d es n ∧ ∀ z t, tb.lookup z = some t → ∃ u v, PySem.W.nsIn C.g.K d z = some (some u) ∧ RelV v u ∧ ∀ G, RepT C.g G t v
theorem XOk.kd (h : XOk C k X N sc fl) {x : Str} {tb : List (Str × T)} (d : KDC C x tb) : KD C.g X x tb := by
  obtain ⟨d0, es, n, h1, h2, h3⟩ := d.ex
  exact ⟨d.nd, d0, es, n, by rw [h.em]; exact h1, by rw [h.eK, h.ew]; exact h2, by rw [h.eK]; exact h3⟩
structure ICC (C : Ctx) (x : Str) (c : Nat) : Prop where
  nd : (x == ("__debug__" : Str)) = false
  mg : C.mg x = some (.ref (C.g.C c))
  ins : C8.InsC C.g.K (C.g.C c)
theorem XOk.ic (h : XOk C k X N sc fl) {x : Str} {c : Nat} (d : ICC C x c) : IsC C.g X x c := ⟨d.nd, by rw [h.em]; exact d.mg, by rw [h.eK]; exact d.ins⟩
end

/-! ### constants; methods of lists; the rest -/
section
variable {g : Gl0} {X : Cx} {o e : Expr} {apos cpos pos : Pos}
theorem kI {i : Int} {j} : PE X (.Constant (.int i) j pos) (rdV g (vC (.int i))) := PE.const pe_int fun G => RepT.int
theorem kB {i : Bool} {j} : PE X (.Constant (.bool i) j pos) (rdV g (vC (.bl i))) := PE.const pe_bl fun G => RepT.bl
theorem kN {j} : PE X (.Constant .none j pos) (rdV g (vC .non)) := PE.const pe_non fun G => RepT.non
theorem kS {i : Str} {j} : PE X (.Constant (.str i) j pos) (rdV g (vC (.str i))) := PE.const pe_str fun G => RepT.str
theorem mAppend {pd : DP} {d : DN} (ho : PE X o (rdP g pd)) (he : PE X e (rdN g d)) (hp : plainE e = true)
    (hbase : attributeBase o "append" X.env (eval o X.env) = eval o X.env)
    (hfew : ((backTo cpos (starEach [e] X.env)).all (fun x => !x.1) && (backToKw cpos (keywordEach [] X.env)).all (fun x => x.1.isSome) && decide ([e].length + ([] : List Keyword).length + (if ([] : List Keyword).isEmpty then 0 else 1) < 30)) = true)
    (hline : (apos.endLine == cpos.line) = true) : PE X (.Call (.Attribute o "append" apos) [e] [] cpos) (rdE g (eAppend pd d)) :=
  pe_append ho he hp (pe_bm PySem.F.plainAttrs_list PySem.F.slot_list_append PySem.F.type_list_append mt_append ho (pa_cons he pa_nil (star_cons hp)) hbase hfew hline (star_cons hp) rfl)
theorem mAppendN {i : Nat} {d : DE} (ho : PE X o (tVar i)) (he : PE X e (rdE g d)) (hp : plainE e = true)
    (hbase : attributeBase o "append" X.env (eval o X.env) = eval o X.env)
    (hfew : ((backTo cpos (starEach [e] X.env)).all (fun x => !x.1) && (backToKw cpos (keywordEach [] X.env)).all (fun x => x.1.isSome) && decide ([e].length + ([] : List Keyword).length + (if ([] : List Keyword).isEmpty then 0 else 1) < 30)) = true)
    (hline : (apos.endLine == cpos.line) = true) : PE X (.Call (.Attribute o "append" apos) [e] [] cpos) (rdE g (eAppendN i d)) :=
  pe_appendN (pe_bm PySem.F.plainAttrs_list PySem.F.slot_list_append PySem.F.type_list_append mt_append ho (pa_cons he pa_nil (star_cons hp)) hbase hfew hline (star_cons hp) rfl)
theorem mExtend {pd : DP} {d : DV} (ho : PE X o (rdP g pd)) (he : PE X e (rdV g d)) (hp : plainE e = true)
    (hbase : attributeBase o "extend" X.env (eval o X.env) = eval o X.env)
    (hfew : ((backTo cpos (starEach [e] X.env)).all (fun x => !x.1) && (backToKw cpos (keywordEach [] X.env)).all (fun x => x.1.isSome) && decide ([e].length + ([] : List Keyword).length + (if ([] : List Keyword).isEmpty then 0 else 1) < 30)) = true)
    (hline : (apos.endLine == cpos.line) = true) : PE X (.Call (.Attribute o "extend" apos) [e] [] cpos) (rdE g (eExtend pd d)) :=
  pe_extend (pe_bm PySem.F.plainAttrs_list PySem.F.slot_list_extend PySem.F.type_list_extend mt_extend ho (pa_cons he pa_nil (star_cons hp)) hbase hfew hline (star_cons hp) rfl)
theorem mPop {pd : DP} (ho : PE X o (rdP g pd)) (hbase : attributeBase o "pop" X.env (eval o X.env) = eval o X.env) (hline : (apos.endLine == cpos.line) = true) :
    PE X (.Call (.Attribute o "pop" apos) [] [] cpos) (rdE g (ePop pd)) := pe_pop (pe_bm0 PySem.F.plainAttrs_list PySem.F.slot_list_pop PySem.F.type_list_pop mt_pop ho hbase hline)
theorem lenN : ∀ env os e1, daNil env = some (os, e1) → os.length = ([] : List Expr).length := fun env os e1 h => by
  cases h; rfl
theorem lenC {a : Expr} {es : List Expr} {d : DE} {r : DA} (hr : ∀ env os e1, r env = some (os, e1) → os.length = es.length) : ∀ env os e1, daCons d r env = some (os, e1) → os.length = (a :: es).length := fun env os e1 h => by
  unfold daCons at h
  split at h
  · split at h
    · rename_i h2
      cases h
      rw [List.length_cons, List.length_cons, hr _ _ _ h2]
    · cases h
  · cases h
theorem qDoc {x : Str} {j} {ks : List Nat} : PS X (.Expr (.Constant (.str x) j pos) cpos) (rdS g ks sNil) := impS ps_doc fun D σ H ⟨G, env, f, r, e', S, ht, k⟩ => by
  cases ht
  exact k G H σ f S (Step.refl _ _ _) (Keep.refl _ _)
/-- a list display of values of one's own -/
def eLst (as : DA) : DE := fun e => match as e with
  | some (os, e1) => if os.length ≤ lim then some (.lst os, e1) else none
  | none => none
theorem pe_lst' {es : List Expr} {mv : List (Option Nat)} {as : DA} (h : PA X es (rdA g mv as)) : PE X (.List es pos) (rdE g (eLst as)) := impE (pe_lst h) fun σ H Q ⟨G, env, f, o, e', S, ht, k⟩ => by
  unfold eLst at ht
  split at ht
  · rename_i os e1 h1
    by_cases hl : os.length ≤ lim
    · rw [if_pos hl] at ht; cases ht
      refine ⟨G, env, f, os, _, S, h1, fun G1 H1 vs fo f1 S1 r one out st _ => ⟨by rw [← r.length g]; exact Nat.le_trans hl lim_le, fun q hq => ?_⟩⟩
      have w := Grow.newO S1.sub hq (.lst vs)
      have foq : ∀ a, fo a ≠ 0 → a ≠ q := fun a z e => by subst e; exact RepOs.there g r a z hq
      have f1q : ∀ a, f1 a ≠ 0 → a ≠ q := fun a z e => by subst e; exact S1.rep.there g a z hq
      refine k G1 _ _ (fpA (fp1 q) fo) f1 (S1.grow w) (by unfold RepO; exact ⟨q, vs, fo, rfl, upd_same, rfl, r.mono g (Sub.refl _) fun a _ u z => w.hm a u z⟩) (fun a => ?_) (fun a z => ?_) ?_
      · have := one a
        simp only [fpA, fp1]
        by_cases z : a = q
        · subst z
          have h0 : fo a = 0 := Classical.byContradiction fun z => foq a z rfl
          have h1 : f1 a = 0 := Classical.byContradiction fun z => f1q a z rfl
          rw [if_pos rfl]; omega
        · rw [if_neg z]; omega
      · simp only [fpA] at z
        by_cases z1 : fo a = 0
        · have : a = q := fp1_ne (a := q) (by omega)
          subst this
          exact S1.sub.noneOf hq
        · exact out a z1
      · have s3 := st.trans (w.step (fpA fo f1))
        refine ⟨s3.gm, s3.keep, fun a z => ?_, s3.gn, s3.dom⟩
        simp only [fpA] at z
        by_cases z1 : fo a + f1 a = 0
        · have : a = q := fp1_ne (a := q) (by omega)
          subst this
          right
          cases eH : H a with
          | none => rfl
          | some u => exact absurd hq (st.dom a (by rw [eH]; exact fun z => nomatch z))
        · exact s3.own a (by simp only [fpA]; exact z1)
    · rw [if_neg hl] at ht; cases ht
  · cases ht
end
section
/-- a def's promise from its body's walk -/
theorem fn_walk {C : Ctx} {x qual : Str} {params : Arguments} {body : List Stmt} {scope : Scope} {dvs : List V} {kws : List (Str × V)} {f : Addr} {fd : FuncData} {N ps : List Str} {k : Nat} {io : List Nat} {d : DS}
    (F : FunD C.g.K x qual params body scope dvs kws f fd) (hs : C8.scC N ps scope = true) (hnd : N.Nodup) (hio : io.all (fun i => decide (i < ps.length)) = true)
    (hb : ∀ X, XOk C k X N scope N → PSs X body (rdS C.g io d)) : FnOk C.P C.w C.g.K C.mg C.base CX0 (k + 1) f fd ps (spF C.g io (runF ps.length N.length io d)) := by
  refine fn_run F (C8.fnScope_by hs) hio fun cdv A outer s H E hr => PSs.nox (hb _ ?_)
  exact ⟨rfl, rfl, rfl, rfl, rfl, rfl, rfl, hnd, rfl, hr, PassesOwn.never, fun _ _ => rfl⟩
/-- at level 0 no def promises anything -/
theorem fn_zero {C : Ctx} {k : Nat} {f : Addr} {fd : FuncData} {ps : List Str} {io : List Nat} : FnOk C.P C.w C.g.K C.mg C.base CX0 k f fd ps (spF C.g io fun _ => none) :=
  ⟨fun vs H Q E ⟨G, fp, os, r, outs, s, ro, one, out, hF, k⟩ => (nomatch hF), fun A outer s H args us vs Q E hr he hb hv ⟨G, fp, os, r, outs, s', ro, one, out, hF, k⟩ => (nomatch hF)⟩
end
end VS
namespace VS
open PySem L2
open PyProof.Rows (envOfC)

/-! ### names of fields -/
def padS (n : Nat) : Str := ⟨Array.replicate (n + 1000) 35⟩
def fnOf (l : List Str) (n : Nat) : Str := match l[n]? with
  | some x => x
  | none => padS n
theorem padS_size (n : Nat) : (padS n).cps.size = n + 1000 := by simp [padS]
theorem fnOf_inj {l : List Str} (nd : l.Nodup) (sm : l.all (fun x => decide (x.cps.size < 1000)) = true) : ∀ n m, fnOf l n = fnOf l m → n = m := fun n m h => by
  have small : ∀ {i : Nat} {x : Str}, l[i]? = some x → x.cps.size < 1000 := fun {i x} e => by simpa using List.all_eq_true.mp sm x (List.mem_of_getElem? e)
  unfold fnOf at h
  cases e1 : l[n]? with
  | some x =>
    cases e2 : l[m]? with
    | some y =>
      rw [e1, e2] at h
      have h' : x = y := h
      subst h'
      obtain ⟨h1, h2⟩ := List.getElem?_eq_some_iff.mp e1
      obtain ⟨h3, h4⟩ := List.getElem?_eq_some_iff.mp e2
      exact (List.getElem_inj nd).mp (h2.trans h4.symm)
    | none =>
      rw [e1, e2] at h
      have h' : x = padS m := h
      have := small e1
      rw [h', padS_size] at this
      omega
  | none =>
    cases e2 : l[m]? with
    | some y =>
      rw [e1, e2] at h
      have h' : padS n = y := h
      have := small e2
      rw [← h', padS_size] at this
      omega
    | none =>
      rw [e1, e2] at h
      have h' : padS n = padS m := h
      have := congrArg (fun x : Str => x.cps.size) h'
      simp only [padS_size] at this
      omega
theorem fnOf_ne {l : List Str} {m : Str} (h : l.contains m = false) (sm : decide (m.cps.size < 1000) = true) : ∀ n, fnOf l n ≠ m := fun n e => by
  unfold fnOf at e
  cases e1 : l[n]? with
  | some x =>
    rw [e1] at e
    have e' : x = m := e
    subst e'
    rw [List.contains_iff_mem.mpr (List.mem_of_getElem? e1)] at h
    cases h
  | none =>
    rw [e1] at e
    have e' : padS n = m := e
    have := of_decide_eq_true sm
    rw [← e', padS_size] at this
    omega

/-! ### the head's look, widened by tests of one's own -/
abbrev AlX : Type := He.AlT × Bool
def obsX (fa : List He.Fa) (fn : List He.DefD) (ts : List He.Tab) (xs : List (PySem.W.Frag → Bool)) (K : PySem.W.Frag) : AlX := (He.obsT fa fn ts K, xs.all fun x => x K)
def SaysX (fa : List He.Fa) (fn : List He.DefD) (ts : List He.Tab) (xs : List (PySem.W.Frag → Bool)) (w : World) (K : PySem.W.Frag) : Prop := obsX fa fn ts xs K = (He.valT fn ts w, true)
def obsXG (n : Nat) (fa : List He.Fa) (fn : List He.DefD) (ts : List He.Tab) (xs : List (PySem.W.Frag → Bool)) (g : Addr → Option Obj) : AlX := obsX fa fn ts xs (He.frG g (He.asD g n))
def hookX (n : Nat) (fa : List He.Fa) (fn : List He.DefD) (ts : List He.Tab) (xs : List (PySem.W.Frag → Bool)) : PySem.W.Hook where
  α := AlX
  obs := fun s => obsXG n fa fn ts xs s.heap.get?
  val := fun w => (He.valT fn ts w, true)
  says := fun w h => ∃ K : PySem.W.Frag, K.In h ∧ SaysX fa fn ts xs w K
  of := fun _ _ e => ⟨_, He.frG_in, e⟩
  keeps := fun _ _ _ ⟨K, hK, c⟩ k => ⟨K, PySem.W.Frag.In.keeps hK k, c⟩
theorem obsXG_eq {n : Nat} {fa : List He.Fa} {fn : List He.DefD} {ts : List He.Tab} {xs : List (PySem.W.Frag → Bool)} {g : Addr → Option Obj} {s : Shared} (h : ∀ a, g a = s.heap.get? a) : obsXG n fa fn ts xs g = (hookX n fa fn ts xs).obs s := by
  have e : g = s.heap.get? := funext h
  rw [e] <;> rfl
section
variable {fa : List He.Fa} {fn : List He.DefD} {ts : List He.Tab} {xs : List (PySem.W.Frag → Bool)} {w : World} {K : PySem.W.Frag}
theorem SaysX.t (c : SaysX fa fn ts xs w K) : He.SaysT fa fn ts w K := congrArg (fun z : AlX => z.1) c
theorem SaysX.x (c : SaysX fa fn ts xs w K) (i : Nat) {f : PySem.W.Frag → Bool} (h : xs[i]? = some f := by rfl) : f K = true :=
  List.all_eq_true.mp (congrArg (fun z : AlX => z.2) c) f (List.mem_of_getElem? h)
end
/-! ### a dict's values: tuples of plain values -/
def dvT : He.Dv → T
  | .non => .non
  | .bl b => .bl b
  | .int i => .int i
  | .str x => .str x
  | _ => .non
def plainDv : He.Dv → Bool
  | .non => true
  | .bl _ => true
  | .int _ => true
  | .str _ => true
  | _ => false
def itB (x : Str) (tb : List (Str × List He.Dv)) (K : PySem.W.Frag) : Bool := tb.all fun q => q.2.all plainDv && (match PySem.W.nsIn K (He.ga K x) q.1 with
  | some (some (.ref a)) => (match K.lookup a with
    | some ⟨.type c, _, .seq its _, _⟩ => decide (c = "tuple") && (decide (its.size ≤ sizeLine) && He.relAll (q.2.map (He.Dv.v K)) its.toList)
    | _ => false)
  | _ => false)
theorem dv_reps {g : Gl0} {G : Hp} {K : PySem.W.Frag} : ∀ {ds : List He.Dv}, ds.all plainDv = true → RepTs g G (ds.map dvT) (ds.map (He.Dv.v K))
  | [], _ => RepTs.nil
  | d :: ds, h => by
    rw [List.all_cons, Bool.and_eq_true] at h
    refine RepTs.cons ?_ (dv_reps h.2)
    cases d <;> first | exact RepT.non | exact RepT.bl | exact RepT.int | exact RepT.str | cases h.1
theorem itB_ok {g : Gl0} {x : Str} {tb : List (Str × List He.Dv)} (h : itB x tb g.K = true) : ∀ z t, (tb.map fun q => (q.1, T.tup (q.2.map dvT))).lookup z = some t → ∃ u v, PySem.W.nsIn g.K (He.ga g.K x) z = some (some u) ∧ RelV v u ∧ ∀ G, RepT g G t v := by
  intro z t e
  induction tb with
  | nil => cases e
  | cons q tb ih =>
    unfold itB at h
    rw [List.all_cons, Bool.and_eq_true] at h
    rw [List.map_cons, List.lookup_cons] at e
    split at e
    · rename_i hz
      cases e
      have hz' : z = q.1 := by simpa using hz
      rw [hz']
      obtain ⟨h0, h1⟩ := Bool.and_eq_true_iff.mp h.1
      split at h1
      · rename_i a ha
        split at h1
        · rename_i c od its n osl hl
          obtain ⟨h2, h3⟩ := Bool.and_eq_true_iff.mp h1
          obtain ⟨h4, h5⟩ := Bool.and_eq_true_iff.mp h3
          refine ⟨.ref a, .ref a, ha, rfl, fun G => ?_⟩
          unfold RepT
          refine ⟨a, _, rfl, .inr ⟨_, its, n, hl, congrArg Value.type (of_decide_eq_true h2), rfl, of_decide_eq_true h4, He.relAll_ok h5⟩, dv_reps h0⟩
        · cases h1
      · cases h1
    · exact ih h.2 e
/-! ### isinstance of an own class -/
def insB (x : Str) (K : PySem.W.Frag) : Bool :=
  He.eqO (PySem.W.findIn K (.ref (He.ga K x)) "__class__") (some (some (.builtin "object.__class__"))) && (He.eqO (PySem.W.specialIn K (.builtin "object.__class__") "__get__") (some (some (.builtin "getset_descriptor.__get__"))) &&
  (decide (PySem.W.takesIn K (.builtin "object.__class__") = some true) && (decide (PySem.W.mroIn K (He.ga K x) (.type "object") = some true) && decide (PySem.W.kitOne K (.ref (He.ga K x)) (.ref (He.ga K x)) = some true))))
theorem insB_ok {x : Str} {K : PySem.W.Frag} (h : insB x K = true) (c : Cls K (He.ga K x)) : C8.InsC K (He.ga K x) := by
  unfold insB at h
  obtain ⟨h1, h⟩ := He.ba h
  obtain ⟨h2, h⟩ := He.ba h
  obtain ⟨h3, h⟩ := He.ba h
  obtain ⟨h4, h5⟩ := He.ba h
  exact ⟨c, He.eqO_ok h1, He.eqO_ok h2, of_decide_eq_true h3, of_decide_eq_true h4, of_decide_eq_true h5⟩
/-! ### binding by one keyword -/
theorem kb1 {K : PySem.W.Frag} {x qual y : Str} {params : Arguments} {body : List Stmt} {scope : Scope} {kws : List (Str × V)} {f : Addr} {fd : FuncData} (F : FunD K x qual params body scope [] kws f fd)
    (h1 : ∀ (kV doc pm : Value) (an : Option Addr) (cdv ct v : Value), bindArgs (PySem.W.fnOf x qual params body scope .none kV doc pm an cdv ct) ⟨[], [(y, v)]⟩ = pure [(y, v)])
    (h2 : ∀ (kV doc pm : Value) (an : Option Addr) (cdv ct v : Value), bindArgs (PySem.W.fnOf x qual params body scope .none kV doc pm an cdv ct) ⟨[v], []⟩ = pure [(y, v)]) : KBinds K fd [y] [y] (fun us ws => us ++ ws) (fun vs zs => vs ++ zs) := by
  obtain ⟨oc, od, dV, kV, doc, pm, an, cdv, ct, osl, rfl, lk, hcd, hD, hK⟩ := F.ex
  rcases hD with ⟨_, rfl⟩ | ⟨e, _⟩
  · refine ⟨fun s us ws X hl => ?_, fun r q => r.append q⟩
    match us, ws, hl with
    | [], [v], _ => exact .of_eq (h1 kV doc pm an cdv ct v)
    | [v], [], _ => exact .of_eq (h2 kV doc pm an cdv ct v)
    | [], [], hl => cases hl
    | [], _ :: _ :: _, hl => simp at hl
    | [_], _ :: _, hl => simp at hl
    | _ :: _ :: _, _, hl => simp at hl
  · exact absurd rfl e
end VS
namespace VS
open PySem L2
theorem spF_law {g : Gl0} {F : FT} {ns : List Int} {a : Addr} {H : Hp} {E : XK} (hF : F [.val (.scr ns)] = some (.val (.bl true), [])) (hS : SqL g.K H a (ns.map V.int)) : spF g [] F [.ref a] H (fun v _ => v = .bl true) E := by
  classical
  let G : Hp := fun b => if b = a then H b else none
  have sG : Sub G H := fun b o h => by
    have h' : (if b = a then H b else none) = some o := h
    by_cases e : b = a
    · rw [if_pos e] at h'; exact h'
    · rw [if_neg e] at h'; cases h'
  have Ga : G a = H a := if_pos rfl
  have hG : SqL g.K G a (ns.map V.int) := by
    rcases hS with (q | ⟨o, q⟩) | q
    · exact .inl (.inl (Ga.trans q))
    · exact .inl (.inr ⟨o, Ga.trans q⟩)
    · exact .inr q
  refine ⟨G, fp0, [.val (.scr ns)], _, _, sG, ?_, fun _ => Nat.zero_le _, fun b h => absurd rfl h, hF, fun G' H' v fr fo s' rr _ _ _ _ => ?_⟩
  · exact RepOs.vals g (ts := [.scr ns]) (RepTs.cons (by unfold RepT; exact ⟨a, rfl, hG⟩) RepTs.nil)
  · unfold RepO at rr
    have := rr.1
    unfold RepT at this
    exact this
end VS
namespace VW
open PySem L2 VS
abbrev prg : Program := PySem.Challenge.pw_cutruns_k23_whole_callings_by_statements
def top (i : Nat) : Stmt := prg.main.body.getD i (.Pass ⟨0, 0, 0, 0⟩)
def tb_KINDS : List (Str × T) := [("skip", .tup [.non, .int 0]), ("touch", .tup [.int 1, .int 0]), ("write", .tup [.int 1, .int 0]), ("mark", .tup [.int 4, .int 0]), ("set", .tup [.int 2, .int 0]), ("claim", .tup [.int 2, .int 0]), ("call", .tup [.int 3, .int 0]), ("hold", .tup [.int 0, .int 1]), ("either", .tup [.non, .int 2]), ("when", .tup [.int 2, .int 2]), ("loop", .tup [.non, .int 1])]
abbrev nCls : Nat := 1
abbrev nFld : Nat := 5
structure Stat (C : VS.Ctx) : Prop where
  b_abs : BltC C "abs" (.builtin "abs")
  b_all : BltC C "all" (.builtin "all")
  b_any : BltC C "any" (.builtin "any")
  b_bool : BltC C "bool" (.type "bool")
  b_divmod : BltC C "divmod" (.builtin "divmod")
  b_enumerate : BltC C "enumerate" (.type "enumerate")
  b_int : BltC C "int" (.type "int")
  b_isinstance : BltC C "isinstance" (.builtin "isinstance")
  b_len : BltC C "len" (.builtin "len")
  b_list : BltC C "list" (.type "list")
  b_max : BltC C "max" (.builtin "max")
  b_range : BltC C "range" (.type "range")
  b_repr : BltC C "repr" (.builtin "repr")
  b_set : BltC C "set" (.type "set")
  b_sorted : BltC C "sorted" (.builtin "sorted")
  b_str : BltC C "str" (.type "str")
  b_sum : BltC C "sum" (.builtin "sum")
  b_tuple : BltC C "tuple" (.type "tuple")
  i_MOST_CELLS : IntC C "MOST_CELLS" 4
  i_MOST_LABEL : IntC C "MOST_LABEL" 9
  i_MOST_LOCKS : IntC C "MOST_LOCKS" 4
  i_MOST_MODES : IntC C "MOST_MODES" 4
  i_MOST_PROCEDURES : IntC C "MOST_PROCEDURES" 6
  i_MOST_STATEMENTS : IntC C "MOST_STATEMENTS" 60
  i_MOST_THREADS : IntC C "MOST_THREADS" 4
  d_KINDS : KDC C "KINDS" tb_KINDS
  c_Program : ICC C "Program" 0
  gok : C.g.Ok nCls nFld
  fld_own_locks : "own_locks" = C.g.fn 0
  fld_own_cells : "own_cells" = C.g.fn 1
  fld_own_modes : "own_modes" = C.g.fn 2
  fld_own_bodies : "own_bodies" = C.g.fn 3
  fld_own_threads : "own_threads" = C.g.fn 4
structure Phi where
  f_calls_within : FT
  f_calls_by_bodies : FT
  f_is_integer : FT
  f_is_count : FT
  f_is_number_to : FT
  f_is_list : FT
  f_is_statement_of : FT
  f_is_body_of : FT
  f_are_bodies : FT
  f_are_threads : FT
  f_bodies_of : FT
  f_body_size : FT
  f_statements_in : FT
  m_Program_init : FT
  f_want_program : FT
  f_calls_of : FT
  f__law_made : FT
  f_want_thread : FT
  f_come_to : FT
  f_reached : FT
  f__law_draw : FT
  f__law_pick : FT
  f__law_statement : FT
  f__law_body : FT
  f__law_calls : FT
  f_is_in_ring : FT
  f_come_to_by_threads : FT
  f_is_recursive : FT
  f__law_longest : FT
  f_longest_row : FT
  f_deepest : FT
  f__law_come : FT
  f__law_right : FT
  f__law_pot : FT
  f_law : FT
  m_Program_bodies : FT
  m_Program_threads : FT
  mk_Program : FT
structure Facts (C : VS.Ctx) (k : Nat) (Φ : Phi) : Prop where
  f__law_body_0 : Def C k "_law_body" [0, 3] [] Φ.f__law_body
  f__law_calls_0 : Def C k "_law_calls" [] [] Φ.f__law_calls
  f__law_come_0 : Def C k "_law_come" [] [] Φ.f__law_come
  f__law_draw_0 : Def C k "_law_draw" [0] [] Φ.f__law_draw
  f__law_longest_0 : Def C k "_law_longest" [] [] Φ.f__law_longest
  f__law_made_0 : Def C k "_law_made" [] [] Φ.f__law_made
  f__law_pick_0 : Def C k "_law_pick" [0] [] Φ.f__law_pick
  f__law_pot_0 : Def C k "_law_pot" [] [] Φ.f__law_pot
  f__law_right_0 : Def C k "_law_right" [0] [] Φ.f__law_right
  f__law_statement_0 : Def C k "_law_statement" [0, 3] [] Φ.f__law_statement
  f_are_bodies_0 : Def C k "are_bodies" [] [] Φ.f_are_bodies
  f_are_threads_0 : Def C k "are_threads" [] [] Φ.f_are_threads
  f_bodies_of_0 : Def C k "bodies_of" [] [] Φ.f_bodies_of
  f_body_size_0 : Def C k "body_size" [] [] Φ.f_body_size
  f_calls_by_bodies_0 : Def C k "calls_by_bodies" [] [] Φ.f_calls_by_bodies
  f_calls_of_0 : Def C k "calls_of" [] [] Φ.f_calls_of
  f_calls_within_0 : Def C k "calls_within" [] [] Φ.f_calls_within
  f_come_to_0 : Def C k "come_to" [] [] Φ.f_come_to
  f_come_to_by_threads_0 : Def C k "come_to_by_threads" [] [] Φ.f_come_to_by_threads
  f_deepest_0 : Def C k "deepest" [] [] Φ.f_deepest
  f_is_body_of_0 : Def C k "is_body_of" [] [] Φ.f_is_body_of
  f_is_body_of_1 : Def C k "is_body_of" [] [(.int 6)] Φ.f_is_body_of
  f_is_count_0 : Def C k "is_count" [] [] Φ.f_is_count
  f_is_in_ring_0 : Def C k "is_in_ring" [] [] Φ.f_is_in_ring
  f_is_integer_0 : Def C k "is_integer" [] [] Φ.f_is_integer
  f_is_list_0 : Def C k "is_list" [] [] Φ.f_is_list
  f_is_number_to_0 : Def C k "is_number_to" [] [] Φ.f_is_number_to
  f_is_recursive_0 : Def C k "is_recursive" [] [] Φ.f_is_recursive
  f_is_statement_of_0 : Def C k "is_statement_of" [] [] Φ.f_is_statement_of
  f_longest_row_0 : Def C k "longest_row" [] [] Φ.f_longest_row
  f_reached_0 : Def C k "reached" [] [] Φ.f_reached
  f_statements_in_0 : Def C k "statements_in" [] [] Φ.f_statements_in
  f_want_program_0 : Def C k "want_program" [] [] Φ.f_want_program
  f_want_thread_0 : Def C k "want_thread" [] [] Φ.f_want_thread
  k_calls_of_program : DefK C k "calls_of" "program" Φ.f_calls_of
  m_Program_bodies : DefM C k 0 "bodies" [] [] Φ.m_Program_bodies
  m_Program_threads : DefM C k 0 "threads" [] [] Φ.m_Program_threads
  mk_Program : DefC C k "Program" 0 [] Φ.mk_Program
  up_Program : DefC C (k + 1) "Program" 0 [] Φ.m_Program_init
def N_f_calls_within : List Str := ["body", "found", "statement"]
def sc_f_calls_within : Scope := defScope (top 38)
noncomputable def d_f_calls_within (Φ : Phi) : DS :=
 (sSeq (sSet 1 (eOfN (nLst nsNil)))
 (sSeq (sFor (iOfJ (jSeq (vOfP (pVar 0)))) (bName 2)
 (sIf (beOfB (bCmp .Eq (qOfP (pIdx (pVar 2) (vC (.int 0)))) (vC (.str "call"))))
 (sDrop (eAppend (pVar 1) (nOfV (vOfP (pIdx (pVar 2) (vC (.int 1)))))))
 (sIf (beOfB (bCmp .In (qOfP (pIdx (pVar 2) (vC (.int 0)))) (vTup (asCons (vC (.str "hold")) (asCons (vC (.str "loop")) asNil)))))
 (sDrop (eExtend (pVar 1) (vOfN (nCallU Φ.f_calls_within [] (asCons (vOfP (pIdx (pVar 2) (vNeg (vC (.int 1))))) asNil)))))
 (sIf (beOfB (bCmp .In (qOfP (pIdx (pVar 2) (vC (.int 0)))) (vTup (asCons (vC (.str "either")) (asCons (vC (.str "when")) asNil)))))
 (sDrop (eExtend (pVar 1) (vBin .Add (vOfN (nCallU Φ.f_calls_within [] (asCons (vOfP (pIdx (pVar 2) (vNeg (vC (.int 2))))) asNil))) (vOfN (nCallU Φ.f_calls_within [] (asCons (vOfP (pIdx (pVar 2) (vNeg (vC (.int 1))))) asNil))))))
 sNil))))
 (sRet (eOfN (nCallB ssetF (asCons (qOfP (pVar 1)) asNil))))))
theorem w_f_calls_within {C : VS.Ctx} {k : Nat} {Φ : Phi} (St : Stat C) (Fs : Facts C k Φ) {X : Cx} (h : XOk C k X N_f_calls_within sc_f_calls_within N_f_calls_within) : PSs X (defBody (top 38)) (rdS C.g [] (d_f_calls_within Φ)) := by
  have v0 : ∀ {p : Pos}, PE X (.Name "body" p) (tVar 0) := h.tv (by decide +kernel)
  have v1 : ∀ {p : Pos}, PE X (.Name "found" p) (tVar 1) := h.tv (by decide +kernel)
  have v2 : ∀ {p : Pos}, PE X (.Name "statement" p) (tVar 2) := h.tv (by decide +kernel)
  exact (qsCons (qSet h.ndX (h.tgA (i := 1) (x := "found") (by decide +kernel)).1 (h.tgA (i := 1) (x := "found") (by decide +kernel)).2.1 (pe_n (pn_lst pan_nil)) rfl (h.tgA (i := 1) (x := "found") (by decide +kernel)).2.2 rfl)
 (qsCons (qFor h.pass h.calm (pi_j (pj_seq h.eK (pv_p (pp_var v0)))) (h.tq (i := 2) (by decide +kernel))
 (qsOne (qIf (pbe_b (pt_cmpv h.eK h.units (pq_p (pp_ix h.eK (pp_var v2) kI (fun _ _ => rfl))) (pq_v kS) rfl))
 (qsOne (qDrop (mAppend (pp_var v1) (pn_v (pv_p (pp_ix h.eK (pp_var v2) kI (fun _ _ => rfl)))) rfl rfl rfl rfl)))
 (qsOne (qIf (pbe_b (pt_cmpv h.eK h.units (pq_p (pp_ix h.eK (pp_var v2) kI (fun _ _ => rfl))) (pq_v (pv_tup (pav_cons kS (pav_cons kS pav_nil (star_cons rfl)) (star_cons rfl)))) rfl))
 (qsOne (qDrop (mExtend (pp_var v1) (pv_n (pn_callU (h.gl (by decide +kernel)) (h.cal Fs.f_calls_within_0) (pav_cons (pv_p (pp_ix h.eK (pp_var v2) (pv_neg kI) (fun _ _ => rfl))) pav_nil (star_cons rfl)) rfl Fs.f_calls_within_0.nd)) rfl rfl rfl rfl)))
 (qsOne (qIf (pbe_b (pt_cmpv h.eK h.units (pq_p (pp_ix h.eK (pp_var v2) kI (fun _ _ => rfl))) (pq_v (pv_tup (pav_cons kS (pav_cons kS pav_nil (star_cons rfl)) (star_cons rfl)))) rfl))
 (qsOne (qDrop (mExtend (pp_var v1) (pv_bin h.eK (pv_n (pn_callU (h.gl (by decide +kernel)) (h.cal Fs.f_calls_within_0) (pav_cons (pv_p (pp_ix h.eK (pp_var v2) (pv_neg kI) (fun _ _ => rfl))) pav_nil (star_cons rfl)) rfl Fs.f_calls_within_0.nd)) (pv_n (pn_callU (h.gl (by decide +kernel)) (h.cal Fs.f_calls_within_0) (pav_cons (pv_p (pp_ix h.eK (pp_var v2) (pv_neg kI) (fun _ _ => rfl))) pav_nil (star_cons rfl)) rfl Fs.f_calls_within_0.nd))) rfl rfl rfl rfl)))
 qsNil)))))) rfl)
 (qsOne (qRet (pe_n (pn_sset h.calm (h.blt St.b_sorted (by decide +kernel)) (h.blt St.b_set (by decide +kernel)) (paq_cons (pq_p (pp_var v1)) paq_nil (star_cons rfl)) rfl))))))
def N_f_calls_by_bodies : List Str := ["program", "body"]
def sc_f_calls_by_bodies : Scope := defScope (top 39)
noncomputable def d_f_calls_by_bodies (Φ : Phi) : DS :=
 (sRet (eOfN (nComp (jSeq (vOfN (nCallM 0 Φ.m_Program_bodies [] (vOfP (pVar 0)) asNil))) [1] (bName 1) bTrue (nCallU Φ.f_calls_within [] (asCons (vOfP (pVar 1)) asNil)))))
theorem w_f_calls_by_bodies {C : VS.Ctx} {k : Nat} {Φ : Phi} (St : Stat C) (Fs : Facts C k Φ) {X : Cx} (h : XOk C k X N_f_calls_by_bodies sc_f_calls_by_bodies N_f_calls_by_bodies) : PSs X (defBody (top 39)) (rdS C.g [] (d_f_calls_by_bodies Φ)) := by
  have v0 : ∀ {p : Pos}, PE X (.Name "program" p) (tVar 0) := h.tv (by decide +kernel)
  exact (qsOne (qRet (pe_n (pn_lc (own := [("body", 1)]) h.calm h.ndX (pj_seq h.eK (pv_n (pn_callM0 (h.calM Fs.m_Program_bodies) (pv_p (pp_var v0)) rfl))) (h.bk (by decide +kernel)) (fun s_ H_ C_ cl_ fp_ => have h1 := h.blk s_ H_ C_ cl_ fp_; (h1.tq (i := 1) (by decide +kernel))) (fun _ _ _ _ _ => ptsT) (fun s_ H_ C_ cl_ fp_ => have h1 := h.blk s_ H_ C_ cl_ fp_; (pn_callU (h1.gl (by decide +kernel)) (h1.cal Fs.f_calls_within_0) (pav_cons (pv_p (pp_var (h1.tv (i := 1) (by decide +kernel)))) pav_nil (star_cons rfl)) rfl Fs.f_calls_within_0.nd)) rfl))))
def N_f_is_integer : List Str := ["value"]
def sc_f_is_integer : Scope := defScope (top 12)
noncomputable def d_f_is_integer (Φ : Phi) : DS :=
 (sRet (eOfN (nOfV (vOfB (bAnd (bIsi (qOfP (pVar 0)) [.intT]) (bNot (bIsi (qOfP (pVar 0)) [.boolT])))))))
theorem w_f_is_integer {C : VS.Ctx} {k : Nat} {Φ : Phi} (St : Stat C) (Fs : Facts C k Φ) {X : Cx} (h : XOk C k X N_f_is_integer sc_f_is_integer N_f_is_integer) : PSs X (defBody (top 12)) (rdS C.g [] (d_f_is_integer Φ)) := by
  have v0 : ∀ {p : Pos}, PE X (.Name "value" p) (tVar 0) := h.tv (by decide +kernel)
  exact (qsOne (qRet (pe_n (pn_v (pvb_and (pv_isi (b := .intT) h.eK (h.blt St.b_isinstance (by decide +kernel)) (h.blt St.b_int (by decide +kernel)) (pq_p (pp_var v0)) rfl) (pvb_one (pvb_not (pv_isi (b := .boolT) h.eK (h.blt St.b_isinstance (by decide +kernel)) (h.blt St.b_bool (by decide +kernel)) (pq_p (pp_var v0)) rfl))))))))
def N_f_is_count : List Str := ["value"]
def sc_f_is_count : Scope := defScope (top 13)
noncomputable def d_f_is_count (Φ : Phi) : DS :=
 (sRet (eOfN (nOfV (vOfB (bAnd (bOfV (vOfN (nCallU Φ.f_is_integer [] (asCons (vOfP (pVar 0)) asNil)))) (bCmp .GtE (qOfP (pVar 0)) (vC (.int 0))))))))
theorem w_f_is_count {C : VS.Ctx} {k : Nat} {Φ : Phi} (St : Stat C) (Fs : Facts C k Φ) {X : Cx} (h : XOk C k X N_f_is_count sc_f_is_count N_f_is_count) : PSs X (defBody (top 13)) (rdS C.g [] (d_f_is_count Φ)) := by
  have v0 : ∀ {p : Pos}, PE X (.Name "value" p) (tVar 0) := h.tv (by decide +kernel)
  exact (qsOne (qRet (pe_n (pn_v (pvb_and (pvb_v (pv_n (pn_callU (h.gl (by decide +kernel)) (h.cal Fs.f_is_integer_0) (pav_cons (pv_p (pp_var v0)) pav_nil (star_cons rfl)) rfl Fs.f_is_integer_0.nd))) (pvb_one (pv_cmpv h.eK h.units (pq_p (pp_var v0)) (pq_v kI) rfl)))))))
def N_f_is_number_to : List Str := ["value", "least", "most"]
def sc_f_is_number_to : Scope := defScope (top 30)
noncomputable def d_f_is_number_to (Φ : Phi) : DS :=
 (sRet (eOfN (nOfV (vOfB (bAnd (bOfV (vOfN (nCallU Φ.f_is_count [] (asCons (vOfP (pVar 0)) asNil)))) (bChain .LtE .LtE (qOfP (pVar 1)) (qOfP (pVar 0)) (qOfP (pVar 2))))))))
theorem w_f_is_number_to {C : VS.Ctx} {k : Nat} {Φ : Phi} (St : Stat C) (Fs : Facts C k Φ) {X : Cx} (h : XOk C k X N_f_is_number_to sc_f_is_number_to N_f_is_number_to) : PSs X (defBody (top 30)) (rdS C.g [] (d_f_is_number_to Φ)) := by
  have v0 : ∀ {p : Pos}, PE X (.Name "value" p) (tVar 0) := h.tv (by decide +kernel)
  have v1 : ∀ {p : Pos}, PE X (.Name "least" p) (tVar 1) := h.tv (by decide +kernel)
  have v2 : ∀ {p : Pos}, PE X (.Name "most" p) (tVar 2) := h.tv (by decide +kernel)
  exact (qsOne (qRet (pe_n (pn_v (pvb_and (pvb_v (pv_n (pn_callU (h.gl (by decide +kernel)) (h.cal Fs.f_is_count_0) (pav_cons (pv_p (pp_var v0)) pav_nil (star_cons rfl)) rfl Fs.f_is_count_0.nd))) (pvb_one (pv_chainv h.eK h.units (pq_p (pp_var v1)) (pq_p (pp_var v0)) (pq_p (pp_var v2)) rfl)))))))
def N_f_is_list : List Str := ["value"]
def sc_f_is_list : Scope := defScope (top 14)
noncomputable def d_f_is_list (Φ : Phi) : DS :=
 (sRet (eOfN (nOfV (vOfB (bIsi (qOfP (pVar 0)) [.lstT, .tupT])))))
theorem w_f_is_list {C : VS.Ctx} {k : Nat} {Φ : Phi} (St : Stat C) (Fs : Facts C k Φ) {X : Cx} (h : XOk C k X N_f_is_list sc_f_is_list N_f_is_list) : PSs X (defBody (top 14)) (rdS C.g [] (d_f_is_list Φ)) := by
  have v0 : ∀ {p : Pos}, PE X (.Name "value" p) (tVar 0) := h.tv (by decide +kernel)
  exact (qsOne (qRet (pe_n (pn_v (pv_isi2 (b := .lstT) (c := .tupT) h.eK (h.blt St.b_isinstance (by decide +kernel)) (h.blt St.b_list (by decide +kernel)) (h.blt St.b_tuple (by decide +kernel)) (pq_p (pp_var v0)) rfl)))))
def N_f_is_statement_of : List Str := ["shape", "value", "deep", "bound", "many", "first", "bounds", "body"]
def sc_f_is_statement_of : Scope := defScope (top 19)
noncomputable def d_f_is_statement_of (Φ : Phi) : DS :=
 (sSeq (sIf (beOfB (bOr (bCmp .Eq (qOfP (pVar 2)) (vC (.int 0))) (bOr (bNot (bIsi (qOfP (pVar 1)) [.tupT])) (bOr (bCmp .Eq (vOfN (nCallB lenF (asCons (qOfP (pVar 1)) asNil))) (vC (.int 0))) (bNot (bIsi (qOfP (pIdx (pVar 1) (vC (.int 0)))) [.strT]))))))
 (sRet (eOfN (nOfV (vC (.bl false)))))
 sNil)
 (sSeq (sIf (beOfB (bInK tb_KINDS true (vOfP (pIdx (pVar 1) (vC (.int 0))))))
 (sRet (eOfN (nOfV (vC (.bl false)))))
 sNil)
 (sSeq (sAsg (eOfV (vItK tb_KINDS (vOfP (pIdx (pVar 1) (vC (.int 0)))))) (bTup 2 (btCons (bName 3) (btCons (bName 4) btNil))))
 (sSeq (sSet 5 (eOfV (vIf (bCmp .Is (qOfP (pVar 3)) (vC .non)) (vC (.int 1)) (vC (.int 2)))))
 (sSeq (sIf (beOfB (bCmp .NotEq (vOfN (nCallB lenF (asCons (qOfP (pVar 1)) asNil))) (vBin .Add (vOfP (pVar 5)) (vOfP (pVar 4)))))
 (sRet (eOfN (nOfV (vC (.bl false)))))
 sNil)
 (sSeq (sSet 6 (eOfV (vBin .Add (vOfP (pVar 0)) (vTup (asCons (vBin .Add (vC (.int 9)) (vC (.int 1))) asNil)))))
 (sSeq (sIf (beOfB (bAnd (bCmp .IsNot (qOfP (pVar 3)) (vC .non)) (bOr (bNot (bOfV (vOfN (nCallU Φ.f_is_count [] (asCons (vOfP (pIdx (pVar 1) (vC (.int 1)))) asNil))))) (bCmp .GtE (qOfP (pIdx (pVar 1) (vC (.int 1)))) (qOfP (pIdx (pVar 6) (vOfP (pVar 3))))))))
 (sRet (eOfN (nOfV (vC (.bl false)))))
 sNil)
 (sRet (eOfN (nCallB allF (asCons (vOfN (nComp (jSeq (vCut (vOfP (pVar 1)) (oSome (vOfP (pVar 5))) oNone)) [7] (bName 7) bTrue (nCallU Φ.f_is_body_of [] (asCons (vOfP (pVar 0)) (asCons (vOfP (pVar 7)) (asCons (vBin .Sub (vOfP (pVar 2)) (vC (.int 1))) asNil)))))) asNil)))))))))))
theorem w_f_is_statement_of {C : VS.Ctx} {k : Nat} {Φ : Phi} (St : Stat C) (Fs : Facts C k Φ) {X : Cx} (h : XOk C k X N_f_is_statement_of sc_f_is_statement_of N_f_is_statement_of) : PSs X (defBody (top 19)) (rdS C.g [] (d_f_is_statement_of Φ)) := by
  have v0 : ∀ {p : Pos}, PE X (.Name "shape" p) (tVar 0) := h.tv (by decide +kernel)
  have v1 : ∀ {p : Pos}, PE X (.Name "value" p) (tVar 1) := h.tv (by decide +kernel)
  have v2 : ∀ {p : Pos}, PE X (.Name "deep" p) (tVar 2) := h.tv (by decide +kernel)
  have v3 : ∀ {p : Pos}, PE X (.Name "bound" p) (tVar 3) := h.tv (by decide +kernel)
  have v4 : ∀ {p : Pos}, PE X (.Name "many" p) (tVar 4) := h.tv (by decide +kernel)
  have v5 : ∀ {p : Pos}, PE X (.Name "first" p) (tVar 5) := h.tv (by decide +kernel)
  have v6 : ∀ {p : Pos}, PE X (.Name "bounds" p) (tVar 6) := h.tv (by decide +kernel)
  exact (qsCons (qIf (pbe_b (pwb_or (pt_cmpv h.eK h.units (pq_p (pp_var v2)) (pq_v kI) rfl) (pwb_or (ptb_not (ptb_of (pv_isi (b := .tupT) h.eK (h.blt St.b_isinstance (by decide +kernel)) (h.blt St.b_tuple (by decide +kernel)) (pq_p (pp_var v1)) rfl) (fun _ => rfl))) (pwb_or (pt_cmpv h.eK h.units (pq_v (pv_n (pn_callBQ rfl (h.blt St.b_len (by decide +kernel)) (bq_len h.eK) (paq_cons (pq_p (pp_var v1)) paq_nil (star_cons rfl)) rfl))) (pq_v kI) rfl) (pwb_one (ptb_not (ptb_of (pv_isi (b := .strT) h.eK (h.blt St.b_isinstance (by decide +kernel)) (h.blt St.b_str (by decide +kernel)) (pq_p (pp_ix h.eK (pp_var v1) kI (fun _ _ => rfl))) rfl) (fun _ => rfl))))))).pt)
 (qsOne (qRet (pe_n (pn_v kB))))
 qsNil)
 (qsCons (qIf (pbe_b (ptb_notInK (h.kd St.d_KINDS) (h.gl (by decide +kernel)) (pv_p (pp_ix h.eK (pp_var v1) kI (fun _ _ => rfl)))))
 (qsOne (qRet (pe_n (pn_v kB))))
 qsNil)
 (qsCons (qAsg (pe_v (pv_itK (h.kd St.d_KINDS) (h.gl (by decide +kernel)) (pv_p (pp_ix h.eK (pp_var v1) kI (fun _ _ => rfl))) (fun _ _ => rfl))) (pgTup h.eK h.calm (pgsCons (h.tg (i := 3) (by decide +kernel)) (pgsCons (h.tg (i := 4) (by decide +kernel)) pgsNil rfl) rfl) rfl rfl) rfl rfl rfl rfl)
 (qsCons (qSet h.ndX (h.tgA (i := 5) (x := "first") (by decide +kernel)).1 (h.tgA (i := 5) (x := "first") (by decide +kernel)).2.1 (pe_v (pv_if (pt_cmpv h.eK h.units (pq_p (pp_var v3)) (pq_v kN) rfl) kI kI)) rfl (h.tgA (i := 5) (x := "first") (by decide +kernel)).2.2 rfl)
 (qsCons (qIf (pbe_b (pt_cmpv h.eK h.units (pq_v (pv_n (pn_callBQ rfl (h.blt St.b_len (by decide +kernel)) (bq_len h.eK) (paq_cons (pq_p (pp_var v1)) paq_nil (star_cons rfl)) rfl))) (pq_v (pv_bin h.eK (pv_p (pp_var v5)) (pv_p (pp_var v4)))) rfl))
 (qsOne (qRet (pe_n (pn_v kB))))
 qsNil)
 (qsCons (qSet h.ndX (h.tgA (i := 6) (x := "bounds") (by decide +kernel)).1 (h.tgA (i := 6) (x := "bounds") (by decide +kernel)).2.1 (pe_v (pv_bin h.eK (pv_p (pp_var v0)) (pv_tup (pav_cons (pv_bin h.eK (h.ci St.i_MOST_LABEL (by decide +kernel)) kI) pav_nil (star_cons rfl))))) rfl (h.tgA (i := 6) (x := "bounds") (by decide +kernel)).2.2 rfl)
 (qsCons (qIf (pbe_b (pwb_and (pt_cmpv h.eK h.units (pq_p (pp_var v3)) (pq_v kN) rfl) (pwb_one (pwb_or (ptb_not (ptb_v (pv_n (pn_callU (h.gl (by decide +kernel)) (h.cal Fs.f_is_count_0) (pav_cons (pv_p (pp_ix h.eK (pp_var v1) kI (fun _ _ => rfl))) pav_nil (star_cons rfl)) rfl Fs.f_is_count_0.nd)) (fun _ => rfl))) (pwb_one (pt_cmpv h.eK h.units (pq_p (pp_ix h.eK (pp_var v1) kI (fun _ _ => rfl))) (pq_p (pp_ix h.eK (pp_var v6) (pv_p (pp_var v3)) (fun _ _ => rfl))) rfl))).pt)).pt)
 (qsOne (qRet (pe_n (pn_v kB))))
 qsNil)
 (qsOne (qRet (pe_n (pn_callBQ rfl (h.blt St.b_all (by decide +kernel)) (bq_all h.calm) (paq_cons (pq_v (pv_n (pn_lc (own := [("body", 7)]) h.calm h.ndX (pj_seq h.eK (pv_cut h.eK (pv_p (pp_var v1)) (poS (pv_p (pp_var v5))) poN)) (h.bk (by decide +kernel)) (fun s_ H_ C_ cl_ fp_ => have h1 := h.blk s_ H_ C_ cl_ fp_; (h1.tq (i := 7) (by decide +kernel))) (fun _ _ _ _ _ => ptsT) (fun s_ H_ C_ cl_ fp_ => have h1 := h.blk s_ H_ C_ cl_ fp_; (pn_callU (h1.gl (by decide +kernel)) (h1.cal Fs.f_is_body_of_0) (pav_cons (pv_p (pp_var (h1.tv (i := 0) (by decide +kernel)))) (pav_cons (pv_p (pp_var (h1.tv (i := 7) (by decide +kernel)))) (pav_cons (pv_bin h1.eK (pv_p (pp_var (h1.tv (i := 2) (by decide +kernel)))) kI) pav_nil (star_cons rfl)) (star_cons rfl)) (star_cons rfl)) rfl Fs.f_is_body_of_0.nd)) rfl))) paq_nil (star_cons rfl)) rfl)))))))))))
def N_f_is_body_of : List Str := ["shape", "value", "deep", "one"]
def sc_f_is_body_of : Scope := defScope (top 20)
noncomputable def d_f_is_body_of (Φ : Phi) : DS :=
 (sRet (eOfN (nOfV (vOfB (bAnd (bIsi (qOfP (pVar 1)) [.tupT]) (bOfV (vOfN (nCallB allF (asCons (vOfN (nComp (jSeq (vOfP (pVar 1))) [3] (bName 3) bTrue (nCallU Φ.f_is_statement_of [] (asCons (vOfP (pVar 0)) (asCons (vOfP (pVar 3)) (asCons (vOfP (pVar 2)) asNil)))))) asNil)))))))))
theorem w_f_is_body_of {C : VS.Ctx} {k : Nat} {Φ : Phi} (St : Stat C) (Fs : Facts C k Φ) {X : Cx} (h : XOk C k X N_f_is_body_of sc_f_is_body_of N_f_is_body_of) : PSs X (defBody (top 20)) (rdS C.g [] (d_f_is_body_of Φ)) := by
  have v1 : ∀ {p : Pos}, PE X (.Name "value" p) (tVar 1) := h.tv (by decide +kernel)
  exact (qsOne (qRet (pe_n (pn_v (pvb_and (pv_isi (b := .tupT) h.eK (h.blt St.b_isinstance (by decide +kernel)) (h.blt St.b_tuple (by decide +kernel)) (pq_p (pp_var v1)) rfl) (pvb_one (pvb_v (pv_n (pn_callBQ rfl (h.blt St.b_all (by decide +kernel)) (bq_all h.calm) (paq_cons (pq_v (pv_n (pn_lc (own := [("one", 3)]) h.calm h.ndX (pj_seq h.eK (pv_p (pp_var v1))) (h.bk (by decide +kernel)) (fun s_ H_ C_ cl_ fp_ => have h1 := h.blk s_ H_ C_ cl_ fp_; (h1.tq (i := 3) (by decide +kernel))) (fun _ _ _ _ _ => ptsT) (fun s_ H_ C_ cl_ fp_ => have h1 := h.blk s_ H_ C_ cl_ fp_; (pn_callU (h1.gl (by decide +kernel)) (h1.cal Fs.f_is_statement_of_0) (pav_cons (pv_p (pp_var (h1.tv (i := 0) (by decide +kernel)))) (pav_cons (pv_p (pp_var (h1.tv (i := 3) (by decide +kernel)))) (pav_cons (pv_p (pp_var (h1.tv (i := 2) (by decide +kernel)))) pav_nil (star_cons rfl)) (star_cons rfl)) (star_cons rfl)) rfl Fs.f_is_statement_of_0.nd)) rfl))) paq_nil (star_cons rfl)) rfl)))))))))
def N_f_are_bodies : List Str := ["locks", "cells", "modes", "value", "shape", "body"]
def sc_f_are_bodies : Scope := defScope (top 31)
noncomputable def d_f_are_bodies (Φ : Phi) : DS :=
 (sSeq (sIf (beOfB (bOr (bNot (bOfV (vOfN (nCallU Φ.f_is_list [] (asCons (vOfP (pVar 3)) asNil))))) (bNot (bChain .LtE .LtE (vC (.int 1)) (vOfN (nCallB lenF (asCons (qOfP (pVar 3)) asNil))) (vC (.int 6))))))
 (sRet (eOfN (nOfV (vC (.bl false)))))
 sNil)
 (sSeq (sSet 4 (eOfV (vTup (asCons (vOfP (pVar 0)) (asCons (vOfP (pVar 1)) (asCons (vOfP (pVar 2)) (asCons (vOfN (nCallB lenF (asCons (qOfP (pVar 3)) asNil))) asNil)))))))
 (sRet (eOfN (nCallB allF (asCons (vOfN (nComp (jSeq (vOfP (pVar 3))) [5] (bName 5) bTrue (nCallU Φ.f_is_body_of [(.int 6)] (asCons (vOfP (pVar 4)) (asCons (vOfP (pVar 5)) asNil))))) asNil))))))
theorem w_f_are_bodies {C : VS.Ctx} {k : Nat} {Φ : Phi} (St : Stat C) (Fs : Facts C k Φ) {X : Cx} (h : XOk C k X N_f_are_bodies sc_f_are_bodies N_f_are_bodies) : PSs X (defBody (top 31)) (rdS C.g [] (d_f_are_bodies Φ)) := by
  have v0 : ∀ {p : Pos}, PE X (.Name "locks" p) (tVar 0) := h.tv (by decide +kernel)
  have v1 : ∀ {p : Pos}, PE X (.Name "cells" p) (tVar 1) := h.tv (by decide +kernel)
  have v2 : ∀ {p : Pos}, PE X (.Name "modes" p) (tVar 2) := h.tv (by decide +kernel)
  have v3 : ∀ {p : Pos}, PE X (.Name "value" p) (tVar 3) := h.tv (by decide +kernel)
  exact (qsCons (qIf (pbe_b (pwb_or (ptb_not (ptb_v (pv_n (pn_callU (h.gl (by decide +kernel)) (h.cal Fs.f_is_list_0) (pav_cons (pv_p (pp_var v3)) pav_nil (star_cons rfl)) rfl Fs.f_is_list_0.nd)) (fun _ => rfl))) (pwb_one (ptb_not (pt_chainv h.eK h.units (pq_v kI) (pq_v (pv_n (pn_callBQ rfl (h.blt St.b_len (by decide +kernel)) (bq_len h.eK) (paq_cons (pq_p (pp_var v3)) paq_nil (star_cons rfl)) rfl))) (pq_v (h.ci St.i_MOST_PROCEDURES (by decide +kernel))) rfl)))).pt)
 (qsOne (qRet (pe_n (pn_v kB))))
 qsNil)
 (qsCons (qSet h.ndX (h.tgA (i := 4) (x := "shape") (by decide +kernel)).1 (h.tgA (i := 4) (x := "shape") (by decide +kernel)).2.1 (pe_v (pv_tup (pav_cons (pv_p (pp_var v0)) (pav_cons (pv_p (pp_var v1)) (pav_cons (pv_p (pp_var v2)) (pav_cons (pv_n (pn_callBQ rfl (h.blt St.b_len (by decide +kernel)) (bq_len h.eK) (paq_cons (pq_p (pp_var v3)) paq_nil (star_cons rfl)) rfl)) pav_nil (star_cons rfl)) (star_cons rfl)) (star_cons rfl)) (star_cons rfl)))) rfl (h.tgA (i := 4) (x := "shape") (by decide +kernel)).2.2 rfl)
 (qsOne (qRet (pe_n (pn_callBQ rfl (h.blt St.b_all (by decide +kernel)) (bq_all h.calm) (paq_cons (pq_v (pv_n (pn_lc (own := [("body", 5)]) h.calm h.ndX (pj_seq h.eK (pv_p (pp_var v3))) (h.bk (by decide +kernel)) (fun s_ H_ C_ cl_ fp_ => have h1 := h.blk s_ H_ C_ cl_ fp_; (h1.tq (i := 5) (by decide +kernel))) (fun _ _ _ _ _ => ptsT) (fun s_ H_ C_ cl_ fp_ => have h1 := h.blk s_ H_ C_ cl_ fp_; (pn_callU (h1.gl (by decide +kernel)) (h1.cal Fs.f_is_body_of_1) (pav_cons (pv_p (pp_var (h1.tv (i := 4) (by decide +kernel)))) (pav_cons (pv_p (pp_var (h1.tv (i := 5) (by decide +kernel)))) pav_nil (star_cons rfl)) (star_cons rfl)) rfl Fs.f_is_body_of_1.nd)) rfl))) paq_nil (star_cons rfl)) rfl))))))
def N_f_are_threads : List Str := ["value", "procedures", "one"]
def sc_f_are_threads : Scope := defScope (top 32)
noncomputable def d_f_are_threads (Φ : Phi) : DS :=
 (sSeq (sIf (beOfB (bOr (bNot (bOfV (vOfN (nCallU Φ.f_is_list [] (asCons (vOfP (pVar 0)) asNil))))) (bNot (bChain .LtE .LtE (vC (.int 1)) (vOfN (nCallB lenF (asCons (qOfP (pVar 0)) asNil))) (vC (.int 4))))))
 (sRet (eOfN (nOfV (vC (.bl false)))))
 sNil)
 (sRet (eOfN (nCallB allF (asCons (vOfN (nComp (jSeq (vOfP (pVar 0))) [2] (bName 2) bTrue (nCallU Φ.f_is_number_to [] (asCons (vOfP (pVar 2)) (asCons (vC (.int 0)) (asCons (vBin .Sub (vOfP (pVar 1)) (vC (.int 1))) asNil)))))) asNil)))))
theorem w_f_are_threads {C : VS.Ctx} {k : Nat} {Φ : Phi} (St : Stat C) (Fs : Facts C k Φ) {X : Cx} (h : XOk C k X N_f_are_threads sc_f_are_threads N_f_are_threads) : PSs X (defBody (top 32)) (rdS C.g [] (d_f_are_threads Φ)) := by
  have v0 : ∀ {p : Pos}, PE X (.Name "value" p) (tVar 0) := h.tv (by decide +kernel)
  exact (qsCons (qIf (pbe_b (pwb_or (ptb_not (ptb_v (pv_n (pn_callU (h.gl (by decide +kernel)) (h.cal Fs.f_is_list_0) (pav_cons (pv_p (pp_var v0)) pav_nil (star_cons rfl)) rfl Fs.f_is_list_0.nd)) (fun _ => rfl))) (pwb_one (ptb_not (pt_chainv h.eK h.units (pq_v kI) (pq_v (pv_n (pn_callBQ rfl (h.blt St.b_len (by decide +kernel)) (bq_len h.eK) (paq_cons (pq_p (pp_var v0)) paq_nil (star_cons rfl)) rfl))) (pq_v (h.ci St.i_MOST_THREADS (by decide +kernel))) rfl)))).pt)
 (qsOne (qRet (pe_n (pn_v kB))))
 qsNil)
 (qsOne (qRet (pe_n (pn_callBQ rfl (h.blt St.b_all (by decide +kernel)) (bq_all h.calm) (paq_cons (pq_v (pv_n (pn_lc (own := [("one", 2)]) h.calm h.ndX (pj_seq h.eK (pv_p (pp_var v0))) (h.bk (by decide +kernel)) (fun s_ H_ C_ cl_ fp_ => have h1 := h.blk s_ H_ C_ cl_ fp_; (h1.tq (i := 2) (by decide +kernel))) (fun _ _ _ _ _ => ptsT) (fun s_ H_ C_ cl_ fp_ => have h1 := h.blk s_ H_ C_ cl_ fp_; (pn_callU (h1.gl (by decide +kernel)) (h1.cal Fs.f_is_number_to_0) (pav_cons (pv_p (pp_var (h1.tv (i := 2) (by decide +kernel)))) (pav_cons kI (pav_cons (pv_bin h1.eK (pv_p (pp_var (h1.tv (i := 1) (by decide +kernel)))) kI) pav_nil (star_cons rfl)) (star_cons rfl)) (star_cons rfl)) rfl Fs.f_is_number_to_0.nd)) rfl))) paq_nil (star_cons rfl)) rfl)))))
def N_f_bodies_of : List Str := ["statement", "many"]
def sc_f_bodies_of : Scope := defScope (top 21)
noncomputable def d_f_bodies_of (Φ : Phi) : DS :=
 (sSeq (sSet 1 (eOfV (vIdx (vItK tb_KINDS (vOfP (pIdx (pVar 0) (vC (.int 0))))) (vC (.int 1)))))
 (sRet (eOfN (nOfV (vCut (vOfP (pVar 0)) (oSome (vBin .Sub (vOfN (nCallB lenF (asCons (qOfP (pVar 0)) asNil))) (vOfP (pVar 1)))) oNone)))))
theorem w_f_bodies_of {C : VS.Ctx} {k : Nat} {Φ : Phi} (St : Stat C) (Fs : Facts C k Φ) {X : Cx} (h : XOk C k X N_f_bodies_of sc_f_bodies_of N_f_bodies_of) : PSs X (defBody (top 21)) (rdS C.g [] (d_f_bodies_of Φ)) := by
  have v0 : ∀ {p : Pos}, PE X (.Name "statement" p) (tVar 0) := h.tv (by decide +kernel)
  have v1 : ∀ {p : Pos}, PE X (.Name "many" p) (tVar 1) := h.tv (by decide +kernel)
  exact (qsCons (qSet h.ndX (h.tgA (i := 1) (x := "many") (by decide +kernel)).1 (h.tgA (i := 1) (x := "many") (by decide +kernel)).2.1 (pe_v (pv_idx h.eK (pv_itK (h.kd St.d_KINDS) (h.gl (by decide +kernel)) (pv_p (pp_ix h.eK (pp_var v0) kI (fun _ _ => rfl))) (fun _ _ => rfl)) kI (fun _ _ => rfl))) rfl (h.tgA (i := 1) (x := "many") (by decide +kernel)).2.2 rfl)
 (qsOne (qRet (pe_n (pn_v (pv_cut h.eK (pv_p (pp_var v0)) (poS (pv_bin h.eK (pv_n (pn_callBQ rfl (h.blt St.b_len (by decide +kernel)) (bq_len h.eK) (paq_cons (pq_p (pp_var v0)) paq_nil (star_cons rfl)) rfl)) (pv_p (pp_var v1)))) poN))))))
def N_f_body_size : List Str := ["body", "inner", "one"]
def sc_f_body_size : Scope := defScope (top 22)
noncomputable def d_f_body_size (Φ : Phi) : DS :=
 (sRet (eOfN (nBin .Add (vOfN (nCallB lenF (asCons (qOfP (pVar 0)) asNil))) (vOfN (nCallB sumF (asCons (vOfN (nComp (jSeq (vOfP (pVar 0))) [2] (bName 2) bTrue (nCallB sumF (asCons (vOfN (nComp (jSeq (vOfN (nCallU Φ.f_bodies_of [] (asCons (vOfP (pVar 2)) asNil)))) [1] (bName 1) bTrue (nCallU Φ.f_body_size [] (asCons (vOfP (pVar 1)) asNil)))) asNil)))) asNil))))))
theorem w_f_body_size {C : VS.Ctx} {k : Nat} {Φ : Phi} (St : Stat C) (Fs : Facts C k Φ) {X : Cx} (h : XOk C k X N_f_body_size sc_f_body_size N_f_body_size) : PSs X (defBody (top 22)) (rdS C.g [] (d_f_body_size Φ)) := by
  have v0 : ∀ {p : Pos}, PE X (.Name "body" p) (tVar 0) := h.tv (by decide +kernel)
  exact (qsOne (qRet (pe_n (pn_bin h.eK (pv_n (pn_callBQ rfl (h.blt St.b_len (by decide +kernel)) (bq_len h.eK) (paq_cons (pq_p (pp_var v0)) paq_nil (star_cons rfl)) rfl)) (pv_n (pn_callBQ rfl (h.blt St.b_sum (by decide +kernel)) (bq_sum h.calm) (paq_cons (pq_v (pv_n (pn_lc (own := [("one", 2)]) h.calm h.ndX (pj_seq h.eK (pv_p (pp_var v0))) (h.bk (by decide +kernel)) (fun s_ H_ C_ cl_ fp_ => have h1 := h.blk s_ H_ C_ cl_ fp_; (h1.tq (i := 2) (by decide +kernel))) (fun _ _ _ _ _ => ptsT) (fun s_ H_ C_ cl_ fp_ => have h1 := h.blk s_ H_ C_ cl_ fp_; (pn_callBQ rfl (h1.blt St.b_sum (by decide +kernel)) (bq_sum h1.calm) (paq_cons (pq_v (pv_n (pn_lc (own := [("inner", 1)]) h1.calm h1.ndX (pj_seq h1.eK (pv_n (pn_callU (h1.gl (by decide +kernel)) (h1.cal Fs.f_bodies_of_0) (pav_cons (pv_p (pp_var (h1.tv (i := 2) (by decide +kernel)))) pav_nil (star_cons rfl)) rfl Fs.f_bodies_of_0.nd))) (h1.bk (by decide +kernel)) (fun s_ H_ C_ cl_ fp_ => have h2 := h1.blk s_ H_ C_ cl_ fp_; (h2.tq (i := 1) (by decide +kernel))) (fun _ _ _ _ _ => ptsT) (fun s_ H_ C_ cl_ fp_ => have h2 := h1.blk s_ H_ C_ cl_ fp_; (pn_callU (h2.gl (by decide +kernel)) (h2.cal Fs.f_body_size_0) (pav_cons (pv_p (pp_var (h2.tv (i := 1) (by decide +kernel)))) pav_nil (star_cons rfl)) rfl Fs.f_body_size_0.nd)) rfl))) paq_nil (star_cons rfl)) rfl)) rfl))) paq_nil (star_cons rfl)) rfl))))))
def N_f_statements_in : List Str := ["bodies", "body"]
def sc_f_statements_in : Scope := defScope (top 33)
noncomputable def d_f_statements_in (Φ : Phi) : DS :=
 (sRet (eOfN (nCallB sumF (asCons (vOfN (nComp (jSeq (vOfP (pVar 0))) [1] (bName 1) bTrue (nCallU Φ.f_body_size [] (asCons (vOfP (pVar 1)) asNil)))) asNil))))
theorem w_f_statements_in {C : VS.Ctx} {k : Nat} {Φ : Phi} (St : Stat C) (Fs : Facts C k Φ) {X : Cx} (h : XOk C k X N_f_statements_in sc_f_statements_in N_f_statements_in) : PSs X (defBody (top 33)) (rdS C.g [] (d_f_statements_in Φ)) := by
  have v0 : ∀ {p : Pos}, PE X (.Name "bodies" p) (tVar 0) := h.tv (by decide +kernel)
  exact (qsOne (qRet (pe_n (pn_callBQ rfl (h.blt St.b_sum (by decide +kernel)) (bq_sum h.calm) (paq_cons (pq_v (pv_n (pn_lc (own := [("body", 1)]) h.calm h.ndX (pj_seq h.eK (pv_p (pp_var v0))) (h.bk (by decide +kernel)) (fun s_ H_ C_ cl_ fp_ => have h1 := h.blk s_ H_ C_ cl_ fp_; (h1.tq (i := 1) (by decide +kernel))) (fun _ _ _ _ _ => ptsT) (fun s_ H_ C_ cl_ fp_ => have h1 := h.blk s_ H_ C_ cl_ fp_; (pn_callU (h1.gl (by decide +kernel)) (h1.cal Fs.f_body_size_0) (pav_cons (pv_p (pp_var (h1.tv (i := 1) (by decide +kernel)))) pav_nil (star_cons rfl)) rfl Fs.f_body_size_0.nd)) rfl))) paq_nil (star_cons rfl)) rfl))))
def N_m_Program_init : List Str := ["self", "locks", "cells", "modes", "bodies", "threads"]
def sc_m_Program_init : Scope := defScope (inClass (top 34) 0)
noncomputable def d_m_Program_init (Φ : Phi) : DS :=
 (sSeq (sIf (beOfB (bNot (bOfV (vOfN (nCallU Φ.f_is_number_to [] (asCons (vOfP (pVar 1)) (asCons (vC (.int 0)) (asCons (vC (.int 4)) asNil))))))))
 sNever
 sNil)
 (sSeq (sIf (beOfB (bNot (bOfV (vOfN (nCallU Φ.f_is_number_to [] (asCons (vOfP (pVar 2)) (asCons (vC (.int 0)) (asCons (vC (.int 4)) asNil))))))))
 sNever
 sNil)
 (sSeq (sIf (beOfB (bNot (bOfV (vOfN (nCallU Φ.f_is_number_to [] (asCons (vOfP (pVar 3)) (asCons (vC (.int 1)) (asCons (vC (.int 4)) asNil))))))))
 sNever
 sNil)
 (sSeq (sIf (beOfB (bNot (bOfV (vOfN (nCallU Φ.f_are_bodies [] (asCons (vOfP (pVar 1)) (asCons (vOfP (pVar 2)) (asCons (vOfP (pVar 3)) (asCons (vOfP (pVar 4)) asNil)))))))))
 sNever
 sNil)
 (sSeq (sIf (beOfB (bNot (bOfV (vOfN (nCallU Φ.f_are_threads [] (asCons (vOfP (pVar 5)) (asCons (vOfN (nCallB lenF (asCons (qOfP (pVar 4)) asNil))) asNil)))))))
 sNever
 sNil)
 (sSeq (sIf (beOfB (bCmp .Gt (vOfN (nCallU Φ.f_statements_in [] (asCons (vOfP (pVar 4)) asNil))) (vC (.int 60))))
 sNever
 sNil)
 (sSeq (sFldSet 0 0 0 (eOfV (vOfP (pVar 1))))
 (sSeq (sFldSet 0 0 1 (eOfV (vOfP (pVar 2))))
 (sSeq (sFldSet 0 0 2 (eOfV (vOfP (pVar 3))))
 (sSeq (sFldSet 0 0 3 (eOfN (nCallB tupleF (asCons (vOfP (pVar 4)) asNil))))
 (sFldSet 0 0 4 (eOfN (nCallB tupleF (asCons (vOfP (pVar 5)) asNil))))))))))))))
theorem w_m_Program_init {C : VS.Ctx} {k : Nat} {Φ : Phi} (St : Stat C) (Fs : Facts C k Φ) {X : Cx} (h : XOk C k X N_m_Program_init sc_m_Program_init N_m_Program_init) : PSs X (defBody (inClass (top 34) 0)) (rdS C.g [0] (d_m_Program_init Φ)) := by
  have v0 : ∀ {p : Pos}, PE X (.Name "self" p) (tVar 0) := h.tv (by decide +kernel)
  have v1 : ∀ {p : Pos}, PE X (.Name "locks" p) (tVar 1) := h.tv (by decide +kernel)
  have v2 : ∀ {p : Pos}, PE X (.Name "cells" p) (tVar 2) := h.tv (by decide +kernel)
  have v3 : ∀ {p : Pos}, PE X (.Name "modes" p) (tVar 3) := h.tv (by decide +kernel)
  have v4 : ∀ {p : Pos}, PE X (.Name "bodies" p) (tVar 4) := h.tv (by decide +kernel)
  have v5 : ∀ {p : Pos}, PE X (.Name "threads" p) (tVar 5) := h.tv (by decide +kernel)
  exact (qsCons (qIf (pbe_b (ptb_not (ptb_v (pv_n (pn_callU (h.gl (by decide +kernel)) (h.cal Fs.f_is_number_to_0) (pav_cons (pv_p (pp_var v1)) (pav_cons kI (pav_cons (h.ci St.i_MOST_LOCKS (by decide +kernel)) pav_nil (star_cons rfl)) (star_cons rfl)) (star_cons rfl)) rfl Fs.f_is_number_to_0.nd)) (fun _ => rfl))))
 (qsOne qNever)
 qsNil)
 (qsCons (qIf (pbe_b (ptb_not (ptb_v (pv_n (pn_callU (h.gl (by decide +kernel)) (h.cal Fs.f_is_number_to_0) (pav_cons (pv_p (pp_var v2)) (pav_cons kI (pav_cons (h.ci St.i_MOST_CELLS (by decide +kernel)) pav_nil (star_cons rfl)) (star_cons rfl)) (star_cons rfl)) rfl Fs.f_is_number_to_0.nd)) (fun _ => rfl))))
 (qsOne qNever)
 qsNil)
 (qsCons (qIf (pbe_b (ptb_not (ptb_v (pv_n (pn_callU (h.gl (by decide +kernel)) (h.cal Fs.f_is_number_to_0) (pav_cons (pv_p (pp_var v3)) (pav_cons kI (pav_cons (h.ci St.i_MOST_MODES (by decide +kernel)) pav_nil (star_cons rfl)) (star_cons rfl)) (star_cons rfl)) rfl Fs.f_is_number_to_0.nd)) (fun _ => rfl))))
 (qsOne qNever)
 qsNil)
 (qsCons (qIf (pbe_b (ptb_not (ptb_v (pv_n (pn_callU (h.gl (by decide +kernel)) (h.cal Fs.f_are_bodies_0) (pav_cons (pv_p (pp_var v1)) (pav_cons (pv_p (pp_var v2)) (pav_cons (pv_p (pp_var v3)) (pav_cons (pv_p (pp_var v4)) pav_nil (star_cons rfl)) (star_cons rfl)) (star_cons rfl)) (star_cons rfl)) rfl Fs.f_are_bodies_0.nd)) (fun _ => rfl))))
 (qsOne qNever)
 qsNil)
 (qsCons (qIf (pbe_b (ptb_not (ptb_v (pv_n (pn_callU (h.gl (by decide +kernel)) (h.cal Fs.f_are_threads_0) (pav_cons (pv_p (pp_var v5)) (pav_cons (pv_n (pn_callBQ rfl (h.blt St.b_len (by decide +kernel)) (bq_len h.eK) (paq_cons (pq_p (pp_var v4)) paq_nil (star_cons rfl)) rfl)) pav_nil (star_cons rfl)) (star_cons rfl)) rfl Fs.f_are_threads_0.nd)) (fun _ => rfl))))
 (qsOne qNever)
 qsNil)
 (qsCons (qIf (pbe_b (pt_cmpv h.eK h.units (pq_v (pv_n (pn_callU (h.gl (by decide +kernel)) (h.cal Fs.f_statements_in_0) (pav_cons (pv_p (pp_var v4)) pav_nil (star_cons rfl)) rfl Fs.f_statements_in_0.nd))) (pq_v (h.ci St.i_MOST_STATEMENTS (by decide +kernel))) rfl))
 (qsOne qNever)
 qsNil)
 (qsCons (qFld h.eK St.gok (by decide) (by decide) St.fld_own_locks v0 (pe_v (pv_p (pp_var v1))) rfl)
 (qsCons (qFld h.eK St.gok (by decide) (by decide) St.fld_own_cells v0 (pe_v (pv_p (pp_var v2))) rfl)
 (qsCons (qFld h.eK St.gok (by decide) (by decide) St.fld_own_modes v0 (pe_v (pv_p (pp_var v3))) rfl)
 (qsCons (qFld h.eK St.gok (by decide) (by decide) St.fld_own_bodies v0 (pe_n (pn_callBV rfl (h.blt St.b_tuple (by decide +kernel)) (bv_tuple h.eK) (pav_cons (pv_p (pp_var v4)) pav_nil (star_cons rfl)) rfl)) rfl)
 (qsOne (qFld h.eK St.gok (by decide) (by decide) St.fld_own_threads v0 (pe_n (pn_callBV rfl (h.blt St.b_tuple (by decide +kernel)) (bv_tuple h.eK) (pav_cons (pv_p (pp_var v5)) pav_nil (star_cons rfl)) rfl)) rfl))))))))))))
def N_f_want_program : List Str := ["value"]
def sc_f_want_program : Scope := defScope (top 35)
noncomputable def d_f_want_program (Φ : Phi) : DS :=
 (sSeq (sIf (beOfB (bNot (bIsC 0 (qOfP (pVar 0)))))
 sNever
 sNil)
 (sRet (eOfN (nOfV (vOfP (pVar 0))))))
theorem w_f_want_program {C : VS.Ctx} {k : Nat} {Φ : Phi} (St : Stat C) (Fs : Facts C k Φ) {X : Cx} (h : XOk C k X N_f_want_program sc_f_want_program N_f_want_program) : PSs X (defBody (top 35)) (rdS C.g [] (d_f_want_program Φ)) := by
  have v0 : ∀ {p : Pos}, PE X (.Name "value" p) (tVar 0) := h.tv (by decide +kernel)
  exact (qsCons (qIf (pbe_b (ptb_not (ptb_of (pv_isiC (h.blt St.b_isinstance (by decide +kernel)) (h.ic St.c_Program) (h.gl (by decide +kernel)) (pq_p (pp_var v0)) rfl) (fun _ => rfl))))
 (qsOne qNever)
 qsNil)
 (qsOne (qRet (pe_n (pn_v (pv_p (pp_var v0)))))))
def N_f_calls_of : List Str := ["program"]
def sc_f_calls_of : Scope := defScope (top 44)
noncomputable def d_f_calls_of (Φ : Phi) : DS :=
 (sRet (eOfN (nCallU Φ.f_calls_by_bodies [] (asCons (vOfN (nCallU Φ.f_want_program [] (asCons (vOfP (pVar 0)) asNil))) asNil))))
theorem w_f_calls_of {C : VS.Ctx} {k : Nat} {Φ : Phi} (St : Stat C) (Fs : Facts C k Φ) {X : Cx} (h : XOk C k X N_f_calls_of sc_f_calls_of N_f_calls_of) : PSs X (defBody (top 44)) (rdS C.g [] (d_f_calls_of Φ)) := by
  have v0 : ∀ {p : Pos}, PE X (.Name "program" p) (tVar 0) := h.tv (by decide +kernel)
  exact (qsOne (qRet (pe_n (pn_callU (h.gl (by decide +kernel)) (h.cal Fs.f_calls_by_bodies_0) (pav_cons (pv_n (pn_callU (h.gl (by decide +kernel)) (h.cal Fs.f_want_program_0) (pav_cons (pv_p (pp_var v0)) pav_nil (star_cons rfl)) rfl Fs.f_want_program_0.nd)) pav_nil (star_cons rfl)) rfl Fs.f_calls_by_bodies_0.nd))))
def N_f__law_made : List Str := ["_law_drawn", "_law_shape", "_law_bodies", "_law_threads"]
def sc_f__law_made : Scope := defScope (top 54)
noncomputable def d_f__law_made (Φ : Phi) : DS :=
 (sSeq (sAsg (eOfV (vOfP (pVar 0))) (bTup 3 (btCons (bName 1) (btCons (bName 2) (btCons (bName 3) btNil)))))
 (sRet (eMake 0 Φ.mk_Program [] (daCons (eOfV (vOfP (pIdx (pVar 1) (vC (.int 0))))) (daCons (eOfV (vOfP (pIdx (pVar 1) (vC (.int 1))))) (daCons (eOfV (vOfP (pIdx (pVar 1) (vC (.int 2))))) (daCons (eOfV (vOfP (pVar 2))) (daCons (eOfV (vOfP (pVar 3))) daNil))))))))
theorem w_f__law_made {C : VS.Ctx} {k : Nat} {Φ : Phi} (St : Stat C) (Fs : Facts C k Φ) {X : Cx} (h : XOk C k X N_f__law_made sc_f__law_made N_f__law_made) : PSs X (defBody (top 54)) (rdS C.g [] (d_f__law_made Φ)) := by
  have v0 : ∀ {p : Pos}, PE X (.Name "_law_drawn" p) (tVar 0) := h.tv (by decide +kernel)
  have v1 : ∀ {p : Pos}, PE X (.Name "_law_shape" p) (tVar 1) := h.tv (by decide +kernel)
  have v2 : ∀ {p : Pos}, PE X (.Name "_law_bodies" p) (tVar 2) := h.tv (by decide +kernel)
  have v3 : ∀ {p : Pos}, PE X (.Name "_law_threads" p) (tVar 3) := h.tv (by decide +kernel)
  exact (qsCons (qAsg (pe_v (pv_p (pp_var v0))) (pgTup h.eK h.calm (pgsCons (h.tg (i := 1) (by decide +kernel)) (pgsCons (h.tg (i := 2) (by decide +kernel)) (pgsCons (h.tg (i := 3) (by decide +kernel)) pgsNil rfl) rfl) rfl) rfl rfl) rfl rfl rfl rfl)
 (qsOne (qRet (h.make (h.gl (by decide +kernel)) Fs.mk_Program (paCons (pe_v (pv_p (pp_ix h.eK (pp_var v1) kI (fun _ _ => rfl)))) (paCons (pe_v (pv_p (pp_ix h.eK (pp_var v1) kI (fun _ _ => rfl)))) (paCons (pe_v (pv_p (pp_ix h.eK (pp_var v1) kI (fun _ _ => rfl)))) (paCons (pe_v (pv_p (pp_var v2))) (paCons (pe_v (pv_p (pp_var v3))) paNil (star_cons rfl)) (star_cons rfl)) (star_cons rfl)) (star_cons rfl)) (star_cons rfl)) rfl))))
def N_f_want_thread : List Str := ["program", "value"]
def sc_f_want_thread : Scope := defScope (top 36)
noncomputable def d_f_want_thread (Φ : Phi) : DS :=
 (sSeq (sIf (beOfB (bNot (bOfV (vOfN (nCallU Φ.f_is_number_to [] (asCons (vOfP (pVar 1)) (asCons (vC (.int 0)) (asCons (vBin .Sub (vOfN (nCallB lenF (asCons (qOfP (pAttr nCls nFld 4 (pVar 0))) asNil))) (vC (.int 1))) asNil))))))))
 sNever
 sNil)
 (sRet (eOfN (nOfV (vOfP (pVar 1))))))
theorem w_f_want_thread {C : VS.Ctx} {k : Nat} {Φ : Phi} (St : Stat C) (Fs : Facts C k Φ) {X : Cx} (h : XOk C k X N_f_want_thread sc_f_want_thread N_f_want_thread) : PSs X (defBody (top 36)) (rdS C.g [] (d_f_want_thread Φ)) := by
  have v0 : ∀ {p : Pos}, PE X (.Name "program" p) (tVar 0) := h.tv (by decide +kernel)
  have v1 : ∀ {p : Pos}, PE X (.Name "value" p) (tVar 1) := h.tv (by decide +kernel)
  exact (qsCons (qIf (pbe_b (ptb_not (ptb_v (pv_n (pn_callU (h.gl (by decide +kernel)) (h.cal Fs.f_is_number_to_0) (pav_cons (pv_p (pp_var v1)) (pav_cons kI (pav_cons (pv_bin h.eK (pv_n (pn_callBQ rfl (h.blt St.b_len (by decide +kernel)) (bq_len h.eK) (paq_cons (pq_p (pp_attr h.eK St.gok St.fld_own_threads (pp_var v0) rfl)) paq_nil (star_cons rfl)) rfl)) kI) pav_nil (star_cons rfl)) (star_cons rfl)) (star_cons rfl)) rfl Fs.f_is_number_to_0.nd)) (fun _ => rfl))))
 (qsOne qNever)
 qsNil)
 (qsOne (qRet (pe_n (pn_v (pv_p (pp_var v1)))))))
def N_f_come_to : List Str := ["calls", "procedure", "found", "left", "here", "more", "one"]
def sc_f_come_to : Scope := defScope (top 40)
noncomputable def d_f_come_to (Φ : Phi) : DS :=
 (sSeq (sTupAsg 2 (daCons (eOfN (nLst (nsCons (nOfV (vOfP (pVar 1))) nsNil))) (daCons (eOfN (nLst (nsCons (nOfV (vOfP (pVar 1))) nsNil))) daNil)) (boCons (bName 2) (boCons (bName 3) boNil)))
 (sSeq (sWhile (beOfB (bCmp .NotEq (qOfP (pVar 3)) (vOfN (nLst nsNil))))
 (sSeq (sSet 4 (eFrz (ePop (pVar 3))))
 (sSeq (sSet 5 (eOfV (vOfN (nComp (jSeq (vOfP (pIdx (pVar 0) (vOfP (pVar 4))))) [6] (bName 6) (bCmp .NotIn (qOfP (pVar 6)) (qOfP (pVar 2))) (nOfV (vOfP (pVar 6)))))))
 (sSeq (sDrop (eExtend (pVar 2) (vOfP (pVar 5))))
 (sDrop (eExtend (pVar 3) (vOfP (pVar 5))))))))
 (sRet (eOfN (nCallB sortF (asCons (qOfP (pVar 2)) asNil))))))
theorem w_f_come_to {C : VS.Ctx} {k : Nat} {Φ : Phi} (St : Stat C) (Fs : Facts C k Φ) {X : Cx} (h : XOk C k X N_f_come_to sc_f_come_to N_f_come_to) : PSs X (defBody (top 40)) (rdS C.g [] (d_f_come_to Φ)) := by
  have v0 : ∀ {p : Pos}, PE X (.Name "calls" p) (tVar 0) := h.tv (by decide +kernel)
  have v1 : ∀ {p : Pos}, PE X (.Name "procedure" p) (tVar 1) := h.tv (by decide +kernel)
  have v2 : ∀ {p : Pos}, PE X (.Name "found" p) (tVar 2) := h.tv (by decide +kernel)
  have v3 : ∀ {p : Pos}, PE X (.Name "left" p) (tVar 3) := h.tv (by decide +kernel)
  have v4 : ∀ {p : Pos}, PE X (.Name "here" p) (tVar 4) := h.tv (by decide +kernel)
  have v5 : ∀ {p : Pos}, PE X (.Name "more" p) (tVar 5) := h.tv (by decide +kernel)
  exact (qsCons (qTupAsg h.eK h.calm (paCons (pe_n (pn_lst (pan_cons (pn_v (pv_p (pp_var v1))) pan_nil (star_cons rfl)))) (paCons (pe_n (pn_lst (pan_cons (pn_v (pv_p (pp_var v1))) pan_nil (star_cons rfl)))) paNil (star_cons rfl)) (star_cons rfl)) (pgsoCons (h.tg (i := 2) (by decide +kernel)) (pgsoCons (h.tg (i := 3) (by decide +kernel)) pgsoNil rfl) rfl) rfl rfl rfl rfl (h.st (by kernel_rfl)) rfl)
 (qsCons (qWhile h.pass (pbe_b (pt_cmpv h.eK h.units (pq_p (pp_var v3)) (pq_v (pv_n (pn_lst pan_nil))) rfl))
 (qsCons (qSet h.ndX (h.tgA (i := 4) (x := "here") (by decide +kernel)).1 (h.tgA (i := 4) (x := "here") (by decide +kernel)).2.1 (pe_frz (mPop (pp_var v3) rfl rfl)) rfl (h.tgA (i := 4) (x := "here") (by decide +kernel)).2.2 rfl)
 (qsCons (qSetLcF (own := [("one", 6)]) h.calm h.ndX (h.lcA (i := 5) (x := "more") (by decide +kernel)).1 (h.lcA (i := 5) (x := "more") (by decide +kernel)).2 (h.sw (by kernel_rfl)) (pj_seq h.eK (pv_p (pp_ix h.eK (pp_var v0) (pv_p (pp_var v4)) (fun _ _ => rfl)))) (h.bk (by decide +kernel)) (fun s_ H_ C_ cl_ fp_ => have h1 := h.blk s_ H_ C_ cl_ fp_; (h1.tq (i := 6) (by decide +kernel))) (fun s_ H_ C_ cl_ fp_ => have h1 := h.blk s_ H_ C_ cl_ fp_; (pts1 (pt_cmpv h1.eK h1.units (pq_p (pp_var (h1.tv (i := 6) (by decide +kernel)))) (pq_p (pp_var (h1.tv (i := 2) (by decide +kernel)))) rfl))) (fun s_ H_ C_ cl_ fp_ => have h1 := h.blk s_ H_ C_ cl_ fp_; (pn_v (pv_p (pp_var (h1.tv (i := 6) (by decide +kernel)))))) rfl rfl)
 (qsCons (qDrop (mExtend (pp_var v2) (pv_p (pp_var v5)) rfl rfl rfl rfl))
 (qsOne (qDrop (mExtend (pp_var v3) (pv_p (pp_var v5)) rfl rfl rfl rfl)))))))
 (qsOne (qRet (pe_n (pn_callBQ rfl (h.blt St.b_sorted (by decide +kernel)) bq_sort (paq_cons (pq_p (pp_var v2)) paq_nil (star_cons rfl)) rfl))))))
def N_f_reached : List Str := ["program", "thread", "told"]
def sc_f_reached : Scope := defScope (top 46)
noncomputable def d_f_reached (Φ : Phi) : DS :=
 (sSeq (sSet 2 (eOfV (vOfN (nCallU Φ.f_want_program [] (asCons (vOfP (pVar 0)) asNil)))))
 (sSeq (sDrop (eOfN (nCallU Φ.f_want_thread [] (asCons (vOfP (pVar 2)) (asCons (vOfP (pVar 1)) asNil)))))
 (sRet (eOfN (nCallU Φ.f_come_to [] (asCons (vOfN (nCallU Φ.f_calls_by_bodies [] (asCons (vOfP (pVar 2)) asNil))) (asCons (vIdx (vOfN (nCallM 0 Φ.m_Program_threads [] (vOfP (pVar 2)) asNil)) (vOfP (pVar 1))) asNil)))))))
theorem w_f_reached {C : VS.Ctx} {k : Nat} {Φ : Phi} (St : Stat C) (Fs : Facts C k Φ) {X : Cx} (h : XOk C k X N_f_reached sc_f_reached N_f_reached) : PSs X (defBody (top 46)) (rdS C.g [] (d_f_reached Φ)) := by
  have v0 : ∀ {p : Pos}, PE X (.Name "program" p) (tVar 0) := h.tv (by decide +kernel)
  have v1 : ∀ {p : Pos}, PE X (.Name "thread" p) (tVar 1) := h.tv (by decide +kernel)
  have v2 : ∀ {p : Pos}, PE X (.Name "told" p) (tVar 2) := h.tv (by decide +kernel)
  exact (qsCons (qSet h.ndX (h.tgA (i := 2) (x := "told") (by decide +kernel)).1 (h.tgA (i := 2) (x := "told") (by decide +kernel)).2.1 (pe_v (pv_n (pn_callU (h.gl (by decide +kernel)) (h.cal Fs.f_want_program_0) (pav_cons (pv_p (pp_var v0)) pav_nil (star_cons rfl)) rfl Fs.f_want_program_0.nd))) rfl (h.tgA (i := 2) (x := "told") (by decide +kernel)).2.2 rfl)
 (qsCons (qDrop (pe_n (pn_callU (h.gl (by decide +kernel)) (h.cal Fs.f_want_thread_0) (pav_cons (pv_p (pp_var v2)) (pav_cons (pv_p (pp_var v1)) pav_nil (star_cons rfl)) (star_cons rfl)) rfl Fs.f_want_thread_0.nd)))
 (qsOne (qRet (pe_n (pn_callU (h.gl (by decide +kernel)) (h.cal Fs.f_come_to_0) (pav_cons (pv_n (pn_callU (h.gl (by decide +kernel)) (h.cal Fs.f_calls_by_bodies_0) (pav_cons (pv_p (pp_var v2)) pav_nil (star_cons rfl)) rfl Fs.f_calls_by_bodies_0.nd)) (pav_cons (pv_idx h.eK (pv_n (pn_callM0 (h.calM Fs.m_Program_threads) (pv_p (pp_var v2)) rfl)) (pv_p (pp_var v1)) (fun _ _ => rfl)) pav_nil (star_cons rfl)) (star_cons rfl)) rfl Fs.f_come_to_0.nd))))))
def N_f__law_draw : List Str := ["_law_pot_here", "_law_many", "_law_digit"]
def sc_f__law_draw : Scope := defScope (top 50)
noncomputable def d_f__law_draw (Φ : Phi) : DS :=
 (sSeq (sIf (beOfB (bCmp .Gt (qOfP (pIdx (pVar 0) (vC (.int 0)))) (vC (.int 0))))
 (sSeq (sAsg (eOfN (nCallB divF (asCons (vOfP (pIdx (pVar 0) (vC (.int 0)))) (asCons (vOfP (pVar 1)) asNil)))) (bTup 2 (btCons (bSub (pVar 0) (vC (.int 0))) (btCons (bName 2) btNil))))
 (sRet (eOfN (nOfV (vOfP (pVar 2))))))
 sNil)
 (sSeq (sAsg (eOfV (vBin .Mod (vOfN (nCallB intF (asCons (vBin .Add (vBin .Mult (vOfP (pIdx (pVar 0) (vC (.int 1)))) (vC (.int 48271))) (vC (.int 4001))) asNil))) (vC (.int 2147483587)))) (bSub (pVar 0) (vC (.int 1))))
 (sRet (eOfN (nBin .Mod (vOfN (nCallB intF (asCons (vBin .FloorDiv (vBin .Mod (vOfN (nCallB intF (asCons (vBin .Mult (vOfP (pIdx (pVar 0) (vC (.int 1)))) (vOfP (pIdx (pVar 0) (vC (.int 1))))) asNil))) (vC (.int 2147483549))) (vC (.int 13))) asNil))) (vOfP (pVar 1)))))))
theorem w_f__law_draw {C : VS.Ctx} {k : Nat} {Φ : Phi} (St : Stat C) (Fs : Facts C k Φ) {X : Cx} (h : XOk C k X N_f__law_draw sc_f__law_draw N_f__law_draw) : PSs X (defBody (top 50)) (rdS C.g [0] (d_f__law_draw Φ)) := by
  have v0 : ∀ {p : Pos}, PE X (.Name "_law_pot_here" p) (tVar 0) := h.tv (by decide +kernel)
  have v1 : ∀ {p : Pos}, PE X (.Name "_law_many" p) (tVar 1) := h.tv (by decide +kernel)
  have v2 : ∀ {p : Pos}, PE X (.Name "_law_digit" p) (tVar 2) := h.tv (by decide +kernel)
  exact (qsCons (qIf (pbe_b (pt_cmpv h.eK h.units (pq_p (pp_ix h.eK (pp_var v0) kI (fun _ _ => rfl))) (pq_v kI) rfl))
 (qsCons (qAsg (pe_n (pn_callBV rfl (h.blt St.b_divmod (by decide +kernel)) bv_div (pav_cons (pv_p (pp_ix h.eK (pp_var v0) kI (fun _ _ => rfl))) (pav_cons (pv_p (pp_var v1)) pav_nil (star_cons rfl)) (star_cons rfl)) rfl)) (pgTup h.eK h.calm (pgsCons (pgSub (pp_var v0) kI (fun _ => rfl)) (pgsCons (h.tg (i := 2) (by decide +kernel)) pgsNil rfl) rfl) rfl rfl) rfl rfl rfl rfl)
 (qsOne (qRet (pe_n (pn_v (pv_p (pp_var v2)))))))
 qsNil)
 (qsCons (qAsg (pe_v (pv_bin h.eK (pv_n (pn_callBQ rfl (h.blt St.b_int (by decide +kernel)) bq_int (paq_cons (pq_v (pv_bin h.eK (pv_bin h.eK (pv_p (pp_ix h.eK (pp_var v0) kI (fun _ _ => rfl))) kI) kI)) paq_nil (star_cons rfl)) rfl)) kI)) (pgSub (pp_var v0) kI (fun _ => rfl)) rfl rfl rfl rfl)
 (qsOne (qRet (pe_n (pn_bin h.eK (pv_n (pn_callBQ rfl (h.blt St.b_int (by decide +kernel)) bq_int (paq_cons (pq_v (pv_bin h.eK (pv_bin h.eK (pv_n (pn_callBQ rfl (h.blt St.b_int (by decide +kernel)) bq_int (paq_cons (pq_v (pv_bin h.eK (pv_p (pp_ix h.eK (pp_var v0) kI (fun _ _ => rfl))) (pv_p (pp_ix h.eK (pp_var v0) kI (fun _ _ => rfl))))) paq_nil (star_cons rfl)) rfl)) kI) kI)) paq_nil (star_cons rfl)) rfl)) (pv_p (pp_var v1))))))))
def N_f__law_pick : List Str := ["_law_pot_here", "_law_some"]
def sc_f__law_pick : Scope := defScope (top 51)
noncomputable def d_f__law_pick (Φ : Phi) : DS :=
 (sRet (eIdx (eOfV (vOfP (pVar 1))) (eCallU Φ.f__law_draw [0] [some 0, none] [] (daCons (eMove 0) (daCons (eOfN (nCallB lenF (asCons (qOfP (pVar 1)) asNil))) daNil)))))
theorem w_f__law_pick {C : VS.Ctx} {k : Nat} {Φ : Phi} (St : Stat C) (Fs : Facts C k Φ) {X : Cx} (h : XOk C k X N_f__law_pick sc_f__law_pick N_f__law_pick) : PSs X (defBody (top 51)) (rdS C.g [0] (d_f__law_pick Φ)) := by
  have v0 : ∀ {p : Pos}, PE X (.Name "_law_pot_here" p) (tVar 0) := h.tv (by decide +kernel)
  have v1 : ∀ {p : Pos}, PE X (.Name "_law_some" p) (tVar 1) := h.tv (by decide +kernel)
  exact (qsOne (qRet (pe_idx' h.eK (pe_v (pv_p (pp_var v1))) (pe_callU (h.gl (by decide +kernel)) (h.cal Fs.f__law_draw_0) (paMove v0 (paCons (pe_n (pn_callBQ rfl (h.blt St.b_len (by decide +kernel)) (bq_len h.eK) (paq_cons (pq_p (pp_var v1)) paq_nil (star_cons rfl)) rfl)) paNil (star_cons rfl)) (star_cons rfl)) rfl Fs.f__law_draw_0.nd (by decide) (lenC (lenC lenN))) (fun _ _ => rfl))))
def N_f__law_statement : List Str := ["_law_pot_here", "_law_shape", "_law_deep", "_law_room", "_law_locks", "_law_cells", "_law_modes", "_law_procedures", "_law_words", "_law_word", "_law_lock", "_law_first", "_law_mode"]
def sc_f__law_statement : Scope := defScope (top 53)
noncomputable def d_f__law_statement (Φ : Phi) : DS :=
 (sSeq (sAsg (eOfV (vOfP (pVar 1))) (bTup 4 (btCons (bName 4) (btCons (bName 5) (btCons (bName 6) (btCons (bName 7) btNil))))))
 (sSeq (sSet 8 (eOfV (vOfN (nLst (nsCons (nOfV (vC (.str "skip"))) (nsCons (nOfV (vC (.str "touch"))) (nsCons (nOfV (vC (.str "write"))) (nsCons (nOfV (vC (.str "mark"))) (nsCons (nOfV (vC (.str "set"))) (nsCons (nOfV (vC (.str "claim"))) (nsCons (nOfV (vC (.str "call"))) nsNil)))))))))))
 (sSeq (sIf (beOfB (bCmp .Gt (qOfP (pVar 2)) (vC (.int 0))))
 (sSet 8 (eOfV (vBin .Add (vOfP (pVar 8)) (vOfN (nLst (nsCons (nOfV (vC (.str "hold"))) (nsCons (nOfV (vC (.str "either"))) (nsCons (nOfV (vC (.str "when"))) (nsCons (nOfV (vC (.str "loop"))) (nsCons (nOfV (vC (.str "hold"))) (nsCons (nOfV (vC (.str "either"))) nsNil)))))))))))
 sNil)
 (sSeq (sSet 9 (eFrz (eCallU Φ.f__law_pick [0] [some 0, none] [] (daCons (eMove 0) (daCons (eOfV (vOfP (pVar 8))) daNil)))))
 (sSeq (sIf (beOfB (bAnd (bCmp .In (qOfP (pVar 9)) (vTup (asCons (vC (.str "touch")) (asCons (vC (.str "write")) asNil)))) (bCmp .Gt (qOfP (pVar 5)) (vC (.int 0)))))
 (sRet (eTup (daCons (eOfV (vOfP (pVar 9))) (daCons (eCallU Φ.f__law_draw [0] [some 0, none] [] (daCons (eMove 0) (daCons (eOfV (vOfP (pVar 5))) daNil))) daNil))))
 sNil)
 (sSeq (sIf (beOfB (bCmp .Eq (qOfP (pVar 9)) (vC (.str "mark"))))
 (sRet (eTup (daCons (eOfV (vOfP (pVar 9))) (daCons (eCallU Φ.f__law_draw [0] [some 0, none] [] (daCons (eMove 0) (daCons (eOfV (vC (.int 10))) daNil))) daNil))))
 sNil)
 (sSeq (sIf (beOfB (bCmp .In (qOfP (pVar 9)) (vTup (asCons (vC (.str "set")) (asCons (vC (.str "claim")) asNil)))))
 (sRet (eTup (daCons (eOfV (vOfP (pVar 9))) (daCons (eCallU Φ.f__law_draw [0] [some 0, none] [] (daCons (eMove 0) (daCons (eOfV (vOfP (pVar 6))) daNil))) daNil))))
 sNil)
 (sSeq (sIf (beOfB (bCmp .Eq (qOfP (pVar 9)) (vC (.str "call"))))
 (sRet (eTup (daCons (eOfV (vOfP (pVar 9))) (daCons (eCallU Φ.f__law_draw [0] [some 0, none] [] (daCons (eMove 0) (daCons (eOfV (vOfP (pVar 7))) daNil))) daNil))))
 sNil)
 (sSeq (sIf (beOfB (bAnd (bCmp .Eq (qOfP (pVar 9)) (vC (.str "hold"))) (bCmp .Gt (qOfP (pVar 4)) (vC (.int 0)))))
 (sSeq (sSet 10 (eFrz (eCallU Φ.f__law_draw [0] [some 0, none] [] (daCons (eMove 0) (daCons (eOfV (vOfP (pVar 4))) daNil)))))
 (sRet (eTup (daCons (eOfV (vC (.str "hold"))) (daCons (eOfV (vOfP (pVar 10))) (daCons (eCallU Φ.f__law_body [0, 3] [some 0, none, none, some 3] [] (daCons (eMove 0) (daCons (eOfV (vOfP (pVar 1))) (daCons (eOfV (vBin .Sub (vOfP (pVar 2)) (vC (.int 1)))) (daCons (eMove 3) daNil))))) daNil))))))
 sNil)
 (sSeq (sIf (beOfB (bCmp .Eq (qOfP (pVar 9)) (vC (.str "either"))))
 (sSeq (sSet 11 (eFrz (eCallU Φ.f__law_body [0, 3] [some 0, none, none, some 3] [] (daCons (eMove 0) (daCons (eOfV (vOfP (pVar 1))) (daCons (eOfV (vBin .Sub (vOfP (pVar 2)) (vC (.int 1)))) (daCons (eMove 3) daNil)))))))
 (sRet (eTup (daCons (eOfV (vC (.str "either"))) (daCons (eOfV (vOfP (pVar 11))) (daCons (eCallU Φ.f__law_body [0, 3] [some 0, none, none, some 3] [] (daCons (eMove 0) (daCons (eOfV (vOfP (pVar 1))) (daCons (eOfV (vBin .Sub (vOfP (pVar 2)) (vC (.int 1)))) (daCons (eMove 3) daNil))))) daNil))))))
 sNil)
 (sSeq (sIf (beOfB (bCmp .Eq (qOfP (pVar 9)) (vC (.str "when"))))
 (sSeq (sSet 12 (eFrz (eCallU Φ.f__law_draw [0] [some 0, none] [] (daCons (eMove 0) (daCons (eOfV (vOfP (pVar 6))) daNil)))))
 (sSeq (sSet 11 (eFrz (eCallU Φ.f__law_body [0, 3] [some 0, none, none, some 3] [] (daCons (eMove 0) (daCons (eOfV (vOfP (pVar 1))) (daCons (eOfV (vBin .Sub (vOfP (pVar 2)) (vC (.int 1)))) (daCons (eMove 3) daNil)))))))
 (sRet (eTup (daCons (eOfV (vC (.str "when"))) (daCons (eOfV (vOfP (pVar 12))) (daCons (eOfV (vOfP (pVar 11))) (daCons (eCallU Φ.f__law_body [0, 3] [some 0, none, none, some 3] [] (daCons (eMove 0) (daCons (eOfV (vOfP (pVar 1))) (daCons (eOfV (vBin .Sub (vOfP (pVar 2)) (vC (.int 1)))) (daCons (eMove 3) daNil))))) daNil))))))))
 sNil)
 (sRet (eIf (beOfB (bCmp .Eq (qOfP (pVar 9)) (vC (.str "loop")))) (eTup (daCons (eOfV (vC (.str "loop"))) (daCons (eCallU Φ.f__law_body [0, 3] [some 0, none, none, some 3] [] (daCons (eMove 0) (daCons (eOfV (vOfP (pVar 1))) (daCons (eOfV (vBin .Sub (vOfP (pVar 2)) (vC (.int 1)))) (daCons (eMove 3) daNil))))) daNil))) (eOfV (vTup (asCons (vC (.str "skip")) asNil))))))))))))))))
theorem w_f__law_statement {C : VS.Ctx} {k : Nat} {Φ : Phi} (St : Stat C) (Fs : Facts C k Φ) {X : Cx} (h : XOk C k X N_f__law_statement sc_f__law_statement N_f__law_statement) : PSs X (defBody (top 53)) (rdS C.g [0, 3] (d_f__law_statement Φ)) := by
  have v0 : ∀ {p : Pos}, PE X (.Name "_law_pot_here" p) (tVar 0) := h.tv (by decide +kernel)
  have v1 : ∀ {p : Pos}, PE X (.Name "_law_shape" p) (tVar 1) := h.tv (by decide +kernel)
  have v2 : ∀ {p : Pos}, PE X (.Name "_law_deep" p) (tVar 2) := h.tv (by decide +kernel)
  have v3 : ∀ {p : Pos}, PE X (.Name "_law_room" p) (tVar 3) := h.tv (by decide +kernel)
  have v4 : ∀ {p : Pos}, PE X (.Name "_law_locks" p) (tVar 4) := h.tv (by decide +kernel)
  have v5 : ∀ {p : Pos}, PE X (.Name "_law_cells" p) (tVar 5) := h.tv (by decide +kernel)
  have v6 : ∀ {p : Pos}, PE X (.Name "_law_modes" p) (tVar 6) := h.tv (by decide +kernel)
  have v7 : ∀ {p : Pos}, PE X (.Name "_law_procedures" p) (tVar 7) := h.tv (by decide +kernel)
  have v8 : ∀ {p : Pos}, PE X (.Name "_law_words" p) (tVar 8) := h.tv (by decide +kernel)
  have v9 : ∀ {p : Pos}, PE X (.Name "_law_word" p) (tVar 9) := h.tv (by decide +kernel)
  have v10 : ∀ {p : Pos}, PE X (.Name "_law_lock" p) (tVar 10) := h.tv (by decide +kernel)
  have v11 : ∀ {p : Pos}, PE X (.Name "_law_first" p) (tVar 11) := h.tv (by decide +kernel)
  have v12 : ∀ {p : Pos}, PE X (.Name "_law_mode" p) (tVar 12) := h.tv (by decide +kernel)
  exact (qsCons (qAsg (pe_v (pv_p (pp_var v1))) (pgTup h.eK h.calm (pgsCons (h.tg (i := 4) (by decide +kernel)) (pgsCons (h.tg (i := 5) (by decide +kernel)) (pgsCons (h.tg (i := 6) (by decide +kernel)) (pgsCons (h.tg (i := 7) (by decide +kernel)) pgsNil rfl) rfl) rfl) rfl) rfl rfl) rfl rfl rfl rfl)
 (qsCons (qSet h.ndX (h.tgA (i := 8) (x := "_law_words") (by decide +kernel)).1 (h.tgA (i := 8) (x := "_law_words") (by decide +kernel)).2.1 (pe_v (pv_n (pn_lst (pan_cons (pn_v kS) (pan_cons (pn_v kS) (pan_cons (pn_v kS) (pan_cons (pn_v kS) (pan_cons (pn_v kS) (pan_cons (pn_v kS) (pan_cons (pn_v kS) pan_nil (star_cons rfl)) (star_cons rfl)) (star_cons rfl)) (star_cons rfl)) (star_cons rfl)) (star_cons rfl)) (star_cons rfl))))) rfl (h.tgA (i := 8) (x := "_law_words") (by decide +kernel)).2.2 rfl)
 (qsCons (qIf (pbe_b (pt_cmpv h.eK h.units (pq_p (pp_var v2)) (pq_v kI) rfl))
 (qsOne (qSet h.ndX (h.tgA (i := 8) (x := "_law_words") (by decide +kernel)).1 (h.tgA (i := 8) (x := "_law_words") (by decide +kernel)).2.1 (pe_v (pv_bin h.eK (pv_p (pp_var v8)) (pv_n (pn_lst (pan_cons (pn_v kS) (pan_cons (pn_v kS) (pan_cons (pn_v kS) (pan_cons (pn_v kS) (pan_cons (pn_v kS) (pan_cons (pn_v kS) pan_nil (star_cons rfl)) (star_cons rfl)) (star_cons rfl)) (star_cons rfl)) (star_cons rfl)) (star_cons rfl)))))) rfl (h.tgA (i := 8) (x := "_law_words") (by decide +kernel)).2.2 rfl))
 qsNil)
 (qsCons (qSet h.ndX (h.tgA (i := 9) (x := "_law_word") (by decide +kernel)).1 (h.tgA (i := 9) (x := "_law_word") (by decide +kernel)).2.1 (pe_frz (pe_callU (h.gl (by decide +kernel)) (h.cal Fs.f__law_pick_0) (paMove v0 (paCons (pe_v (pv_p (pp_var v8))) paNil (star_cons rfl)) (star_cons rfl)) rfl Fs.f__law_pick_0.nd (by decide) (lenC (lenC lenN)))) rfl (h.tgA (i := 9) (x := "_law_word") (by decide +kernel)).2.2 rfl)
 (qsCons (qIf (pbe_b (pwb_and (pt_cmpv h.eK h.units (pq_p (pp_var v9)) (pq_v (pv_tup (pav_cons kS (pav_cons kS pav_nil (star_cons rfl)) (star_cons rfl)))) rfl) (pwb_one (pt_cmpv h.eK h.units (pq_p (pp_var v5)) (pq_v kI) rfl))).pt)
 (qsOne (qRet (pe_tup' (paCons (pe_v (pv_p (pp_var v9))) (paCons (pe_callU (h.gl (by decide +kernel)) (h.cal Fs.f__law_draw_0) (paMove v0 (paCons (pe_v (pv_p (pp_var v5))) paNil (star_cons rfl)) (star_cons rfl)) rfl Fs.f__law_draw_0.nd (by decide) (lenC (lenC lenN))) paNil (star_cons rfl)) (star_cons rfl)))))
 qsNil)
 (qsCons (qIf (pbe_b (pt_cmpv h.eK h.units (pq_p (pp_var v9)) (pq_v kS) rfl))
 (qsOne (qRet (pe_tup' (paCons (pe_v (pv_p (pp_var v9))) (paCons (pe_callU (h.gl (by decide +kernel)) (h.cal Fs.f__law_draw_0) (paMove v0 (paCons (pe_v kI) paNil (star_cons rfl)) (star_cons rfl)) rfl Fs.f__law_draw_0.nd (by decide) (lenC (lenC lenN))) paNil (star_cons rfl)) (star_cons rfl)))))
 qsNil)
 (qsCons (qIf (pbe_b (pt_cmpv h.eK h.units (pq_p (pp_var v9)) (pq_v (pv_tup (pav_cons kS (pav_cons kS pav_nil (star_cons rfl)) (star_cons rfl)))) rfl))
 (qsOne (qRet (pe_tup' (paCons (pe_v (pv_p (pp_var v9))) (paCons (pe_callU (h.gl (by decide +kernel)) (h.cal Fs.f__law_draw_0) (paMove v0 (paCons (pe_v (pv_p (pp_var v6))) paNil (star_cons rfl)) (star_cons rfl)) rfl Fs.f__law_draw_0.nd (by decide) (lenC (lenC lenN))) paNil (star_cons rfl)) (star_cons rfl)))))
 qsNil)
 (qsCons (qIf (pbe_b (pt_cmpv h.eK h.units (pq_p (pp_var v9)) (pq_v kS) rfl))
 (qsOne (qRet (pe_tup' (paCons (pe_v (pv_p (pp_var v9))) (paCons (pe_callU (h.gl (by decide +kernel)) (h.cal Fs.f__law_draw_0) (paMove v0 (paCons (pe_v (pv_p (pp_var v7))) paNil (star_cons rfl)) (star_cons rfl)) rfl Fs.f__law_draw_0.nd (by decide) (lenC (lenC lenN))) paNil (star_cons rfl)) (star_cons rfl)))))
 qsNil)
 (qsCons (qIf (pbe_b (pwb_and (pt_cmpv h.eK h.units (pq_p (pp_var v9)) (pq_v kS) rfl) (pwb_one (pt_cmpv h.eK h.units (pq_p (pp_var v4)) (pq_v kI) rfl))).pt)
 (qsCons (qSet h.ndX (h.tgA (i := 10) (x := "_law_lock") (by decide +kernel)).1 (h.tgA (i := 10) (x := "_law_lock") (by decide +kernel)).2.1 (pe_frz (pe_callU (h.gl (by decide +kernel)) (h.cal Fs.f__law_draw_0) (paMove v0 (paCons (pe_v (pv_p (pp_var v4))) paNil (star_cons rfl)) (star_cons rfl)) rfl Fs.f__law_draw_0.nd (by decide) (lenC (lenC lenN)))) rfl (h.tgA (i := 10) (x := "_law_lock") (by decide +kernel)).2.2 rfl)
 (qsOne (qRet (pe_tup' (paCons (pe_v kS) (paCons (pe_v (pv_p (pp_var v10))) (paCons (pe_callU (h.gl (by decide +kernel)) (h.cal Fs.f__law_body_0) (paMove v0 (paCons (pe_v (pv_p (pp_var v1))) (paCons (pe_v (pv_bin h.eK (pv_p (pp_var v2)) kI)) (paMove v3 paNil (star_cons rfl)) (star_cons rfl)) (star_cons rfl)) (star_cons rfl)) rfl Fs.f__law_body_0.nd (by decide) (lenC (lenC (lenC (lenC lenN))))) paNil (star_cons rfl)) (star_cons rfl)) (star_cons rfl))))))
 qsNil)
 (qsCons (qIf (pbe_b (pt_cmpv h.eK h.units (pq_p (pp_var v9)) (pq_v kS) rfl))
 (qsCons (qSet h.ndX (h.tgA (i := 11) (x := "_law_first") (by decide +kernel)).1 (h.tgA (i := 11) (x := "_law_first") (by decide +kernel)).2.1 (pe_frz (pe_callU (h.gl (by decide +kernel)) (h.cal Fs.f__law_body_0) (paMove v0 (paCons (pe_v (pv_p (pp_var v1))) (paCons (pe_v (pv_bin h.eK (pv_p (pp_var v2)) kI)) (paMove v3 paNil (star_cons rfl)) (star_cons rfl)) (star_cons rfl)) (star_cons rfl)) rfl Fs.f__law_body_0.nd (by decide) (lenC (lenC (lenC (lenC lenN)))))) rfl (h.tgA (i := 11) (x := "_law_first") (by decide +kernel)).2.2 rfl)
 (qsOne (qRet (pe_tup' (paCons (pe_v kS) (paCons (pe_v (pv_p (pp_var v11))) (paCons (pe_callU (h.gl (by decide +kernel)) (h.cal Fs.f__law_body_0) (paMove v0 (paCons (pe_v (pv_p (pp_var v1))) (paCons (pe_v (pv_bin h.eK (pv_p (pp_var v2)) kI)) (paMove v3 paNil (star_cons rfl)) (star_cons rfl)) (star_cons rfl)) (star_cons rfl)) rfl Fs.f__law_body_0.nd (by decide) (lenC (lenC (lenC (lenC lenN))))) paNil (star_cons rfl)) (star_cons rfl)) (star_cons rfl))))))
 qsNil)
 (qsCons (qIf (pbe_b (pt_cmpv h.eK h.units (pq_p (pp_var v9)) (pq_v kS) rfl))
 (qsCons (qSet h.ndX (h.tgA (i := 12) (x := "_law_mode") (by decide +kernel)).1 (h.tgA (i := 12) (x := "_law_mode") (by decide +kernel)).2.1 (pe_frz (pe_callU (h.gl (by decide +kernel)) (h.cal Fs.f__law_draw_0) (paMove v0 (paCons (pe_v (pv_p (pp_var v6))) paNil (star_cons rfl)) (star_cons rfl)) rfl Fs.f__law_draw_0.nd (by decide) (lenC (lenC lenN)))) rfl (h.tgA (i := 12) (x := "_law_mode") (by decide +kernel)).2.2 rfl)
 (qsCons (qSet h.ndX (h.tgA (i := 11) (x := "_law_first") (by decide +kernel)).1 (h.tgA (i := 11) (x := "_law_first") (by decide +kernel)).2.1 (pe_frz (pe_callU (h.gl (by decide +kernel)) (h.cal Fs.f__law_body_0) (paMove v0 (paCons (pe_v (pv_p (pp_var v1))) (paCons (pe_v (pv_bin h.eK (pv_p (pp_var v2)) kI)) (paMove v3 paNil (star_cons rfl)) (star_cons rfl)) (star_cons rfl)) (star_cons rfl)) rfl Fs.f__law_body_0.nd (by decide) (lenC (lenC (lenC (lenC lenN)))))) rfl (h.tgA (i := 11) (x := "_law_first") (by decide +kernel)).2.2 rfl)
 (qsOne (qRet (pe_tup' (paCons (pe_v kS) (paCons (pe_v (pv_p (pp_var v12))) (paCons (pe_v (pv_p (pp_var v11))) (paCons (pe_callU (h.gl (by decide +kernel)) (h.cal Fs.f__law_body_0) (paMove v0 (paCons (pe_v (pv_p (pp_var v1))) (paCons (pe_v (pv_bin h.eK (pv_p (pp_var v2)) kI)) (paMove v3 paNil (star_cons rfl)) (star_cons rfl)) (star_cons rfl)) (star_cons rfl)) rfl Fs.f__law_body_0.nd (by decide) (lenC (lenC (lenC (lenC lenN))))) paNil (star_cons rfl)) (star_cons rfl)) (star_cons rfl)) (star_cons rfl)))))))
 qsNil)
 (qsOne (qRet (pe_if' (pbe_b (pt_cmpv h.eK h.units (pq_p (pp_var v9)) (pq_v kS) rfl)) (pe_tup' (paCons (pe_v kS) (paCons (pe_callU (h.gl (by decide +kernel)) (h.cal Fs.f__law_body_0) (paMove v0 (paCons (pe_v (pv_p (pp_var v1))) (paCons (pe_v (pv_bin h.eK (pv_p (pp_var v2)) kI)) (paMove v3 paNil (star_cons rfl)) (star_cons rfl)) (star_cons rfl)) (star_cons rfl)) rfl Fs.f__law_body_0.nd (by decide) (lenC (lenC (lenC (lenC lenN))))) paNil (star_cons rfl)) (star_cons rfl))) (pe_v (pv_tup (pav_cons kS pav_nil (star_cons rfl))))))))))))))))))
def N_f__law_body : List Str := ["_law_pot_here", "_law_shape", "_law_deep", "_law_room", "_law_found", "_law_turn"]
def sc_f__law_body : Scope := defScope (top 52)
noncomputable def d_f__law_body (Φ : Phi) : DS :=
 (sSeq (sSet 4 (eOfN (nLst nsNil)))
 (sSeq (sFor (iRng1 (eCallU Φ.f__law_draw [0] [some 0, none] [] (daCons (eMove 0) (daCons (eOfV (vC (.int 4))) daNil)))) (bName 5)
 (sIf (beOfB (bCmp .Gt (qOfP (pIdx (pVar 3) (vC (.int 0)))) (vC (.int 0))))
 (sSeq (sAsg (eOfV (vBin .Sub (vOfP (pIdx (pVar 3) (vC (.int 0)))) (vC (.int 1)))) (bSub (pVar 3) (vC (.int 0))))
 (sDrop (eAppendN 4 (eCallU Φ.f__law_statement [0, 3] [some 0, none, none, some 3] [] (daCons (eMove 0) (daCons (eOfV (vOfP (pVar 1))) (daCons (eOfV (vOfP (pVar 2))) (daCons (eMove 3) daNil))))))))
 sNil))
 (sRet (eOfN (nOfV (vCopyT (pVar 4)))))))
theorem w_f__law_body {C : VS.Ctx} {k : Nat} {Φ : Phi} (St : Stat C) (Fs : Facts C k Φ) {X : Cx} (h : XOk C k X N_f__law_body sc_f__law_body N_f__law_body) : PSs X (defBody (top 52)) (rdS C.g [0, 3] (d_f__law_body Φ)) := by
  have v0 : ∀ {p : Pos}, PE X (.Name "_law_pot_here" p) (tVar 0) := h.tv (by decide +kernel)
  have v1 : ∀ {p : Pos}, PE X (.Name "_law_shape" p) (tVar 1) := h.tv (by decide +kernel)
  have v2 : ∀ {p : Pos}, PE X (.Name "_law_deep" p) (tVar 2) := h.tv (by decide +kernel)
  have v3 : ∀ {p : Pos}, PE X (.Name "_law_room" p) (tVar 3) := h.tv (by decide +kernel)
  have v4 : ∀ {p : Pos}, PE X (.Name "_law_found" p) (tVar 4) := h.tv (by decide +kernel)
  exact (qsCons (qSet h.ndX (h.tgA (i := 4) (x := "_law_found") (by decide +kernel)).1 (h.tgA (i := 4) (x := "_law_found") (by decide +kernel)).2.1 (pe_n (pn_lst pan_nil)) rfl (h.tgA (i := 4) (x := "_law_found") (by decide +kernel)).2.2 rfl)
 (qsCons (qFor h.pass h.calm (pi_rng1 (h.blt St.b_range (by decide +kernel)).gl (h.blt St.b_range (by decide +kernel)).mg (pe_callU (h.gl (by decide +kernel)) (h.cal Fs.f__law_draw_0) (paMove v0 (paCons (pe_v kI) paNil (star_cons rfl)) (star_cons rfl)) rfl Fs.f__law_draw_0.nd (by decide) (lenC (lenC lenN))) rfl) (h.tq (i := 5) (by decide +kernel))
 (qsOne (qIf (pbe_b (pt_cmpv h.eK h.units (pq_p (pp_ix h.eK (pp_var v3) kI (fun _ _ => rfl))) (pq_v kI) rfl))
 (qsCons (qAsg (pe_v (pv_bin h.eK (pv_p (pp_ix h.eK (pp_var v3) kI (fun _ _ => rfl))) kI)) (pgSub (pp_var v3) kI (fun _ => rfl)) rfl rfl rfl rfl)
 (qsOne (qDrop (mAppendN v4 (pe_callU (h.gl (by decide +kernel)) (h.cal Fs.f__law_statement_0) (paMove v0 (paCons (pe_v (pv_p (pp_var v1))) (paCons (pe_v (pv_p (pp_var v2))) (paMove v3 paNil (star_cons rfl)) (star_cons rfl)) (star_cons rfl)) (star_cons rfl)) rfl Fs.f__law_statement_0.nd (by decide) (lenC (lenC (lenC (lenC lenN))))) rfl rfl rfl rfl))))
 qsNil)) rfl)
 (qsOne (qRet (pe_n (pn_v (pv_copyT (h.blt St.b_tuple (by decide +kernel)) (pp_var v4) rfl)))))))
def N_f__law_calls : List Str := ["_law_body_here", "_law_found", "_law_statement_here", "_law_part"]
def sc_f__law_calls : Scope := defScope (top 55)
noncomputable def d_f__law_calls (Φ : Phi) : DS :=
 (sSeq (sSet 1 (eOfN (nLst nsNil)))
 (sSeq (sFor (iOfJ (jSeq (vOfP (pVar 0)))) (bName 2)
 (sSeq (sIf (beOfB (bCmp .Eq (qOfP (pIdx (pVar 2) (vC (.int 0)))) (vC (.str "call"))))
 (sDrop (eAppend (pVar 1) (nOfV (vOfP (pIdx (pVar 2) (vC (.int 1)))))))
 sNil)
 (sFor (iOfJ (jSeq (vOfP (pVar 2)))) (bName 3)
 (sIf (beOfB (bIsi (qOfP (pVar 3)) [.lstT, .tupT]))
 (sDrop (eExtend (pVar 1) (vOfN (nCallU Φ.f__law_calls [] (asCons (vOfP (pVar 3)) asNil)))))
 sNil))))
 (sRet (eOfN (nCallB ssetF (asCons (qOfP (pVar 1)) asNil))))))
theorem w_f__law_calls {C : VS.Ctx} {k : Nat} {Φ : Phi} (St : Stat C) (Fs : Facts C k Φ) {X : Cx} (h : XOk C k X N_f__law_calls sc_f__law_calls N_f__law_calls) : PSs X (defBody (top 55)) (rdS C.g [] (d_f__law_calls Φ)) := by
  have v0 : ∀ {p : Pos}, PE X (.Name "_law_body_here" p) (tVar 0) := h.tv (by decide +kernel)
  have v1 : ∀ {p : Pos}, PE X (.Name "_law_found" p) (tVar 1) := h.tv (by decide +kernel)
  have v2 : ∀ {p : Pos}, PE X (.Name "_law_statement_here" p) (tVar 2) := h.tv (by decide +kernel)
  have v3 : ∀ {p : Pos}, PE X (.Name "_law_part" p) (tVar 3) := h.tv (by decide +kernel)
  exact (qsCons (qSet h.ndX (h.tgA (i := 1) (x := "_law_found") (by decide +kernel)).1 (h.tgA (i := 1) (x := "_law_found") (by decide +kernel)).2.1 (pe_n (pn_lst pan_nil)) rfl (h.tgA (i := 1) (x := "_law_found") (by decide +kernel)).2.2 rfl)
 (qsCons (qFor h.pass h.calm (pi_j (pj_seq h.eK (pv_p (pp_var v0)))) (h.tq (i := 2) (by decide +kernel))
 (qsCons (qIf (pbe_b (pt_cmpv h.eK h.units (pq_p (pp_ix h.eK (pp_var v2) kI (fun _ _ => rfl))) (pq_v kS) rfl))
 (qsOne (qDrop (mAppend (pp_var v1) (pn_v (pv_p (pp_ix h.eK (pp_var v2) kI (fun _ _ => rfl)))) rfl rfl rfl rfl)))
 qsNil)
 (qsOne (qFor h.pass h.calm (pi_j (pj_seq h.eK (pv_p (pp_var v2)))) (h.tq (i := 3) (by decide +kernel))
 (qsOne (qIf (pbe_b (ptb_of (pv_isi2 (b := .lstT) (c := .tupT) h.eK (h.blt St.b_isinstance (by decide +kernel)) (h.blt St.b_list (by decide +kernel)) (h.blt St.b_tuple (by decide +kernel)) (pq_p (pp_var v3)) rfl) (fun _ => rfl)))
 (qsOne (qDrop (mExtend (pp_var v1) (pv_n (pn_callU (h.gl (by decide +kernel)) (h.cal Fs.f__law_calls_0) (pav_cons (pv_p (pp_var v3)) pav_nil (star_cons rfl)) rfl Fs.f__law_calls_0.nd)) rfl rfl rfl rfl)))
 qsNil)) rfl))) rfl)
 (qsOne (qRet (pe_n (pn_sset h.calm (h.blt St.b_sorted (by decide +kernel)) (h.blt St.b_set (by decide +kernel)) (paq_cons (pq_p (pp_var v1)) paq_nil (star_cons rfl)) rfl))))))
def N_f_is_in_ring : List Str := ["calls", "procedure", "one"]
def sc_f_is_in_ring : Scope := defScope (top 41)
noncomputable def d_f_is_in_ring (Φ : Phi) : DS :=
 (sRet (eOfN (nCallB anyF (asCons (vOfN (nComp (jSeq (vOfP (pIdx (pVar 0) (vOfP (pVar 1))))) [2] (bName 2) bTrue (nOfV (vOfB (bCmp .In (qOfP (pVar 1)) (vOfN (nCallU Φ.f_come_to [] (asCons (vOfP (pVar 0)) (asCons (vOfP (pVar 2)) asNil))))))))) asNil))))
theorem w_f_is_in_ring {C : VS.Ctx} {k : Nat} {Φ : Phi} (St : Stat C) (Fs : Facts C k Φ) {X : Cx} (h : XOk C k X N_f_is_in_ring sc_f_is_in_ring N_f_is_in_ring) : PSs X (defBody (top 41)) (rdS C.g [] (d_f_is_in_ring Φ)) := by
  have v0 : ∀ {p : Pos}, PE X (.Name "calls" p) (tVar 0) := h.tv (by decide +kernel)
  have v1 : ∀ {p : Pos}, PE X (.Name "procedure" p) (tVar 1) := h.tv (by decide +kernel)
  exact (qsOne (qRet (pe_n (pn_callBQ rfl (h.blt St.b_any (by decide +kernel)) (bq_any h.calm) (paq_cons (pq_v (pv_n (pn_lc (own := [("one", 2)]) h.calm h.ndX (pj_seq h.eK (pv_p (pp_ix h.eK (pp_var v0) (pv_p (pp_var v1)) (fun _ _ => rfl)))) (h.bk (by decide +kernel)) (fun s_ H_ C_ cl_ fp_ => have h1 := h.blk s_ H_ C_ cl_ fp_; (h1.tq (i := 2) (by decide +kernel))) (fun _ _ _ _ _ => ptsT) (fun s_ H_ C_ cl_ fp_ => have h1 := h.blk s_ H_ C_ cl_ fp_; (pn_v (pv_cmpv h1.eK h1.units (pq_p (pp_var (h1.tv (i := 1) (by decide +kernel)))) (pq_v (pv_n (pn_callU (h1.gl (by decide +kernel)) (h1.cal Fs.f_come_to_0) (pav_cons (pv_p (pp_var (h1.tv (i := 0) (by decide +kernel)))) (pav_cons (pv_p (pp_var (h1.tv (i := 2) (by decide +kernel)))) pav_nil (star_cons rfl)) (star_cons rfl)) rfl Fs.f_come_to_0.nd))) rfl))) rfl))) paq_nil (star_cons rfl)) rfl))))
def N_f_come_to_by_threads : List Str := ["program", "calls", "found", "procedure"]
def sc_f_come_to_by_threads : Scope := defScope (top 42)
noncomputable def d_f_come_to_by_threads (Φ : Phi) : DS :=
 (sSeq (sSet 2 (eOfN (nLst nsNil)))
 (sSeq (sFor (iOfJ (jSeq (vOfN (nCallM 0 Φ.m_Program_threads [] (vOfP (pVar 0)) asNil)))) (bName 3)
 (sDrop (eExtend (pVar 2) (vOfN (nCallU Φ.f_come_to [] (asCons (vOfP (pVar 1)) (asCons (vOfP (pVar 3)) asNil)))))))
 (sRet (eOfN (nCallB ssetF (asCons (qOfP (pVar 2)) asNil))))))
theorem w_f_come_to_by_threads {C : VS.Ctx} {k : Nat} {Φ : Phi} (St : Stat C) (Fs : Facts C k Φ) {X : Cx} (h : XOk C k X N_f_come_to_by_threads sc_f_come_to_by_threads N_f_come_to_by_threads) : PSs X (defBody (top 42)) (rdS C.g [] (d_f_come_to_by_threads Φ)) := by
  have v0 : ∀ {p : Pos}, PE X (.Name "program" p) (tVar 0) := h.tv (by decide +kernel)
  have v1 : ∀ {p : Pos}, PE X (.Name "calls" p) (tVar 1) := h.tv (by decide +kernel)
  have v2 : ∀ {p : Pos}, PE X (.Name "found" p) (tVar 2) := h.tv (by decide +kernel)
  have v3 : ∀ {p : Pos}, PE X (.Name "procedure" p) (tVar 3) := h.tv (by decide +kernel)
  exact (qsCons (qSet h.ndX (h.tgA (i := 2) (x := "found") (by decide +kernel)).1 (h.tgA (i := 2) (x := "found") (by decide +kernel)).2.1 (pe_n (pn_lst pan_nil)) rfl (h.tgA (i := 2) (x := "found") (by decide +kernel)).2.2 rfl)
 (qsCons (qFor h.pass h.calm (pi_j (pj_seq h.eK (pv_n (pn_callM0 (h.calM Fs.m_Program_threads) (pv_p (pp_var v0)) rfl)))) (h.tq (i := 3) (by decide +kernel))
 (qsOne (qDrop (mExtend (pp_var v2) (pv_n (pn_callU (h.gl (by decide +kernel)) (h.cal Fs.f_come_to_0) (pav_cons (pv_p (pp_var v1)) (pav_cons (pv_p (pp_var v3)) pav_nil (star_cons rfl)) (star_cons rfl)) rfl Fs.f_come_to_0.nd)) rfl rfl rfl rfl))) rfl)
 (qsOne (qRet (pe_n (pn_sset h.calm (h.blt St.b_sorted (by decide +kernel)) (h.blt St.b_set (by decide +kernel)) (paq_cons (pq_p (pp_var v2)) paq_nil (star_cons rfl)) rfl))))))
def N_f_is_recursive : List Str := ["program", "told", "calls", "procedure"]
def sc_f_is_recursive : Scope := defScope (top 45)
noncomputable def d_f_is_recursive (Φ : Phi) : DS :=
 (sSeq (sSet 1 (eOfV (vOfN (nCallU Φ.f_want_program [] (asCons (vOfP (pVar 0)) asNil)))))
 (sSeq (sSet 2 (eOfV (vOfN (nCallU Φ.f_calls_by_bodies [] (asCons (vOfP (pVar 1)) asNil)))))
 (sRet (eOfN (nCallB anyF (asCons (vOfN (nComp (jSeq (vOfN (nCallU Φ.f_come_to_by_threads [] (asCons (vOfP (pVar 1)) (asCons (vOfP (pVar 2)) asNil))))) [3] (bName 3) bTrue (nCallU Φ.f_is_in_ring [] (asCons (vOfP (pVar 2)) (asCons (vOfP (pVar 3)) asNil))))) asNil))))))
theorem w_f_is_recursive {C : VS.Ctx} {k : Nat} {Φ : Phi} (St : Stat C) (Fs : Facts C k Φ) {X : Cx} (h : XOk C k X N_f_is_recursive sc_f_is_recursive N_f_is_recursive) : PSs X (defBody (top 45)) (rdS C.g [] (d_f_is_recursive Φ)) := by
  have v0 : ∀ {p : Pos}, PE X (.Name "program" p) (tVar 0) := h.tv (by decide +kernel)
  have v1 : ∀ {p : Pos}, PE X (.Name "told" p) (tVar 1) := h.tv (by decide +kernel)
  have v2 : ∀ {p : Pos}, PE X (.Name "calls" p) (tVar 2) := h.tv (by decide +kernel)
  exact (qsCons (qSet h.ndX (h.tgA (i := 1) (x := "told") (by decide +kernel)).1 (h.tgA (i := 1) (x := "told") (by decide +kernel)).2.1 (pe_v (pv_n (pn_callU (h.gl (by decide +kernel)) (h.cal Fs.f_want_program_0) (pav_cons (pv_p (pp_var v0)) pav_nil (star_cons rfl)) rfl Fs.f_want_program_0.nd))) rfl (h.tgA (i := 1) (x := "told") (by decide +kernel)).2.2 rfl)
 (qsCons (qSet h.ndX (h.tgA (i := 2) (x := "calls") (by decide +kernel)).1 (h.tgA (i := 2) (x := "calls") (by decide +kernel)).2.1 (pe_v (pv_n (pn_callU (h.gl (by decide +kernel)) (h.cal Fs.f_calls_by_bodies_0) (pav_cons (pv_p (pp_var v1)) pav_nil (star_cons rfl)) rfl Fs.f_calls_by_bodies_0.nd))) rfl (h.tgA (i := 2) (x := "calls") (by decide +kernel)).2.2 rfl)
 (qsOne (qRet (pe_n (pn_callBQ rfl (h.blt St.b_any (by decide +kernel)) (bq_any h.calm) (paq_cons (pq_v (pv_n (pn_lc (own := [("procedure", 3)]) h.calm h.ndX (pj_seq h.eK (pv_n (pn_callU (h.gl (by decide +kernel)) (h.cal Fs.f_come_to_by_threads_0) (pav_cons (pv_p (pp_var v1)) (pav_cons (pv_p (pp_var v2)) pav_nil (star_cons rfl)) (star_cons rfl)) rfl Fs.f_come_to_by_threads_0.nd))) (h.bk (by decide +kernel)) (fun s_ H_ C_ cl_ fp_ => have h1 := h.blk s_ H_ C_ cl_ fp_; (h1.tq (i := 3) (by decide +kernel))) (fun _ _ _ _ _ => ptsT) (fun s_ H_ C_ cl_ fp_ => have h1 := h.blk s_ H_ C_ cl_ fp_; (pn_callU (h1.gl (by decide +kernel)) (h1.cal Fs.f_is_in_ring_0) (pav_cons (pv_p (pp_var (h1.tv (i := 2) (by decide +kernel)))) (pav_cons (pv_p (pp_var (h1.tv (i := 3) (by decide +kernel)))) pav_nil (star_cons rfl)) (star_cons rfl)) rfl Fs.f_is_in_ring_0.nd)) rfl))) paq_nil (star_cons rfl)) rfl))))))
def N_f__law_longest : List Str := ["_law_calls_here", "_law_row", "_law_most", "_law_other"]
def sc_f__law_longest : Scope := defScope (top 57)
noncomputable def d_f__law_longest (Φ : Phi) : DS :=
 (sSeq (sSet 2 (eOfV (vOfN (nCallB lenF (asCons (qOfP (pVar 1)) asNil)))))
 (sSeq (sFor (iOfJ (jSeq (vOfP (pIdx (pVar 0) (vOfP (pIdx (pVar 1) (vNeg (vC (.int 1))))))))) (bName 3)
 (sIf (beOfB (bCmp .NotIn (qOfP (pVar 3)) (qOfP (pVar 1))))
 (sSet 2 (eOfV (vOfN (nCallB maxF (asCons (qOfP (pVar 2)) (asCons (vOfN (nCallU Φ.f__law_longest [] (asCons (vOfP (pVar 0)) (asCons (vBin .Add (vOfP (pVar 1)) (vOfN (nLst (nsCons (nOfV (vOfP (pVar 3))) nsNil)))) asNil)))) asNil))))))
 sNil))
 (sRet (eOfN (nOfV (vOfP (pVar 2)))))))
theorem w_f__law_longest {C : VS.Ctx} {k : Nat} {Φ : Phi} (St : Stat C) (Fs : Facts C k Φ) {X : Cx} (h : XOk C k X N_f__law_longest sc_f__law_longest N_f__law_longest) : PSs X (defBody (top 57)) (rdS C.g [] (d_f__law_longest Φ)) := by
  have v0 : ∀ {p : Pos}, PE X (.Name "_law_calls_here" p) (tVar 0) := h.tv (by decide +kernel)
  have v1 : ∀ {p : Pos}, PE X (.Name "_law_row" p) (tVar 1) := h.tv (by decide +kernel)
  have v2 : ∀ {p : Pos}, PE X (.Name "_law_most" p) (tVar 2) := h.tv (by decide +kernel)
  have v3 : ∀ {p : Pos}, PE X (.Name "_law_other" p) (tVar 3) := h.tv (by decide +kernel)
  exact (qsCons (qSet h.ndX (h.tgA (i := 2) (x := "_law_most") (by decide +kernel)).1 (h.tgA (i := 2) (x := "_law_most") (by decide +kernel)).2.1 (pe_v (pv_n (pn_callBQ rfl (h.blt St.b_len (by decide +kernel)) (bq_len h.eK) (paq_cons (pq_p (pp_var v1)) paq_nil (star_cons rfl)) rfl))) rfl (h.tgA (i := 2) (x := "_law_most") (by decide +kernel)).2.2 rfl)
 (qsCons (qFor h.pass h.calm (pi_j (pj_seq h.eK (pv_p (pp_ix h.eK (pp_var v0) (pv_p (pp_ix h.eK (pp_var v1) (pv_neg kI) (fun _ _ => rfl))) (fun _ _ => rfl))))) (h.tq (i := 3) (by decide +kernel))
 (qsOne (qIf (pbe_b (pt_cmpv h.eK h.units (pq_p (pp_var v3)) (pq_p (pp_var v1)) rfl))
 (qsOne (qSet h.ndX (h.tgA (i := 2) (x := "_law_most") (by decide +kernel)).1 (h.tgA (i := 2) (x := "_law_most") (by decide +kernel)).2.1 (pe_v (pv_n (pn_callBQ rfl (h.blt St.b_max (by decide +kernel)) (bq_max h.calm) (paq_cons (pq_p (pp_var v2)) (paq_cons (pq_v (pv_n (pn_callU (h.gl (by decide +kernel)) (h.cal Fs.f__law_longest_0) (pav_cons (pv_p (pp_var v0)) (pav_cons (pv_bin h.eK (pv_p (pp_var v1)) (pv_n (pn_lst (pan_cons (pn_v (pv_p (pp_var v3))) pan_nil (star_cons rfl))))) pav_nil (star_cons rfl)) (star_cons rfl)) rfl Fs.f__law_longest_0.nd))) paq_nil (star_cons rfl)) (star_cons rfl)) rfl))) rfl (h.tgA (i := 2) (x := "_law_most") (by decide +kernel)).2.2 rfl))
 qsNil)) rfl)
 (qsOne (qRet (pe_n (pn_v (pv_p (pp_var v2))))))))
def N_f_longest_row : List Str := ["calls", "procedure", "one"]
def sc_f_longest_row : Scope := defScope (top 43)
noncomputable def d_f_longest_row (Φ : Phi) : DS :=
 (sRet (eOfN (nBin .Add (vC (.int 1)) (vOfN (nCallB maxF (asCons (vBin .Add (vOfN (nLst (nsCons (nOfV (vC (.int 0))) nsNil))) (vOfN (nComp (jSeq (vOfP (pIdx (pVar 0) (vOfP (pVar 1))))) [2] (bName 2) bTrue (nCallU Φ.f_longest_row [] (asCons (vOfP (pVar 0)) (asCons (vOfP (pVar 2)) asNil)))))) asNil))))))
theorem w_f_longest_row {C : VS.Ctx} {k : Nat} {Φ : Phi} (St : Stat C) (Fs : Facts C k Φ) {X : Cx} (h : XOk C k X N_f_longest_row sc_f_longest_row N_f_longest_row) : PSs X (defBody (top 43)) (rdS C.g [] (d_f_longest_row Φ)) := by
  have v0 : ∀ {p : Pos}, PE X (.Name "calls" p) (tVar 0) := h.tv (by decide +kernel)
  have v1 : ∀ {p : Pos}, PE X (.Name "procedure" p) (tVar 1) := h.tv (by decide +kernel)
  exact (qsOne (qRet (pe_n (pn_bin h.eK kI (pv_n (pn_callBQ rfl (h.blt St.b_max (by decide +kernel)) (bq_max h.calm) (paq_cons (pq_v (pv_bin h.eK (pv_n (pn_lst (pan_cons (pn_v kI) pan_nil (star_cons rfl)))) (pv_n (pn_lc (own := [("one", 2)]) h.calm h.ndX (pj_seq h.eK (pv_p (pp_ix h.eK (pp_var v0) (pv_p (pp_var v1)) (fun _ _ => rfl)))) (h.bk (by decide +kernel)) (fun s_ H_ C_ cl_ fp_ => have h1 := h.blk s_ H_ C_ cl_ fp_; (h1.tq (i := 2) (by decide +kernel))) (fun _ _ _ _ _ => ptsT) (fun s_ H_ C_ cl_ fp_ => have h1 := h.blk s_ H_ C_ cl_ fp_; (pn_callU (h1.gl (by decide +kernel)) (h1.cal Fs.f_longest_row_0) (pav_cons (pv_p (pp_var (h1.tv (i := 0) (by decide +kernel)))) (pav_cons (pv_p (pp_var (h1.tv (i := 2) (by decide +kernel)))) pav_nil (star_cons rfl)) (star_cons rfl)) rfl Fs.f_longest_row_0.nd)) rfl)))) paq_nil (star_cons rfl)) rfl))))))
def N_f_deepest : List Str := ["program", "calls", "procedure"]
def sc_f_deepest : Scope := defScope (top 47)
noncomputable def d_f_deepest (Φ : Phi) : DS :=
 (sSeq (sIf (beOfB (bOfV (vOfN (nCallU Φ.f_is_recursive [] (asCons (vOfP (pVar 0)) asNil)))))
 (sRet (eOfN (nOfV (vC .non))))
 sNil)
 (sSeq (sSet 1 (eOfV (vOfN (nCallU Φ.f_calls_by_bodies [] (asCons (vOfP (pVar 0)) asNil)))))
 (sRet (eOfN (nCallB maxF (asCons (vOfN (nComp (jSeq (vOfN (nCallM 0 Φ.m_Program_threads [] (vOfP (pVar 0)) asNil))) [2] (bName 2) bTrue (nCallU Φ.f_longest_row [] (asCons (vOfP (pVar 1)) (asCons (vOfP (pVar 2)) asNil))))) asNil))))))
theorem w_f_deepest {C : VS.Ctx} {k : Nat} {Φ : Phi} (St : Stat C) (Fs : Facts C k Φ) {X : Cx} (h : XOk C k X N_f_deepest sc_f_deepest N_f_deepest) : PSs X (defBody (top 47)) (rdS C.g [] (d_f_deepest Φ)) := by
  have v0 : ∀ {p : Pos}, PE X (.Name "program" p) (tVar 0) := h.tv (by decide +kernel)
  exact (qsCons (qIf (pbe_b (ptb_v (pv_n (pn_callU (h.gl (by decide +kernel)) (h.cal Fs.f_is_recursive_0) (pav_cons (pv_p (pp_var v0)) pav_nil (star_cons rfl)) rfl Fs.f_is_recursive_0.nd)) (fun _ => rfl)))
 (qsOne (qRet (pe_n (pn_v kN))))
 qsNil)
 (qsCons (qSet h.ndX (h.tgA (i := 1) (x := "calls") (by decide +kernel)).1 (h.tgA (i := 1) (x := "calls") (by decide +kernel)).2.1 (pe_v (pv_n (pn_callU (h.gl (by decide +kernel)) (h.cal Fs.f_calls_by_bodies_0) (pav_cons (pv_p (pp_var v0)) pav_nil (star_cons rfl)) rfl Fs.f_calls_by_bodies_0.nd))) rfl (h.tgA (i := 1) (x := "calls") (by decide +kernel)).2.2 rfl)
 (qsOne (qRet (pe_n (pn_callBQ rfl (h.blt St.b_max (by decide +kernel)) (bq_max h.calm) (paq_cons (pq_v (pv_n (pn_lc (own := [("procedure", 2)]) h.calm h.ndX (pj_seq h.eK (pv_n (pn_callM0 (h.calM Fs.m_Program_threads) (pv_p (pp_var v0)) rfl))) (h.bk (by decide +kernel)) (fun s_ H_ C_ cl_ fp_ => have h1 := h.blk s_ H_ C_ cl_ fp_; (h1.tq (i := 2) (by decide +kernel))) (fun _ _ _ _ _ => ptsT) (fun s_ H_ C_ cl_ fp_ => have h1 := h.blk s_ H_ C_ cl_ fp_; (pn_callU (h1.gl (by decide +kernel)) (h1.cal Fs.f_longest_row_0) (pav_cons (pv_p (pp_var (h1.tv (i := 1) (by decide +kernel)))) (pav_cons (pv_p (pp_var (h1.tv (i := 2) (by decide +kernel)))) pav_nil (star_cons rfl)) (star_cons rfl)) rfl Fs.f_longest_row_0.nd)) rfl))) paq_nil (star_cons rfl)) rfl))))))
def N_f__law_come : List Str := ["_law_calls_here", "_law_procedure", "_law_found", "_law_turn", "_law_one", "_law_other"]
def sc_f__law_come : Scope := defScope (top 56)
noncomputable def d_f__law_come (Φ : Phi) : DS :=
 (sSeq (sSet 2 (eOfN (nLst (nsCons (nOfV (vOfP (pVar 1))) nsNil))))
 (sSeq (sFor (iOfJ (jSeq (vOfP (pVar 0)))) (bName 3)
 (sFor (iOfJ (jSeq (vOfN (nCopy (pVar 2))))) (bName 4)
 (sDrop (eExtend (pVar 2) (vOfN (nComp (jSeq (vOfP (pIdx (pVar 0) (vOfP (pVar 4))))) [5] (bName 5) (bCmp .NotIn (qOfP (pVar 5)) (qOfP (pVar 2))) (nOfV (vOfP (pVar 5)))))))))
 (sRet (eOfN (nCallB ssetF (asCons (qOfP (pVar 2)) asNil))))))
theorem w_f__law_come {C : VS.Ctx} {k : Nat} {Φ : Phi} (St : Stat C) (Fs : Facts C k Φ) {X : Cx} (h : XOk C k X N_f__law_come sc_f__law_come N_f__law_come) : PSs X (defBody (top 56)) (rdS C.g [] (d_f__law_come Φ)) := by
  have v0 : ∀ {p : Pos}, PE X (.Name "_law_calls_here" p) (tVar 0) := h.tv (by decide +kernel)
  have v1 : ∀ {p : Pos}, PE X (.Name "_law_procedure" p) (tVar 1) := h.tv (by decide +kernel)
  have v2 : ∀ {p : Pos}, PE X (.Name "_law_found" p) (tVar 2) := h.tv (by decide +kernel)
  have v4 : ∀ {p : Pos}, PE X (.Name "_law_one" p) (tVar 4) := h.tv (by decide +kernel)
  exact (qsCons (qSet h.ndX (h.tgA (i := 2) (x := "_law_found") (by decide +kernel)).1 (h.tgA (i := 2) (x := "_law_found") (by decide +kernel)).2.1 (pe_n (pn_lst (pan_cons (pn_v (pv_p (pp_var v1))) pan_nil (star_cons rfl)))) rfl (h.tgA (i := 2) (x := "_law_found") (by decide +kernel)).2.2 rfl)
 (qsCons (qFor h.pass h.calm (pi_j (pj_seq h.eK (pv_p (pp_var v0)))) (h.tq (i := 3) (by decide +kernel))
 (qsOne (qFor h.pass h.calm (pi_j (pj_seq h.eK (pv_n (pn_copy (h.blt St.b_list (by decide +kernel)) (pp_var v2) rfl)))) (h.tq (i := 4) (by decide +kernel))
 (qsOne (qDrop (mExtend (pp_var v2) (pv_n (pn_lc (own := [("_law_other", 5)]) h.calm h.ndX (pj_seq h.eK (pv_p (pp_ix h.eK (pp_var v0) (pv_p (pp_var v4)) (fun _ _ => rfl)))) (h.bk (by decide +kernel)) (fun s_ H_ C_ cl_ fp_ => have h1 := h.blk s_ H_ C_ cl_ fp_; (h1.tq (i := 5) (by decide +kernel))) (fun s_ H_ C_ cl_ fp_ => have h1 := h.blk s_ H_ C_ cl_ fp_; (pts1 (pt_cmpv h1.eK h1.units (pq_p (pp_var (h1.tv (i := 5) (by decide +kernel)))) (pq_p (pp_var (h1.tv (i := 2) (by decide +kernel)))) rfl))) (fun s_ H_ C_ cl_ fp_ => have h1 := h.blk s_ H_ C_ cl_ fp_; (pn_v (pv_p (pp_var (h1.tv (i := 5) (by decide +kernel)))))) rfl)) rfl rfl rfl rfl))) rfl)) rfl)
 (qsOne (qRet (pe_n (pn_sset h.calm (h.blt St.b_sorted (by decide +kernel)) (h.blt St.b_set (by decide +kernel)) (paq_cons (pq_p (pp_var v2)) paq_nil (star_cons rfl)) rfl))))))
def N_f__law_right : List Str := ["_law_pot_here", "_law_shape", "_law_bodies", "_law_threads", "_law_more", "_law_procedure", "_law_thread", "_law_program", "_law_calls_here", "_law_body_here", "_law_told", "_law_come_here", "_law_one", "_law_due", "_law_other", "_law_longest_here"]
def sc_f__law_right : Scope := defScope (top 58)
noncomputable def d_f__law_right (Φ : Phi) : DS :=
 (sSeq (sSet 1 (eFrz (eTup (daCons (eOfV (vC (.int 1))) (daCons (eOfV (vC (.int 1))) (daCons (eOfV (vC (.int 1))) (daCons (eBin .Add (eOfV (vC (.int 2))) (eCallU Φ.f__law_draw [0] [some 0, none] [] (daCons (eMove 0) (daCons (eOfV (vC (.int 3))) daNil)))) daNil)))))))
 (sSeq (sTupAsg 3 (daCons (eOfN (nLst nsNil)) (daCons (eOfN (nLst nsNil)) (daCons (eOfN (nLst nsNil)) daNil))) (boCons (bName 2) (boCons (bName 3) (boCons (bName 4) boNil))))
 (sSeq (sFor (iOfJ (jRng1 (vOfP (pIdx (pVar 1) (vC (.int 3)))))) (bName 5)
 (sSeq (sDrop (eAppendN 2 (eCallU Φ.f__law_body [0, 3] [some 0, none, none, none] [] (daCons (eMove 0) (daCons (eOfV (vOfP (pVar 1))) (daCons (eOfV (vC (.int 2))) (daCons (eOfN (nLst (nsCons (nOfV (vC (.int 4))) nsNil))) daNil)))))))
 (sIf (beCmp .Eq (eCallU Φ.f__law_draw [0] [some 0, none] [] (daCons (eMove 0) (daCons (eOfV (vC (.int 2))) daNil))) (eOfV (vC (.int 0))))
 (sAsg (eBin .Add (eOfV (vOfP (pIdx (pVar 2) (vNeg (vC (.int 1)))))) (eTup (daCons (eTup (daCons (eOfV (vC (.str "call"))) (daCons (eCallU Φ.f__law_draw [0] [some 0, none] [] (daCons (eMove 0) (daCons (eOfV (vOfP (pIdx (pVar 1) (vC (.int 3))))) daNil))) daNil))) daNil))) (bSub (pVar 2) (vNeg (vC (.int 1)))))
 sNil)))
 (sSeq (sFor (iRng1 (eBin .Add (eOfV (vC (.int 1))) (eCallU Φ.f__law_draw [0] [some 0, none] [] (daCons (eMove 0) (daCons (eOfV (vC (.int 3))) daNil))))) (bName 6)
 (sDrop (eAppendN 3 (eCallU Φ.f__law_draw [0] [some 0, none] [] (daCons (eMove 0) (daCons (eOfV (vOfP (pIdx (pVar 1) (vC (.int 3))))) daNil))))))
 (sSeq (sTupAsg 2 (daCons (eFrz (eCallU Φ.f__law_made [] [none] [] (daCons (eTup (daCons (eOfV (vOfP (pVar 1))) (daCons (eVar 2) (daCons (eVar 3) daNil)))) daNil))) (daCons (eOfV (vOfN (nComp (jSeq (vOfP (pVar 2))) [9] (bName 9) bTrue (nCallU Φ.f__law_calls [] (asCons (vOfP (pVar 9)) asNil))))) daNil)) (boCons (bName 7) (boCons (bName 8) boNil)))
 (sSeq (sSet 10 (eOfN (nCallU Φ.f_calls_of [] (asCons (vOfP (pVar 7)) asNil))))
 (sSeq (sIf (beOfB (bCmp .NotEq (qOfP (pVar 10)) (qOfP (pVar 8))))
 (sRet (eOfN (nOfV (vC (.bl false)))))
 sNil)
 (sSeq (sDrop (eAppend (pIdx (pVar 10) (vC (.int 0))) (nOfV (vC .non))))
 (sSeq (sFor (iEnum (eVar 3)) (bTup 2 (btCons (bName 6) (btCons (bName 5) btNil)))
 (sSeq (sSet 11 (eOfV (vOfN (nCallU Φ.f_reached [] (asCons (vOfP (pVar 7)) (asCons (vOfP (pVar 6)) asNil))))))
 (sSeq (sIf (beOfB (bOr (bCmp .NotEq (qOfP (pVar 11)) (vOfN (nCallU Φ.f__law_come [] (asCons (vOfP (pVar 8)) (asCons (vOfP (pVar 5)) asNil))))) (bCmp .NotEq (vOfN (nCallU Φ.f_calls_of [] (asCons (vOfP (pVar 7)) asNil))) (qOfP (pVar 8)))))
 (sRet (eOfN (nOfV (vC (.bl false)))))
 sNil)
 (sDrop (eExtend (pVar 4) (vOfN (nComp (jSeq (vOfP (pVar 11))) [12] (bName 12) (bCmp .NotIn (qOfP (pVar 12)) (qOfP (pVar 4))) (nOfV (vOfP (pVar 12))))))))))
 (sSeq (sSet 13 (eOfV (vC (.bl false))))
 (sSeq (sFor (iSeq (eVar 4)) (bName 12)
 (sSet 13 (eOfV (vOfB (bOr (bOfV (vOfP (pVar 13))) (bOfV (vOfN (nCallB anyF (asCons (vOfN (nComp (jSeq (vOfP (pIdx (pVar 8) (vOfP (pVar 12))))) [14] (bName 14) bTrue (nOfV (vOfB (bCmp .In (qOfP (pVar 12)) (vOfN (nCallU Φ.f__law_come [] (asCons (vOfP (pVar 8)) (asCons (vOfP (pVar 14)) asNil))))))))) asNil)))))))))
 (sSeq (sIf (beOfB (bCmp .NotEq (vOfN (nCallB reprF (asCons (vOfN (nCallU Φ.f_is_recursive [] (asCons (vOfP (pVar 7)) asNil))) asNil))) (vOfN (nCallB reprF (asCons (qOfP (pVar 13)) asNil)))))
 (sRet (eOfN (nOfV (vC (.bl false)))))
 sNil)
 (sSeq (sSet 15 (eOfV (vOfN (nCallB maxF (asCons (vOfN (nComp (jSeq (vOfP (pVar 3))) [5] (bName 5) bTrue (nCallU Φ.f__law_longest [] (asCons (vOfP (pVar 8)) (asCons (vOfN (nLst (nsCons (nOfV (vOfP (pVar 5))) nsNil))) asNil))))) asNil)))))
 (sRet (eOfN (nOfV (vOfB (bCmp .Eq (vOfN (nCallB reprF (asCons (vOfN (nCallU Φ.f_deepest [] (asCons (vOfP (pVar 7)) asNil))) asNil))) (vOfN (nCallB reprF (asCons (vIf (bOfV (vOfP (pVar 13))) (vC .non) (vOfP (pVar 15))) asNil)))))))))))))))))))))
theorem w_f__law_right {C : VS.Ctx} {k : Nat} {Φ : Phi} (St : Stat C) (Fs : Facts C k Φ) {X : Cx} (h : XOk C k X N_f__law_right sc_f__law_right N_f__law_right) : PSs X (defBody (top 58)) (rdS C.g [0] (d_f__law_right Φ)) := by
  have v0 : ∀ {p : Pos}, PE X (.Name "_law_pot_here" p) (tVar 0) := h.tv (by decide +kernel)
  have v1 : ∀ {p : Pos}, PE X (.Name "_law_shape" p) (tVar 1) := h.tv (by decide +kernel)
  have v2 : ∀ {p : Pos}, PE X (.Name "_law_bodies" p) (tVar 2) := h.tv (by decide +kernel)
  have v3 : ∀ {p : Pos}, PE X (.Name "_law_threads" p) (tVar 3) := h.tv (by decide +kernel)
  have v4 : ∀ {p : Pos}, PE X (.Name "_law_more" p) (tVar 4) := h.tv (by decide +kernel)
  have v5 : ∀ {p : Pos}, PE X (.Name "_law_procedure" p) (tVar 5) := h.tv (by decide +kernel)
  have v6 : ∀ {p : Pos}, PE X (.Name "_law_thread" p) (tVar 6) := h.tv (by decide +kernel)
  have v7 : ∀ {p : Pos}, PE X (.Name "_law_program" p) (tVar 7) := h.tv (by decide +kernel)
  have v8 : ∀ {p : Pos}, PE X (.Name "_law_calls_here" p) (tVar 8) := h.tv (by decide +kernel)
  have v10 : ∀ {p : Pos}, PE X (.Name "_law_told" p) (tVar 10) := h.tv (by decide +kernel)
  have v11 : ∀ {p : Pos}, PE X (.Name "_law_come_here" p) (tVar 11) := h.tv (by decide +kernel)
  have v12 : ∀ {p : Pos}, PE X (.Name "_law_one" p) (tVar 12) := h.tv (by decide +kernel)
  have v13 : ∀ {p : Pos}, PE X (.Name "_law_due" p) (tVar 13) := h.tv (by decide +kernel)
  have v15 : ∀ {p : Pos}, PE X (.Name "_law_longest_here" p) (tVar 15) := h.tv (by decide +kernel)
  exact (qsCons (qSet h.ndX (h.tgA (i := 1) (x := "_law_shape") (by decide +kernel)).1 (h.tgA (i := 1) (x := "_law_shape") (by decide +kernel)).2.1 (pe_frz (pe_tup' (paCons (pe_v kI) (paCons (pe_v kI) (paCons (pe_v kI) (paCons (pe_bin' h.eK (pe_v kI) (pe_callU (h.gl (by decide +kernel)) (h.cal Fs.f__law_draw_0) (paMove v0 (paCons (pe_v kI) paNil (star_cons rfl)) (star_cons rfl)) rfl Fs.f__law_draw_0.nd (by decide) (lenC (lenC lenN)))) paNil (star_cons rfl)) (star_cons rfl)) (star_cons rfl)) (star_cons rfl)))) rfl (h.tgA (i := 1) (x := "_law_shape") (by decide +kernel)).2.2 rfl)
 (qsCons (qTupAsg h.eK h.calm (paCons (pe_n (pn_lst pan_nil)) (paCons (pe_n (pn_lst pan_nil)) (paCons (pe_n (pn_lst pan_nil)) paNil (star_cons rfl)) (star_cons rfl)) (star_cons rfl)) (pgsoCons (h.tg (i := 2) (by decide +kernel)) (pgsoCons (h.tg (i := 3) (by decide +kernel)) (pgsoCons (h.tg (i := 4) (by decide +kernel)) pgsoNil rfl) rfl) rfl) rfl rfl rfl rfl (h.st (by kernel_rfl)) rfl)
 (qsCons (qFor h.pass h.calm (pi_j (pj_rng1 (h.blt St.b_range (by decide +kernel)).gl (h.blt St.b_range (by decide +kernel)).mg (pv_p (pp_ix h.eK (pp_var v1) kI (fun _ _ => rfl))) rfl)) (h.tq (i := 5) (by decide +kernel))
 (qsCons (qDrop (mAppendN v2 (pe_callU (h.gl (by decide +kernel)) (h.cal Fs.f__law_body_0) (paMove v0 (paCons (pe_v (pv_p (pp_var v1))) (paCons (pe_v kI) (paCons (pe_n (pn_lst (pan_cons (pn_v kI) pan_nil (star_cons rfl)))) paNil (star_cons rfl)) (star_cons rfl)) (star_cons rfl)) (star_cons rfl)) rfl Fs.f__law_body_0.nd (by decide) (lenC (lenC (lenC (lenC lenN))))) rfl rfl rfl rfl))
 (qsOne (qIf (pt_cmpE h.eK h.units (pe_callU (h.gl (by decide +kernel)) (h.cal Fs.f__law_draw_0) (paMove v0 (paCons (pe_v kI) paNil (star_cons rfl)) (star_cons rfl)) rfl Fs.f__law_draw_0.nd (by decide) (lenC (lenC lenN))) (pe_v kI) rfl)
 (qsOne (qAsg (pe_bin' h.eK (pe_v (pv_p (pp_ix h.eK (pp_var v2) (pv_neg kI) (fun _ _ => rfl)))) (pe_tup' (paCons (pe_tup' (paCons (pe_v kS) (paCons (pe_callU (h.gl (by decide +kernel)) (h.cal Fs.f__law_draw_0) (paMove v0 (paCons (pe_v (pv_p (pp_ix h.eK (pp_var v1) kI (fun _ _ => rfl)))) paNil (star_cons rfl)) (star_cons rfl)) rfl Fs.f__law_draw_0.nd (by decide) (lenC (lenC lenN))) paNil (star_cons rfl)) (star_cons rfl))) paNil (star_cons rfl)))) (pgSub (pp_var v2) (pv_neg kI) (fun _ => rfl)) rfl rfl rfl rfl))
 qsNil))) rfl)
 (qsCons (qFor h.pass h.calm (pi_rng1 (h.blt St.b_range (by decide +kernel)).gl (h.blt St.b_range (by decide +kernel)).mg (pe_bin' h.eK (pe_v kI) (pe_callU (h.gl (by decide +kernel)) (h.cal Fs.f__law_draw_0) (paMove v0 (paCons (pe_v kI) paNil (star_cons rfl)) (star_cons rfl)) rfl Fs.f__law_draw_0.nd (by decide) (lenC (lenC lenN)))) rfl) (h.tq (i := 6) (by decide +kernel))
 (qsOne (qDrop (mAppendN v3 (pe_callU (h.gl (by decide +kernel)) (h.cal Fs.f__law_draw_0) (paMove v0 (paCons (pe_v (pv_p (pp_ix h.eK (pp_var v1) kI (fun _ _ => rfl)))) paNil (star_cons rfl)) (star_cons rfl)) rfl Fs.f__law_draw_0.nd (by decide) (lenC (lenC lenN))) rfl rfl rfl rfl))) rfl)
 (qsCons (qTupAsg h.eK h.calm (paCons (pe_frz (pe_callU (h.gl (by decide +kernel)) (h.cal Fs.f__law_made_0) (paCons (pe_tup' (paCons (pe_v (pv_p (pp_var v1))) (paCons (pe_var' v2) (paCons (pe_var' v3) paNil (star_cons rfl)) (star_cons rfl)) (star_cons rfl))) paNil (star_cons rfl)) rfl Fs.f__law_made_0.nd (by decide) (lenC lenN))) (paCons (pe_v (pv_n (pn_lc (own := [("_law_body_here", 9)]) h.calm h.ndX (pj_seq h.eK (pv_p (pp_var v2))) (h.bk (by decide +kernel)) (fun s_ H_ C_ cl_ fp_ => have h1 := h.blk s_ H_ C_ cl_ fp_; (h1.tq (i := 9) (by decide +kernel))) (fun _ _ _ _ _ => ptsT) (fun s_ H_ C_ cl_ fp_ => have h1 := h.blk s_ H_ C_ cl_ fp_; (pn_callU (h1.gl (by decide +kernel)) (h1.cal Fs.f__law_calls_0) (pav_cons (pv_p (pp_var (h1.tv (i := 9) (by decide +kernel)))) pav_nil (star_cons rfl)) rfl Fs.f__law_calls_0.nd)) rfl))) paNil (star_cons rfl)) (star_cons rfl)) (pgsoCons (h.tg (i := 7) (by decide +kernel)) (pgsoCons (h.tg (i := 8) (by decide +kernel)) pgsoNil rfl) rfl) rfl rfl rfl rfl (h.st (by kernel_rfl)) rfl)
 (qsCons (qSet h.ndX (h.tgA (i := 10) (x := "_law_told") (by decide +kernel)).1 (h.tgA (i := 10) (x := "_law_told") (by decide +kernel)).2.1 (pe_n (pn_callU (h.gl (by decide +kernel)) (h.cal Fs.f_calls_of_0) (pav_cons (pv_p (pp_var v7)) pav_nil (star_cons rfl)) rfl Fs.f_calls_of_0.nd)) rfl (h.tgA (i := 10) (x := "_law_told") (by decide +kernel)).2.2 rfl)
 (qsCons (qIf (pbe_b (pt_cmpv h.eK h.units (pq_p (pp_var v10)) (pq_p (pp_var v8)) rfl))
 (qsOne (qRet (pe_n (pn_v kB))))
 qsNil)
 (qsCons (qDrop (mAppend (pp_ix h.eK (pp_var v10) kI (fun _ _ => rfl)) (pn_v kN) rfl rfl rfl rfl))
 (qsCons (qFor h.pass h.calm (pi_enum' (h.blt St.b_enumerate (by decide +kernel)).gl (h.blt St.b_enumerate (by decide +kernel)).mg (pe_var' v3) rfl) (pgqTup h.eK h.calm (pgsqCons (h.tq (i := 6) (by decide +kernel)) (pgsqCons (h.tq (i := 5) (by decide +kernel)) pgsqNil rfl) rfl) rfl rfl)
 (qsCons (qSet h.ndX (h.tgA (i := 11) (x := "_law_come_here") (by decide +kernel)).1 (h.tgA (i := 11) (x := "_law_come_here") (by decide +kernel)).2.1 (pe_v (pv_n (pn_callU (h.gl (by decide +kernel)) (h.cal Fs.f_reached_0) (pav_cons (pv_p (pp_var v7)) (pav_cons (pv_p (pp_var v6)) pav_nil (star_cons rfl)) (star_cons rfl)) rfl Fs.f_reached_0.nd))) rfl (h.tgA (i := 11) (x := "_law_come_here") (by decide +kernel)).2.2 rfl)
 (qsCons (qIf (pbe_b (pwb_or (pt_cmpv h.eK h.units (pq_p (pp_var v11)) (pq_v (pv_n (pn_callU (h.gl (by decide +kernel)) (h.cal Fs.f__law_come_0) (pav_cons (pv_p (pp_var v8)) (pav_cons (pv_p (pp_var v5)) pav_nil (star_cons rfl)) (star_cons rfl)) rfl Fs.f__law_come_0.nd))) rfl) (pwb_one (pt_cmpv h.eK h.units (pq_v (pv_n (pn_callK1 (h.gl (by decide +kernel)) (h.calK Fs.k_calls_of_program) (pv_p (pp_var v7))))) (pq_p (pp_var v8)) rfl))).pt)
 (qsOne (qRet (pe_n (pn_v kB))))
 qsNil)
 (qsOne (qDrop (mExtend (pp_var v4) (pv_n (pn_lc (own := [("_law_one", 12)]) h.calm h.ndX (pj_seq h.eK (pv_p (pp_var v11))) (h.bk (by decide +kernel)) (fun s_ H_ C_ cl_ fp_ => have h1 := h.blk s_ H_ C_ cl_ fp_; (h1.tq (i := 12) (by decide +kernel))) (fun s_ H_ C_ cl_ fp_ => have h1 := h.blk s_ H_ C_ cl_ fp_; (pts1 (pt_cmpv h1.eK h1.units (pq_p (pp_var (h1.tv (i := 12) (by decide +kernel)))) (pq_p (pp_var (h1.tv (i := 4) (by decide +kernel)))) rfl))) (fun s_ H_ C_ cl_ fp_ => have h1 := h.blk s_ H_ C_ cl_ fp_; (pn_v (pv_p (pp_var (h1.tv (i := 12) (by decide +kernel)))))) rfl)) rfl rfl rfl rfl))))) rfl)
 (qsCons (qSet h.ndX (h.tgA (i := 13) (x := "_law_due") (by decide +kernel)).1 (h.tgA (i := 13) (x := "_law_due") (by decide +kernel)).2.1 (pe_v kB) rfl (h.tgA (i := 13) (x := "_law_due") (by decide +kernel)).2.2 rfl)
 (qsCons (qFor h.pass h.calm (pi_seq h.eK (pe_var' v4)) (h.tq (i := 12) (by decide +kernel))
 (qsOne (qSet h.ndX (h.tgA (i := 13) (x := "_law_due") (by decide +kernel)).1 (h.tgA (i := 13) (x := "_law_due") (by decide +kernel)).2.1 (pe_v (pvb_or (pvb_v (pv_p (pp_var v13))) (pvb_one (pvb_v (pv_n (pn_callBQ rfl (h.blt St.b_any (by decide +kernel)) (bq_any h.calm) (paq_cons (pq_v (pv_n (pn_lc (own := [("_law_other", 14)]) h.calm h.ndX (pj_seq h.eK (pv_p (pp_ix h.eK (pp_var v8) (pv_p (pp_var v12)) (fun _ _ => rfl)))) (h.bk (by decide +kernel)) (fun s_ H_ C_ cl_ fp_ => have h1 := h.blk s_ H_ C_ cl_ fp_; (h1.tq (i := 14) (by decide +kernel))) (fun _ _ _ _ _ => ptsT) (fun s_ H_ C_ cl_ fp_ => have h1 := h.blk s_ H_ C_ cl_ fp_; (pn_v (pv_cmpv h1.eK h1.units (pq_p (pp_var (h1.tv (i := 12) (by decide +kernel)))) (pq_v (pv_n (pn_callU (h1.gl (by decide +kernel)) (h1.cal Fs.f__law_come_0) (pav_cons (pv_p (pp_var (h1.tv (i := 8) (by decide +kernel)))) (pav_cons (pv_p (pp_var (h1.tv (i := 14) (by decide +kernel)))) pav_nil (star_cons rfl)) (star_cons rfl)) rfl Fs.f__law_come_0.nd))) rfl))) rfl))) paq_nil (star_cons rfl)) rfl)))))) rfl (h.tgA (i := 13) (x := "_law_due") (by decide +kernel)).2.2 rfl)) rfl)
 (qsCons (qIf (pbe_b (pt_cmpv h.eK h.units (pq_v (pv_n (pn_callBQ rfl (h.blt St.b_repr (by decide +kernel)) bq_repr (paq_cons (pq_v (pv_n (pn_callU (h.gl (by decide +kernel)) (h.cal Fs.f_is_recursive_0) (pav_cons (pv_p (pp_var v7)) pav_nil (star_cons rfl)) rfl Fs.f_is_recursive_0.nd))) paq_nil (star_cons rfl)) rfl))) (pq_v (pv_n (pn_callBQ rfl (h.blt St.b_repr (by decide +kernel)) bq_repr (paq_cons (pq_p (pp_var v13)) paq_nil (star_cons rfl)) rfl))) rfl))
 (qsOne (qRet (pe_n (pn_v kB))))
 qsNil)
 (qsCons (qSet h.ndX (h.tgA (i := 15) (x := "_law_longest_here") (by decide +kernel)).1 (h.tgA (i := 15) (x := "_law_longest_here") (by decide +kernel)).2.1 (pe_v (pv_n (pn_callBQ rfl (h.blt St.b_max (by decide +kernel)) (bq_max h.calm) (paq_cons (pq_v (pv_n (pn_lc (own := [("_law_procedure", 5)]) h.calm h.ndX (pj_seq h.eK (pv_p (pp_var v3))) (h.bk (by decide +kernel)) (fun s_ H_ C_ cl_ fp_ => have h1 := h.blk s_ H_ C_ cl_ fp_; (h1.tq (i := 5) (by decide +kernel))) (fun _ _ _ _ _ => ptsT) (fun s_ H_ C_ cl_ fp_ => have h1 := h.blk s_ H_ C_ cl_ fp_; (pn_callU (h1.gl (by decide +kernel)) (h1.cal Fs.f__law_longest_0) (pav_cons (pv_p (pp_var (h1.tv (i := 8) (by decide +kernel)))) (pav_cons (pv_n (pn_lst (pan_cons (pn_v (pv_p (pp_var (h1.tv (i := 5) (by decide +kernel))))) pan_nil (star_cons rfl)))) pav_nil (star_cons rfl)) (star_cons rfl)) rfl Fs.f__law_longest_0.nd)) rfl))) paq_nil (star_cons rfl)) rfl))) rfl (h.tgA (i := 15) (x := "_law_longest_here") (by decide +kernel)).2.2 rfl)
 (qsOne (qRet (pe_n (pn_v (pv_cmpv h.eK h.units (pq_v (pv_n (pn_callBQ rfl (h.blt St.b_repr (by decide +kernel)) bq_repr (paq_cons (pq_v (pv_n (pn_callU (h.gl (by decide +kernel)) (h.cal Fs.f_deepest_0) (pav_cons (pv_p (pp_var v7)) pav_nil (star_cons rfl)) rfl Fs.f_deepest_0.nd))) paq_nil (star_cons rfl)) rfl))) (pq_v (pv_n (pn_callBQ rfl (h.blt St.b_repr (by decide +kernel)) bq_repr (paq_cons (pq_v (pv_if (ptb_v (pv_p (pp_var v13)) (fun _ => rfl)) kN (pv_p (pp_var v15)))) paq_nil (star_cons rfl)) rfl))) rfl))))))))))))))))))
def N_f__law_pot : List Str := ["_law_script", "_law_k", "_law_cell"]
def sc_f__law_pot : Scope := defScope (top 49)
noncomputable def d_f__law_pot (Φ : Phi) : DS :=
 (sSeq (sSet 2 (eOfV (vIf (bCmp .Lt (qOfP (pVar 1)) (vOfN (nCallB lenF (asCons (qOfP (pVar 0)) asNil)))) (vOfN (nCallB absF (asCons (qOfP (pIdx (pVar 0) (vOfP (pVar 1)))) asNil))) (vBin .Add (vBin .Mult (vC (.int 127)) (vOfP (pVar 1))) (vC (.int 73))))))
 (sRet (eOfN (nLst (nsCons (nCallB maxF (asCons (vC (.int 0)) (asCons (vBin .Sub (vOfP (pVar 2)) (vBin .Pow (vC (.int 10)) (vC (.int 18)))) asNil))) (nsCons (nBin .Add (vBin .Mod (vOfN (nCallB intF (asCons (vBin .Add (vBin .Add (vBin .Mult (vBin .Mod (vOfN (nCallB intF (asCons (qOfP (pVar 2)) asNil))) (vC (.int 2147483549))) (vC (.int 38737))) (vBin .Mult (vC (.int 4001)) (vOfP (pVar 1)))) (vC (.int 101))) asNil))) (vC (.int 2147483563))) (vC (.int 1))) nsNil))))))
theorem w_f__law_pot {C : VS.Ctx} {k : Nat} {Φ : Phi} (St : Stat C) (Fs : Facts C k Φ) {X : Cx} (h : XOk C k X N_f__law_pot sc_f__law_pot N_f__law_pot) : PSs X (defBody (top 49)) (rdS C.g [] (d_f__law_pot Φ)) := by
  have v0 : ∀ {p : Pos}, PE X (.Name "_law_script" p) (tVar 0) := h.tv (by decide +kernel)
  have v1 : ∀ {p : Pos}, PE X (.Name "_law_k" p) (tVar 1) := h.tv (by decide +kernel)
  have v2 : ∀ {p : Pos}, PE X (.Name "_law_cell" p) (tVar 2) := h.tv (by decide +kernel)
  exact (qsCons (qSet h.ndX (h.tgA (i := 2) (x := "_law_cell") (by decide +kernel)).1 (h.tgA (i := 2) (x := "_law_cell") (by decide +kernel)).2.1 (pe_v (pv_if (pt_cmpv h.eK h.units (pq_p (pp_var v1)) (pq_v (pv_n (pn_callBQ rfl (h.blt St.b_len (by decide +kernel)) (bq_len h.eK) (paq_cons (pq_p (pp_var v0)) paq_nil (star_cons rfl)) rfl))) rfl) (pv_n (pn_callBQ rfl (h.blt St.b_abs (by decide +kernel)) bq_abs (paq_cons (pq_p (pp_ix h.eK (pp_var v0) (pv_p (pp_var v1)) (fun _ _ => rfl))) paq_nil (star_cons rfl)) rfl)) (pv_bin h.eK (pv_bin h.eK kI (pv_p (pp_var v1))) kI))) rfl (h.tgA (i := 2) (x := "_law_cell") (by decide +kernel)).2.2 rfl)
 (qsOne (qRet (pe_n (pn_lst (pan_cons (pn_callBQ rfl (h.blt St.b_max (by decide +kernel)) (bq_max h.calm) (paq_cons (pq_v kI) (paq_cons (pq_v (pv_bin h.eK (pv_p (pp_var v2)) (pv_bin h.eK kI kI))) paq_nil (star_cons rfl)) (star_cons rfl)) rfl) (pan_cons (pn_bin h.eK (pv_bin h.eK (pv_n (pn_callBQ rfl (h.blt St.b_int (by decide +kernel)) bq_int (paq_cons (pq_v (pv_bin h.eK (pv_bin h.eK (pv_bin h.eK (pv_bin h.eK (pv_n (pn_callBQ rfl (h.blt St.b_int (by decide +kernel)) bq_int (paq_cons (pq_p (pp_var v2)) paq_nil (star_cons rfl)) rfl)) kI) kI) (pv_bin h.eK kI (pv_p (pp_var v1)))) kI)) paq_nil (star_cons rfl)) rfl)) kI) kI) pan_nil (star_cons rfl)) (star_cons rfl)))))))
def N_f_law : List Str := ["_law_script"]
def sc_f_law : Scope := defScope (top 59)
noncomputable def d_f_law (Φ : Phi) : DS :=
 (sRet (eCallU Φ.f__law_right [0] [none] [] (daCons (eOfN (nCallU Φ.f__law_pot [] (asCons (vOfP (pVar 0)) (asCons (vC (.int 0)) asNil)))) daNil)))
theorem w_f_law {C : VS.Ctx} {k : Nat} {Φ : Phi} (St : Stat C) (Fs : Facts C k Φ) {X : Cx} (h : XOk C k X N_f_law sc_f_law N_f_law) : PSs X (defBody (top 59)) (rdS C.g [] (d_f_law Φ)) := by
  have v0 : ∀ {p : Pos}, PE X (.Name "_law_script" p) (tVar 0) := h.tv (by decide +kernel)
  exact (qsOne (qRet (pe_callU (h.gl (by decide +kernel)) (h.cal Fs.f__law_right_0) (paCons (pe_n (pn_callU (h.gl (by decide +kernel)) (h.cal Fs.f__law_pot_0) (pav_cons (pv_p (pp_var v0)) (pav_cons kI pav_nil (star_cons rfl)) (star_cons rfl)) rfl Fs.f__law_pot_0.nd)) paNil (star_cons rfl)) rfl Fs.f__law_right_0.nd (by decide) (lenC lenN))))
def N_m_Program_bodies : List Str := ["self"]
def sc_m_Program_bodies : Scope := defScope (inClass (top 34) 4)
noncomputable def d_m_Program_bodies (Φ : Phi) : DS :=
 (sRet (eOfN (nCallB listF (asCons (vOfP (pAttr nCls nFld 3 (pVar 0))) asNil))))
theorem w_m_Program_bodies {C : VS.Ctx} {k : Nat} {Φ : Phi} (St : Stat C) (Fs : Facts C k Φ) {X : Cx} (h : XOk C k X N_m_Program_bodies sc_m_Program_bodies N_m_Program_bodies) : PSs X (defBody (inClass (top 34) 4)) (rdS C.g [] (d_m_Program_bodies Φ)) := by
  have v0 : ∀ {p : Pos}, PE X (.Name "self" p) (tVar 0) := h.tv (by decide +kernel)
  exact (qsOne (qRet (pe_n (pn_callBV rfl (h.blt St.b_list (by decide +kernel)) (bv_list h.eK) (pav_cons (pv_p (pp_attr h.eK St.gok St.fld_own_bodies (pp_var v0) rfl)) pav_nil (star_cons rfl)) rfl))))
def N_m_Program_threads : List Str := ["self"]
def sc_m_Program_threads : Scope := defScope (inClass (top 34) 5)
noncomputable def d_m_Program_threads (Φ : Phi) : DS :=
 (sRet (eOfN (nCallB listF (asCons (vOfP (pAttr nCls nFld 4 (pVar 0))) asNil))))
theorem w_m_Program_threads {C : VS.Ctx} {k : Nat} {Φ : Phi} (St : Stat C) (Fs : Facts C k Φ) {X : Cx} (h : XOk C k X N_m_Program_threads sc_m_Program_threads N_m_Program_threads) : PSs X (defBody (inClass (top 34) 5)) (rdS C.g [] (d_m_Program_threads Φ)) := by
  have v0 : ∀ {p : Pos}, PE X (.Name "self" p) (tVar 0) := h.tv (by decide +kernel)
  exact (qsOne (qRet (pe_n (pn_callBV rfl (h.blt St.b_list (by decide +kernel)) (bv_list h.eK) (pav_cons (pv_p (pp_attr h.eK St.gok St.fld_own_threads (pp_var v0) rfl)) pav_nil (star_cons rfl)) rfl))))
end VW
namespace VW
open PySem L2 VS
noncomputable def nxt (Φ : Phi) : Phi where
  f_calls_within := runF 1 3 [] (d_f_calls_within Φ)
  f_calls_by_bodies := runF 1 2 [] (d_f_calls_by_bodies Φ)
  f_is_integer := runF 1 1 [] (d_f_is_integer Φ)
  f_is_count := runF 1 1 [] (d_f_is_count Φ)
  f_is_number_to := runF 3 3 [] (d_f_is_number_to Φ)
  f_is_list := runF 1 1 [] (d_f_is_list Φ)
  f_is_statement_of := runF 3 8 [] (d_f_is_statement_of Φ)
  f_is_body_of := runF 3 4 [] (d_f_is_body_of Φ)
  f_are_bodies := runF 4 6 [] (d_f_are_bodies Φ)
  f_are_threads := runF 2 3 [] (d_f_are_threads Φ)
  f_bodies_of := runF 1 2 [] (d_f_bodies_of Φ)
  f_body_size := runF 1 3 [] (d_f_body_size Φ)
  f_statements_in := runF 1 2 [] (d_f_statements_in Φ)
  m_Program_init := runF 6 6 [0] (d_m_Program_init Φ)
  f_want_program := runF 1 1 [] (d_f_want_program Φ)
  f_calls_of := runF 1 1 [] (d_f_calls_of Φ)
  f__law_made := runF 1 4 [] (d_f__law_made Φ)
  f_want_thread := runF 2 2 [] (d_f_want_thread Φ)
  f_come_to := runF 2 7 [] (d_f_come_to Φ)
  f_reached := runF 2 3 [] (d_f_reached Φ)
  f__law_draw := runF 2 3 [0] (d_f__law_draw Φ)
  f__law_pick := runF 2 2 [0] (d_f__law_pick Φ)
  f__law_statement := runF 4 13 [0, 3] (d_f__law_statement Φ)
  f__law_body := runF 4 6 [0, 3] (d_f__law_body Φ)
  f__law_calls := runF 1 4 [] (d_f__law_calls Φ)
  f_is_in_ring := runF 2 3 [] (d_f_is_in_ring Φ)
  f_come_to_by_threads := runF 2 4 [] (d_f_come_to_by_threads Φ)
  f_is_recursive := runF 1 4 [] (d_f_is_recursive Φ)
  f__law_longest := runF 2 4 [] (d_f__law_longest Φ)
  f_longest_row := runF 2 3 [] (d_f_longest_row Φ)
  f_deepest := runF 1 3 [] (d_f_deepest Φ)
  f__law_come := runF 2 6 [] (d_f__law_come Φ)
  f__law_right := runF 1 16 [0] (d_f__law_right Φ)
  f__law_pot := runF 2 3 [] (d_f__law_pot Φ)
  f_law := runF 1 1 [] (d_f_law Φ)
  m_Program_bodies := runF 1 1 [] (d_m_Program_bodies Φ)
  m_Program_threads := runF 1 1 [] (d_m_Program_threads Φ)
  mk_Program := Φ.m_Program_init
def bot : Phi where
  f_calls_within := fun _ => none
  f_calls_by_bodies := fun _ => none
  f_is_integer := fun _ => none
  f_is_count := fun _ => none
  f_is_number_to := fun _ => none
  f_is_list := fun _ => none
  f_is_statement_of := fun _ => none
  f_is_body_of := fun _ => none
  f_are_bodies := fun _ => none
  f_are_threads := fun _ => none
  f_bodies_of := fun _ => none
  f_body_size := fun _ => none
  f_statements_in := fun _ => none
  m_Program_init := fun _ => none
  f_want_program := fun _ => none
  f_calls_of := fun _ => none
  f__law_made := fun _ => none
  f_want_thread := fun _ => none
  f_come_to := fun _ => none
  f_reached := fun _ => none
  f__law_draw := fun _ => none
  f__law_pick := fun _ => none
  f__law_statement := fun _ => none
  f__law_body := fun _ => none
  f__law_calls := fun _ => none
  f_is_in_ring := fun _ => none
  f_come_to_by_threads := fun _ => none
  f_is_recursive := fun _ => none
  f__law_longest := fun _ => none
  f_longest_row := fun _ => none
  f_deepest := fun _ => none
  f__law_come := fun _ => none
  f__law_right := fun _ => none
  f__law_pot := fun _ => none
  f_law := fun _ => none
  m_Program_bodies := fun _ => none
  m_Program_threads := fun _ => none
  mk_Program := fun _ => none
structure Dfs (C : VS.Ctx) : Prop where
  f_calls_within : ∃ f fd, FunD C.g.K "calls_within" "calls_within" (defArgs (top 38)) (defBody (top 38)) (defScope (top 38)) [] [] f fd ∧ C.mg "calls_within" = some (.ref f)
  f_calls_by_bodies : ∃ f fd, FunD C.g.K "calls_by_bodies" "calls_by_bodies" (defArgs (top 39)) (defBody (top 39)) (defScope (top 39)) [] [] f fd ∧ C.mg "calls_by_bodies" = some (.ref f)
  f_is_integer : ∃ f fd, FunD C.g.K "is_integer" "is_integer" (defArgs (top 12)) (defBody (top 12)) (defScope (top 12)) [] [] f fd ∧ C.mg "is_integer" = some (.ref f)
  f_is_count : ∃ f fd, FunD C.g.K "is_count" "is_count" (defArgs (top 13)) (defBody (top 13)) (defScope (top 13)) [] [] f fd ∧ C.mg "is_count" = some (.ref f)
  f_is_number_to : ∃ f fd, FunD C.g.K "is_number_to" "is_number_to" (defArgs (top 30)) (defBody (top 30)) (defScope (top 30)) [] [] f fd ∧ C.mg "is_number_to" = some (.ref f)
  f_is_list : ∃ f fd, FunD C.g.K "is_list" "is_list" (defArgs (top 14)) (defBody (top 14)) (defScope (top 14)) [] [] f fd ∧ C.mg "is_list" = some (.ref f)
  f_is_statement_of : ∃ f fd, FunD C.g.K "is_statement_of" "is_statement_of" (defArgs (top 19)) (defBody (top 19)) (defScope (top 19)) [] [] f fd ∧ C.mg "is_statement_of" = some (.ref f)
  f_is_body_of : ∃ f fd, FunD C.g.K "is_body_of" "is_body_of" (defArgs (top 20)) (defBody (top 20)) (defScope (top 20)) [V.int 6] [] f fd ∧ C.mg "is_body_of" = some (.ref f)
  f_are_bodies : ∃ f fd, FunD C.g.K "are_bodies" "are_bodies" (defArgs (top 31)) (defBody (top 31)) (defScope (top 31)) [] [] f fd ∧ C.mg "are_bodies" = some (.ref f)
  f_are_threads : ∃ f fd, FunD C.g.K "are_threads" "are_threads" (defArgs (top 32)) (defBody (top 32)) (defScope (top 32)) [] [] f fd ∧ C.mg "are_threads" = some (.ref f)
  f_bodies_of : ∃ f fd, FunD C.g.K "bodies_of" "bodies_of" (defArgs (top 21)) (defBody (top 21)) (defScope (top 21)) [] [] f fd ∧ C.mg "bodies_of" = some (.ref f)
  f_body_size : ∃ f fd, FunD C.g.K "body_size" "body_size" (defArgs (top 22)) (defBody (top 22)) (defScope (top 22)) [] [] f fd ∧ C.mg "body_size" = some (.ref f)
  f_statements_in : ∃ f fd, FunD C.g.K "statements_in" "statements_in" (defArgs (top 33)) (defBody (top 33)) (defScope (top 33)) [] [] f fd ∧ C.mg "statements_in" = some (.ref f)
  m_Program_init : ∃ f fd, FunD C.g.K "__init__" "Program.__init__" (defArgs (inClass (top 34) 0)) (defBody (inClass (top 34) 0)) (defScope (inClass (top 34) 0)) [] [] f fd ∧ Mk C.g.K (C.g.C 0) f ∧ C.mg "Program" = some (.ref (C.g.C 0))
  f_want_program : ∃ f fd, FunD C.g.K "want_program" "want_program" (defArgs (top 35)) (defBody (top 35)) (defScope (top 35)) [] [] f fd ∧ C.mg "want_program" = some (.ref f)
  f_calls_of : ∃ f fd, FunD C.g.K "calls_of" "calls_of" (defArgs (top 44)) (defBody (top 44)) (defScope (top 44)) [] [] f fd ∧ C.mg "calls_of" = some (.ref f)
  f__law_made : ∃ f fd, FunD C.g.K "_law_made" "_law_made" (defArgs (top 54)) (defBody (top 54)) (defScope (top 54)) [] [] f fd ∧ C.mg "_law_made" = some (.ref f)
  f_want_thread : ∃ f fd, FunD C.g.K "want_thread" "want_thread" (defArgs (top 36)) (defBody (top 36)) (defScope (top 36)) [] [] f fd ∧ C.mg "want_thread" = some (.ref f)
  f_come_to : ∃ f fd, FunD C.g.K "come_to" "come_to" (defArgs (top 40)) (defBody (top 40)) (defScope (top 40)) [] [] f fd ∧ C.mg "come_to" = some (.ref f)
  f_reached : ∃ f fd, FunD C.g.K "reached" "reached" (defArgs (top 46)) (defBody (top 46)) (defScope (top 46)) [] [] f fd ∧ C.mg "reached" = some (.ref f)
  f__law_draw : ∃ f fd, FunD C.g.K "_law_draw" "_law_draw" (defArgs (top 50)) (defBody (top 50)) (defScope (top 50)) [] [] f fd ∧ C.mg "_law_draw" = some (.ref f)
  f__law_pick : ∃ f fd, FunD C.g.K "_law_pick" "_law_pick" (defArgs (top 51)) (defBody (top 51)) (defScope (top 51)) [] [] f fd ∧ C.mg "_law_pick" = some (.ref f)
  f__law_statement : ∃ f fd, FunD C.g.K "_law_statement" "_law_statement" (defArgs (top 53)) (defBody (top 53)) (defScope (top 53)) [] [] f fd ∧ C.mg "_law_statement" = some (.ref f)
  f__law_body : ∃ f fd, FunD C.g.K "_law_body" "_law_body" (defArgs (top 52)) (defBody (top 52)) (defScope (top 52)) [] [] f fd ∧ C.mg "_law_body" = some (.ref f)
  f__law_calls : ∃ f fd, FunD C.g.K "_law_calls" "_law_calls" (defArgs (top 55)) (defBody (top 55)) (defScope (top 55)) [] [] f fd ∧ C.mg "_law_calls" = some (.ref f)
  f_is_in_ring : ∃ f fd, FunD C.g.K "is_in_ring" "is_in_ring" (defArgs (top 41)) (defBody (top 41)) (defScope (top 41)) [] [] f fd ∧ C.mg "is_in_ring" = some (.ref f)
  f_come_to_by_threads : ∃ f fd, FunD C.g.K "come_to_by_threads" "come_to_by_threads" (defArgs (top 42)) (defBody (top 42)) (defScope (top 42)) [] [] f fd ∧ C.mg "come_to_by_threads" = some (.ref f)
  f_is_recursive : ∃ f fd, FunD C.g.K "is_recursive" "is_recursive" (defArgs (top 45)) (defBody (top 45)) (defScope (top 45)) [] [] f fd ∧ C.mg "is_recursive" = some (.ref f)
  f__law_longest : ∃ f fd, FunD C.g.K "_law_longest" "_law_longest" (defArgs (top 57)) (defBody (top 57)) (defScope (top 57)) [] [] f fd ∧ C.mg "_law_longest" = some (.ref f)
  f_longest_row : ∃ f fd, FunD C.g.K "longest_row" "longest_row" (defArgs (top 43)) (defBody (top 43)) (defScope (top 43)) [] [] f fd ∧ C.mg "longest_row" = some (.ref f)
  f_deepest : ∃ f fd, FunD C.g.K "deepest" "deepest" (defArgs (top 47)) (defBody (top 47)) (defScope (top 47)) [] [] f fd ∧ C.mg "deepest" = some (.ref f)
  f__law_come : ∃ f fd, FunD C.g.K "_law_come" "_law_come" (defArgs (top 56)) (defBody (top 56)) (defScope (top 56)) [] [] f fd ∧ C.mg "_law_come" = some (.ref f)
  f__law_right : ∃ f fd, FunD C.g.K "_law_right" "_law_right" (defArgs (top 58)) (defBody (top 58)) (defScope (top 58)) [] [] f fd ∧ C.mg "_law_right" = some (.ref f)
  f__law_pot : ∃ f fd, FunD C.g.K "_law_pot" "_law_pot" (defArgs (top 49)) (defBody (top 49)) (defScope (top 49)) [] [] f fd ∧ C.mg "_law_pot" = some (.ref f)
  f_law : ∃ f fd, FunD C.g.K "law" "law" (defArgs (top 59)) (defBody (top 59)) (defScope (top 59)) [] [] f fd ∧ C.mg "law" = some (.ref f)
  m_Program_bodies : ∃ f fd, FunD C.g.K "bodies" "Program.bodies" (defArgs (inClass (top 34) 4)) (defBody (inClass (top 34) 4)) (defScope (inClass (top 34) 4)) [] [] f fd ∧ Meth C.g.K (C.g.C 0) "bodies" f
  m_Program_threads : ∃ f fd, FunD C.g.K "threads" "Program.threads" (defArgs (inClass (top 34) 5)) (defBody (inClass (top 34) 5)) (defScope (inClass (top 34) 5)) [] [] f fd ∧ Meth C.g.K (C.g.C 0) "threads" f
  cl_Program : Cls C.g.K (C.g.C 0)
  nof_m_Program_bodies : ∀ n, C.g.fn n ≠ "bodies"
  nof_m_Program_threads : ∀ n, C.g.fn n ≠ "threads"
section
variable {C : VS.Ctx} {k : Nat} {Φ : Phi}
theorem s_f_calls_within (St : Stat C) (Fs : Facts C k Φ) {f : Addr} {fd : FuncData} (F : FunD C.g.K "calls_within" "calls_within" (defArgs (top 38)) (defBody (top 38)) (defScope (top 38)) [] [] f fd) : FnOk C.P C.w C.g.K C.mg C.base CX0 (k + 1) f fd ["body"] (spF C.g [] (nxt Φ).f_calls_within) :=
  fn_walk (N := N_f_calls_within) F (by decide +kernel) (by decide +kernel) rfl (fun X h => w_f_calls_within St Fs h)
theorem s_f_calls_by_bodies (St : Stat C) (Fs : Facts C k Φ) {f : Addr} {fd : FuncData} (F : FunD C.g.K "calls_by_bodies" "calls_by_bodies" (defArgs (top 39)) (defBody (top 39)) (defScope (top 39)) [] [] f fd) : FnOk C.P C.w C.g.K C.mg C.base CX0 (k + 1) f fd ["program"] (spF C.g [] (nxt Φ).f_calls_by_bodies) :=
  fn_walk (N := N_f_calls_by_bodies) F (by decide +kernel) (by decide +kernel) rfl (fun X h => w_f_calls_by_bodies St Fs h)
theorem s_f_is_integer (St : Stat C) (Fs : Facts C k Φ) {f : Addr} {fd : FuncData} (F : FunD C.g.K "is_integer" "is_integer" (defArgs (top 12)) (defBody (top 12)) (defScope (top 12)) [] [] f fd) : FnOk C.P C.w C.g.K C.mg C.base CX0 (k + 1) f fd ["value"] (spF C.g [] (nxt Φ).f_is_integer) :=
  fn_walk (N := N_f_is_integer) F (by decide +kernel) (by decide +kernel) rfl (fun X h => w_f_is_integer St Fs h)
theorem s_f_is_count (St : Stat C) (Fs : Facts C k Φ) {f : Addr} {fd : FuncData} (F : FunD C.g.K "is_count" "is_count" (defArgs (top 13)) (defBody (top 13)) (defScope (top 13)) [] [] f fd) : FnOk C.P C.w C.g.K C.mg C.base CX0 (k + 1) f fd ["value"] (spF C.g [] (nxt Φ).f_is_count) :=
  fn_walk (N := N_f_is_count) F (by decide +kernel) (by decide +kernel) rfl (fun X h => w_f_is_count St Fs h)
theorem s_f_is_number_to (St : Stat C) (Fs : Facts C k Φ) {f : Addr} {fd : FuncData} (F : FunD C.g.K "is_number_to" "is_number_to" (defArgs (top 30)) (defBody (top 30)) (defScope (top 30)) [] [] f fd) : FnOk C.P C.w C.g.K C.mg C.base CX0 (k + 1) f fd ["value", "least", "most"] (spF C.g [] (nxt Φ).f_is_number_to) :=
  fn_walk (N := N_f_is_number_to) F (by decide +kernel) (by decide +kernel) rfl (fun X h => w_f_is_number_to St Fs h)
theorem s_f_is_list (St : Stat C) (Fs : Facts C k Φ) {f : Addr} {fd : FuncData} (F : FunD C.g.K "is_list" "is_list" (defArgs (top 14)) (defBody (top 14)) (defScope (top 14)) [] [] f fd) : FnOk C.P C.w C.g.K C.mg C.base CX0 (k + 1) f fd ["value"] (spF C.g [] (nxt Φ).f_is_list) :=
  fn_walk (N := N_f_is_list) F (by decide +kernel) (by decide +kernel) rfl (fun X h => w_f_is_list St Fs h)
theorem s_f_is_statement_of (St : Stat C) (Fs : Facts C k Φ) {f : Addr} {fd : FuncData} (F : FunD C.g.K "is_statement_of" "is_statement_of" (defArgs (top 19)) (defBody (top 19)) (defScope (top 19)) [] [] f fd) : FnOk C.P C.w C.g.K C.mg C.base CX0 (k + 1) f fd ["shape", "value", "deep"] (spF C.g [] (nxt Φ).f_is_statement_of) :=
  fn_walk (N := N_f_is_statement_of) F (by decide +kernel) (by decide +kernel) rfl (fun X h => w_f_is_statement_of St Fs h)
theorem s_f_is_body_of (St : Stat C) (Fs : Facts C k Φ) {f : Addr} {fd : FuncData} (F : FunD C.g.K "is_body_of" "is_body_of" (defArgs (top 20)) (defBody (top 20)) (defScope (top 20)) [V.int 6] [] f fd) : FnOk C.P C.w C.g.K C.mg C.base CX0 (k + 1) f fd ["shape", "value", "deep"] (spF C.g [] (nxt Φ).f_is_body_of) :=
  fn_walk (N := N_f_is_body_of) F (by decide +kernel) (by decide +kernel) rfl (fun X h => w_f_is_body_of St Fs h)
theorem s_f_are_bodies (St : Stat C) (Fs : Facts C k Φ) {f : Addr} {fd : FuncData} (F : FunD C.g.K "are_bodies" "are_bodies" (defArgs (top 31)) (defBody (top 31)) (defScope (top 31)) [] [] f fd) : FnOk C.P C.w C.g.K C.mg C.base CX0 (k + 1) f fd ["locks", "cells", "modes", "value"] (spF C.g [] (nxt Φ).f_are_bodies) :=
  fn_walk (N := N_f_are_bodies) F (by decide +kernel) (by decide +kernel) rfl (fun X h => w_f_are_bodies St Fs h)
theorem s_f_are_threads (St : Stat C) (Fs : Facts C k Φ) {f : Addr} {fd : FuncData} (F : FunD C.g.K "are_threads" "are_threads" (defArgs (top 32)) (defBody (top 32)) (defScope (top 32)) [] [] f fd) : FnOk C.P C.w C.g.K C.mg C.base CX0 (k + 1) f fd ["value", "procedures"] (spF C.g [] (nxt Φ).f_are_threads) :=
  fn_walk (N := N_f_are_threads) F (by decide +kernel) (by decide +kernel) rfl (fun X h => w_f_are_threads St Fs h)
theorem s_f_bodies_of (St : Stat C) (Fs : Facts C k Φ) {f : Addr} {fd : FuncData} (F : FunD C.g.K "bodies_of" "bodies_of" (defArgs (top 21)) (defBody (top 21)) (defScope (top 21)) [] [] f fd) : FnOk C.P C.w C.g.K C.mg C.base CX0 (k + 1) f fd ["statement"] (spF C.g [] (nxt Φ).f_bodies_of) :=
  fn_walk (N := N_f_bodies_of) F (by decide +kernel) (by decide +kernel) rfl (fun X h => w_f_bodies_of St Fs h)
theorem s_f_body_size (St : Stat C) (Fs : Facts C k Φ) {f : Addr} {fd : FuncData} (F : FunD C.g.K "body_size" "body_size" (defArgs (top 22)) (defBody (top 22)) (defScope (top 22)) [] [] f fd) : FnOk C.P C.w C.g.K C.mg C.base CX0 (k + 1) f fd ["body"] (spF C.g [] (nxt Φ).f_body_size) :=
  fn_walk (N := N_f_body_size) F (by decide +kernel) (by decide +kernel) rfl (fun X h => w_f_body_size St Fs h)
theorem s_f_statements_in (St : Stat C) (Fs : Facts C k Φ) {f : Addr} {fd : FuncData} (F : FunD C.g.K "statements_in" "statements_in" (defArgs (top 33)) (defBody (top 33)) (defScope (top 33)) [] [] f fd) : FnOk C.P C.w C.g.K C.mg C.base CX0 (k + 1) f fd ["bodies"] (spF C.g [] (nxt Φ).f_statements_in) :=
  fn_walk (N := N_f_statements_in) F (by decide +kernel) (by decide +kernel) rfl (fun X h => w_f_statements_in St Fs h)
theorem s_m_Program_init (St : Stat C) (Fs : Facts C k Φ) {f : Addr} {fd : FuncData} (F : FunD C.g.K "__init__" "Program.__init__" (defArgs (inClass (top 34) 0)) (defBody (inClass (top 34) 0)) (defScope (inClass (top 34) 0)) [] [] f fd) : FnOk C.P C.w C.g.K C.mg C.base CX0 (k + 1) f fd ["self", "locks", "cells", "modes", "bodies", "threads"] (spF C.g [0] (nxt Φ).m_Program_init) :=
  fn_walk (N := N_m_Program_init) F (by decide +kernel) (by decide +kernel) rfl (fun X h => w_m_Program_init St Fs h)
theorem s_f_want_program (St : Stat C) (Fs : Facts C k Φ) {f : Addr} {fd : FuncData} (F : FunD C.g.K "want_program" "want_program" (defArgs (top 35)) (defBody (top 35)) (defScope (top 35)) [] [] f fd) : FnOk C.P C.w C.g.K C.mg C.base CX0 (k + 1) f fd ["value"] (spF C.g [] (nxt Φ).f_want_program) :=
  fn_walk (N := N_f_want_program) F (by decide +kernel) (by decide +kernel) rfl (fun X h => w_f_want_program St Fs h)
theorem s_f_calls_of (St : Stat C) (Fs : Facts C k Φ) {f : Addr} {fd : FuncData} (F : FunD C.g.K "calls_of" "calls_of" (defArgs (top 44)) (defBody (top 44)) (defScope (top 44)) [] [] f fd) : FnOk C.P C.w C.g.K C.mg C.base CX0 (k + 1) f fd ["program"] (spF C.g [] (nxt Φ).f_calls_of) :=
  fn_walk (N := N_f_calls_of) F (by decide +kernel) (by decide +kernel) rfl (fun X h => w_f_calls_of St Fs h)
theorem s_f__law_made (St : Stat C) (Fs : Facts C k Φ) {f : Addr} {fd : FuncData} (F : FunD C.g.K "_law_made" "_law_made" (defArgs (top 54)) (defBody (top 54)) (defScope (top 54)) [] [] f fd) : FnOk C.P C.w C.g.K C.mg C.base CX0 (k + 1) f fd ["_law_drawn"] (spF C.g [] (nxt Φ).f__law_made) :=
  fn_walk (N := N_f__law_made) F (by decide +kernel) (by decide +kernel) rfl (fun X h => w_f__law_made St Fs h)
theorem s_f_want_thread (St : Stat C) (Fs : Facts C k Φ) {f : Addr} {fd : FuncData} (F : FunD C.g.K "want_thread" "want_thread" (defArgs (top 36)) (defBody (top 36)) (defScope (top 36)) [] [] f fd) : FnOk C.P C.w C.g.K C.mg C.base CX0 (k + 1) f fd ["program", "value"] (spF C.g [] (nxt Φ).f_want_thread) :=
  fn_walk (N := N_f_want_thread) F (by decide +kernel) (by decide +kernel) rfl (fun X h => w_f_want_thread St Fs h)
theorem s_f_come_to (St : Stat C) (Fs : Facts C k Φ) {f : Addr} {fd : FuncData} (F : FunD C.g.K "come_to" "come_to" (defArgs (top 40)) (defBody (top 40)) (defScope (top 40)) [] [] f fd) : FnOk C.P C.w C.g.K C.mg C.base CX0 (k + 1) f fd ["calls", "procedure"] (spF C.g [] (nxt Φ).f_come_to) :=
  fn_walk (N := N_f_come_to) F (by decide +kernel) (by decide +kernel) rfl (fun X h => w_f_come_to St Fs h)
theorem s_f_reached (St : Stat C) (Fs : Facts C k Φ) {f : Addr} {fd : FuncData} (F : FunD C.g.K "reached" "reached" (defArgs (top 46)) (defBody (top 46)) (defScope (top 46)) [] [] f fd) : FnOk C.P C.w C.g.K C.mg C.base CX0 (k + 1) f fd ["program", "thread"] (spF C.g [] (nxt Φ).f_reached) :=
  fn_walk (N := N_f_reached) F (by decide +kernel) (by decide +kernel) rfl (fun X h => w_f_reached St Fs h)
theorem s_f__law_draw (St : Stat C) (Fs : Facts C k Φ) {f : Addr} {fd : FuncData} (F : FunD C.g.K "_law_draw" "_law_draw" (defArgs (top 50)) (defBody (top 50)) (defScope (top 50)) [] [] f fd) : FnOk C.P C.w C.g.K C.mg C.base CX0 (k + 1) f fd ["_law_pot_here", "_law_many"] (spF C.g [0] (nxt Φ).f__law_draw) :=
  fn_walk (N := N_f__law_draw) F (by decide +kernel) (by decide +kernel) rfl (fun X h => w_f__law_draw St Fs h)
theorem s_f__law_pick (St : Stat C) (Fs : Facts C k Φ) {f : Addr} {fd : FuncData} (F : FunD C.g.K "_law_pick" "_law_pick" (defArgs (top 51)) (defBody (top 51)) (defScope (top 51)) [] [] f fd) : FnOk C.P C.w C.g.K C.mg C.base CX0 (k + 1) f fd ["_law_pot_here", "_law_some"] (spF C.g [0] (nxt Φ).f__law_pick) :=
  fn_walk (N := N_f__law_pick) F (by decide +kernel) (by decide +kernel) rfl (fun X h => w_f__law_pick St Fs h)
theorem s_f__law_statement (St : Stat C) (Fs : Facts C k Φ) {f : Addr} {fd : FuncData} (F : FunD C.g.K "_law_statement" "_law_statement" (defArgs (top 53)) (defBody (top 53)) (defScope (top 53)) [] [] f fd) : FnOk C.P C.w C.g.K C.mg C.base CX0 (k + 1) f fd ["_law_pot_here", "_law_shape", "_law_deep", "_law_room"] (spF C.g [0, 3] (nxt Φ).f__law_statement) :=
  fn_walk (N := N_f__law_statement) F (by decide +kernel) (by decide +kernel) rfl (fun X h => w_f__law_statement St Fs h)
theorem s_f__law_body (St : Stat C) (Fs : Facts C k Φ) {f : Addr} {fd : FuncData} (F : FunD C.g.K "_law_body" "_law_body" (defArgs (top 52)) (defBody (top 52)) (defScope (top 52)) [] [] f fd) : FnOk C.P C.w C.g.K C.mg C.base CX0 (k + 1) f fd ["_law_pot_here", "_law_shape", "_law_deep", "_law_room"] (spF C.g [0, 3] (nxt Φ).f__law_body) :=
  fn_walk (N := N_f__law_body) F (by decide +kernel) (by decide +kernel) rfl (fun X h => w_f__law_body St Fs h)
theorem s_f__law_calls (St : Stat C) (Fs : Facts C k Φ) {f : Addr} {fd : FuncData} (F : FunD C.g.K "_law_calls" "_law_calls" (defArgs (top 55)) (defBody (top 55)) (defScope (top 55)) [] [] f fd) : FnOk C.P C.w C.g.K C.mg C.base CX0 (k + 1) f fd ["_law_body_here"] (spF C.g [] (nxt Φ).f__law_calls) :=
  fn_walk (N := N_f__law_calls) F (by decide +kernel) (by decide +kernel) rfl (fun X h => w_f__law_calls St Fs h)
theorem s_f_is_in_ring (St : Stat C) (Fs : Facts C k Φ) {f : Addr} {fd : FuncData} (F : FunD C.g.K "is_in_ring" "is_in_ring" (defArgs (top 41)) (defBody (top 41)) (defScope (top 41)) [] [] f fd) : FnOk C.P C.w C.g.K C.mg C.base CX0 (k + 1) f fd ["calls", "procedure"] (spF C.g [] (nxt Φ).f_is_in_ring) :=
  fn_walk (N := N_f_is_in_ring) F (by decide +kernel) (by decide +kernel) rfl (fun X h => w_f_is_in_ring St Fs h)
theorem s_f_come_to_by_threads (St : Stat C) (Fs : Facts C k Φ) {f : Addr} {fd : FuncData} (F : FunD C.g.K "come_to_by_threads" "come_to_by_threads" (defArgs (top 42)) (defBody (top 42)) (defScope (top 42)) [] [] f fd) : FnOk C.P C.w C.g.K C.mg C.base CX0 (k + 1) f fd ["program", "calls"] (spF C.g [] (nxt Φ).f_come_to_by_threads) :=
  fn_walk (N := N_f_come_to_by_threads) F (by decide +kernel) (by decide +kernel) rfl (fun X h => w_f_come_to_by_threads St Fs h)
theorem s_f_is_recursive (St : Stat C) (Fs : Facts C k Φ) {f : Addr} {fd : FuncData} (F : FunD C.g.K "is_recursive" "is_recursive" (defArgs (top 45)) (defBody (top 45)) (defScope (top 45)) [] [] f fd) : FnOk C.P C.w C.g.K C.mg C.base CX0 (k + 1) f fd ["program"] (spF C.g [] (nxt Φ).f_is_recursive) :=
  fn_walk (N := N_f_is_recursive) F (by decide +kernel) (by decide +kernel) rfl (fun X h => w_f_is_recursive St Fs h)
theorem s_f__law_longest (St : Stat C) (Fs : Facts C k Φ) {f : Addr} {fd : FuncData} (F : FunD C.g.K "_law_longest" "_law_longest" (defArgs (top 57)) (defBody (top 57)) (defScope (top 57)) [] [] f fd) : FnOk C.P C.w C.g.K C.mg C.base CX0 (k + 1) f fd ["_law_calls_here", "_law_row"] (spF C.g [] (nxt Φ).f__law_longest) :=
  fn_walk (N := N_f__law_longest) F (by decide +kernel) (by decide +kernel) rfl (fun X h => w_f__law_longest St Fs h)
theorem s_f_longest_row (St : Stat C) (Fs : Facts C k Φ) {f : Addr} {fd : FuncData} (F : FunD C.g.K "longest_row" "longest_row" (defArgs (top 43)) (defBody (top 43)) (defScope (top 43)) [] [] f fd) : FnOk C.P C.w C.g.K C.mg C.base CX0 (k + 1) f fd ["calls", "procedure"] (spF C.g [] (nxt Φ).f_longest_row) :=
  fn_walk (N := N_f_longest_row) F (by decide +kernel) (by decide +kernel) rfl (fun X h => w_f_longest_row St Fs h)
theorem s_f_deepest (St : Stat C) (Fs : Facts C k Φ) {f : Addr} {fd : FuncData} (F : FunD C.g.K "deepest" "deepest" (defArgs (top 47)) (defBody (top 47)) (defScope (top 47)) [] [] f fd) : FnOk C.P C.w C.g.K C.mg C.base CX0 (k + 1) f fd ["program"] (spF C.g [] (nxt Φ).f_deepest) :=
  fn_walk (N := N_f_deepest) F (by decide +kernel) (by decide +kernel) rfl (fun X h => w_f_deepest St Fs h)
theorem s_f__law_come (St : Stat C) (Fs : Facts C k Φ) {f : Addr} {fd : FuncData} (F : FunD C.g.K "_law_come" "_law_come" (defArgs (top 56)) (defBody (top 56)) (defScope (top 56)) [] [] f fd) : FnOk C.P C.w C.g.K C.mg C.base CX0 (k + 1) f fd ["_law_calls_here", "_law_procedure"] (spF C.g [] (nxt Φ).f__law_come) :=
  fn_walk (N := N_f__law_come) F (by decide +kernel) (by decide +kernel) rfl (fun X h => w_f__law_come St Fs h)
theorem s_f__law_right (St : Stat C) (Fs : Facts C k Φ) {f : Addr} {fd : FuncData} (F : FunD C.g.K "_law_right" "_law_right" (defArgs (top 58)) (defBody (top 58)) (defScope (top 58)) [] [] f fd) : FnOk C.P C.w C.g.K C.mg C.base CX0 (k + 1) f fd ["_law_pot_here"] (spF C.g [0] (nxt Φ).f__law_right) :=
  fn_walk (N := N_f__law_right) F (by decide +kernel) (by decide +kernel) rfl (fun X h => w_f__law_right St Fs h)
theorem s_f__law_pot (St : Stat C) (Fs : Facts C k Φ) {f : Addr} {fd : FuncData} (F : FunD C.g.K "_law_pot" "_law_pot" (defArgs (top 49)) (defBody (top 49)) (defScope (top 49)) [] [] f fd) : FnOk C.P C.w C.g.K C.mg C.base CX0 (k + 1) f fd ["_law_script", "_law_k"] (spF C.g [] (nxt Φ).f__law_pot) :=
  fn_walk (N := N_f__law_pot) F (by decide +kernel) (by decide +kernel) rfl (fun X h => w_f__law_pot St Fs h)
theorem s_f_law (St : Stat C) (Fs : Facts C k Φ) {f : Addr} {fd : FuncData} (F : FunD C.g.K "law" "law" (defArgs (top 59)) (defBody (top 59)) (defScope (top 59)) [] [] f fd) : FnOk C.P C.w C.g.K C.mg C.base CX0 (k + 1) f fd ["_law_script"] (spF C.g [] (nxt Φ).f_law) :=
  fn_walk (N := N_f_law) F (by decide +kernel) (by decide +kernel) rfl (fun X h => w_f_law St Fs h)
theorem s_m_Program_bodies (St : Stat C) (Fs : Facts C k Φ) {f : Addr} {fd : FuncData} (F : FunD C.g.K "bodies" "Program.bodies" (defArgs (inClass (top 34) 4)) (defBody (inClass (top 34) 4)) (defScope (inClass (top 34) 4)) [] [] f fd) : FnOk C.P C.w C.g.K C.mg C.base CX0 (k + 1) f fd ["self"] (spF C.g [] (nxt Φ).m_Program_bodies) :=
  fn_walk (N := N_m_Program_bodies) F (by decide +kernel) (by decide +kernel) rfl (fun X h => w_m_Program_bodies St Fs h)
theorem s_m_Program_threads (St : Stat C) (Fs : Facts C k Φ) {f : Addr} {fd : FuncData} (F : FunD C.g.K "threads" "Program.threads" (defArgs (inClass (top 34) 5)) (defBody (inClass (top 34) 5)) (defScope (inClass (top 34) 5)) [] [] f fd) : FnOk C.P C.w C.g.K C.mg C.base CX0 (k + 1) f fd ["self"] (spF C.g [] (nxt Φ).m_Program_threads) :=
  fn_walk (N := N_m_Program_threads) F (by decide +kernel) (by decide +kernel) rfl (fun X h => w_m_Program_threads St Fs h)
theorem b_f__law_body_0 {G : FT} {f : Addr} {fd : FuncData} (F : FunD C.g.K "_law_body" "_law_body" (defArgs (top 52)) (defBody (top 52)) (defScope (top 52)) [] [] f fd) (hm : C.mg "_law_body" = some (.ref f)) (ok : FnOk C.P C.w C.g.K C.mg C.base CX0 k f fd ["_law_pot_here", "_law_shape", "_law_deep", "_law_room"] (spF C.g [0, 3] G)) : Def C k "_law_body" [0, 3] [] G := by
  exact ⟨by decide +kernel, f, fd, _, [], [], ok, hm, F.kp, F.bindsN (fun kV doc pm an cdv ct us hl => match us, hl with | [_, _, _, _], _ => rfl), .nil, rfl⟩
theorem b_f__law_calls_0 {G : FT} {f : Addr} {fd : FuncData} (F : FunD C.g.K "_law_calls" "_law_calls" (defArgs (top 55)) (defBody (top 55)) (defScope (top 55)) [] [] f fd) (hm : C.mg "_law_calls" = some (.ref f)) (ok : FnOk C.P C.w C.g.K C.mg C.base CX0 k f fd ["_law_body_here"] (spF C.g [] G)) : Def C k "_law_calls" [] [] G := by
  exact ⟨by decide +kernel, f, fd, _, [], [], ok, hm, F.kp, F.bindsN (fun kV doc pm an cdv ct us hl => match us, hl with | [_], _ => rfl), .nil, rfl⟩
theorem b_f__law_come_0 {G : FT} {f : Addr} {fd : FuncData} (F : FunD C.g.K "_law_come" "_law_come" (defArgs (top 56)) (defBody (top 56)) (defScope (top 56)) [] [] f fd) (hm : C.mg "_law_come" = some (.ref f)) (ok : FnOk C.P C.w C.g.K C.mg C.base CX0 k f fd ["_law_calls_here", "_law_procedure"] (spF C.g [] G)) : Def C k "_law_come" [] [] G := by
  exact ⟨by decide +kernel, f, fd, _, [], [], ok, hm, F.kp, F.bindsN (fun kV doc pm an cdv ct us hl => match us, hl with | [_, _], _ => rfl), .nil, rfl⟩
theorem b_f__law_draw_0 {G : FT} {f : Addr} {fd : FuncData} (F : FunD C.g.K "_law_draw" "_law_draw" (defArgs (top 50)) (defBody (top 50)) (defScope (top 50)) [] [] f fd) (hm : C.mg "_law_draw" = some (.ref f)) (ok : FnOk C.P C.w C.g.K C.mg C.base CX0 k f fd ["_law_pot_here", "_law_many"] (spF C.g [0] G)) : Def C k "_law_draw" [0] [] G := by
  exact ⟨by decide +kernel, f, fd, _, [], [], ok, hm, F.kp, F.bindsN (fun kV doc pm an cdv ct us hl => match us, hl with | [_, _], _ => rfl), .nil, rfl⟩
theorem b_f__law_longest_0 {G : FT} {f : Addr} {fd : FuncData} (F : FunD C.g.K "_law_longest" "_law_longest" (defArgs (top 57)) (defBody (top 57)) (defScope (top 57)) [] [] f fd) (hm : C.mg "_law_longest" = some (.ref f)) (ok : FnOk C.P C.w C.g.K C.mg C.base CX0 k f fd ["_law_calls_here", "_law_row"] (spF C.g [] G)) : Def C k "_law_longest" [] [] G := by
  exact ⟨by decide +kernel, f, fd, _, [], [], ok, hm, F.kp, F.bindsN (fun kV doc pm an cdv ct us hl => match us, hl with | [_, _], _ => rfl), .nil, rfl⟩
theorem b_f__law_made_0 {G : FT} {f : Addr} {fd : FuncData} (F : FunD C.g.K "_law_made" "_law_made" (defArgs (top 54)) (defBody (top 54)) (defScope (top 54)) [] [] f fd) (hm : C.mg "_law_made" = some (.ref f)) (ok : FnOk C.P C.w C.g.K C.mg C.base CX0 k f fd ["_law_drawn"] (spF C.g [] G)) : Def C k "_law_made" [] [] G := by
  exact ⟨by decide +kernel, f, fd, _, [], [], ok, hm, F.kp, F.bindsN (fun kV doc pm an cdv ct us hl => match us, hl with | [_], _ => rfl), .nil, rfl⟩
theorem b_f__law_pick_0 {G : FT} {f : Addr} {fd : FuncData} (F : FunD C.g.K "_law_pick" "_law_pick" (defArgs (top 51)) (defBody (top 51)) (defScope (top 51)) [] [] f fd) (hm : C.mg "_law_pick" = some (.ref f)) (ok : FnOk C.P C.w C.g.K C.mg C.base CX0 k f fd ["_law_pot_here", "_law_some"] (spF C.g [0] G)) : Def C k "_law_pick" [0] [] G := by
  exact ⟨by decide +kernel, f, fd, _, [], [], ok, hm, F.kp, F.bindsN (fun kV doc pm an cdv ct us hl => match us, hl with | [_, _], _ => rfl), .nil, rfl⟩
theorem b_f__law_pot_0 {G : FT} {f : Addr} {fd : FuncData} (F : FunD C.g.K "_law_pot" "_law_pot" (defArgs (top 49)) (defBody (top 49)) (defScope (top 49)) [] [] f fd) (hm : C.mg "_law_pot" = some (.ref f)) (ok : FnOk C.P C.w C.g.K C.mg C.base CX0 k f fd ["_law_script", "_law_k"] (spF C.g [] G)) : Def C k "_law_pot" [] [] G := by
  exact ⟨by decide +kernel, f, fd, _, [], [], ok, hm, F.kp, F.bindsN (fun kV doc pm an cdv ct us hl => match us, hl with | [_, _], _ => rfl), .nil, rfl⟩
theorem b_f__law_right_0 {G : FT} {f : Addr} {fd : FuncData} (F : FunD C.g.K "_law_right" "_law_right" (defArgs (top 58)) (defBody (top 58)) (defScope (top 58)) [] [] f fd) (hm : C.mg "_law_right" = some (.ref f)) (ok : FnOk C.P C.w C.g.K C.mg C.base CX0 k f fd ["_law_pot_here"] (spF C.g [0] G)) : Def C k "_law_right" [0] [] G := by
  exact ⟨by decide +kernel, f, fd, _, [], [], ok, hm, F.kp, F.bindsN (fun kV doc pm an cdv ct us hl => match us, hl with | [_], _ => rfl), .nil, rfl⟩
theorem b_f__law_statement_0 {G : FT} {f : Addr} {fd : FuncData} (F : FunD C.g.K "_law_statement" "_law_statement" (defArgs (top 53)) (defBody (top 53)) (defScope (top 53)) [] [] f fd) (hm : C.mg "_law_statement" = some (.ref f)) (ok : FnOk C.P C.w C.g.K C.mg C.base CX0 k f fd ["_law_pot_here", "_law_shape", "_law_deep", "_law_room"] (spF C.g [0, 3] G)) : Def C k "_law_statement" [0, 3] [] G := by
  exact ⟨by decide +kernel, f, fd, _, [], [], ok, hm, F.kp, F.bindsN (fun kV doc pm an cdv ct us hl => match us, hl with | [_, _, _, _], _ => rfl), .nil, rfl⟩
theorem b_f_are_bodies_0 {G : FT} {f : Addr} {fd : FuncData} (F : FunD C.g.K "are_bodies" "are_bodies" (defArgs (top 31)) (defBody (top 31)) (defScope (top 31)) [] [] f fd) (hm : C.mg "are_bodies" = some (.ref f)) (ok : FnOk C.P C.w C.g.K C.mg C.base CX0 k f fd ["locks", "cells", "modes", "value"] (spF C.g [] G)) : Def C k "are_bodies" [] [] G := by
  exact ⟨by decide +kernel, f, fd, _, [], [], ok, hm, F.kp, F.bindsN (fun kV doc pm an cdv ct us hl => match us, hl with | [_, _, _, _], _ => rfl), .nil, rfl⟩
theorem b_f_are_threads_0 {G : FT} {f : Addr} {fd : FuncData} (F : FunD C.g.K "are_threads" "are_threads" (defArgs (top 32)) (defBody (top 32)) (defScope (top 32)) [] [] f fd) (hm : C.mg "are_threads" = some (.ref f)) (ok : FnOk C.P C.w C.g.K C.mg C.base CX0 k f fd ["value", "procedures"] (spF C.g [] G)) : Def C k "are_threads" [] [] G := by
  exact ⟨by decide +kernel, f, fd, _, [], [], ok, hm, F.kp, F.bindsN (fun kV doc pm an cdv ct us hl => match us, hl with | [_, _], _ => rfl), .nil, rfl⟩
theorem b_f_bodies_of_0 {G : FT} {f : Addr} {fd : FuncData} (F : FunD C.g.K "bodies_of" "bodies_of" (defArgs (top 21)) (defBody (top 21)) (defScope (top 21)) [] [] f fd) (hm : C.mg "bodies_of" = some (.ref f)) (ok : FnOk C.P C.w C.g.K C.mg C.base CX0 k f fd ["statement"] (spF C.g [] G)) : Def C k "bodies_of" [] [] G := by
  exact ⟨by decide +kernel, f, fd, _, [], [], ok, hm, F.kp, F.bindsN (fun kV doc pm an cdv ct us hl => match us, hl with | [_], _ => rfl), .nil, rfl⟩
theorem b_f_body_size_0 {G : FT} {f : Addr} {fd : FuncData} (F : FunD C.g.K "body_size" "body_size" (defArgs (top 22)) (defBody (top 22)) (defScope (top 22)) [] [] f fd) (hm : C.mg "body_size" = some (.ref f)) (ok : FnOk C.P C.w C.g.K C.mg C.base CX0 k f fd ["body"] (spF C.g [] G)) : Def C k "body_size" [] [] G := by
  exact ⟨by decide +kernel, f, fd, _, [], [], ok, hm, F.kp, F.bindsN (fun kV doc pm an cdv ct us hl => match us, hl with | [_], _ => rfl), .nil, rfl⟩
theorem b_f_calls_by_bodies_0 {G : FT} {f : Addr} {fd : FuncData} (F : FunD C.g.K "calls_by_bodies" "calls_by_bodies" (defArgs (top 39)) (defBody (top 39)) (defScope (top 39)) [] [] f fd) (hm : C.mg "calls_by_bodies" = some (.ref f)) (ok : FnOk C.P C.w C.g.K C.mg C.base CX0 k f fd ["program"] (spF C.g [] G)) : Def C k "calls_by_bodies" [] [] G := by
  exact ⟨by decide +kernel, f, fd, _, [], [], ok, hm, F.kp, F.bindsN (fun kV doc pm an cdv ct us hl => match us, hl with | [_], _ => rfl), .nil, rfl⟩
theorem b_f_calls_of_0 {G : FT} {f : Addr} {fd : FuncData} (F : FunD C.g.K "calls_of" "calls_of" (defArgs (top 44)) (defBody (top 44)) (defScope (top 44)) [] [] f fd) (hm : C.mg "calls_of" = some (.ref f)) (ok : FnOk C.P C.w C.g.K C.mg C.base CX0 k f fd ["program"] (spF C.g [] G)) : Def C k "calls_of" [] [] G := by
  exact ⟨by decide +kernel, f, fd, _, [], [], ok, hm, F.kp, F.bindsN (fun kV doc pm an cdv ct us hl => match us, hl with | [_], _ => rfl), .nil, rfl⟩
theorem b_f_calls_within_0 {G : FT} {f : Addr} {fd : FuncData} (F : FunD C.g.K "calls_within" "calls_within" (defArgs (top 38)) (defBody (top 38)) (defScope (top 38)) [] [] f fd) (hm : C.mg "calls_within" = some (.ref f)) (ok : FnOk C.P C.w C.g.K C.mg C.base CX0 k f fd ["body"] (spF C.g [] G)) : Def C k "calls_within" [] [] G := by
  exact ⟨by decide +kernel, f, fd, _, [], [], ok, hm, F.kp, F.bindsN (fun kV doc pm an cdv ct us hl => match us, hl with | [_], _ => rfl), .nil, rfl⟩
theorem b_f_come_to_0 {G : FT} {f : Addr} {fd : FuncData} (F : FunD C.g.K "come_to" "come_to" (defArgs (top 40)) (defBody (top 40)) (defScope (top 40)) [] [] f fd) (hm : C.mg "come_to" = some (.ref f)) (ok : FnOk C.P C.w C.g.K C.mg C.base CX0 k f fd ["calls", "procedure"] (spF C.g [] G)) : Def C k "come_to" [] [] G := by
  exact ⟨by decide +kernel, f, fd, _, [], [], ok, hm, F.kp, F.bindsN (fun kV doc pm an cdv ct us hl => match us, hl with | [_, _], _ => rfl), .nil, rfl⟩
theorem b_f_come_to_by_threads_0 {G : FT} {f : Addr} {fd : FuncData} (F : FunD C.g.K "come_to_by_threads" "come_to_by_threads" (defArgs (top 42)) (defBody (top 42)) (defScope (top 42)) [] [] f fd) (hm : C.mg "come_to_by_threads" = some (.ref f)) (ok : FnOk C.P C.w C.g.K C.mg C.base CX0 k f fd ["program", "calls"] (spF C.g [] G)) : Def C k "come_to_by_threads" [] [] G := by
  exact ⟨by decide +kernel, f, fd, _, [], [], ok, hm, F.kp, F.bindsN (fun kV doc pm an cdv ct us hl => match us, hl with | [_, _], _ => rfl), .nil, rfl⟩
theorem b_f_deepest_0 {G : FT} {f : Addr} {fd : FuncData} (F : FunD C.g.K "deepest" "deepest" (defArgs (top 47)) (defBody (top 47)) (defScope (top 47)) [] [] f fd) (hm : C.mg "deepest" = some (.ref f)) (ok : FnOk C.P C.w C.g.K C.mg C.base CX0 k f fd ["program"] (spF C.g [] G)) : Def C k "deepest" [] [] G := by
  exact ⟨by decide +kernel, f, fd, _, [], [], ok, hm, F.kp, F.bindsN (fun kV doc pm an cdv ct us hl => match us, hl with | [_], _ => rfl), .nil, rfl⟩
theorem b_f_is_body_of_0 {G : FT} {f : Addr} {fd : FuncData} (F : FunD C.g.K "is_body_of" "is_body_of" (defArgs (top 20)) (defBody (top 20)) (defScope (top 20)) [V.int 6] [] f fd) (hm : C.mg "is_body_of" = some (.ref f)) (ok : FnOk C.P C.w C.g.K C.mg C.base CX0 k f fd ["shape", "value", "deep"] (spF C.g [] G)) : Def C k "is_body_of" [] [] G := by
  obtain ⟨ds, hv, hb⟩ := F.binds1 (ps := ["shape", "value", "deep"]) 3 1 (by simp) rfl (fun T kV doc pm an cdv ct us its h1 h2 => match us, its, h1, h2 with | [_, _, _], [_], _, _ => ⟨_, rfl, rfl⟩)
  exact ⟨by decide +kernel, f, fd, _, _, ds, ok, hm, F.kp, hb, hv, rfl⟩
theorem b_f_is_body_of_1 {G : FT} {f : Addr} {fd : FuncData} (F : FunD C.g.K "is_body_of" "is_body_of" (defArgs (top 20)) (defBody (top 20)) (defScope (top 20)) [V.int 6] [] f fd) (hm : C.mg "is_body_of" = some (.ref f)) (ok : FnOk C.P C.w C.g.K C.mg C.base CX0 k f fd ["shape", "value", "deep"] (spF C.g [] G)) : Def C k "is_body_of" [] [(.int 6)] G := by
  obtain ⟨ds, hv, hb⟩ := F.binds1 (ps := ["shape", "value", "deep"]) 2 0 (by simp) rfl (fun T kV doc pm an cdv ct us its h1 h2 => match us, its, h1, h2 with | [_, _], [_], _, _ => ⟨_, rfl, rfl⟩)
  exact ⟨by decide +kernel, f, fd, _, _, ds, ok, hm, F.kp, hb, hv, rfl⟩
theorem b_f_is_count_0 {G : FT} {f : Addr} {fd : FuncData} (F : FunD C.g.K "is_count" "is_count" (defArgs (top 13)) (defBody (top 13)) (defScope (top 13)) [] [] f fd) (hm : C.mg "is_count" = some (.ref f)) (ok : FnOk C.P C.w C.g.K C.mg C.base CX0 k f fd ["value"] (spF C.g [] G)) : Def C k "is_count" [] [] G := by
  exact ⟨by decide +kernel, f, fd, _, [], [], ok, hm, F.kp, F.bindsN (fun kV doc pm an cdv ct us hl => match us, hl with | [_], _ => rfl), .nil, rfl⟩
theorem b_f_is_in_ring_0 {G : FT} {f : Addr} {fd : FuncData} (F : FunD C.g.K "is_in_ring" "is_in_ring" (defArgs (top 41)) (defBody (top 41)) (defScope (top 41)) [] [] f fd) (hm : C.mg "is_in_ring" = some (.ref f)) (ok : FnOk C.P C.w C.g.K C.mg C.base CX0 k f fd ["calls", "procedure"] (spF C.g [] G)) : Def C k "is_in_ring" [] [] G := by
  exact ⟨by decide +kernel, f, fd, _, [], [], ok, hm, F.kp, F.bindsN (fun kV doc pm an cdv ct us hl => match us, hl with | [_, _], _ => rfl), .nil, rfl⟩
theorem b_f_is_integer_0 {G : FT} {f : Addr} {fd : FuncData} (F : FunD C.g.K "is_integer" "is_integer" (defArgs (top 12)) (defBody (top 12)) (defScope (top 12)) [] [] f fd) (hm : C.mg "is_integer" = some (.ref f)) (ok : FnOk C.P C.w C.g.K C.mg C.base CX0 k f fd ["value"] (spF C.g [] G)) : Def C k "is_integer" [] [] G := by
  exact ⟨by decide +kernel, f, fd, _, [], [], ok, hm, F.kp, F.bindsN (fun kV doc pm an cdv ct us hl => match us, hl with | [_], _ => rfl), .nil, rfl⟩
theorem b_f_is_list_0 {G : FT} {f : Addr} {fd : FuncData} (F : FunD C.g.K "is_list" "is_list" (defArgs (top 14)) (defBody (top 14)) (defScope (top 14)) [] [] f fd) (hm : C.mg "is_list" = some (.ref f)) (ok : FnOk C.P C.w C.g.K C.mg C.base CX0 k f fd ["value"] (spF C.g [] G)) : Def C k "is_list" [] [] G := by
  exact ⟨by decide +kernel, f, fd, _, [], [], ok, hm, F.kp, F.bindsN (fun kV doc pm an cdv ct us hl => match us, hl with | [_], _ => rfl), .nil, rfl⟩
theorem b_f_is_number_to_0 {G : FT} {f : Addr} {fd : FuncData} (F : FunD C.g.K "is_number_to" "is_number_to" (defArgs (top 30)) (defBody (top 30)) (defScope (top 30)) [] [] f fd) (hm : C.mg "is_number_to" = some (.ref f)) (ok : FnOk C.P C.w C.g.K C.mg C.base CX0 k f fd ["value", "least", "most"] (spF C.g [] G)) : Def C k "is_number_to" [] [] G := by
  exact ⟨by decide +kernel, f, fd, _, [], [], ok, hm, F.kp, F.bindsN (fun kV doc pm an cdv ct us hl => match us, hl with | [_, _, _], _ => rfl), .nil, rfl⟩
theorem b_f_is_recursive_0 {G : FT} {f : Addr} {fd : FuncData} (F : FunD C.g.K "is_recursive" "is_recursive" (defArgs (top 45)) (defBody (top 45)) (defScope (top 45)) [] [] f fd) (hm : C.mg "is_recursive" = some (.ref f)) (ok : FnOk C.P C.w C.g.K C.mg C.base CX0 k f fd ["program"] (spF C.g [] G)) : Def C k "is_recursive" [] [] G := by
  exact ⟨by decide +kernel, f, fd, _, [], [], ok, hm, F.kp, F.bindsN (fun kV doc pm an cdv ct us hl => match us, hl with | [_], _ => rfl), .nil, rfl⟩
theorem b_f_is_statement_of_0 {G : FT} {f : Addr} {fd : FuncData} (F : FunD C.g.K "is_statement_of" "is_statement_of" (defArgs (top 19)) (defBody (top 19)) (defScope (top 19)) [] [] f fd) (hm : C.mg "is_statement_of" = some (.ref f)) (ok : FnOk C.P C.w C.g.K C.mg C.base CX0 k f fd ["shape", "value", "deep"] (spF C.g [] G)) : Def C k "is_statement_of" [] [] G := by
  exact ⟨by decide +kernel, f, fd, _, [], [], ok, hm, F.kp, F.bindsN (fun kV doc pm an cdv ct us hl => match us, hl with | [_, _, _], _ => rfl), .nil, rfl⟩
theorem b_f_longest_row_0 {G : FT} {f : Addr} {fd : FuncData} (F : FunD C.g.K "longest_row" "longest_row" (defArgs (top 43)) (defBody (top 43)) (defScope (top 43)) [] [] f fd) (hm : C.mg "longest_row" = some (.ref f)) (ok : FnOk C.P C.w C.g.K C.mg C.base CX0 k f fd ["calls", "procedure"] (spF C.g [] G)) : Def C k "longest_row" [] [] G := by
  exact ⟨by decide +kernel, f, fd, _, [], [], ok, hm, F.kp, F.bindsN (fun kV doc pm an cdv ct us hl => match us, hl with | [_, _], _ => rfl), .nil, rfl⟩
theorem b_f_reached_0 {G : FT} {f : Addr} {fd : FuncData} (F : FunD C.g.K "reached" "reached" (defArgs (top 46)) (defBody (top 46)) (defScope (top 46)) [] [] f fd) (hm : C.mg "reached" = some (.ref f)) (ok : FnOk C.P C.w C.g.K C.mg C.base CX0 k f fd ["program", "thread"] (spF C.g [] G)) : Def C k "reached" [] [] G := by
  exact ⟨by decide +kernel, f, fd, _, [], [], ok, hm, F.kp, F.bindsN (fun kV doc pm an cdv ct us hl => match us, hl with | [_, _], _ => rfl), .nil, rfl⟩
theorem b_f_statements_in_0 {G : FT} {f : Addr} {fd : FuncData} (F : FunD C.g.K "statements_in" "statements_in" (defArgs (top 33)) (defBody (top 33)) (defScope (top 33)) [] [] f fd) (hm : C.mg "statements_in" = some (.ref f)) (ok : FnOk C.P C.w C.g.K C.mg C.base CX0 k f fd ["bodies"] (spF C.g [] G)) : Def C k "statements_in" [] [] G := by
  exact ⟨by decide +kernel, f, fd, _, [], [], ok, hm, F.kp, F.bindsN (fun kV doc pm an cdv ct us hl => match us, hl with | [_], _ => rfl), .nil, rfl⟩
theorem b_f_want_program_0 {G : FT} {f : Addr} {fd : FuncData} (F : FunD C.g.K "want_program" "want_program" (defArgs (top 35)) (defBody (top 35)) (defScope (top 35)) [] [] f fd) (hm : C.mg "want_program" = some (.ref f)) (ok : FnOk C.P C.w C.g.K C.mg C.base CX0 k f fd ["value"] (spF C.g [] G)) : Def C k "want_program" [] [] G := by
  exact ⟨by decide +kernel, f, fd, _, [], [], ok, hm, F.kp, F.bindsN (fun kV doc pm an cdv ct us hl => match us, hl with | [_], _ => rfl), .nil, rfl⟩
theorem b_f_want_thread_0 {G : FT} {f : Addr} {fd : FuncData} (F : FunD C.g.K "want_thread" "want_thread" (defArgs (top 36)) (defBody (top 36)) (defScope (top 36)) [] [] f fd) (hm : C.mg "want_thread" = some (.ref f)) (ok : FnOk C.P C.w C.g.K C.mg C.base CX0 k f fd ["program", "value"] (spF C.g [] G)) : Def C k "want_thread" [] [] G := by
  exact ⟨by decide +kernel, f, fd, _, [], [], ok, hm, F.kp, F.bindsN (fun kV doc pm an cdv ct us hl => match us, hl with | [_, _], _ => rfl), .nil, rfl⟩
theorem bk_calls_of_program {G : FT} {f : Addr} {fd : FuncData} (F : FunD C.g.K "calls_of" "calls_of" (defArgs (top 44)) (defBody (top 44)) (defScope (top 44)) [] [] f fd) (hm : C.mg "calls_of" = some (.ref f)) (ok : FnOk C.P C.w C.g.K C.mg C.base CX0 k f fd ["program"] (spF C.g [] G)) : DefK C k "calls_of" "program" G :=
  ⟨by decide +kernel, f, fd, _, ok, hm, F.kp, kb1 F (fun _ _ _ _ _ _ _ => rfl) (fun _ _ _ _ _ _ _ => rfl)⟩
theorem bm_m_Program_bodies {G : FT} {f : Addr} {fd : FuncData} (D : Dfs C) (F : FunD C.g.K "bodies" "Program.bodies" (defArgs (inClass (top 34) 4)) (defBody (inClass (top 34) 4)) (defScope (inClass (top 34) 4)) [] [] f fd) (hm : Meth C.g.K (C.g.C 0) "bodies" f) (ok : FnOk C.P C.w C.g.K C.mg C.base CX0 k f fd ["self"] (spF C.g [] G)) : DefM C k 0 "bodies" [] [] G :=
  ⟨D.cl_Program, D.nof_m_Program_bodies, f, fd, _, [], [], ok, hm, F.bindsN (fun kV doc pm an cdv ct us hl => match us, hl with | [_], _ => rfl), .nil, rfl⟩
theorem bm_m_Program_threads {G : FT} {f : Addr} {fd : FuncData} (D : Dfs C) (F : FunD C.g.K "threads" "Program.threads" (defArgs (inClass (top 34) 5)) (defBody (inClass (top 34) 5)) (defScope (inClass (top 34) 5)) [] [] f fd) (hm : Meth C.g.K (C.g.C 0) "threads" f) (ok : FnOk C.P C.w C.g.K C.mg C.base CX0 k f fd ["self"] (spF C.g [] G)) : DefM C k 0 "threads" [] [] G :=
  ⟨D.cl_Program, D.nof_m_Program_threads, f, fd, _, [], [], ok, hm, F.bindsN (fun kV doc pm an cdv ct us hl => match us, hl with | [_], _ => rfl), .nil, rfl⟩
theorem facts0 (D : Dfs C) : Facts C 0 bot where
  f__law_body_0 := by
    obtain ⟨f, fd, F, hm⟩ := D.f__law_body
    exact b_f__law_body_0 F hm fn_zero
  f__law_calls_0 := by
    obtain ⟨f, fd, F, hm⟩ := D.f__law_calls
    exact b_f__law_calls_0 F hm fn_zero
  f__law_come_0 := by
    obtain ⟨f, fd, F, hm⟩ := D.f__law_come
    exact b_f__law_come_0 F hm fn_zero
  f__law_draw_0 := by
    obtain ⟨f, fd, F, hm⟩ := D.f__law_draw
    exact b_f__law_draw_0 F hm fn_zero
  f__law_longest_0 := by
    obtain ⟨f, fd, F, hm⟩ := D.f__law_longest
    exact b_f__law_longest_0 F hm fn_zero
  f__law_made_0 := by
    obtain ⟨f, fd, F, hm⟩ := D.f__law_made
    exact b_f__law_made_0 F hm fn_zero
  f__law_pick_0 := by
    obtain ⟨f, fd, F, hm⟩ := D.f__law_pick
    exact b_f__law_pick_0 F hm fn_zero
  f__law_pot_0 := by
    obtain ⟨f, fd, F, hm⟩ := D.f__law_pot
    exact b_f__law_pot_0 F hm fn_zero
  f__law_right_0 := by
    obtain ⟨f, fd, F, hm⟩ := D.f__law_right
    exact b_f__law_right_0 F hm fn_zero
  f__law_statement_0 := by
    obtain ⟨f, fd, F, hm⟩ := D.f__law_statement
    exact b_f__law_statement_0 F hm fn_zero
  f_are_bodies_0 := by
    obtain ⟨f, fd, F, hm⟩ := D.f_are_bodies
    exact b_f_are_bodies_0 F hm fn_zero
  f_are_threads_0 := by
    obtain ⟨f, fd, F, hm⟩ := D.f_are_threads
    exact b_f_are_threads_0 F hm fn_zero
  f_bodies_of_0 := by
    obtain ⟨f, fd, F, hm⟩ := D.f_bodies_of
    exact b_f_bodies_of_0 F hm fn_zero
  f_body_size_0 := by
    obtain ⟨f, fd, F, hm⟩ := D.f_body_size
    exact b_f_body_size_0 F hm fn_zero
  f_calls_by_bodies_0 := by
    obtain ⟨f, fd, F, hm⟩ := D.f_calls_by_bodies
    exact b_f_calls_by_bodies_0 F hm fn_zero
  f_calls_of_0 := by
    obtain ⟨f, fd, F, hm⟩ := D.f_calls_of
    exact b_f_calls_of_0 F hm fn_zero
  f_calls_within_0 := by
    obtain ⟨f, fd, F, hm⟩ := D.f_calls_within
    exact b_f_calls_within_0 F hm fn_zero
  f_come_to_0 := by
    obtain ⟨f, fd, F, hm⟩ := D.f_come_to
    exact b_f_come_to_0 F hm fn_zero
  f_come_to_by_threads_0 := by
    obtain ⟨f, fd, F, hm⟩ := D.f_come_to_by_threads
    exact b_f_come_to_by_threads_0 F hm fn_zero
  f_deepest_0 := by
    obtain ⟨f, fd, F, hm⟩ := D.f_deepest
    exact b_f_deepest_0 F hm fn_zero
  f_is_body_of_0 := by
    obtain ⟨f, fd, F, hm⟩ := D.f_is_body_of
    exact b_f_is_body_of_0 F hm fn_zero
  f_is_body_of_1 := by
    obtain ⟨f, fd, F, hm⟩ := D.f_is_body_of
    exact b_f_is_body_of_1 F hm fn_zero
  f_is_count_0 := by
    obtain ⟨f, fd, F, hm⟩ := D.f_is_count
    exact b_f_is_count_0 F hm fn_zero
  f_is_in_ring_0 := by
    obtain ⟨f, fd, F, hm⟩ := D.f_is_in_ring
    exact b_f_is_in_ring_0 F hm fn_zero
  f_is_integer_0 := by
    obtain ⟨f, fd, F, hm⟩ := D.f_is_integer
    exact b_f_is_integer_0 F hm fn_zero
  f_is_list_0 := by
    obtain ⟨f, fd, F, hm⟩ := D.f_is_list
    exact b_f_is_list_0 F hm fn_zero
  f_is_number_to_0 := by
    obtain ⟨f, fd, F, hm⟩ := D.f_is_number_to
    exact b_f_is_number_to_0 F hm fn_zero
  f_is_recursive_0 := by
    obtain ⟨f, fd, F, hm⟩ := D.f_is_recursive
    exact b_f_is_recursive_0 F hm fn_zero
  f_is_statement_of_0 := by
    obtain ⟨f, fd, F, hm⟩ := D.f_is_statement_of
    exact b_f_is_statement_of_0 F hm fn_zero
  f_longest_row_0 := by
    obtain ⟨f, fd, F, hm⟩ := D.f_longest_row
    exact b_f_longest_row_0 F hm fn_zero
  f_reached_0 := by
    obtain ⟨f, fd, F, hm⟩ := D.f_reached
    exact b_f_reached_0 F hm fn_zero
  f_statements_in_0 := by
    obtain ⟨f, fd, F, hm⟩ := D.f_statements_in
    exact b_f_statements_in_0 F hm fn_zero
  f_want_program_0 := by
    obtain ⟨f, fd, F, hm⟩ := D.f_want_program
    exact b_f_want_program_0 F hm fn_zero
  f_want_thread_0 := by
    obtain ⟨f, fd, F, hm⟩ := D.f_want_thread
    exact b_f_want_thread_0 F hm fn_zero
  k_calls_of_program := by
    obtain ⟨f, fd, F, hm⟩ := D.f_calls_of
    exact bk_calls_of_program F hm fn_zero
  m_Program_bodies := by
    obtain ⟨f, fd, F, hm⟩ := D.m_Program_bodies
    exact bm_m_Program_bodies D F hm fn_zero
  m_Program_threads := by
    obtain ⟨f, fd, F, hm⟩ := D.m_Program_threads
    exact bm_m_Program_threads D F hm fn_zero
  mk_Program := ⟨by decide +kernel, .inl fun _ => rfl⟩
  up_Program := ⟨by decide +kernel, .inl fun _ => rfl⟩
theorem factsS (St : Stat C) (D : Dfs C) (Fs : Facts C k Φ) : Facts C (k + 1) (nxt Φ) where
  f__law_body_0 := by
    obtain ⟨f, fd, F, hm⟩ := D.f__law_body
    exact b_f__law_body_0 F hm (s_f__law_body St Fs F)
  f__law_calls_0 := by
    obtain ⟨f, fd, F, hm⟩ := D.f__law_calls
    exact b_f__law_calls_0 F hm (s_f__law_calls St Fs F)
  f__law_come_0 := by
    obtain ⟨f, fd, F, hm⟩ := D.f__law_come
    exact b_f__law_come_0 F hm (s_f__law_come St Fs F)
  f__law_draw_0 := by
    obtain ⟨f, fd, F, hm⟩ := D.f__law_draw
    exact b_f__law_draw_0 F hm (s_f__law_draw St Fs F)
  f__law_longest_0 := by
    obtain ⟨f, fd, F, hm⟩ := D.f__law_longest
    exact b_f__law_longest_0 F hm (s_f__law_longest St Fs F)
  f__law_made_0 := by
    obtain ⟨f, fd, F, hm⟩ := D.f__law_made
    exact b_f__law_made_0 F hm (s_f__law_made St Fs F)
  f__law_pick_0 := by
    obtain ⟨f, fd, F, hm⟩ := D.f__law_pick
    exact b_f__law_pick_0 F hm (s_f__law_pick St Fs F)
  f__law_pot_0 := by
    obtain ⟨f, fd, F, hm⟩ := D.f__law_pot
    exact b_f__law_pot_0 F hm (s_f__law_pot St Fs F)
  f__law_right_0 := by
    obtain ⟨f, fd, F, hm⟩ := D.f__law_right
    exact b_f__law_right_0 F hm (s_f__law_right St Fs F)
  f__law_statement_0 := by
    obtain ⟨f, fd, F, hm⟩ := D.f__law_statement
    exact b_f__law_statement_0 F hm (s_f__law_statement St Fs F)
  f_are_bodies_0 := by
    obtain ⟨f, fd, F, hm⟩ := D.f_are_bodies
    exact b_f_are_bodies_0 F hm (s_f_are_bodies St Fs F)
  f_are_threads_0 := by
    obtain ⟨f, fd, F, hm⟩ := D.f_are_threads
    exact b_f_are_threads_0 F hm (s_f_are_threads St Fs F)
  f_bodies_of_0 := by
    obtain ⟨f, fd, F, hm⟩ := D.f_bodies_of
    exact b_f_bodies_of_0 F hm (s_f_bodies_of St Fs F)
  f_body_size_0 := by
    obtain ⟨f, fd, F, hm⟩ := D.f_body_size
    exact b_f_body_size_0 F hm (s_f_body_size St Fs F)
  f_calls_by_bodies_0 := by
    obtain ⟨f, fd, F, hm⟩ := D.f_calls_by_bodies
    exact b_f_calls_by_bodies_0 F hm (s_f_calls_by_bodies St Fs F)
  f_calls_of_0 := by
    obtain ⟨f, fd, F, hm⟩ := D.f_calls_of
    exact b_f_calls_of_0 F hm (s_f_calls_of St Fs F)
  f_calls_within_0 := by
    obtain ⟨f, fd, F, hm⟩ := D.f_calls_within
    exact b_f_calls_within_0 F hm (s_f_calls_within St Fs F)
  f_come_to_0 := by
    obtain ⟨f, fd, F, hm⟩ := D.f_come_to
    exact b_f_come_to_0 F hm (s_f_come_to St Fs F)
  f_come_to_by_threads_0 := by
    obtain ⟨f, fd, F, hm⟩ := D.f_come_to_by_threads
    exact b_f_come_to_by_threads_0 F hm (s_f_come_to_by_threads St Fs F)
  f_deepest_0 := by
    obtain ⟨f, fd, F, hm⟩ := D.f_deepest
    exact b_f_deepest_0 F hm (s_f_deepest St Fs F)
  f_is_body_of_0 := by
    obtain ⟨f, fd, F, hm⟩ := D.f_is_body_of
    exact b_f_is_body_of_0 F hm (s_f_is_body_of St Fs F)
  f_is_body_of_1 := by
    obtain ⟨f, fd, F, hm⟩ := D.f_is_body_of
    exact b_f_is_body_of_1 F hm (s_f_is_body_of St Fs F)
  f_is_count_0 := by
    obtain ⟨f, fd, F, hm⟩ := D.f_is_count
    exact b_f_is_count_0 F hm (s_f_is_count St Fs F)
  f_is_in_ring_0 := by
    obtain ⟨f, fd, F, hm⟩ := D.f_is_in_ring
    exact b_f_is_in_ring_0 F hm (s_f_is_in_ring St Fs F)
  f_is_integer_0 := by
    obtain ⟨f, fd, F, hm⟩ := D.f_is_integer
    exact b_f_is_integer_0 F hm (s_f_is_integer St Fs F)
  f_is_list_0 := by
    obtain ⟨f, fd, F, hm⟩ := D.f_is_list
    exact b_f_is_list_0 F hm (s_f_is_list St Fs F)
  f_is_number_to_0 := by
    obtain ⟨f, fd, F, hm⟩ := D.f_is_number_to
    exact b_f_is_number_to_0 F hm (s_f_is_number_to St Fs F)
  f_is_recursive_0 := by
    obtain ⟨f, fd, F, hm⟩ := D.f_is_recursive
    exact b_f_is_recursive_0 F hm (s_f_is_recursive St Fs F)
  f_is_statement_of_0 := by
    obtain ⟨f, fd, F, hm⟩ := D.f_is_statement_of
    exact b_f_is_statement_of_0 F hm (s_f_is_statement_of St Fs F)
  f_longest_row_0 := by
    obtain ⟨f, fd, F, hm⟩ := D.f_longest_row
    exact b_f_longest_row_0 F hm (s_f_longest_row St Fs F)
  f_reached_0 := by
    obtain ⟨f, fd, F, hm⟩ := D.f_reached
    exact b_f_reached_0 F hm (s_f_reached St Fs F)
  f_statements_in_0 := by
    obtain ⟨f, fd, F, hm⟩ := D.f_statements_in
    exact b_f_statements_in_0 F hm (s_f_statements_in St Fs F)
  f_want_program_0 := by
    obtain ⟨f, fd, F, hm⟩ := D.f_want_program
    exact b_f_want_program_0 F hm (s_f_want_program St Fs F)
  f_want_thread_0 := by
    obtain ⟨f, fd, F, hm⟩ := D.f_want_thread
    exact b_f_want_thread_0 F hm (s_f_want_thread St Fs F)
  k_calls_of_program := by
    obtain ⟨f, fd, F, hm⟩ := D.f_calls_of
    exact bk_calls_of_program F hm (s_f_calls_of St Fs F)
  m_Program_bodies := by
    obtain ⟨f, fd, F, hm⟩ := D.m_Program_bodies
    exact bm_m_Program_bodies D F hm (s_m_Program_bodies St Fs F)
  m_Program_threads := by
    obtain ⟨f, fd, F, hm⟩ := D.m_Program_threads
    exact bm_m_Program_threads D F hm (s_m_Program_threads St Fs F)
  mk_Program := Fs.up_Program
  up_Program := by
    obtain ⟨f, fd, F, mk, hm⟩ := D.m_Program_init
    exact ⟨by decide +kernel, .inr ⟨_, f, fd, _, [], [], rfl, s_m_Program_init St Fs F, hm, mk, F.bindsN (fun kV doc pm an cdv ct us hl => match us, hl with | [_, _, _, _, _, _], _ => rfl), .nil, rfl⟩⟩
end
noncomputable def PhiN : Nat → Phi
  | 0 => bot
  | k + 1 => nxt (PhiN k)
theorem factsN {C : VS.Ctx} (St : Stat C) (D : Dfs C) : ∀ k, Facts C k (PhiN k)
  | 0 => facts0 D
  | k + 1 => factsS St D (factsN St D k)
theorem e_f_calls_within (k : Nat) : (PhiN (k + 1)).f_calls_within = runF 1 3 [] (d_f_calls_within (PhiN k)) := rfl
theorem e_f_calls_by_bodies (k : Nat) : (PhiN (k + 1)).f_calls_by_bodies = runF 1 2 [] (d_f_calls_by_bodies (PhiN k)) := rfl
theorem e_f_is_integer (k : Nat) : (PhiN (k + 1)).f_is_integer = runF 1 1 [] (d_f_is_integer (PhiN k)) := rfl
theorem e_f_is_count (k : Nat) : (PhiN (k + 1)).f_is_count = runF 1 1 [] (d_f_is_count (PhiN k)) := rfl
theorem e_f_is_number_to (k : Nat) : (PhiN (k + 1)).f_is_number_to = runF 3 3 [] (d_f_is_number_to (PhiN k)) := rfl
theorem e_f_is_list (k : Nat) : (PhiN (k + 1)).f_is_list = runF 1 1 [] (d_f_is_list (PhiN k)) := rfl
theorem e_f_is_statement_of (k : Nat) : (PhiN (k + 1)).f_is_statement_of = runF 3 8 [] (d_f_is_statement_of (PhiN k)) := rfl
theorem e_f_is_body_of (k : Nat) : (PhiN (k + 1)).f_is_body_of = runF 3 4 [] (d_f_is_body_of (PhiN k)) := rfl
theorem e_f_are_bodies (k : Nat) : (PhiN (k + 1)).f_are_bodies = runF 4 6 [] (d_f_are_bodies (PhiN k)) := rfl
theorem e_f_are_threads (k : Nat) : (PhiN (k + 1)).f_are_threads = runF 2 3 [] (d_f_are_threads (PhiN k)) := rfl
theorem e_f_bodies_of (k : Nat) : (PhiN (k + 1)).f_bodies_of = runF 1 2 [] (d_f_bodies_of (PhiN k)) := rfl
theorem e_f_body_size (k : Nat) : (PhiN (k + 1)).f_body_size = runF 1 3 [] (d_f_body_size (PhiN k)) := rfl
theorem e_f_statements_in (k : Nat) : (PhiN (k + 1)).f_statements_in = runF 1 2 [] (d_f_statements_in (PhiN k)) := rfl
theorem e_m_Program_init (k : Nat) : (PhiN (k + 1)).m_Program_init = runF 6 6 [0] (d_m_Program_init (PhiN k)) := rfl
theorem e_f_want_program (k : Nat) : (PhiN (k + 1)).f_want_program = runF 1 1 [] (d_f_want_program (PhiN k)) := rfl
theorem e_f_calls_of (k : Nat) : (PhiN (k + 1)).f_calls_of = runF 1 1 [] (d_f_calls_of (PhiN k)) := rfl
theorem e_f__law_made (k : Nat) : (PhiN (k + 1)).f__law_made = runF 1 4 [] (d_f__law_made (PhiN k)) := rfl
theorem e_f_want_thread (k : Nat) : (PhiN (k + 1)).f_want_thread = runF 2 2 [] (d_f_want_thread (PhiN k)) := rfl
theorem e_f_come_to (k : Nat) : (PhiN (k + 1)).f_come_to = runF 2 7 [] (d_f_come_to (PhiN k)) := rfl
theorem e_f_reached (k : Nat) : (PhiN (k + 1)).f_reached = runF 2 3 [] (d_f_reached (PhiN k)) := rfl
theorem e_f__law_draw (k : Nat) : (PhiN (k + 1)).f__law_draw = runF 2 3 [0] (d_f__law_draw (PhiN k)) := rfl
theorem e_f__law_pick (k : Nat) : (PhiN (k + 1)).f__law_pick = runF 2 2 [0] (d_f__law_pick (PhiN k)) := rfl
theorem e_f__law_statement (k : Nat) : (PhiN (k + 1)).f__law_statement = runF 4 13 [0, 3] (d_f__law_statement (PhiN k)) := rfl
theorem e_f__law_body (k : Nat) : (PhiN (k + 1)).f__law_body = runF 4 6 [0, 3] (d_f__law_body (PhiN k)) := rfl
theorem e_f__law_calls (k : Nat) : (PhiN (k + 1)).f__law_calls = runF 1 4 [] (d_f__law_calls (PhiN k)) := rfl
theorem e_f_is_in_ring (k : Nat) : (PhiN (k + 1)).f_is_in_ring = runF 2 3 [] (d_f_is_in_ring (PhiN k)) := rfl
theorem e_f_come_to_by_threads (k : Nat) : (PhiN (k + 1)).f_come_to_by_threads = runF 2 4 [] (d_f_come_to_by_threads (PhiN k)) := rfl
theorem e_f_is_recursive (k : Nat) : (PhiN (k + 1)).f_is_recursive = runF 1 4 [] (d_f_is_recursive (PhiN k)) := rfl
theorem e_f__law_longest (k : Nat) : (PhiN (k + 1)).f__law_longest = runF 2 4 [] (d_f__law_longest (PhiN k)) := rfl
theorem e_f_longest_row (k : Nat) : (PhiN (k + 1)).f_longest_row = runF 2 3 [] (d_f_longest_row (PhiN k)) := rfl
theorem e_f_deepest (k : Nat) : (PhiN (k + 1)).f_deepest = runF 1 3 [] (d_f_deepest (PhiN k)) := rfl
theorem e_f__law_come (k : Nat) : (PhiN (k + 1)).f__law_come = runF 2 6 [] (d_f__law_come (PhiN k)) := rfl
theorem e_f__law_right (k : Nat) : (PhiN (k + 1)).f__law_right = runF 1 16 [0] (d_f__law_right (PhiN k)) := rfl
theorem e_f__law_pot (k : Nat) : (PhiN (k + 1)).f__law_pot = runF 2 3 [] (d_f__law_pot (PhiN k)) := rfl
theorem e_f_law (k : Nat) : (PhiN (k + 1)).f_law = runF 1 1 [] (d_f_law (PhiN k)) := rfl
theorem e_m_Program_bodies (k : Nat) : (PhiN (k + 1)).m_Program_bodies = runF 1 1 [] (d_m_Program_bodies (PhiN k)) := rfl
theorem e_m_Program_threads (k : Nat) : (PhiN (k + 1)).m_Program_threads = runF 1 1 [] (d_m_Program_threads (PhiN k)) := rfl
theorem e_mk_Program (k : Nat) : (PhiN (k + 1)).mk_Program = (PhiN k).m_Program_init := rfl
end VW
namespace VW
open PySem L2 VS
def dd0 : He.DefD := ⟨("calls_within", none), "calls_within", "calls_within", defArgs (top 38), defBody (top 38), defScope (top 38), [], []⟩
def dd1 : He.DefD := ⟨("calls_by_bodies", none), "calls_by_bodies", "calls_by_bodies", defArgs (top 39), defBody (top 39), defScope (top 39), [], []⟩
def dd2 : He.DefD := ⟨("is_integer", none), "is_integer", "is_integer", defArgs (top 12), defBody (top 12), defScope (top 12), [], []⟩
def dd3 : He.DefD := ⟨("is_count", none), "is_count", "is_count", defArgs (top 13), defBody (top 13), defScope (top 13), [], []⟩
def dd4 : He.DefD := ⟨("is_number_to", none), "is_number_to", "is_number_to", defArgs (top 30), defBody (top 30), defScope (top 30), [], []⟩
def dd5 : He.DefD := ⟨("is_list", none), "is_list", "is_list", defArgs (top 14), defBody (top 14), defScope (top 14), [], []⟩
def dd6 : He.DefD := ⟨("is_statement_of", none), "is_statement_of", "is_statement_of", defArgs (top 19), defBody (top 19), defScope (top 19), [], []⟩
def dd7 : He.DefD := ⟨("is_body_of", none), "is_body_of", "is_body_of", defArgs (top 20), defBody (top 20), defScope (top 20), [.int 6], []⟩
def dd8 : He.DefD := ⟨("are_bodies", none), "are_bodies", "are_bodies", defArgs (top 31), defBody (top 31), defScope (top 31), [], []⟩
def dd9 : He.DefD := ⟨("are_threads", none), "are_threads", "are_threads", defArgs (top 32), defBody (top 32), defScope (top 32), [], []⟩
def dd10 : He.DefD := ⟨("bodies_of", none), "bodies_of", "bodies_of", defArgs (top 21), defBody (top 21), defScope (top 21), [], []⟩
def dd11 : He.DefD := ⟨("body_size", none), "body_size", "body_size", defArgs (top 22), defBody (top 22), defScope (top 22), [], []⟩
def dd12 : He.DefD := ⟨("statements_in", none), "statements_in", "statements_in", defArgs (top 33), defBody (top 33), defScope (top 33), [], []⟩
def dd13 : He.DefD := ⟨("Program", some "__init__"), "__init__", "Program.__init__", defArgs (inClass (top 34) 0), defBody (inClass (top 34) 0), defScope (inClass (top 34) 0), [], []⟩
def dd14 : He.DefD := ⟨("want_program", none), "want_program", "want_program", defArgs (top 35), defBody (top 35), defScope (top 35), [], []⟩
def dd15 : He.DefD := ⟨("calls_of", none), "calls_of", "calls_of", defArgs (top 44), defBody (top 44), defScope (top 44), [], []⟩
def dd16 : He.DefD := ⟨("_law_made", none), "_law_made", "_law_made", defArgs (top 54), defBody (top 54), defScope (top 54), [], []⟩
def dd17 : He.DefD := ⟨("want_thread", none), "want_thread", "want_thread", defArgs (top 36), defBody (top 36), defScope (top 36), [], []⟩
def dd18 : He.DefD := ⟨("come_to", none), "come_to", "come_to", defArgs (top 40), defBody (top 40), defScope (top 40), [], []⟩
def dd19 : He.DefD := ⟨("reached", none), "reached", "reached", defArgs (top 46), defBody (top 46), defScope (top 46), [], []⟩
def dd20 : He.DefD := ⟨("_law_draw", none), "_law_draw", "_law_draw", defArgs (top 50), defBody (top 50), defScope (top 50), [], []⟩
def dd21 : He.DefD := ⟨("_law_pick", none), "_law_pick", "_law_pick", defArgs (top 51), defBody (top 51), defScope (top 51), [], []⟩
def dd22 : He.DefD := ⟨("_law_statement", none), "_law_statement", "_law_statement", defArgs (top 53), defBody (top 53), defScope (top 53), [], []⟩
def dd23 : He.DefD := ⟨("_law_body", none), "_law_body", "_law_body", defArgs (top 52), defBody (top 52), defScope (top 52), [], []⟩
def dd24 : He.DefD := ⟨("_law_calls", none), "_law_calls", "_law_calls", defArgs (top 55), defBody (top 55), defScope (top 55), [], []⟩
def dd25 : He.DefD := ⟨("is_in_ring", none), "is_in_ring", "is_in_ring", defArgs (top 41), defBody (top 41), defScope (top 41), [], []⟩
def dd26 : He.DefD := ⟨("come_to_by_threads", none), "come_to_by_threads", "come_to_by_threads", defArgs (top 42), defBody (top 42), defScope (top 42), [], []⟩
def dd27 : He.DefD := ⟨("is_recursive", none), "is_recursive", "is_recursive", defArgs (top 45), defBody (top 45), defScope (top 45), [], []⟩
def dd28 : He.DefD := ⟨("_law_longest", none), "_law_longest", "_law_longest", defArgs (top 57), defBody (top 57), defScope (top 57), [], []⟩
def dd29 : He.DefD := ⟨("longest_row", none), "longest_row", "longest_row", defArgs (top 43), defBody (top 43), defScope (top 43), [], []⟩
def dd30 : He.DefD := ⟨("deepest", none), "deepest", "deepest", defArgs (top 47), defBody (top 47), defScope (top 47), [], []⟩
def dd31 : He.DefD := ⟨("_law_come", none), "_law_come", "_law_come", defArgs (top 56), defBody (top 56), defScope (top 56), [], []⟩
def dd32 : He.DefD := ⟨("_law_right", none), "_law_right", "_law_right", defArgs (top 58), defBody (top 58), defScope (top 58), [], []⟩
def dd33 : He.DefD := ⟨("_law_pot", none), "_law_pot", "_law_pot", defArgs (top 49), defBody (top 49), defScope (top 49), [], []⟩
def dd34 : He.DefD := ⟨("law", none), "law", "law", defArgs (top 59), defBody (top 59), defScope (top 59), [], []⟩
def dd35 : He.DefD := ⟨("Program", some "bodies"), "bodies", "Program.bodies", defArgs (inClass (top 34) 4), defBody (inClass (top 34) 4), defScope (inClass (top 34) 4), [], []⟩
def dd36 : He.DefD := ⟨("Program", some "threads"), "threads", "Program.threads", defArgs (inClass (top 34) 5), defBody (inClass (top 34) 5), defScope (inClass (top 34) 5), [], []⟩
def fn : List He.DefD := [dd0, dd1, dd2, dd3, dd4, dd5, dd6, dd7, dd8, dd9, dd10, dd11, dd12, dd13, dd14, dd15, dd16, dd17, dd18, dd19, dd20, dd21, dd22, dd23, dd24, dd25, dd26, dd27, dd28, dd29, dd30, dd31, dd32, dd33, dd34, dd35, dd36]
def fa : List He.Fa := [.glo "calls_within", .glo "calls_by_bodies", .glo "is_integer", .glo "is_count", .glo "is_number_to", .glo "is_list", .glo "is_statement_of", .glo "is_body_of", .glo "are_bodies", .glo "are_threads", .glo "bodies_of", .glo "body_size", .glo "statements_in", .mkr "Program", .glo "Program", .glo "want_program", .glo "calls_of", .glo "_law_made", .glo "want_thread", .glo "come_to", .glo "reached", .glo "_law_draw", .glo "_law_pick", .glo "_law_statement", .glo "_law_body", .glo "_law_calls", .glo "is_in_ring", .glo "come_to_by_threads", .glo "is_recursive", .glo "_law_longest", .glo "longest_row", .glo "deepest", .glo "_law_come", .glo "_law_right", .glo "_law_pot", .glo "law", .meth "Program" "bodies", .meth "Program" "threads", .free "abs", .free "all", .free "any", .free "bool", .free "divmod", .free "enumerate", .free "int", .free "isinstance", .free "len", .free "list", .free "max", .free "range", .free "repr", .free "set", .free "sorted", .free "str", .free "sum", .free "tuple", .int "MOST_CELLS" 4, .int "MOST_LABEL" 9, .int "MOST_LOCKS" 4, .int "MOST_MODES" 4, .int "MOST_PROCEDURES" 6, .int "MOST_STATEMENTS" 60, .int "MOST_THREADS" 4, .glo "KINDS", .cls "Program", .noat "Program" "own_locks", .noat "Program" "own_cells", .noat "Program" "own_modes", .noat "Program" "own_bodies", .noat "Program" "own_threads"]
def ts : List He.Tab := [(fun K => He.ga K "KINDS", ["skip", "touch", "write", "mark", "set", "claim", "call", "hold", "either", "when", "loop"])]
def td_KINDS : List (Str × List He.Dv) := [("skip", [.non, .int 0]), ("touch", [.int 1, .int 0]), ("write", [.int 1, .int 0]), ("mark", [.int 4, .int 0]), ("set", [.int 2, .int 0]), ("claim", [.int 2, .int 0]), ("call", [.int 3, .int 0]), ("hold", [.int 0, .int 1]), ("either", [.non, .int 2]), ("when", [.int 2, .int 2]), ("loop", [.non, .int 1])]
def xs : List (PySem.W.Frag → Bool) := [itB "KINDS" td_KINDS, insB "Program"]
def clsAt : Nat → Str
  | 0 => "Program"
  | _ => ""
def flds : List Str := ["own_locks", "own_cells", "own_modes", "own_bodies", "own_threads"]
abbrev gl0 (K : PySem.W.Frag) : Gl0 := ⟨K, fun c => He.ga K (clsAt c), fnOf flds⟩
abbrev cx (P : Program) (w : World) (K : PySem.W.Frag) (mg : Str → Option Value) (base : Heap) : VS.Ctx := ⟨gl0 K, P, w, mg, base⟩
section
variable {P : Program} {w : World} {K : PySem.W.Frag} {h : Heap} {mg : Str → Option Value} {base : Heap}
theorem stat_ok (X : K.In h) (G : h.Ns mainGlobals mg) (c : SaysX fa fn ts xs w K) : Stat (cx P w K mg base) where
  b_abs := ⟨He.free_ok X G (c.t.d.fact 38 (f := .free "abs") rfl), by kernel_rfl, by decide +kernel, by decide +kernel⟩
  b_all := ⟨He.free_ok X G (c.t.d.fact 39 (f := .free "all") rfl), by kernel_rfl, by decide +kernel, by decide +kernel⟩
  b_any := ⟨He.free_ok X G (c.t.d.fact 40 (f := .free "any") rfl), by kernel_rfl, by decide +kernel, by decide +kernel⟩
  b_bool := ⟨He.free_ok X G (c.t.d.fact 41 (f := .free "bool") rfl), by kernel_rfl, by decide +kernel, by decide +kernel⟩
  b_divmod := ⟨He.free_ok X G (c.t.d.fact 42 (f := .free "divmod") rfl), by kernel_rfl, by decide +kernel, by decide +kernel⟩
  b_enumerate := ⟨He.free_ok X G (c.t.d.fact 43 (f := .free "enumerate") rfl), by kernel_rfl, by decide +kernel, by decide +kernel⟩
  b_int := ⟨He.free_ok X G (c.t.d.fact 44 (f := .free "int") rfl), by kernel_rfl, by decide +kernel, by decide +kernel⟩
  b_isinstance := ⟨He.free_ok X G (c.t.d.fact 45 (f := .free "isinstance") rfl), by kernel_rfl, by decide +kernel, by decide +kernel⟩
  b_len := ⟨He.free_ok X G (c.t.d.fact 46 (f := .free "len") rfl), by kernel_rfl, by decide +kernel, by decide +kernel⟩
  b_list := ⟨He.free_ok X G (c.t.d.fact 47 (f := .free "list") rfl), by kernel_rfl, by decide +kernel, by decide +kernel⟩
  b_max := ⟨He.free_ok X G (c.t.d.fact 48 (f := .free "max") rfl), by kernel_rfl, by decide +kernel, by decide +kernel⟩
  b_range := ⟨He.free_ok X G (c.t.d.fact 49 (f := .free "range") rfl), by kernel_rfl, by decide +kernel, by decide +kernel⟩
  b_repr := ⟨He.free_ok X G (c.t.d.fact 50 (f := .free "repr") rfl), by kernel_rfl, by decide +kernel, by decide +kernel⟩
  b_set := ⟨He.free_ok X G (c.t.d.fact 51 (f := .free "set") rfl), by kernel_rfl, by decide +kernel, by decide +kernel⟩
  b_sorted := ⟨He.free_ok X G (c.t.d.fact 52 (f := .free "sorted") rfl), by kernel_rfl, by decide +kernel, by decide +kernel⟩
  b_str := ⟨He.free_ok X G (c.t.d.fact 53 (f := .free "str") rfl), by kernel_rfl, by decide +kernel, by decide +kernel⟩
  b_sum := ⟨He.free_ok X G (c.t.d.fact 54 (f := .free "sum") rfl), by kernel_rfl, by decide +kernel, by decide +kernel⟩
  b_tuple := ⟨He.free_ok X G (c.t.d.fact 55 (f := .free "tuple") rfl), by kernel_rfl, by decide +kernel, by decide +kernel⟩
  i_MOST_CELLS := by
    obtain ⟨t, e⟩ := He.int_ok X G (c.t.d.fact 56 (f := .int "MOST_CELLS" 4) rfl)
    exact ⟨by decide +kernel, _, e, t, rfl⟩
  i_MOST_LABEL := by
    obtain ⟨t, e⟩ := He.int_ok X G (c.t.d.fact 57 (f := .int "MOST_LABEL" 9) rfl)
    exact ⟨by decide +kernel, _, e, t, rfl⟩
  i_MOST_LOCKS := by
    obtain ⟨t, e⟩ := He.int_ok X G (c.t.d.fact 58 (f := .int "MOST_LOCKS" 4) rfl)
    exact ⟨by decide +kernel, _, e, t, rfl⟩
  i_MOST_MODES := by
    obtain ⟨t, e⟩ := He.int_ok X G (c.t.d.fact 59 (f := .int "MOST_MODES" 4) rfl)
    exact ⟨by decide +kernel, _, e, t, rfl⟩
  i_MOST_PROCEDURES := by
    obtain ⟨t, e⟩ := He.int_ok X G (c.t.d.fact 60 (f := .int "MOST_PROCEDURES" 6) rfl)
    exact ⟨by decide +kernel, _, e, t, rfl⟩
  i_MOST_STATEMENTS := by
    obtain ⟨t, e⟩ := He.int_ok X G (c.t.d.fact 61 (f := .int "MOST_STATEMENTS" 60) rfl)
    exact ⟨by decide +kernel, _, e, t, rfl⟩
  i_MOST_THREADS := by
    obtain ⟨t, e⟩ := He.int_ok X G (c.t.d.fact 62 (f := .int "MOST_THREADS" 4) rfl)
    exact ⟨by decide +kernel, _, e, t, rfl⟩
  d_KINDS := by
    obtain ⟨es, n, D⟩ := c.t.tab 0 rfl
    exact ⟨by decide +kernel, _, es, n, He.glo_ok X G (c.t.d.fact 63 (f := .glo "KINDS") rfl), D, itB_ok (g := gl0 K) (x := "KINDS") (tb := td_KINDS) (c.x 0 rfl)⟩
  c_Program := ⟨by decide +kernel, He.glo_ok X G (c.t.d.fact 14 (f := .glo "Program") rfl), insB_ok (x := "Program") (c.x 1 rfl) (He.cls_ok (c.t.d.fact 64 (f := .cls "Program") rfl))⟩
  gok := by
    have cc := c
    refine ⟨fnOf_inj (by decide +kernel) (by decide +kernel), fun c hc => ?_, fun c n hc hn => ?_⟩
    · match c, hc with
      | 0, _ => exact He.cls_ok (cc.t.d.fact 64 (f := .cls "Program") rfl)
    · match c, n, hc, hn with
      | 0, 0, _, _ => exact He.noat_ok (cc.t.d.fact 65 (f := .noat "Program" "own_locks") rfl)
      | 0, 1, _, _ => exact He.noat_ok (cc.t.d.fact 66 (f := .noat "Program" "own_cells") rfl)
      | 0, 2, _, _ => exact He.noat_ok (cc.t.d.fact 67 (f := .noat "Program" "own_modes") rfl)
      | 0, 3, _, _ => exact He.noat_ok (cc.t.d.fact 68 (f := .noat "Program" "own_bodies") rfl)
      | 0, 4, _, _ => exact He.noat_ok (cc.t.d.fact 69 (f := .noat "Program" "own_threads") rfl)
  fld_own_locks := rfl
  fld_own_cells := rfl
  fld_own_modes := rfl
  fld_own_bodies := rfl
  fld_own_threads := rfl
theorem dfs_ok (X : K.In h) (G : h.Ns mainGlobals mg) (c : SaysX fa fn ts xs w K) : Dfs (cx P w K mg base) where
  f_calls_within := by
    obtain ⟨fd, F⟩ := c.t.d.def_ 0 (d := dd0) rfl
    exact ⟨_, fd, F, He.glo_ok X G (c.t.d.fact 0 (f := .glo "calls_within") rfl)⟩
  f_calls_by_bodies := by
    obtain ⟨fd, F⟩ := c.t.d.def_ 1 (d := dd1) rfl
    exact ⟨_, fd, F, He.glo_ok X G (c.t.d.fact 1 (f := .glo "calls_by_bodies") rfl)⟩
  f_is_integer := by
    obtain ⟨fd, F⟩ := c.t.d.def_ 2 (d := dd2) rfl
    exact ⟨_, fd, F, He.glo_ok X G (c.t.d.fact 2 (f := .glo "is_integer") rfl)⟩
  f_is_count := by
    obtain ⟨fd, F⟩ := c.t.d.def_ 3 (d := dd3) rfl
    exact ⟨_, fd, F, He.glo_ok X G (c.t.d.fact 3 (f := .glo "is_count") rfl)⟩
  f_is_number_to := by
    obtain ⟨fd, F⟩ := c.t.d.def_ 4 (d := dd4) rfl
    exact ⟨_, fd, F, He.glo_ok X G (c.t.d.fact 4 (f := .glo "is_number_to") rfl)⟩
  f_is_list := by
    obtain ⟨fd, F⟩ := c.t.d.def_ 5 (d := dd5) rfl
    exact ⟨_, fd, F, He.glo_ok X G (c.t.d.fact 5 (f := .glo "is_list") rfl)⟩
  f_is_statement_of := by
    obtain ⟨fd, F⟩ := c.t.d.def_ 6 (d := dd6) rfl
    exact ⟨_, fd, F, He.glo_ok X G (c.t.d.fact 6 (f := .glo "is_statement_of") rfl)⟩
  f_is_body_of := by
    obtain ⟨fd, F⟩ := c.t.d.def_ 7 (d := dd7) rfl
    exact ⟨_, fd, F, He.glo_ok X G (c.t.d.fact 7 (f := .glo "is_body_of") rfl)⟩
  f_are_bodies := by
    obtain ⟨fd, F⟩ := c.t.d.def_ 8 (d := dd8) rfl
    exact ⟨_, fd, F, He.glo_ok X G (c.t.d.fact 8 (f := .glo "are_bodies") rfl)⟩
  f_are_threads := by
    obtain ⟨fd, F⟩ := c.t.d.def_ 9 (d := dd9) rfl
    exact ⟨_, fd, F, He.glo_ok X G (c.t.d.fact 9 (f := .glo "are_threads") rfl)⟩
  f_bodies_of := by
    obtain ⟨fd, F⟩ := c.t.d.def_ 10 (d := dd10) rfl
    exact ⟨_, fd, F, He.glo_ok X G (c.t.d.fact 10 (f := .glo "bodies_of") rfl)⟩
  f_body_size := by
    obtain ⟨fd, F⟩ := c.t.d.def_ 11 (d := dd11) rfl
    exact ⟨_, fd, F, He.glo_ok X G (c.t.d.fact 11 (f := .glo "body_size") rfl)⟩
  f_statements_in := by
    obtain ⟨fd, F⟩ := c.t.d.def_ 12 (d := dd12) rfl
    exact ⟨_, fd, F, He.glo_ok X G (c.t.d.fact 12 (f := .glo "statements_in") rfl)⟩
  m_Program_init := by
    obtain ⟨fd, F⟩ := c.t.d.def_ 13 (d := dd13) rfl
    exact ⟨_, fd, F, He.mkr_ok (c.t.d.fact 13 (f := .mkr "Program") rfl), He.glo_ok X G (c.t.d.fact 14 (f := .glo "Program") rfl)⟩
  f_want_program := by
    obtain ⟨fd, F⟩ := c.t.d.def_ 14 (d := dd14) rfl
    exact ⟨_, fd, F, He.glo_ok X G (c.t.d.fact 15 (f := .glo "want_program") rfl)⟩
  f_calls_of := by
    obtain ⟨fd, F⟩ := c.t.d.def_ 15 (d := dd15) rfl
    exact ⟨_, fd, F, He.glo_ok X G (c.t.d.fact 16 (f := .glo "calls_of") rfl)⟩
  f__law_made := by
    obtain ⟨fd, F⟩ := c.t.d.def_ 16 (d := dd16) rfl
    exact ⟨_, fd, F, He.glo_ok X G (c.t.d.fact 17 (f := .glo "_law_made") rfl)⟩
  f_want_thread := by
    obtain ⟨fd, F⟩ := c.t.d.def_ 17 (d := dd17) rfl
    exact ⟨_, fd, F, He.glo_ok X G (c.t.d.fact 18 (f := .glo "want_thread") rfl)⟩
  f_come_to := by
    obtain ⟨fd, F⟩ := c.t.d.def_ 18 (d := dd18) rfl
    exact ⟨_, fd, F, He.glo_ok X G (c.t.d.fact 19 (f := .glo "come_to") rfl)⟩
  f_reached := by
    obtain ⟨fd, F⟩ := c.t.d.def_ 19 (d := dd19) rfl
    exact ⟨_, fd, F, He.glo_ok X G (c.t.d.fact 20 (f := .glo "reached") rfl)⟩
  f__law_draw := by
    obtain ⟨fd, F⟩ := c.t.d.def_ 20 (d := dd20) rfl
    exact ⟨_, fd, F, He.glo_ok X G (c.t.d.fact 21 (f := .glo "_law_draw") rfl)⟩
  f__law_pick := by
    obtain ⟨fd, F⟩ := c.t.d.def_ 21 (d := dd21) rfl
    exact ⟨_, fd, F, He.glo_ok X G (c.t.d.fact 22 (f := .glo "_law_pick") rfl)⟩
  f__law_statement := by
    obtain ⟨fd, F⟩ := c.t.d.def_ 22 (d := dd22) rfl
    exact ⟨_, fd, F, He.glo_ok X G (c.t.d.fact 23 (f := .glo "_law_statement") rfl)⟩
  f__law_body := by
    obtain ⟨fd, F⟩ := c.t.d.def_ 23 (d := dd23) rfl
    exact ⟨_, fd, F, He.glo_ok X G (c.t.d.fact 24 (f := .glo "_law_body") rfl)⟩
  f__law_calls := by
    obtain ⟨fd, F⟩ := c.t.d.def_ 24 (d := dd24) rfl
    exact ⟨_, fd, F, He.glo_ok X G (c.t.d.fact 25 (f := .glo "_law_calls") rfl)⟩
  f_is_in_ring := by
    obtain ⟨fd, F⟩ := c.t.d.def_ 25 (d := dd25) rfl
    exact ⟨_, fd, F, He.glo_ok X G (c.t.d.fact 26 (f := .glo "is_in_ring") rfl)⟩
  f_come_to_by_threads := by
    obtain ⟨fd, F⟩ := c.t.d.def_ 26 (d := dd26) rfl
    exact ⟨_, fd, F, He.glo_ok X G (c.t.d.fact 27 (f := .glo "come_to_by_threads") rfl)⟩
  f_is_recursive := by
    obtain ⟨fd, F⟩ := c.t.d.def_ 27 (d := dd27) rfl
    exact ⟨_, fd, F, He.glo_ok X G (c.t.d.fact 28 (f := .glo "is_recursive") rfl)⟩
  f__law_longest := by
    obtain ⟨fd, F⟩ := c.t.d.def_ 28 (d := dd28) rfl
    exact ⟨_, fd, F, He.glo_ok X G (c.t.d.fact 29 (f := .glo "_law_longest") rfl)⟩
  f_longest_row := by
    obtain ⟨fd, F⟩ := c.t.d.def_ 29 (d := dd29) rfl
    exact ⟨_, fd, F, He.glo_ok X G (c.t.d.fact 30 (f := .glo "longest_row") rfl)⟩
  f_deepest := by
    obtain ⟨fd, F⟩ := c.t.d.def_ 30 (d := dd30) rfl
    exact ⟨_, fd, F, He.glo_ok X G (c.t.d.fact 31 (f := .glo "deepest") rfl)⟩
  f__law_come := by
    obtain ⟨fd, F⟩ := c.t.d.def_ 31 (d := dd31) rfl
    exact ⟨_, fd, F, He.glo_ok X G (c.t.d.fact 32 (f := .glo "_law_come") rfl)⟩
  f__law_right := by
    obtain ⟨fd, F⟩ := c.t.d.def_ 32 (d := dd32) rfl
    exact ⟨_, fd, F, He.glo_ok X G (c.t.d.fact 33 (f := .glo "_law_right") rfl)⟩
  f__law_pot := by
    obtain ⟨fd, F⟩ := c.t.d.def_ 33 (d := dd33) rfl
    exact ⟨_, fd, F, He.glo_ok X G (c.t.d.fact 34 (f := .glo "_law_pot") rfl)⟩
  f_law := by
    obtain ⟨fd, F⟩ := c.t.d.def_ 34 (d := dd34) rfl
    exact ⟨_, fd, F, He.glo_ok X G (c.t.d.fact 35 (f := .glo "law") rfl)⟩
  m_Program_bodies := by
    obtain ⟨fd, F⟩ := c.t.d.def_ 35 (d := dd35) rfl
    exact ⟨_, fd, F, He.meth_ok (c.t.d.fact 36 (f := .meth "Program" "bodies") rfl)⟩
  m_Program_threads := by
    obtain ⟨fd, F⟩ := c.t.d.def_ 36 (d := dd36) rfl
    exact ⟨_, fd, F, He.meth_ok (c.t.d.fact 37 (f := .meth "Program" "threads") rfl)⟩
  cl_Program := He.cls_ok (c.t.d.fact 64 (f := .cls "Program") rfl)
  nof_m_Program_bodies := fnOf_ne (l := flds) (by decide +kernel) (by decide +kernel)
  nof_m_Program_threads := fnOf_ne (l := flds) (by decide +kernel) (by decide +kernel)
end
abbrev RR : PySem.W.OpenRow := PySem.W.OpenLaw.row PySem.Challenge.rw_cutruns_k23_whole_callings_by_statements
abbrev hk : PySem.W.Hook := hookX 5 fa fn ts xs
def ob (s : PySem.W.SharedT) : AlX := obsXG 5 fa fn ts xs (HandSHeadRun.getT s)
theorem ob_eq (s : PySem.W.SharedT) : ob s = hk.obs s.abs := obsXG_eq (HandSHeadRun.getT_eq s)
def names0 : List Str := ["HoldError", "LimitError", "InvalidProgram", "InvalidThread", "InvalidBodies", "InvalidCells", "InvalidLocks", "InvalidModes", "InvalidThreads", "TooMany", "is_integer", "is_count", "is_list", "MOST_DEEP", "MOST_LABEL", "KINDS", "is_statement_of", "is_body_of", "bodies_of", "body_size", "MOST_LOCKS", "MOST_CELLS", "MOST_MODES", "MOST_PROCEDURES", "MOST_THREADS", "MOST_STATEMENTS", "is_number_to", "are_bodies", "are_threads", "statements_in"]
def names1 : List Str := ["Program", "want_program", "want_thread", "calls_within", "calls_by_bodies", "come_to", "is_in_ring", "come_to_by_threads", "longest_row", "calls_of", "is_recursive", "reached", "deepest", "_law_pot", "_law_draw", "_law_pick", "_law_body", "_law_statement", "_law_made", "_law_calls", "_law_come", "_law_longest", "_law_right"]
def names : List Str := names0 ++ names1
theorem run0 (w : World) : HandSHeadRun.RunEq RR (PySem.W.view RR.prog [59]) hk ob 6000 names (w.withFollow "special-get-raises" false) := by
  intro os
  kernel_rfl
theorem run1 (w : World) : HandSHeadRun.RunEq RR (PySem.W.view RR.prog [59]) hk ob 6000 names (w.withFollow "special-get-raises" true) := by
  intro os
  kernel_rfl
theorem run (w : World) : HandSHeadRun.RunEq RR (PySem.W.view RR.prog [59]) hk ob 6000 names w :=
  PySem.W.byRow2 "special-get-raises" (P := fun w => HandSHeadRun.RunEq RR (PySem.W.view RR.prog [59]) hk ob 6000 names w) run0 run1 w
end VW
namespace VW
open PySem L2 VS

/-! ### loops -/
theorem compGo_map {bd : BO} {c : DB} {d : DN} {e : VS.Env} {f : T → O} {p : T → Bool} : ∀ {ts : List T}, (∀ t ∈ ts, ∃ e1, bd (.val t) e = some e1 ∧ c e1 = some (p t) ∧ (p t = true → d e1 = some (f t))) → compGo bd c d e ts = some ((ts.filter p).map f)
  | [], _ => rfl
  | t :: ts, h => by
    obtain ⟨e1, h1, h2, h3⟩ := h t List.mem_cons_self
    have ih := compGo_map (ts := ts) fun u hu => h u (List.mem_cons_of_mem _ hu)
    unfold compGo
    cases hp : p t with
    | true => simp [h1, h2, hp, h3 hp, ih, List.filter_cons]
    | false => simp [h1, h2, hp, ih, List.filter_cons]

theorem strEq (a b : String) : (Str.ofString a = Str.ofString b) = (a = b) := by
  refine propext ⟨fun h => ?_, fun h => by rw [h]⟩
  rw [Str.ofString_eq_toList, Str.ofString_eq_toList] at h
  have h1 := congrArg (fun s : Str => s.cps.toList) h
  simp only [] at h1
  exact String.ext ((List.map_inj_right (fun x y => Char.ext ∘ UInt32.toNat_inj.mp)).mp h1)
theorem strBeq (a b : String) : (Str.ofString a == Str.ofString b) = decide (a = b) := by
  rw [Bool.eq_iff_iff]
  simp [strEq]
/-! ### statements, bodies -/
inductive W6 where
  | touch | write | mark | set | claim | call
def W6.s : W6 → Str
  | .touch => "touch"
  | .write => "write"
  | .mark => "mark"
  | .set => "set"
  | .claim => "claim"
  | .call => "call"
inductive Sm where
  | skip
  | one (w : W6) (n : Int)
  | hold (n : Int) (b : List Sm)
  | either (a b : List Sm)
  | when (n : Int) (a b : List Sm)
  | loop (b : List Sm)
mutual
def Sm.t : Sm → T
  | .skip => .tup [.str "skip"]
  | .one w n => .tup [.str w.s, .int n]
  | .hold n b => .tup [.str "hold", .int n, .tup (tss b)]
  | .either a b => .tup [.str "either", .tup (tss a), .tup (tss b)]
  | .when n a b => .tup [.str "when", .int n, .tup (tss a), .tup (tss b)]
  | .loop b => .tup [.str "loop", .tup (tss b)]
def tss : List Sm → List T
  | [] => []
  | s :: b => s.t :: tss b
end
mutual
def Sm.dep : Sm → Nat
  | .skip => 0
  | .one _ _ => 0
  | .hold _ b => deps b + 1
  | .either a b => max (deps a) (deps b) + 1
  | .when _ a b => max (deps a) (deps b) + 1
  | .loop b => deps b + 1
def deps : List Sm → Nat
  | [] => 0
  | s :: b => max s.dep (deps b)
end
mutual
def Sm.siz : Sm → Nat
  | .skip => 1
  | .one _ _ => 1
  | .hold _ b => sizs b + 1
  | .either a b => sizs a + sizs b + 1
  | .when _ a b => sizs a + sizs b + 1
  | .loop b => sizs b + 1
def sizs : List Sm → Nat
  | [] => 0
  | s :: b => s.siz + sizs b
end
mutual
/-- the calls of a statement; the calls of a body's statements, one behind another -/
def Sm.cl : Sm → List Int
  | .skip => []
  | .one .call n => [n]
  | .one _ _ => []
  | .hold _ b => ssetI (cls b)
  | .either a b => ssetI (cls a) ++ ssetI (cls b)
  | .when _ a b => ssetI (cls a) ++ ssetI (cls b)
  | .loop b => ssetI (cls b)
def cls : List Sm → List Int
  | [] => []
  | s :: b => s.cl ++ cls b
end
def cw (b : List Sm) : List Int := ssetI (cls b)
mutual
theorem Sm.cl_len : ∀ s : Sm, s.cl.length ≤ s.siz
  | .skip => by simp [Sm.cl, Sm.siz]
  | .one w n => by cases w <;> simp [Sm.cl, Sm.siz]
  | .hold _ b => by
    have h1 := ssetI_len (cls b); have h2 := cls_len b
    simp only [Sm.cl, Sm.siz]; omega
  | .either a b => by
    have h1 := ssetI_len (cls b); have h2 := cls_len b; have h3 := ssetI_len (cls a); have h4 := cls_len a
    simp only [Sm.cl, Sm.siz, List.length_append]; omega
  | .when _ a b => by
    have h1 := ssetI_len (cls b); have h2 := cls_len b; have h3 := ssetI_len (cls a); have h4 := cls_len a
    simp only [Sm.cl, Sm.siz, List.length_append]; omega
  | .loop b => by
    have h1 := ssetI_len (cls b); have h2 := cls_len b
    simp only [Sm.cl, Sm.siz]; omega
theorem cls_len : ∀ b : List Sm, (cls b).length ≤ sizs b
  | [] => by simp [cls]
  | s :: b => by
    have h1 := Sm.cl_len s; have h2 := cls_len b
    simp only [cls, sizs, List.length_append]; omega
end
def oI (ns : List Int) : List O := ns.map fun n => .val (.int n)
def tI (ns : List Int) : List T := ns.map T.int
theorem fzs_app (a b : List O) : fzs (a ++ b) = fzs a ++ fzs b := by rw [fzs_map, fzs_map, fzs_map, List.map_append]
theorem fzs_oI (ns : List Int) : fzs (oI ns) = tI ns := by rw [fzs_map]; simp [oI, tI, O.fz]
theorem map_tI (ns : List Int) : (tI ns).map O.val = oI ns := by simp [oI, tI]
theorem oI_len (ns : List Int) : (oI ns).length = ns.length := by simp [oI]
theorem tI_len (ns : List Int) : (tI ns).length = ns.length := by simp [tI]
theorem oI_app (a b : List Int) : oI (a ++ b) = oI a ++ oI b := by simp [oI]
theorem tI_app (a b : List Int) : tI (a ++ b) = tI a ++ tI b := by simp [tI]
theorem oI_nil : oI [] = [] := rfl
theorem tI_nil : tI [] = [] := rfl
theorem oI_cons (n : Int) (ns : List Int) : oI (n :: ns) = .val (.int n) :: oI ns := rfl
theorem tI_cons (n : Int) (ns : List Int) : tI (n :: ns) = .int n :: tI ns := rfl
theorem tInts_tI (ns : List Int) : tInts (tI ns) = some ns := tInts_of ns
theorem ssetF_oI {ns : List Int} (h : ns.length < 64) : ssetF [.lst (tI ns)] = some (.lst (oI (ssetI ns))) := by
  unfold ssetF
  simp only [tInts_tI, h, if_true]
  rfl

/-! ### calls_within -/
abbrev cwBody (Φ : Phi) : DS := (sIf (beOfB (bCmp .Eq (qOfP (pIdx (pVar 2) (vC (.int 0)))) (vC (.str "call"))))
 (sDrop (eAppend (pVar 1) (nOfV (vOfP (pIdx (pVar 2) (vC (.int 1)))))))
 (sIf (beOfB (bCmp .In (qOfP (pIdx (pVar 2) (vC (.int 0)))) (vTup (asCons (vC (.str "hold")) (asCons (vC (.str "loop")) asNil)))))
 (sDrop (eExtend (pVar 1) (vOfN (nCallU Φ.f_calls_within [] (asCons (vOfP (pIdx (pVar 2) (vNeg (vC (.int 1))))) asNil)))))
 (sIf (beOfB (bCmp .In (qOfP (pIdx (pVar 2) (vC (.int 0)))) (vTup (asCons (vC (.str "either")) (asCons (vC (.str "when")) asNil)))))
 (sDrop (eExtend (pVar 1) (vBin .Add (vOfN (nCallU Φ.f_calls_within [] (asCons (vOfP (pIdx (pVar 2) (vNeg (vC (.int 2))))) asNil))) (vOfN (nCallU Φ.f_calls_within [] (asCons (vOfP (pIdx (pVar 2) (vNeg (vC (.int 1))))) asNil))))))
 sNil)))
theorem cw_step {Φ : Phi} {s : Sm} {acc : List Int} {t0 : T} (hl : acc.length + s.siz < 1000) (IH : ∀ b : List Sm, deps b < s.dep → sizs b < 64 → Φ.f_calls_within [.val (.tup (tss b))] = some (.lst (oI (cw b)), [])) (hs : s.siz < 64) :
    cwBody Φ [some (.val t0), some (.lst (oI acc)), some (.val s.t)] = some (.nx, [some (.val t0), some (.lst (oI (acc ++ s.cl))), some (.val s.t)]) := by
  cases s with
  | skip =>
    simp [runF, sNil, sSeq, sIf, sDrop, sRet, sRetN, sBrk, sCnt, sNever, sSet, sAsg, sFor, sTupAsg, boNil, boCons, bName, bTup, btCons, btNil, bSub, eOfN, eOfV, eOfB, eFrz, eMove, eVar, eBin, eTup, eLst, eIdx, eIf, eCallU, eCallV, eMake, eAppend, eAppendN, eExtend, ePop, daNil, daCons, putB, nOfV, nLst, nsNil, nsCons, nBin, nCallB, nCallU, nCallM, nComp, nCopy, dLst, vC, vOfP, vOfN, vOfB, vTup, vLst, vBin, vNeg, vIf, vCut, vIdx, vItK, vCopyT, asNil, asCons, bAnd, bOr, bNot, bCmp, bChain, bIsi, bIsC, bOfV, bInK, bTrue, beOfB, beOfE, beCmp, beNot, beAnd, beOr, qOfP, pVar, pIdx, pAttr, oIdx, getF, getT, O.fz, fzs, fzf, cmpT, eqT, ltT, T.flat, flats, VS.isNon, scal, T.ty, isTy, iOfJ, jSeq, seqT, jRng1, jRng2, jEnum, VS.iRng1, iSeq, VS.iEnum, ixN, atI, idxT, oSome, oNone, outsE, sFldSet, putO, lenF, absF, intF, divF, wipeE, VS.binT, VS.lim, Sm.t, Sm.cl, inT, inV, eqV, strEq, strBeq, fzs_app, fzs_oI, map_tI, oI_len, tI_len, oI_app, tI_app, oI_nil, tI_nil, oI_cons, tI_cons, tInts_tI]
  | one w n =>
    have h2 : acc.length < 100000 := by omega
    cases w <;> simp [runF, sNil, sSeq, sIf, sDrop, sRet, sRetN, sBrk, sCnt, sNever, sSet, sAsg, sFor, sTupAsg, boNil, boCons, bName, bTup, btCons, btNil, bSub, eOfN, eOfV, eOfB, eFrz, eMove, eVar, eBin, eTup, eLst, eIdx, eIf, eCallU, eCallV, eMake, eAppend, eAppendN, eExtend, ePop, daNil, daCons, putB, nOfV, nLst, nsNil, nsCons, nBin, nCallB, nCallU, nCallM, nComp, nCopy, dLst, vC, vOfP, vOfN, vOfB, vTup, vLst, vBin, vNeg, vIf, vCut, vIdx, vItK, vCopyT, asNil, asCons, bAnd, bOr, bNot, bCmp, bChain, bIsi, bIsC, bOfV, bInK, bTrue, beOfB, beOfE, beCmp, beNot, beAnd, beOr, qOfP, pVar, pIdx, pAttr, oIdx, getF, getT, O.fz, fzs, fzf, cmpT, eqT, ltT, T.flat, flats, VS.isNon, scal, T.ty, isTy, iOfJ, jSeq, seqT, jRng1, jRng2, jEnum, VS.iRng1, iSeq, VS.iEnum, ixN, atI, idxT, oSome, oNone, outsE, sFldSet, putO, lenF, absF, intF, divF, wipeE, VS.binT, VS.lim, Sm.t, Sm.cl, inT, inV, eqV, strEq, strBeq, fzs_app, fzs_oI, map_tI, oI_len, tI_len, oI_app, tI_app, oI_nil, tI_nil, oI_cons, tI_cons, tInts_tI, W6.s, h2]
  | hold n b =>
    have ih := IH b (by simp [Sm.dep]) (by simp only [Sm.siz] at hs; omega)
    have h1 := Sm.cl_len (.hold n b)
    have h2 : acc.length + (ssetI (cls b)).length ≤ 100000 := by simp only [Sm.cl] at h1; omega
    simp [runF, sNil, sSeq, sIf, sDrop, sRet, sRetN, sBrk, sCnt, sNever, sSet, sAsg, sFor, sTupAsg, boNil, boCons, bName, bTup, btCons, btNil, bSub, eOfN, eOfV, eOfB, eFrz, eMove, eVar, eBin, eTup, eLst, eIdx, eIf, eCallU, eCallV, eMake, eAppend, eAppendN, eExtend, ePop, daNil, daCons, putB, nOfV, nLst, nsNil, nsCons, nBin, nCallB, nCallU, nCallM, nComp, nCopy, dLst, vC, vOfP, vOfN, vOfB, vTup, vLst, vBin, vNeg, vIf, vCut, vIdx, vItK, vCopyT, asNil, asCons, bAnd, bOr, bNot, bCmp, bChain, bIsi, bIsC, bOfV, bInK, bTrue, beOfB, beOfE, beCmp, beNot, beAnd, beOr, qOfP, pVar, pIdx, pAttr, oIdx, getF, getT, O.fz, fzs, fzf, cmpT, eqT, ltT, T.flat, flats, VS.isNon, scal, T.ty, isTy, iOfJ, jSeq, seqT, jRng1, jRng2, jEnum, VS.iRng1, iSeq, VS.iEnum, ixN, atI, idxT, oSome, oNone, outsE, sFldSet, putO, lenF, absF, intF, divF, wipeE, VS.binT, VS.lim, Sm.t, Sm.cl, inT, inV, eqV, strEq, strBeq, fzs_app, fzs_oI, map_tI, oI_len, tI_len, oI_app, tI_app, oI_nil, tI_nil, oI_cons, tI_cons, tInts_tI, ih, cw, h2]
  | either a b =>
    have iha := IH a (by simp only [Sm.dep]; omega) (by simp only [Sm.siz] at hs; omega)
    have ihb := IH b (by simp only [Sm.dep]; omega) (by simp only [Sm.siz] at hs; omega)
    have h1 := Sm.cl_len (.either a b)
    have h2 : acc.length + ((ssetI (cls a)).length + (ssetI (cls b)).length) ≤ 100000 := by simp only [Sm.cl, List.length_append] at h1; omega
    have h3 : (ssetI (cls a)).length + (ssetI (cls b)).length ≤ 100000 := by omega
    simp [runF, sNil, sSeq, sIf, sDrop, sRet, sRetN, sBrk, sCnt, sNever, sSet, sAsg, sFor, sTupAsg, boNil, boCons, bName, bTup, btCons, btNil, bSub, eOfN, eOfV, eOfB, eFrz, eMove, eVar, eBin, eTup, eLst, eIdx, eIf, eCallU, eCallV, eMake, eAppend, eAppendN, eExtend, ePop, daNil, daCons, putB, nOfV, nLst, nsNil, nsCons, nBin, nCallB, nCallU, nCallM, nComp, nCopy, dLst, vC, vOfP, vOfN, vOfB, vTup, vLst, vBin, vNeg, vIf, vCut, vIdx, vItK, vCopyT, asNil, asCons, bAnd, bOr, bNot, bCmp, bChain, bIsi, bIsC, bOfV, bInK, bTrue, beOfB, beOfE, beCmp, beNot, beAnd, beOr, qOfP, pVar, pIdx, pAttr, oIdx, getF, getT, O.fz, fzs, fzf, cmpT, eqT, ltT, T.flat, flats, VS.isNon, scal, T.ty, isTy, iOfJ, jSeq, seqT, jRng1, jRng2, jEnum, VS.iRng1, iSeq, VS.iEnum, ixN, atI, idxT, oSome, oNone, outsE, sFldSet, putO, lenF, absF, intF, divF, wipeE, VS.binT, VS.lim, Sm.t, Sm.cl, inT, inV, eqV, strEq, strBeq, fzs_app, fzs_oI, map_tI, oI_len, tI_len, oI_app, tI_app, oI_nil, tI_nil, oI_cons, tI_cons, tInts_tI, iha, ihb, cw, h2, h3]
  | «when» n a b =>
    have iha := IH a (by simp only [Sm.dep]; omega) (by simp only [Sm.siz] at hs; omega)
    have ihb := IH b (by simp only [Sm.dep]; omega) (by simp only [Sm.siz] at hs; omega)
    have h1 := Sm.cl_len (.when n a b)
    have h2 : acc.length + ((ssetI (cls a)).length + (ssetI (cls b)).length) ≤ 100000 := by simp only [Sm.cl, List.length_append] at h1; omega
    have h3 : (ssetI (cls a)).length + (ssetI (cls b)).length ≤ 100000 := by omega
    simp [runF, sNil, sSeq, sIf, sDrop, sRet, sRetN, sBrk, sCnt, sNever, sSet, sAsg, sFor, sTupAsg, boNil, boCons, bName, bTup, btCons, btNil, bSub, eOfN, eOfV, eOfB, eFrz, eMove, eVar, eBin, eTup, eLst, eIdx, eIf, eCallU, eCallV, eMake, eAppend, eAppendN, eExtend, ePop, daNil, daCons, putB, nOfV, nLst, nsNil, nsCons, nBin, nCallB, nCallU, nCallM, nComp, nCopy, dLst, vC, vOfP, vOfN, vOfB, vTup, vLst, vBin, vNeg, vIf, vCut, vIdx, vItK, vCopyT, asNil, asCons, bAnd, bOr, bNot, bCmp, bChain, bIsi, bIsC, bOfV, bInK, bTrue, beOfB, beOfE, beCmp, beNot, beAnd, beOr, qOfP, pVar, pIdx, pAttr, oIdx, getF, getT, O.fz, fzs, fzf, cmpT, eqT, ltT, T.flat, flats, VS.isNon, scal, T.ty, isTy, iOfJ, jSeq, seqT, jRng1, jRng2, jEnum, VS.iRng1, iSeq, VS.iEnum, ixN, atI, idxT, oSome, oNone, outsE, sFldSet, putO, lenF, absF, intF, divF, wipeE, VS.binT, VS.lim, Sm.t, Sm.cl, inT, inV, eqV, strEq, strBeq, fzs_app, fzs_oI, map_tI, oI_len, tI_len, oI_app, tI_app, oI_nil, tI_nil, oI_cons, tI_cons, tInts_tI, iha, ihb, cw, h2, h3]
  | loop b =>
    have ih := IH b (by simp [Sm.dep]) (by simp only [Sm.siz] at hs; omega)
    have h1 := Sm.cl_len (.loop b)
    have h2 : acc.length + (ssetI (cls b)).length ≤ 100000 := by simp only [Sm.cl] at h1; omega
    simp [runF, sNil, sSeq, sIf, sDrop, sRet, sRetN, sBrk, sCnt, sNever, sSet, sAsg, sFor, sTupAsg, boNil, boCons, bName, bTup, btCons, btNil, bSub, eOfN, eOfV, eOfB, eFrz, eMove, eVar, eBin, eTup, eLst, eIdx, eIf, eCallU, eCallV, eMake, eAppend, eAppendN, eExtend, ePop, daNil, daCons, putB, nOfV, nLst, nsNil, nsCons, nBin, nCallB, nCallU, nCallM, nComp, nCopy, dLst, vC, vOfP, vOfN, vOfB, vTup, vLst, vBin, vNeg, vIf, vCut, vIdx, vItK, vCopyT, asNil, asCons, bAnd, bOr, bNot, bCmp, bChain, bIsi, bIsC, bOfV, bInK, bTrue, beOfB, beOfE, beCmp, beNot, beAnd, beOr, qOfP, pVar, pIdx, pAttr, oIdx, getF, getT, O.fz, fzs, fzf, cmpT, eqT, ltT, T.flat, flats, VS.isNon, scal, T.ty, isTy, iOfJ, jSeq, seqT, jRng1, jRng2, jEnum, VS.iRng1, iSeq, VS.iEnum, ixN, atI, idxT, oSome, oNone, outsE, sFldSet, putO, lenF, absF, intF, divF, wipeE, VS.binT, VS.lim, Sm.t, Sm.cl, inT, inV, eqV, strEq, strBeq, fzs_app, fzs_oI, map_tI, oI_len, tI_len, oI_app, tI_app, oI_nil, tI_nil, oI_cons, tI_cons, tInts_tI, ih, cw, h2]

theorem cw_loop {Φ : Phi} {t0 : T} : ∀ {b : List Sm} {acc : List Int} {x : Option O}, acc.length + sizs b < 1000 → sizs b < 64 → (∀ b' : List Sm, deps b' < deps b → sizs b' < 64 → Φ.f_calls_within [.val (.tup (tss b'))] = some (.lst (oI (cw b')), [])) →
    ∃ x', forGo (bName 2) (cwBody Φ) (tss b) [some (.val t0), some (.lst (oI acc)), x] = some (.nx, [some (.val t0), some (.lst (oI (acc ++ cls b))), x'])
  | [], acc, x, _, _, _ => ⟨x, by simp [tss, forGo, cls]⟩
  | s :: b, acc, x, hl, hs, IH => by
    have h1 : s.siz < 64 := by simp only [sizs] at hs; omega
    have st := cw_step (Φ := Φ) (s := s) (acc := acc) (t0 := t0) (by simp only [sizs] at hl; omega) (fun b' hd hb => IH b' (by simp only [deps]; omega) hb) h1
    obtain ⟨x', ih⟩ := cw_loop (Φ := Φ) (t0 := t0) (b := b) (acc := acc ++ s.cl) (x := some (.val s.t)) (by have := Sm.cl_len s; simp only [sizs, List.length_append] at *; omega) (by simp only [sizs] at hs; omega) (fun b' hd hb => IH b' (by simp only [deps]; omega) hb)
    refine ⟨x', ?_⟩
    have hb : bName 2 (.val s.t) [some (.val t0), some (.lst (oI acc)), x] = some [some (.val t0), some (.lst (oI acc)), some (.val s.t)] := by simp [bName]
    simp only [tss, forGo, hb, st, ih, cls, List.append_assoc]
theorem cw_eq : ∀ (k : Nat) (b : List Sm), deps b < k → sizs b < 64 → (PhiN k).f_calls_within [.val (.tup (tss b))] = some (.lst (oI (cw b)), [])
  | 0, b, h, _ => by omega
  | k + 1, b, h, hs => by
    obtain ⟨x', hx⟩ := cw_loop (Φ := PhiN k) (t0 := .tup (tss b)) (b := b) (acc := []) (x := none) (by simp; omega) hs fun b' hd hb => cw_eq k b' (by omega) hb
    have hl : (cls b).length < 64 := by have := cls_len b; omega
    rw [e_f_calls_within]
    have hx' : forGo (bName 2) (cwBody (PhiN k)) (tss b) [some (.val (.tup (tss b))), some (.lst []), none] = _ := hx
    simp only [List.nil_append] at hx'
    simp [runF, sNil, sSeq, sIf, sDrop, sRet, sRetN, sBrk, sCnt, sNever, sSet, sAsg, sFor, sTupAsg, boNil, boCons, bName, bTup, btCons, btNil, bSub, eOfN, eOfV, eOfB, eFrz, eMove, eVar, eBin, eTup, eLst, eIdx, eIf, eCallU, eCallV, eMake, eAppend, eAppendN, eExtend, ePop, daNil, daCons, putB, nOfV, nLst, nsNil, nsCons, nBin, nCallB, nCallU, nCallM, nComp, nCopy, dLst, vC, vOfP, vOfN, vOfB, vTup, vLst, vBin, vNeg, vIf, vCut, vIdx, vItK, vCopyT, asNil, asCons, bAnd, bOr, bNot, bCmp, bChain, bIsi, bIsC, bOfV, bInK, bTrue, beOfB, beOfE, beCmp, beNot, beAnd, beOr, qOfP, pVar, pIdx, pAttr, oIdx, getF, getT, O.fz, fzs, fzf, cmpT, eqT, ltT, T.flat, flats, VS.isNon, scal, T.ty, isTy, iOfJ, jSeq, seqT, jRng1, jRng2, jEnum, VS.iRng1, iSeq, VS.iEnum, ixN, atI, idxT, oSome, oNone, outsE, sFldSet, putO, lenF, absF, intF, divF, wipeE, VS.binT, VS.lim, d_f_calls_within, hx', strEq, strBeq, fzs_app, fzs_oI, map_tI, oI_len, tI_len, oI_app, tI_app, oI_nil, tI_nil, oI_cons, tI_cons, tInts_tI, ssetF_oI hl, cw]
end VW
namespace VW
open PySem L2 VS

/-! ### the law's own calls -/
abbrev lcIn (Φ : Phi) : DS := (sIf (beOfB (bIsi (qOfP (pVar 3)) [.lstT, .tupT]))
 (sDrop (eExtend (pVar 1) (vOfN (nCallU Φ.f__law_calls [] (asCons (vOfP (pVar 3)) asNil)))))
 sNil)
abbrev lcBody (Φ : Phi) : DS := (sSeq (sIf (beOfB (bCmp .Eq (qOfP (pIdx (pVar 2) (vC (.int 0)))) (vC (.str "call"))))
 (sDrop (eAppend (pVar 1) (nOfV (vOfP (pIdx (pVar 2) (vC (.int 1)))))))
 sNil)
 (sFor (iOfJ (jSeq (vOfP (pVar 2)))) (bName 3) (lcIn Φ)))
theorem lc_step {Φ : Phi} {s : Sm} {acc : List Int} {t0 : T} {y : Option O} (hl : acc.length + s.siz < 1000) (IH : ∀ b : List Sm, deps b < s.dep → sizs b < 64 → Φ.f__law_calls [.val (.tup (tss b))] = some (.lst (oI (cw b)), [])) (hs : s.siz < 64) :
    ∃ y', lcBody Φ [some (.val t0), some (.lst (oI acc)), some (.val s.t), y] = some (.nx, [some (.val t0), some (.lst (oI (acc ++ s.cl))), some (.val s.t), y']) := by
  cases s with
  | skip => exact ⟨_, by simp [runF, sNil, sSeq, sIf, sDrop, sRet, sRetN, sBrk, sCnt, sNever, sSet, sAsg, sFor, sTupAsg, boNil, boCons, bName, bTup, btCons, btNil, bSub, eOfN, eOfV, eOfB, eFrz, eMove, eVar, eBin, eTup, eLst, eIdx, eIf, eCallU, eCallV, eMake, eAppend, eAppendN, eExtend, ePop, daNil, daCons, putB, nOfV, nLst, nsNil, nsCons, nBin, nCallB, nCallU, nCallM, nComp, nCopy, dLst, vC, vOfP, vOfN, vOfB, vTup, vLst, vBin, vNeg, vIf, vCut, vIdx, vItK, vCopyT, asNil, asCons, bAnd, bOr, bNot, bCmp, bChain, bIsi, bIsC, bOfV, bInK, bTrue, beOfB, beOfE, beCmp, beNot, beAnd, beOr, qOfP, pVar, pIdx, pAttr, oIdx, getF, getT, O.fz, fzs, fzf, cmpT, eqT, ltT, T.flat, flats, VS.isNon, scal, T.ty, isTy, iOfJ, jSeq, seqT, jRng1, jRng2, jEnum, VS.iRng1, iSeq, VS.iEnum, ixN, atI, idxT, oSome, oNone, outsE, sFldSet, putO, lenF, absF, intF, divF, wipeE, VS.binT, VS.lim, forGo, Sm.t, Sm.cl, inT, inV, eqV, strEq, strBeq, fzs_app, fzs_oI, map_tI, oI_len, tI_len, oI_app, tI_app, oI_nil, tI_nil, oI_cons, tI_cons, tInts_tI]; rfl⟩
  | one w n =>
    have h2 : acc.length < 100000 := by omega
    refine ⟨some (.val (.int n)), ?_⟩
    cases w <;> simp [runF, sNil, sSeq, sIf, sDrop, sRet, sRetN, sBrk, sCnt, sNever, sSet, sAsg, sFor, sTupAsg, boNil, boCons, bName, bTup, btCons, btNil, bSub, eOfN, eOfV, eOfB, eFrz, eMove, eVar, eBin, eTup, eLst, eIdx, eIf, eCallU, eCallV, eMake, eAppend, eAppendN, eExtend, ePop, daNil, daCons, putB, nOfV, nLst, nsNil, nsCons, nBin, nCallB, nCallU, nCallM, nComp, nCopy, dLst, vC, vOfP, vOfN, vOfB, vTup, vLst, vBin, vNeg, vIf, vCut, vIdx, vItK, vCopyT, asNil, asCons, bAnd, bOr, bNot, bCmp, bChain, bIsi, bIsC, bOfV, bInK, bTrue, beOfB, beOfE, beCmp, beNot, beAnd, beOr, qOfP, pVar, pIdx, pAttr, oIdx, getF, getT, O.fz, fzs, fzf, cmpT, eqT, ltT, T.flat, flats, VS.isNon, scal, T.ty, isTy, iOfJ, jSeq, seqT, jRng1, jRng2, jEnum, VS.iRng1, iSeq, VS.iEnum, ixN, atI, idxT, oSome, oNone, outsE, sFldSet, putO, lenF, absF, intF, divF, wipeE, VS.binT, VS.lim, forGo, Sm.t, Sm.cl, inT, inV, eqV, strEq, strBeq, fzs_app, fzs_oI, map_tI, oI_len, tI_len, oI_app, tI_app, oI_nil, tI_nil, oI_cons, tI_cons, tInts_tI, W6.s, h2]
  | hold n b =>
    have ih := IH b (by simp [Sm.dep]) (by simp only [Sm.siz] at hs; omega)
    have h1 := Sm.cl_len (.hold n b)
    have h2 : acc.length + (ssetI (cls b)).length ≤ 100000 := by simp only [Sm.cl] at h1; omega
    exact ⟨_, by simp [runF, sNil, sSeq, sIf, sDrop, sRet, sRetN, sBrk, sCnt, sNever, sSet, sAsg, sFor, sTupAsg, boNil, boCons, bName, bTup, btCons, btNil, bSub, eOfN, eOfV, eOfB, eFrz, eMove, eVar, eBin, eTup, eLst, eIdx, eIf, eCallU, eCallV, eMake, eAppend, eAppendN, eExtend, ePop, daNil, daCons, putB, nOfV, nLst, nsNil, nsCons, nBin, nCallB, nCallU, nCallM, nComp, nCopy, dLst, vC, vOfP, vOfN, vOfB, vTup, vLst, vBin, vNeg, vIf, vCut, vIdx, vItK, vCopyT, asNil, asCons, bAnd, bOr, bNot, bCmp, bChain, bIsi, bIsC, bOfV, bInK, bTrue, beOfB, beOfE, beCmp, beNot, beAnd, beOr, qOfP, pVar, pIdx, pAttr, oIdx, getF, getT, O.fz, fzs, fzf, cmpT, eqT, ltT, T.flat, flats, VS.isNon, scal, T.ty, isTy, iOfJ, jSeq, seqT, jRng1, jRng2, jEnum, VS.iRng1, iSeq, VS.iEnum, ixN, atI, idxT, oSome, oNone, outsE, sFldSet, putO, lenF, absF, intF, divF, wipeE, VS.binT, VS.lim, forGo, Sm.t, Sm.cl, inT, inV, eqV, strEq, strBeq, fzs_app, fzs_oI, map_tI, oI_len, tI_len, oI_app, tI_app, oI_nil, tI_nil, oI_cons, tI_cons, tInts_tI, ih, cw, h2]; rfl⟩
  | either a b =>
    have iha := IH a (by simp only [Sm.dep]; omega) (by simp only [Sm.siz] at hs; omega)
    have ihb := IH b (by simp only [Sm.dep]; omega) (by simp only [Sm.siz] at hs; omega)
    have h1 := Sm.cl_len (.either a b)
    have h2 : acc.length + ((ssetI (cls a)).length + (ssetI (cls b)).length) ≤ 100000 := by simp only [Sm.cl, List.length_append] at h1; omega
    have h3 : acc.length + (ssetI (cls a)).length ≤ 100000 := by omega
    have h4 : acc.length + (ssetI (cls a)).length + (ssetI (cls b)).length ≤ 100000 := by omega
    exact ⟨_, by simp [runF, sNil, sSeq, sIf, sDrop, sRet, sRetN, sBrk, sCnt, sNever, sSet, sAsg, sFor, sTupAsg, boNil, boCons, bName, bTup, btCons, btNil, bSub, eOfN, eOfV, eOfB, eFrz, eMove, eVar, eBin, eTup, eLst, eIdx, eIf, eCallU, eCallV, eMake, eAppend, eAppendN, eExtend, ePop, daNil, daCons, putB, nOfV, nLst, nsNil, nsCons, nBin, nCallB, nCallU, nCallM, nComp, nCopy, dLst, vC, vOfP, vOfN, vOfB, vTup, vLst, vBin, vNeg, vIf, vCut, vIdx, vItK, vCopyT, asNil, asCons, bAnd, bOr, bNot, bCmp, bChain, bIsi, bIsC, bOfV, bInK, bTrue, beOfB, beOfE, beCmp, beNot, beAnd, beOr, qOfP, pVar, pIdx, pAttr, oIdx, getF, getT, O.fz, fzs, fzf, cmpT, eqT, ltT, T.flat, flats, VS.isNon, scal, T.ty, isTy, iOfJ, jSeq, seqT, jRng1, jRng2, jEnum, VS.iRng1, iSeq, VS.iEnum, ixN, atI, idxT, oSome, oNone, outsE, sFldSet, putO, lenF, absF, intF, divF, wipeE, VS.binT, VS.lim, forGo, Sm.t, Sm.cl, inT, inV, eqV, strEq, strBeq, fzs_app, fzs_oI, map_tI, oI_len, tI_len, oI_app, tI_app, oI_nil, tI_nil, oI_cons, tI_cons, tInts_tI, iha, ihb, cw, h2, h3, h4]; rfl⟩
  | «when» n a b =>
    have iha := IH a (by simp only [Sm.dep]; omega) (by simp only [Sm.siz] at hs; omega)
    have ihb := IH b (by simp only [Sm.dep]; omega) (by simp only [Sm.siz] at hs; omega)
    have h1 := Sm.cl_len (.when n a b)
    have h2 : acc.length + ((ssetI (cls a)).length + (ssetI (cls b)).length) ≤ 100000 := by simp only [Sm.cl, List.length_append] at h1; omega
    have h3 : acc.length + (ssetI (cls a)).length ≤ 100000 := by omega
    have h4 : acc.length + (ssetI (cls a)).length + (ssetI (cls b)).length ≤ 100000 := by omega
    exact ⟨_, by simp [runF, sNil, sSeq, sIf, sDrop, sRet, sRetN, sBrk, sCnt, sNever, sSet, sAsg, sFor, sTupAsg, boNil, boCons, bName, bTup, btCons, btNil, bSub, eOfN, eOfV, eOfB, eFrz, eMove, eVar, eBin, eTup, eLst, eIdx, eIf, eCallU, eCallV, eMake, eAppend, eAppendN, eExtend, ePop, daNil, daCons, putB, nOfV, nLst, nsNil, nsCons, nBin, nCallB, nCallU, nCallM, nComp, nCopy, dLst, vC, vOfP, vOfN, vOfB, vTup, vLst, vBin, vNeg, vIf, vCut, vIdx, vItK, vCopyT, asNil, asCons, bAnd, bOr, bNot, bCmp, bChain, bIsi, bIsC, bOfV, bInK, bTrue, beOfB, beOfE, beCmp, beNot, beAnd, beOr, qOfP, pVar, pIdx, pAttr, oIdx, getF, getT, O.fz, fzs, fzf, cmpT, eqT, ltT, T.flat, flats, VS.isNon, scal, T.ty, isTy, iOfJ, jSeq, seqT, jRng1, jRng2, jEnum, VS.iRng1, iSeq, VS.iEnum, ixN, atI, idxT, oSome, oNone, outsE, sFldSet, putO, lenF, absF, intF, divF, wipeE, VS.binT, VS.lim, forGo, Sm.t, Sm.cl, inT, inV, eqV, strEq, strBeq, fzs_app, fzs_oI, map_tI, oI_len, tI_len, oI_app, tI_app, oI_nil, tI_nil, oI_cons, tI_cons, tInts_tI, iha, ihb, cw, h2, h3, h4]; rfl⟩
  | loop b =>
    have ih := IH b (by simp [Sm.dep]) (by simp only [Sm.siz] at hs; omega)
    have h1 := Sm.cl_len (.loop b)
    have h2 : acc.length + (ssetI (cls b)).length ≤ 100000 := by simp only [Sm.cl] at h1; omega
    exact ⟨_, by simp [runF, sNil, sSeq, sIf, sDrop, sRet, sRetN, sBrk, sCnt, sNever, sSet, sAsg, sFor, sTupAsg, boNil, boCons, bName, bTup, btCons, btNil, bSub, eOfN, eOfV, eOfB, eFrz, eMove, eVar, eBin, eTup, eLst, eIdx, eIf, eCallU, eCallV, eMake, eAppend, eAppendN, eExtend, ePop, daNil, daCons, putB, nOfV, nLst, nsNil, nsCons, nBin, nCallB, nCallU, nCallM, nComp, nCopy, dLst, vC, vOfP, vOfN, vOfB, vTup, vLst, vBin, vNeg, vIf, vCut, vIdx, vItK, vCopyT, asNil, asCons, bAnd, bOr, bNot, bCmp, bChain, bIsi, bIsC, bOfV, bInK, bTrue, beOfB, beOfE, beCmp, beNot, beAnd, beOr, qOfP, pVar, pIdx, pAttr, oIdx, getF, getT, O.fz, fzs, fzf, cmpT, eqT, ltT, T.flat, flats, VS.isNon, scal, T.ty, isTy, iOfJ, jSeq, seqT, jRng1, jRng2, jEnum, VS.iRng1, iSeq, VS.iEnum, ixN, atI, idxT, oSome, oNone, outsE, sFldSet, putO, lenF, absF, intF, divF, wipeE, VS.binT, VS.lim, forGo, Sm.t, Sm.cl, inT, inV, eqV, strEq, strBeq, fzs_app, fzs_oI, map_tI, oI_len, tI_len, oI_app, tI_app, oI_nil, tI_nil, oI_cons, tI_cons, tInts_tI, ih, cw, h2]; rfl⟩
theorem lc_loop {Φ : Phi} {t0 : T} : ∀ {b : List Sm} {acc : List Int} {x y : Option O}, acc.length + sizs b < 1000 → sizs b < 64 → (∀ b' : List Sm, deps b' < deps b → sizs b' < 64 → Φ.f__law_calls [.val (.tup (tss b'))] = some (.lst (oI (cw b')), [])) →
    ∃ x' y', forGo (bName 2) (lcBody Φ) (tss b) [some (.val t0), some (.lst (oI acc)), x, y] = some (.nx, [some (.val t0), some (.lst (oI (acc ++ cls b))), x', y'])
  | [], acc, x, y, _, _, _ => ⟨x, y, by simp [tss, forGo, cls]⟩
  | s :: b, acc, x, y, hl, hs, IH => by
    have h1 : s.siz < 64 := by simp only [sizs] at hs; omega
    obtain ⟨y1, st⟩ := lc_step (Φ := Φ) (s := s) (acc := acc) (t0 := t0) (y := y) (by simp only [sizs] at hl; omega) (fun b' hd hb => IH b' (by simp only [deps]; omega) hb) h1
    obtain ⟨x', y', ih⟩ := lc_loop (Φ := Φ) (t0 := t0) (b := b) (acc := acc ++ s.cl) (x := some (.val s.t)) (y := y1) (by have := Sm.cl_len s; simp only [sizs, List.length_append] at *; omega) (by simp only [sizs] at hs; omega) (fun b' hd hb => IH b' (by simp only [deps]; omega) hb)
    refine ⟨x', y', ?_⟩
    have hb : bName 2 (.val s.t) [some (.val t0), some (.lst (oI acc)), x, y] = some [some (.val t0), some (.lst (oI acc)), some (.val s.t), y] := by simp [bName]
    simp only [tss, forGo, hb, st, ih, cls, List.append_assoc]
theorem lc_eq : ∀ (k : Nat) (b : List Sm), deps b < k → sizs b < 64 → (PhiN k).f__law_calls [.val (.tup (tss b))] = some (.lst (oI (cw b)), [])
  | 0, b, h, _ => by omega
  | k + 1, b, h, hs => by
    obtain ⟨x', y', hx⟩ := lc_loop (Φ := PhiN k) (t0 := .tup (tss b)) (b := b) (acc := []) (x := none) (y := none) (by simp; omega) hs fun b' hd hb => lc_eq k b' (by omega) hb
    have hl : (cls b).length < 64 := by have := cls_len b; omega
    rw [e_f__law_calls]
    simp only [List.nil_append, oI_nil] at hx
    simp only [d_f__law_calls]
    simp [runF, sNil, sSeq, sIf, sDrop, sRet, sRetN, sBrk, sCnt, sNever, sSet, sAsg, sFor, sTupAsg, boNil, boCons, bName, bTup, btCons, btNil, bSub, eOfN, eOfV, eOfB, eFrz, eMove, eVar, eBin, eTup, eLst, eIdx, eIf, eCallU, eCallV, eMake, eAppend, eAppendN, eExtend, ePop, daNil, daCons, putB, nOfV, nLst, nsNil, nsCons, nBin, nCallB, nCallU, nCallM, nComp, nCopy, dLst, vC, vOfP, vOfN, vOfB, vTup, vLst, vBin, vNeg, vIf, vCut, vIdx, vItK, vCopyT, asNil, asCons, bAnd, bOr, bNot, bCmp, bChain, bIsi, bIsC, bOfV, bInK, bTrue, beOfB, beOfE, beCmp, beNot, beAnd, beOr, qOfP, pVar, pIdx, pAttr, oIdx, getF, getT, O.fz, fzs, fzf, cmpT, eqT, ltT, T.flat, flats, VS.isNon, scal, T.ty, isTy, iOfJ, jSeq, seqT, jRng1, jRng2, jEnum, VS.iRng1, iSeq, VS.iEnum, ixN, atI, idxT, oSome, oNone, outsE, sFldSet, putO, lenF, absF, intF, divF, wipeE, VS.binT, VS.lim, hx, strEq, strBeq, fzs_app, fzs_oI, map_tI, oI_len, tI_len, oI_app, tI_app, oI_nil, tI_nil, oI_cons, tI_cons, tInts_tI, ssetF_oI hl, cw]
/-! ### draws -/
abbrev pot (p : Int × Int) : O := .lst [.val (.int p.1), .val (.int p.2)]
def dr (p : Int × Int) (m : Int) : Int × (Int × Int) := if 0 < p.1 then (p.1 % m, (p.1 / m, p.2)) else
  ((((p.2 * 48271 + 4001) % 2147483587) * ((p.2 * 48271 + 4001) % 2147483587)) % 2147483549 / 13 % m, (p.1, (p.2 * 48271 + 4001) % 2147483587))
theorem dr_lt {p : Int × Int} {m : Int} (h : 0 < m) : 0 ≤ (dr p m).1 ∧ (dr p m).1 < m := by
  unfold dr
  split
  · exact ⟨Int.emod_nonneg _ (by omega), Int.emod_lt_of_pos _ h⟩
  · exact ⟨Int.emod_nonneg _ (by omega), Int.emod_lt_of_pos _ h⟩
theorem mulOk_r (i j : Int) (h1 : -(2 ^ 64) < j) (h2 : j < 2 ^ 64) : mulOk i j = true := by
  unfold mulOk
  simp
  exact .inr ⟨by omega, by omega⟩
theorem draw_eq (k : Nat) (p : Int × Int) (m : Int) (h : 0 < m) (h2 : m < 1073741824) : (PhiN (k + 1)).f__law_draw [pot p, .val (.int m)] = some (.val (.int (dr p m).1), [pot (dr p m).2]) := by
  obtain ⟨a, b⟩ := p
  rw [e_f__law_draw]
  by_cases ha : 0 < a
  · simp [runF, sNil, sSeq, sIf, sDrop, sRet, sRetN, sBrk, sCnt, sNever, sSet, sAsg, sFor, sTupAsg, boNil, boCons, bName, bTup, btCons, btNil, bSub, eOfN, eOfV, eOfB, eFrz, eMove, eVar, eBin, eTup, eLst, eIdx, eIf, eCallU, eCallV, eMake, eAppend, eAppendN, eExtend, ePop, daNil, daCons, putB, nOfV, nLst, nsNil, nsCons, nBin, nCallB, nCallU, nCallM, nComp, nCopy, dLst, vC, vOfP, vOfN, vOfB, vTup, vLst, vBin, vNeg, vIf, vCut, vIdx, vItK, vCopyT, asNil, asCons, bAnd, bOr, bNot, bCmp, bChain, bIsi, bIsC, bOfV, bInK, bTrue, beOfB, beOfE, beCmp, beNot, beAnd, beOr, qOfP, pVar, pIdx, pAttr, oIdx, getF, getT, O.fz, fzs, fzf, cmpT, eqT, ltT, T.flat, flats, VS.isNon, scal, T.ty, isTy, iOfJ, jSeq, seqT, jRng1, jRng2, jEnum, VS.iRng1, iSeq, VS.iEnum, ixN, atI, idxT, oSome, oNone, outsE, sFldSet, putO, lenF, absF, intF, divF, wipeE, VS.binT, VS.lim, d_f__law_draw, ha, h, h2, dr]
  · have e1 : mulOk b 48271 = true := mulOk_r _ _ (by decide) (by decide)
    have e0 : 0 ≤ (b * 48271 + 4001) % 2147483587 := Int.emod_nonneg _ (by omega)
    have e3 : (b * 48271 + 4001) % 2147483587 < 2147483587 := Int.emod_lt_of_pos _ (by omega)
    have e2 : mulOk ((b * 48271 + 4001) % 2147483587) ((b * 48271 + 4001) % 2147483587) = true := mulOk_r _ _ (by omega) (by omega)
    simp [runF, sNil, sSeq, sIf, sDrop, sRet, sRetN, sBrk, sCnt, sNever, sSet, sAsg, sFor, sTupAsg, boNil, boCons, bName, bTup, btCons, btNil, bSub, eOfN, eOfV, eOfB, eFrz, eMove, eVar, eBin, eTup, eLst, eIdx, eIf, eCallU, eCallV, eMake, eAppend, eAppendN, eExtend, ePop, daNil, daCons, putB, nOfV, nLst, nsNil, nsCons, nBin, nCallB, nCallU, nCallM, nComp, nCopy, dLst, vC, vOfP, vOfN, vOfB, vTup, vLst, vBin, vNeg, vIf, vCut, vIdx, vItK, vCopyT, asNil, asCons, bAnd, bOr, bNot, bCmp, bChain, bIsi, bIsC, bOfV, bInK, bTrue, beOfB, beOfE, beCmp, beNot, beAnd, beOr, qOfP, pVar, pIdx, pAttr, oIdx, getF, getT, O.fz, fzs, fzf, cmpT, eqT, ltT, T.flat, flats, VS.isNon, scal, T.ty, isTy, iOfJ, jSeq, seqT, jRng1, jRng2, jEnum, VS.iRng1, iSeq, VS.iEnum, ixN, atI, idxT, oSome, oNone, outsE, sFldSet, putO, lenF, absF, intF, divF, wipeE, VS.binT, VS.lim, d_f__law_draw, ha, h, h2, dr, intF, e1, e2]
theorem pick_eq (k : Nat) (p : Int × Int) (ts : List T) (h : 0 < ts.length) (h2 : ts.length < 1073741824) : ∃ j, ∃ hj : j < ts.length, (PhiN (k + 2)).f__law_pick [pot p, .val (.lst ts)] = some (.val ts[j], [pot (dr p ts.length).2]) := by
  have hd := dr_lt (p := p) (m := (ts.length : Int)) (by omega)
  refine ⟨(dr p ts.length).1.toNat, by omega, ?_⟩
  have e := draw_eq k p ts.length (by omega) (by omega)
  rw [e_f__law_pick]
  simp only [d_f__law_pick]
  have hg : ts[(dr p ts.length).1.toNat]? = some (ts[(dr p ts.length).1.toNat]'(by omega)) := List.getElem?_eq_getElem (by omega)
  simp [runF, sNil, sSeq, sIf, sDrop, sRet, sRetN, sBrk, sCnt, sNever, sSet, sAsg, sFor, sTupAsg, boNil, boCons, bName, bTup, btCons, btNil, bSub, eOfN, eOfV, eOfB, eFrz, eMove, eVar, eBin, eTup, eLst, eIdx, eIf, eCallU, eCallV, eMake, eAppend, eAppendN, eExtend, ePop, daNil, daCons, putB, nOfV, nLst, nsNil, nsCons, nBin, nCallB, nCallU, nCallM, nComp, nCopy, dLst, vC, vOfP, vOfN, vOfB, vTup, vLst, vBin, vNeg, vIf, vCut, vIdx, vItK, vCopyT, asNil, asCons, bAnd, bOr, bNot, bCmp, bChain, bIsi, bIsC, bOfV, bInK, bTrue, beOfB, beOfE, beCmp, beNot, beAnd, beOr, qOfP, pVar, pIdx, pAttr, oIdx, getF, getT, O.fz, fzs, fzf, cmpT, eqT, ltT, T.flat, flats, VS.isNon, scal, T.ty, isTy, iOfJ, jSeq, seqT, jRng1, jRng2, jEnum, VS.iRng1, iSeq, VS.iEnum, ixN, atI, idxT, oSome, oNone, outsE, sFldSet, putO, lenF, absF, intF, divF, wipeE, VS.binT, VS.lim, e, hd.1, hd.2, hg]
end VW
namespace VW
open PySem L2 VS

abbrev shp (P : Int) : T := .tup [.int 1, .int 1, .int 1, .int P]
abbrev rm (r : Nat) : O := .lst [.val (.int (r : Nat))]
def W6.bd (P : Int) : W6 → Int
  | .touch => 1
  | .write => 1
  | .mark => 10
  | .set => 1
  | .claim => 1
  | .call => P
mutual
def Sm.gd (P : Int) : Sm → Prop
  | .skip => True
  | .one w n => 0 ≤ n ∧ n < w.bd P
  | .hold n b => (0 ≤ n ∧ n < 1) ∧ gds P b
  | .either a b => gds P a ∧ gds P b
  | .when n a b => (0 ≤ n ∧ n < 1) ∧ gds P a ∧ gds P b
  | .loop b => gds P b
def gds (P : Int) : List Sm → Prop
  | [] => True
  | s :: b => s.gd P ∧ gds P b
end
def BodyOk (k : Nat) (P : Int) (d : Nat) : Prop := ∀ (p : Int × Int) (r : Nat), ∃ (ss : List Sm) (p' : Int × Int) (r' : Nat), (PhiN k).f__law_body [pot p, .val (shp P), .val (.int (d : Nat)), rm r] = some (.val (.tup (tss ss)), [pot p', rm r']) ∧ sizs ss + r' = r ∧ deps ss ≤ d ∧ gds P ss
def StmOk (k : Nat) (P : Int) (d : Nat) : Prop := ∀ (p : Int × Int) (r : Nat), ∃ (s : Sm) (p' : Int × Int) (r' : Nat), (PhiN k).f__law_statement [pot p, .val (shp P), .val (.int (d : Nat)), rm r] = some (.val s.t, [pot p', rm r']) ∧ s.siz + r' = r + 1 ∧ s.dep ≤ d ∧ s.gd P
abbrev wd7 : List T := [.str "skip", .str "touch", .str "write", .str "mark", .str "set", .str "claim", .str "call"]
abbrev wd6 : List T := [.str "hold", .str "either", .str "when", .str "loop", .str "hold", .str "either"]
theorem st_flat {k : Nat} {P : Int} (hP : 0 < P) (hP2 : P < 1000) : StmOk (k + 3) P 0 := by
  intro p r
  obtain ⟨j, hj, e⟩ := pick_eq k p wd7 (by simp) (by simp)
  have hm := List.getElem_mem hj
  generalize wd7[j] = w at e hm
  generalize (dr p (wd7.length : Nat)).2 = p1 at e
  have d1 := draw_eq (k + 1) p1 1 (by omega) (by omega)
  have d10 := draw_eq (k + 1) p1 10 (by omega) (by omega)
  have dP := draw_eq (k + 1) p1 P (by omega) (by omega)
  have l1 := dr_lt (p := p1) (m := 1) (by omega)
  have l10 := dr_lt (p := p1) (m := 10) (by omega)
  have lP := dr_lt (p := p1) (m := P) (by omega)
  simp only [List.mem_cons, List.not_mem_nil, or_false] at hm
  rw [e_f__law_statement]
  simp only [d_f__law_statement]
  rcases hm with rfl | rfl | rfl | rfl | rfl | rfl | rfl
  · exact ⟨.skip, p1, r, by simp [runF, sNil, sSeq, sIf, sDrop, sRet, sRetN, sBrk, sCnt, sNever, sSet, sAsg, sFor, sTupAsg, boNil, boCons, bName, bTup, btCons, btNil, bSub, eOfN, eOfV, eOfB, eFrz, eMove, eVar, eBin, eTup, eLst, eIdx, eIf, eCallU, eCallV, eMake, eAppend, eAppendN, eExtend, ePop, daNil, daCons, putB, nOfV, nLst, nsNil, nsCons, nBin, nCallB, nCallU, nCallM, nComp, nCopy, dLst, vC, vOfP, vOfN, vOfB, vTup, vLst, vBin, vNeg, vIf, vCut, vIdx, vItK, vCopyT, asNil, asCons, bAnd, bOr, bNot, bCmp, bChain, bIsi, bIsC, bOfV, bInK, bTrue, beOfB, beOfE, beCmp, beNot, beAnd, beOr, qOfP, pVar, pIdx, pAttr, oIdx, getF, getT, O.fz, fzs, fzf, cmpT, eqT, ltT, T.flat, flats, VS.isNon, scal, T.ty, isTy, iOfJ, jSeq, seqT, jRng1, jRng2, jEnum, VS.iRng1, iSeq, VS.iEnum, ixN, atI, idxT, oSome, oNone, outsE, sFldSet, putO, lenF, absF, intF, divF, wipeE, VS.binT, VS.lim, forGo, Sm.t, inT, inV, eqV, strEq, strBeq, fzs_app, fzs_oI, map_tI, oI_len, tI_len, oI_app, tI_app, oI_nil, tI_nil, oI_cons, tI_cons, tInts_tI, e, tss], by simp [Sm.siz]; omega, by simp [Sm.dep], by simp [Sm.gd]⟩
  · exact ⟨.one .touch (dr p1 1).1, (dr p1 1).2, r, by simp [runF, sNil, sSeq, sIf, sDrop, sRet, sRetN, sBrk, sCnt, sNever, sSet, sAsg, sFor, sTupAsg, boNil, boCons, bName, bTup, btCons, btNil, bSub, eOfN, eOfV, eOfB, eFrz, eMove, eVar, eBin, eTup, eLst, eIdx, eIf, eCallU, eCallV, eMake, eAppend, eAppendN, eExtend, ePop, daNil, daCons, putB, nOfV, nLst, nsNil, nsCons, nBin, nCallB, nCallU, nCallM, nComp, nCopy, dLst, vC, vOfP, vOfN, vOfB, vTup, vLst, vBin, vNeg, vIf, vCut, vIdx, vItK, vCopyT, asNil, asCons, bAnd, bOr, bNot, bCmp, bChain, bIsi, bIsC, bOfV, bInK, bTrue, beOfB, beOfE, beCmp, beNot, beAnd, beOr, qOfP, pVar, pIdx, pAttr, oIdx, getF, getT, O.fz, fzs, fzf, cmpT, eqT, ltT, T.flat, flats, VS.isNon, scal, T.ty, isTy, iOfJ, jSeq, seqT, jRng1, jRng2, jEnum, VS.iRng1, iSeq, VS.iEnum, ixN, atI, idxT, oSome, oNone, outsE, sFldSet, putO, lenF, absF, intF, divF, wipeE, VS.binT, VS.lim, forGo, Sm.t, inT, inV, eqV, strEq, strBeq, fzs_app, fzs_oI, map_tI, oI_len, tI_len, oI_app, tI_app, oI_nil, tI_nil, oI_cons, tI_cons, tInts_tI, e, d1, W6.s], by simp [Sm.siz]; omega, by simp [Sm.dep], by simpa [Sm.gd, W6.bd] using l1⟩
  · exact ⟨.one .write (dr p1 1).1, (dr p1 1).2, r, by simp [runF, sNil, sSeq, sIf, sDrop, sRet, sRetN, sBrk, sCnt, sNever, sSet, sAsg, sFor, sTupAsg, boNil, boCons, bName, bTup, btCons, btNil, bSub, eOfN, eOfV, eOfB, eFrz, eMove, eVar, eBin, eTup, eLst, eIdx, eIf, eCallU, eCallV, eMake, eAppend, eAppendN, eExtend, ePop, daNil, daCons, putB, nOfV, nLst, nsNil, nsCons, nBin, nCallB, nCallU, nCallM, nComp, nCopy, dLst, vC, vOfP, vOfN, vOfB, vTup, vLst, vBin, vNeg, vIf, vCut, vIdx, vItK, vCopyT, asNil, asCons, bAnd, bOr, bNot, bCmp, bChain, bIsi, bIsC, bOfV, bInK, bTrue, beOfB, beOfE, beCmp, beNot, beAnd, beOr, qOfP, pVar, pIdx, pAttr, oIdx, getF, getT, O.fz, fzs, fzf, cmpT, eqT, ltT, T.flat, flats, VS.isNon, scal, T.ty, isTy, iOfJ, jSeq, seqT, jRng1, jRng2, jEnum, VS.iRng1, iSeq, VS.iEnum, ixN, atI, idxT, oSome, oNone, outsE, sFldSet, putO, lenF, absF, intF, divF, wipeE, VS.binT, VS.lim, forGo, Sm.t, inT, inV, eqV, strEq, strBeq, fzs_app, fzs_oI, map_tI, oI_len, tI_len, oI_app, tI_app, oI_nil, tI_nil, oI_cons, tI_cons, tInts_tI, e, d1, W6.s], by simp [Sm.siz]; omega, by simp [Sm.dep], by simpa [Sm.gd, W6.bd] using l1⟩
  · exact ⟨.one .mark (dr p1 10).1, (dr p1 10).2, r, by simp [runF, sNil, sSeq, sIf, sDrop, sRet, sRetN, sBrk, sCnt, sNever, sSet, sAsg, sFor, sTupAsg, boNil, boCons, bName, bTup, btCons, btNil, bSub, eOfN, eOfV, eOfB, eFrz, eMove, eVar, eBin, eTup, eLst, eIdx, eIf, eCallU, eCallV, eMake, eAppend, eAppendN, eExtend, ePop, daNil, daCons, putB, nOfV, nLst, nsNil, nsCons, nBin, nCallB, nCallU, nCallM, nComp, nCopy, dLst, vC, vOfP, vOfN, vOfB, vTup, vLst, vBin, vNeg, vIf, vCut, vIdx, vItK, vCopyT, asNil, asCons, bAnd, bOr, bNot, bCmp, bChain, bIsi, bIsC, bOfV, bInK, bTrue, beOfB, beOfE, beCmp, beNot, beAnd, beOr, qOfP, pVar, pIdx, pAttr, oIdx, getF, getT, O.fz, fzs, fzf, cmpT, eqT, ltT, T.flat, flats, VS.isNon, scal, T.ty, isTy, iOfJ, jSeq, seqT, jRng1, jRng2, jEnum, VS.iRng1, iSeq, VS.iEnum, ixN, atI, idxT, oSome, oNone, outsE, sFldSet, putO, lenF, absF, intF, divF, wipeE, VS.binT, VS.lim, forGo, Sm.t, inT, inV, eqV, strEq, strBeq, fzs_app, fzs_oI, map_tI, oI_len, tI_len, oI_app, tI_app, oI_nil, tI_nil, oI_cons, tI_cons, tInts_tI, e, d10, W6.s], by simp [Sm.siz]; omega, by simp [Sm.dep], by simpa [Sm.gd, W6.bd] using l10⟩
  · exact ⟨.one .set (dr p1 1).1, (dr p1 1).2, r, by simp [runF, sNil, sSeq, sIf, sDrop, sRet, sRetN, sBrk, sCnt, sNever, sSet, sAsg, sFor, sTupAsg, boNil, boCons, bName, bTup, btCons, btNil, bSub, eOfN, eOfV, eOfB, eFrz, eMove, eVar, eBin, eTup, eLst, eIdx, eIf, eCallU, eCallV, eMake, eAppend, eAppendN, eExtend, ePop, daNil, daCons, putB, nOfV, nLst, nsNil, nsCons, nBin, nCallB, nCallU, nCallM, nComp, nCopy, dLst, vC, vOfP, vOfN, vOfB, vTup, vLst, vBin, vNeg, vIf, vCut, vIdx, vItK, vCopyT, asNil, asCons, bAnd, bOr, bNot, bCmp, bChain, bIsi, bIsC, bOfV, bInK, bTrue, beOfB, beOfE, beCmp, beNot, beAnd, beOr, qOfP, pVar, pIdx, pAttr, oIdx, getF, getT, O.fz, fzs, fzf, cmpT, eqT, ltT, T.flat, flats, VS.isNon, scal, T.ty, isTy, iOfJ, jSeq, seqT, jRng1, jRng2, jEnum, VS.iRng1, iSeq, VS.iEnum, ixN, atI, idxT, oSome, oNone, outsE, sFldSet, putO, lenF, absF, intF, divF, wipeE, VS.binT, VS.lim, forGo, Sm.t, inT, inV, eqV, strEq, strBeq, fzs_app, fzs_oI, map_tI, oI_len, tI_len, oI_app, tI_app, oI_nil, tI_nil, oI_cons, tI_cons, tInts_tI, e, d1, W6.s], by simp [Sm.siz]; omega, by simp [Sm.dep], by simpa [Sm.gd, W6.bd] using l1⟩
  · exact ⟨.one .claim (dr p1 1).1, (dr p1 1).2, r, by simp [runF, sNil, sSeq, sIf, sDrop, sRet, sRetN, sBrk, sCnt, sNever, sSet, sAsg, sFor, sTupAsg, boNil, boCons, bName, bTup, btCons, btNil, bSub, eOfN, eOfV, eOfB, eFrz, eMove, eVar, eBin, eTup, eLst, eIdx, eIf, eCallU, eCallV, eMake, eAppend, eAppendN, eExtend, ePop, daNil, daCons, putB, nOfV, nLst, nsNil, nsCons, nBin, nCallB, nCallU, nCallM, nComp, nCopy, dLst, vC, vOfP, vOfN, vOfB, vTup, vLst, vBin, vNeg, vIf, vCut, vIdx, vItK, vCopyT, asNil, asCons, bAnd, bOr, bNot, bCmp, bChain, bIsi, bIsC, bOfV, bInK, bTrue, beOfB, beOfE, beCmp, beNot, beAnd, beOr, qOfP, pVar, pIdx, pAttr, oIdx, getF, getT, O.fz, fzs, fzf, cmpT, eqT, ltT, T.flat, flats, VS.isNon, scal, T.ty, isTy, iOfJ, jSeq, seqT, jRng1, jRng2, jEnum, VS.iRng1, iSeq, VS.iEnum, ixN, atI, idxT, oSome, oNone, outsE, sFldSet, putO, lenF, absF, intF, divF, wipeE, VS.binT, VS.lim, forGo, Sm.t, inT, inV, eqV, strEq, strBeq, fzs_app, fzs_oI, map_tI, oI_len, tI_len, oI_app, tI_app, oI_nil, tI_nil, oI_cons, tI_cons, tInts_tI, e, d1, W6.s], by simp [Sm.siz]; omega, by simp [Sm.dep], by simpa [Sm.gd, W6.bd] using l1⟩
  · exact ⟨.one .call (dr p1 P).1, (dr p1 P).2, r, by simp [runF, sNil, sSeq, sIf, sDrop, sRet, sRetN, sBrk, sCnt, sNever, sSet, sAsg, sFor, sTupAsg, boNil, boCons, bName, bTup, btCons, btNil, bSub, eOfN, eOfV, eOfB, eFrz, eMove, eVar, eBin, eTup, eLst, eIdx, eIf, eCallU, eCallV, eMake, eAppend, eAppendN, eExtend, ePop, daNil, daCons, putB, nOfV, nLst, nsNil, nsCons, nBin, nCallB, nCallU, nCallM, nComp, nCopy, dLst, vC, vOfP, vOfN, vOfB, vTup, vLst, vBin, vNeg, vIf, vCut, vIdx, vItK, vCopyT, asNil, asCons, bAnd, bOr, bNot, bCmp, bChain, bIsi, bIsC, bOfV, bInK, bTrue, beOfB, beOfE, beCmp, beNot, beAnd, beOr, qOfP, pVar, pIdx, pAttr, oIdx, getF, getT, O.fz, fzs, fzf, cmpT, eqT, ltT, T.flat, flats, VS.isNon, scal, T.ty, isTy, iOfJ, jSeq, seqT, jRng1, jRng2, jEnum, VS.iRng1, iSeq, VS.iEnum, ixN, atI, idxT, oSome, oNone, outsE, sFldSet, putO, lenF, absF, intF, divF, wipeE, VS.binT, VS.lim, forGo, Sm.t, inT, inV, eqV, strEq, strBeq, fzs_app, fzs_oI, map_tI, oI_len, tI_len, oI_app, tI_app, oI_nil, tI_nil, oI_cons, tI_cons, tInts_tI, e, dP, W6.s], by simp [Sm.siz]; omega, by simp [Sm.dep], by simpa [Sm.gd, W6.bd] using lP⟩
theorem st_deep {k : Nat} {P : Int} {d : Nat} (hP : 0 < P) (hP2 : P < 1000) (BD : BodyOk (k + 2) P d) : StmOk (k + 3) P (d + 1) := by
  intro p r
  obtain ⟨j, hj, e⟩ := pick_eq k p (wd7 ++ wd6) (by simp) (by simp)
  have hm := List.getElem_mem hj
  generalize (wd7 ++ wd6)[j] = w at e hm
  generalize (dr p ((wd7 ++ wd6).length : Nat)).2 = p1 at e
  have d1 := draw_eq (k + 1) p1 1 (by omega) (by omega)
  have d10 := draw_eq (k + 1) p1 10 (by omega) (by omega)
  have dP := draw_eq (k + 1) p1 P (by omega) (by omega)
  have l1 := dr_lt (p := p1) (m := 1) (by omega)
  have l10 := dr_lt (p := p1) (m := 10) (by omega)
  have lP := dr_lt (p := p1) (m := P) (by omega)
  have hdd : ((d : Nat) : Int) = ((d + 1 : Nat) : Int) - 1 := by omega
  have hd : (0 : Int) < ((d + 1 : Nat) : Int) := by omega
  unfold BodyOk at BD
  rw [hdd] at BD
  generalize ((d + 1 : Nat) : Int) = D at BD hd hdd ⊢
  simp only [List.mem_cons, List.not_mem_nil, or_false, List.cons_append, List.nil_append] at hm e
  rw [e_f__law_statement]
  simp only [d_f__law_statement]
  rcases hm with rfl | rfl | rfl | rfl | rfl | rfl | rfl | rfl | rfl | rfl | rfl | rfl | rfl
  · exact ⟨.skip, p1, r, by simp [runF, sNil, sSeq, sIf, sDrop, sRet, sRetN, sBrk, sCnt, sNever, sSet, sAsg, sFor, sTupAsg, boNil, boCons, bName, bTup, btCons, btNil, bSub, eOfN, eOfV, eOfB, eFrz, eMove, eVar, eBin, eTup, eLst, eIdx, eIf, eCallU, eCallV, eMake, eAppend, eAppendN, eExtend, ePop, daNil, daCons, putB, nOfV, nLst, nsNil, nsCons, nBin, nCallB, nCallU, nCallM, nComp, nCopy, dLst, vC, vOfP, vOfN, vOfB, vTup, vLst, vBin, vNeg, vIf, vCut, vIdx, vItK, vCopyT, asNil, asCons, bAnd, bOr, bNot, bCmp, bChain, bIsi, bIsC, bOfV, bInK, bTrue, beOfB, beOfE, beCmp, beNot, beAnd, beOr, qOfP, pVar, pIdx, pAttr, oIdx, getF, getT, O.fz, fzs, fzf, cmpT, eqT, ltT, T.flat, flats, VS.isNon, scal, T.ty, isTy, iOfJ, jSeq, seqT, jRng1, jRng2, jEnum, VS.iRng1, iSeq, VS.iEnum, ixN, atI, idxT, oSome, oNone, outsE, sFldSet, putO, lenF, absF, intF, divF, wipeE, VS.binT, VS.lim, forGo, Sm.t, inT, inV, eqV, strEq, strBeq, fzs_app, fzs_oI, map_tI, oI_len, tI_len, oI_app, tI_app, oI_nil, tI_nil, oI_cons, tI_cons, tInts_tI, e, tss, hd], by simp [Sm.siz]; omega, by simp [Sm.dep], by simp [Sm.gd]⟩
  · exact ⟨.one .touch (dr p1 1).1, (dr p1 1).2, r, by simp [runF, sNil, sSeq, sIf, sDrop, sRet, sRetN, sBrk, sCnt, sNever, sSet, sAsg, sFor, sTupAsg, boNil, boCons, bName, bTup, btCons, btNil, bSub, eOfN, eOfV, eOfB, eFrz, eMove, eVar, eBin, eTup, eLst, eIdx, eIf, eCallU, eCallV, eMake, eAppend, eAppendN, eExtend, ePop, daNil, daCons, putB, nOfV, nLst, nsNil, nsCons, nBin, nCallB, nCallU, nCallM, nComp, nCopy, dLst, vC, vOfP, vOfN, vOfB, vTup, vLst, vBin, vNeg, vIf, vCut, vIdx, vItK, vCopyT, asNil, asCons, bAnd, bOr, bNot, bCmp, bChain, bIsi, bIsC, bOfV, bInK, bTrue, beOfB, beOfE, beCmp, beNot, beAnd, beOr, qOfP, pVar, pIdx, pAttr, oIdx, getF, getT, O.fz, fzs, fzf, cmpT, eqT, ltT, T.flat, flats, VS.isNon, scal, T.ty, isTy, iOfJ, jSeq, seqT, jRng1, jRng2, jEnum, VS.iRng1, iSeq, VS.iEnum, ixN, atI, idxT, oSome, oNone, outsE, sFldSet, putO, lenF, absF, intF, divF, wipeE, VS.binT, VS.lim, forGo, Sm.t, inT, inV, eqV, strEq, strBeq, fzs_app, fzs_oI, map_tI, oI_len, tI_len, oI_app, tI_app, oI_nil, tI_nil, oI_cons, tI_cons, tInts_tI, e, d1, W6.s, hd], by simp [Sm.siz]; omega, by simp [Sm.dep], by simpa [Sm.gd, W6.bd] using l1⟩
  · exact ⟨.one .write (dr p1 1).1, (dr p1 1).2, r, by simp [runF, sNil, sSeq, sIf, sDrop, sRet, sRetN, sBrk, sCnt, sNever, sSet, sAsg, sFor, sTupAsg, boNil, boCons, bName, bTup, btCons, btNil, bSub, eOfN, eOfV, eOfB, eFrz, eMove, eVar, eBin, eTup, eLst, eIdx, eIf, eCallU, eCallV, eMake, eAppend, eAppendN, eExtend, ePop, daNil, daCons, putB, nOfV, nLst, nsNil, nsCons, nBin, nCallB, nCallU, nCallM, nComp, nCopy, dLst, vC, vOfP, vOfN, vOfB, vTup, vLst, vBin, vNeg, vIf, vCut, vIdx, vItK, vCopyT, asNil, asCons, bAnd, bOr, bNot, bCmp, bChain, bIsi, bIsC, bOfV, bInK, bTrue, beOfB, beOfE, beCmp, beNot, beAnd, beOr, qOfP, pVar, pIdx, pAttr, oIdx, getF, getT, O.fz, fzs, fzf, cmpT, eqT, ltT, T.flat, flats, VS.isNon, scal, T.ty, isTy, iOfJ, jSeq, seqT, jRng1, jRng2, jEnum, VS.iRng1, iSeq, VS.iEnum, ixN, atI, idxT, oSome, oNone, outsE, sFldSet, putO, lenF, absF, intF, divF, wipeE, VS.binT, VS.lim, forGo, Sm.t, inT, inV, eqV, strEq, strBeq, fzs_app, fzs_oI, map_tI, oI_len, tI_len, oI_app, tI_app, oI_nil, tI_nil, oI_cons, tI_cons, tInts_tI, e, d1, W6.s, hd], by simp [Sm.siz]; omega, by simp [Sm.dep], by simpa [Sm.gd, W6.bd] using l1⟩
  · exact ⟨.one .mark (dr p1 10).1, (dr p1 10).2, r, by simp [runF, sNil, sSeq, sIf, sDrop, sRet, sRetN, sBrk, sCnt, sNever, sSet, sAsg, sFor, sTupAsg, boNil, boCons, bName, bTup, btCons, btNil, bSub, eOfN, eOfV, eOfB, eFrz, eMove, eVar, eBin, eTup, eLst, eIdx, eIf, eCallU, eCallV, eMake, eAppend, eAppendN, eExtend, ePop, daNil, daCons, putB, nOfV, nLst, nsNil, nsCons, nBin, nCallB, nCallU, nCallM, nComp, nCopy, dLst, vC, vOfP, vOfN, vOfB, vTup, vLst, vBin, vNeg, vIf, vCut, vIdx, vItK, vCopyT, asNil, asCons, bAnd, bOr, bNot, bCmp, bChain, bIsi, bIsC, bOfV, bInK, bTrue, beOfB, beOfE, beCmp, beNot, beAnd, beOr, qOfP, pVar, pIdx, pAttr, oIdx, getF, getT, O.fz, fzs, fzf, cmpT, eqT, ltT, T.flat, flats, VS.isNon, scal, T.ty, isTy, iOfJ, jSeq, seqT, jRng1, jRng2, jEnum, VS.iRng1, iSeq, VS.iEnum, ixN, atI, idxT, oSome, oNone, outsE, sFldSet, putO, lenF, absF, intF, divF, wipeE, VS.binT, VS.lim, forGo, Sm.t, inT, inV, eqV, strEq, strBeq, fzs_app, fzs_oI, map_tI, oI_len, tI_len, oI_app, tI_app, oI_nil, tI_nil, oI_cons, tI_cons, tInts_tI, e, d10, W6.s, hd], by simp [Sm.siz]; omega, by simp [Sm.dep], by simpa [Sm.gd, W6.bd] using l10⟩
  · exact ⟨.one .set (dr p1 1).1, (dr p1 1).2, r, by simp [runF, sNil, sSeq, sIf, sDrop, sRet, sRetN, sBrk, sCnt, sNever, sSet, sAsg, sFor, sTupAsg, boNil, boCons, bName, bTup, btCons, btNil, bSub, eOfN, eOfV, eOfB, eFrz, eMove, eVar, eBin, eTup, eLst, eIdx, eIf, eCallU, eCallV, eMake, eAppend, eAppendN, eExtend, ePop, daNil, daCons, putB, nOfV, nLst, nsNil, nsCons, nBin, nCallB, nCallU, nCallM, nComp, nCopy, dLst, vC, vOfP, vOfN, vOfB, vTup, vLst, vBin, vNeg, vIf, vCut, vIdx, vItK, vCopyT, asNil, asCons, bAnd, bOr, bNot, bCmp, bChain, bIsi, bIsC, bOfV, bInK, bTrue, beOfB, beOfE, beCmp, beNot, beAnd, beOr, qOfP, pVar, pIdx, pAttr, oIdx, getF, getT, O.fz, fzs, fzf, cmpT, eqT, ltT, T.flat, flats, VS.isNon, scal, T.ty, isTy, iOfJ, jSeq, seqT, jRng1, jRng2, jEnum, VS.iRng1, iSeq, VS.iEnum, ixN, atI, idxT, oSome, oNone, outsE, sFldSet, putO, lenF, absF, intF, divF, wipeE, VS.binT, VS.lim, forGo, Sm.t, inT, inV, eqV, strEq, strBeq, fzs_app, fzs_oI, map_tI, oI_len, tI_len, oI_app, tI_app, oI_nil, tI_nil, oI_cons, tI_cons, tInts_tI, e, d1, W6.s, hd], by simp [Sm.siz]; omega, by simp [Sm.dep], by simpa [Sm.gd, W6.bd] using l1⟩
  · exact ⟨.one .claim (dr p1 1).1, (dr p1 1).2, r, by simp [runF, sNil, sSeq, sIf, sDrop, sRet, sRetN, sBrk, sCnt, sNever, sSet, sAsg, sFor, sTupAsg, boNil, boCons, bName, bTup, btCons, btNil, bSub, eOfN, eOfV, eOfB, eFrz, eMove, eVar, eBin, eTup, eLst, eIdx, eIf, eCallU, eCallV, eMake, eAppend, eAppendN, eExtend, ePop, daNil, daCons, putB, nOfV, nLst, nsNil, nsCons, nBin, nCallB, nCallU, nCallM, nComp, nCopy, dLst, vC, vOfP, vOfN, vOfB, vTup, vLst, vBin, vNeg, vIf, vCut, vIdx, vItK, vCopyT, asNil, asCons, bAnd, bOr, bNot, bCmp, bChain, bIsi, bIsC, bOfV, bInK, bTrue, beOfB, beOfE, beCmp, beNot, beAnd, beOr, qOfP, pVar, pIdx, pAttr, oIdx, getF, getT, O.fz, fzs, fzf, cmpT, eqT, ltT, T.flat, flats, VS.isNon, scal, T.ty, isTy, iOfJ, jSeq, seqT, jRng1, jRng2, jEnum, VS.iRng1, iSeq, VS.iEnum, ixN, atI, idxT, oSome, oNone, outsE, sFldSet, putO, lenF, absF, intF, divF, wipeE, VS.binT, VS.lim, forGo, Sm.t, inT, inV, eqV, strEq, strBeq, fzs_app, fzs_oI, map_tI, oI_len, tI_len, oI_app, tI_app, oI_nil, tI_nil, oI_cons, tI_cons, tInts_tI, e, d1, W6.s, hd], by simp [Sm.siz]; omega, by simp [Sm.dep], by simpa [Sm.gd, W6.bd] using l1⟩
  · exact ⟨.one .call (dr p1 P).1, (dr p1 P).2, r, by simp [runF, sNil, sSeq, sIf, sDrop, sRet, sRetN, sBrk, sCnt, sNever, sSet, sAsg, sFor, sTupAsg, boNil, boCons, bName, bTup, btCons, btNil, bSub, eOfN, eOfV, eOfB, eFrz, eMove, eVar, eBin, eTup, eLst, eIdx, eIf, eCallU, eCallV, eMake, eAppend, eAppendN, eExtend, ePop, daNil, daCons, putB, nOfV, nLst, nsNil, nsCons, nBin, nCallB, nCallU, nCallM, nComp, nCopy, dLst, vC, vOfP, vOfN, vOfB, vTup, vLst, vBin, vNeg, vIf, vCut, vIdx, vItK, vCopyT, asNil, asCons, bAnd, bOr, bNot, bCmp, bChain, bIsi, bIsC, bOfV, bInK, bTrue, beOfB, beOfE, beCmp, beNot, beAnd, beOr, qOfP, pVar, pIdx, pAttr, oIdx, getF, getT, O.fz, fzs, fzf, cmpT, eqT, ltT, T.flat, flats, VS.isNon, scal, T.ty, isTy, iOfJ, jSeq, seqT, jRng1, jRng2, jEnum, VS.iRng1, iSeq, VS.iEnum, ixN, atI, idxT, oSome, oNone, outsE, sFldSet, putO, lenF, absF, intF, divF, wipeE, VS.binT, VS.lim, forGo, Sm.t, inT, inV, eqV, strEq, strBeq, fzs_app, fzs_oI, map_tI, oI_len, tI_len, oI_app, tI_app, oI_nil, tI_nil, oI_cons, tI_cons, tInts_tI, e, dP, W6.s, hd], by simp [Sm.siz]; omega, by simp [Sm.dep], by simpa [Sm.gd, W6.bd] using lP⟩
  · obtain ⟨ss, p2, r2, e2, h1, h2, h3⟩ := BD (dr p1 1).2 r
    exact ⟨.hold (dr p1 1).1 ss, p2, r2, by simp [runF, sNil, sSeq, sIf, sDrop, sRet, sRetN, sBrk, sCnt, sNever, sSet, sAsg, sFor, sTupAsg, boNil, boCons, bName, bTup, btCons, btNil, bSub, eOfN, eOfV, eOfB, eFrz, eMove, eVar, eBin, eTup, eLst, eIdx, eIf, eCallU, eCallV, eMake, eAppend, eAppendN, eExtend, ePop, daNil, daCons, putB, nOfV, nLst, nsNil, nsCons, nBin, nCallB, nCallU, nCallM, nComp, nCopy, dLst, vC, vOfP, vOfN, vOfB, vTup, vLst, vBin, vNeg, vIf, vCut, vIdx, vItK, vCopyT, asNil, asCons, bAnd, bOr, bNot, bCmp, bChain, bIsi, bIsC, bOfV, bInK, bTrue, beOfB, beOfE, beCmp, beNot, beAnd, beOr, qOfP, pVar, pIdx, pAttr, oIdx, getF, getT, O.fz, fzs, fzf, cmpT, eqT, ltT, T.flat, flats, VS.isNon, scal, T.ty, isTy, iOfJ, jSeq, seqT, jRng1, jRng2, jEnum, VS.iRng1, iSeq, VS.iEnum, ixN, atI, idxT, oSome, oNone, outsE, sFldSet, putO, lenF, absF, intF, divF, wipeE, VS.binT, VS.lim, forGo, Sm.t, inT, inV, eqV, strEq, strBeq, fzs_app, fzs_oI, map_tI, oI_len, tI_len, oI_app, tI_app, oI_nil, tI_nil, oI_cons, tI_cons, tInts_tI, e, d1, W6.s, hd, e2], by simp [Sm.siz]; omega, by simp [Sm.dep]; omega, by simpa [Sm.gd] using ⟨l1, h3⟩⟩
  · obtain ⟨s1, p3, r3, e3, g1, g2, g3⟩ := BD p1 r
    obtain ⟨s2, p4, r4, e4, f1, f2, f3⟩ := BD p3 r3
    exact ⟨.either s1 s2, p4, r4, by simp [runF, sNil, sSeq, sIf, sDrop, sRet, sRetN, sBrk, sCnt, sNever, sSet, sAsg, sFor, sTupAsg, boNil, boCons, bName, bTup, btCons, btNil, bSub, eOfN, eOfV, eOfB, eFrz, eMove, eVar, eBin, eTup, eLst, eIdx, eIf, eCallU, eCallV, eMake, eAppend, eAppendN, eExtend, ePop, daNil, daCons, putB, nOfV, nLst, nsNil, nsCons, nBin, nCallB, nCallU, nCallM, nComp, nCopy, dLst, vC, vOfP, vOfN, vOfB, vTup, vLst, vBin, vNeg, vIf, vCut, vIdx, vItK, vCopyT, asNil, asCons, bAnd, bOr, bNot, bCmp, bChain, bIsi, bIsC, bOfV, bInK, bTrue, beOfB, beOfE, beCmp, beNot, beAnd, beOr, qOfP, pVar, pIdx, pAttr, oIdx, getF, getT, O.fz, fzs, fzf, cmpT, eqT, ltT, T.flat, flats, VS.isNon, scal, T.ty, isTy, iOfJ, jSeq, seqT, jRng1, jRng2, jEnum, VS.iRng1, iSeq, VS.iEnum, ixN, atI, idxT, oSome, oNone, outsE, sFldSet, putO, lenF, absF, intF, divF, wipeE, VS.binT, VS.lim, forGo, Sm.t, inT, inV, eqV, strEq, strBeq, fzs_app, fzs_oI, map_tI, oI_len, tI_len, oI_app, tI_app, oI_nil, tI_nil, oI_cons, tI_cons, tInts_tI, e, d1, W6.s, hd, e3, e4], by simp [Sm.siz]; omega, by simp [Sm.dep]; omega, by simpa [Sm.gd] using ⟨g3, f3⟩⟩
  · obtain ⟨s1, p3, r3, e3, g1, g2, g3⟩ := BD (dr p1 1).2 r
    obtain ⟨s2, p4, r4, e4, f1, f2, f3⟩ := BD p3 r3
    exact ⟨.when (dr p1 1).1 s1 s2, p4, r4, by simp [runF, sNil, sSeq, sIf, sDrop, sRet, sRetN, sBrk, sCnt, sNever, sSet, sAsg, sFor, sTupAsg, boNil, boCons, bName, bTup, btCons, btNil, bSub, eOfN, eOfV, eOfB, eFrz, eMove, eVar, eBin, eTup, eLst, eIdx, eIf, eCallU, eCallV, eMake, eAppend, eAppendN, eExtend, ePop, daNil, daCons, putB, nOfV, nLst, nsNil, nsCons, nBin, nCallB, nCallU, nCallM, nComp, nCopy, dLst, vC, vOfP, vOfN, vOfB, vTup, vLst, vBin, vNeg, vIf, vCut, vIdx, vItK, vCopyT, asNil, asCons, bAnd, bOr, bNot, bCmp, bChain, bIsi, bIsC, bOfV, bInK, bTrue, beOfB, beOfE, beCmp, beNot, beAnd, beOr, qOfP, pVar, pIdx, pAttr, oIdx, getF, getT, O.fz, fzs, fzf, cmpT, eqT, ltT, T.flat, flats, VS.isNon, scal, T.ty, isTy, iOfJ, jSeq, seqT, jRng1, jRng2, jEnum, VS.iRng1, iSeq, VS.iEnum, ixN, atI, idxT, oSome, oNone, outsE, sFldSet, putO, lenF, absF, intF, divF, wipeE, VS.binT, VS.lim, forGo, Sm.t, inT, inV, eqV, strEq, strBeq, fzs_app, fzs_oI, map_tI, oI_len, tI_len, oI_app, tI_app, oI_nil, tI_nil, oI_cons, tI_cons, tInts_tI, e, d1, W6.s, hd, e3, e4], by simp [Sm.siz]; omega, by simp [Sm.dep]; omega, by simpa [Sm.gd] using ⟨l1, g3, f3⟩⟩
  · obtain ⟨s1, p3, r3, e3, g1, g2, g3⟩ := BD p1 r
    exact ⟨.loop s1, p3, r3, by simp [runF, sNil, sSeq, sIf, sDrop, sRet, sRetN, sBrk, sCnt, sNever, sSet, sAsg, sFor, sTupAsg, boNil, boCons, bName, bTup, btCons, btNil, bSub, eOfN, eOfV, eOfB, eFrz, eMove, eVar, eBin, eTup, eLst, eIdx, eIf, eCallU, eCallV, eMake, eAppend, eAppendN, eExtend, ePop, daNil, daCons, putB, nOfV, nLst, nsNil, nsCons, nBin, nCallB, nCallU, nCallM, nComp, nCopy, dLst, vC, vOfP, vOfN, vOfB, vTup, vLst, vBin, vNeg, vIf, vCut, vIdx, vItK, vCopyT, asNil, asCons, bAnd, bOr, bNot, bCmp, bChain, bIsi, bIsC, bOfV, bInK, bTrue, beOfB, beOfE, beCmp, beNot, beAnd, beOr, qOfP, pVar, pIdx, pAttr, oIdx, getF, getT, O.fz, fzs, fzf, cmpT, eqT, ltT, T.flat, flats, VS.isNon, scal, T.ty, isTy, iOfJ, jSeq, seqT, jRng1, jRng2, jEnum, VS.iRng1, iSeq, VS.iEnum, ixN, atI, idxT, oSome, oNone, outsE, sFldSet, putO, lenF, absF, intF, divF, wipeE, VS.binT, VS.lim, forGo, Sm.t, inT, inV, eqV, strEq, strBeq, fzs_app, fzs_oI, map_tI, oI_len, tI_len, oI_app, tI_app, oI_nil, tI_nil, oI_cons, tI_cons, tInts_tI, e, d1, W6.s, hd, e3], by simp [Sm.siz]; omega, by simp [Sm.dep]; omega, by simpa [Sm.gd] using g3⟩
  · obtain ⟨ss, p2, r2, e2, h1, h2, h3⟩ := BD (dr p1 1).2 r
    exact ⟨.hold (dr p1 1).1 ss, p2, r2, by simp [runF, sNil, sSeq, sIf, sDrop, sRet, sRetN, sBrk, sCnt, sNever, sSet, sAsg, sFor, sTupAsg, boNil, boCons, bName, bTup, btCons, btNil, bSub, eOfN, eOfV, eOfB, eFrz, eMove, eVar, eBin, eTup, eLst, eIdx, eIf, eCallU, eCallV, eMake, eAppend, eAppendN, eExtend, ePop, daNil, daCons, putB, nOfV, nLst, nsNil, nsCons, nBin, nCallB, nCallU, nCallM, nComp, nCopy, dLst, vC, vOfP, vOfN, vOfB, vTup, vLst, vBin, vNeg, vIf, vCut, vIdx, vItK, vCopyT, asNil, asCons, bAnd, bOr, bNot, bCmp, bChain, bIsi, bIsC, bOfV, bInK, bTrue, beOfB, beOfE, beCmp, beNot, beAnd, beOr, qOfP, pVar, pIdx, pAttr, oIdx, getF, getT, O.fz, fzs, fzf, cmpT, eqT, ltT, T.flat, flats, VS.isNon, scal, T.ty, isTy, iOfJ, jSeq, seqT, jRng1, jRng2, jEnum, VS.iRng1, iSeq, VS.iEnum, ixN, atI, idxT, oSome, oNone, outsE, sFldSet, putO, lenF, absF, intF, divF, wipeE, VS.binT, VS.lim, forGo, Sm.t, inT, inV, eqV, strEq, strBeq, fzs_app, fzs_oI, map_tI, oI_len, tI_len, oI_app, tI_app, oI_nil, tI_nil, oI_cons, tI_cons, tInts_tI, e, d1, W6.s, hd, e2], by simp [Sm.siz]; omega, by simp [Sm.dep]; omega, by simpa [Sm.gd] using ⟨l1, h3⟩⟩
  · obtain ⟨s1, p3, r3, e3, g1, g2, g3⟩ := BD p1 r
    obtain ⟨s2, p4, r4, e4, f1, f2, f3⟩ := BD p3 r3
    exact ⟨.either s1 s2, p4, r4, by simp [runF, sNil, sSeq, sIf, sDrop, sRet, sRetN, sBrk, sCnt, sNever, sSet, sAsg, sFor, sTupAsg, boNil, boCons, bName, bTup, btCons, btNil, bSub, eOfN, eOfV, eOfB, eFrz, eMove, eVar, eBin, eTup, eLst, eIdx, eIf, eCallU, eCallV, eMake, eAppend, eAppendN, eExtend, ePop, daNil, daCons, putB, nOfV, nLst, nsNil, nsCons, nBin, nCallB, nCallU, nCallM, nComp, nCopy, dLst, vC, vOfP, vOfN, vOfB, vTup, vLst, vBin, vNeg, vIf, vCut, vIdx, vItK, vCopyT, asNil, asCons, bAnd, bOr, bNot, bCmp, bChain, bIsi, bIsC, bOfV, bInK, bTrue, beOfB, beOfE, beCmp, beNot, beAnd, beOr, qOfP, pVar, pIdx, pAttr, oIdx, getF, getT, O.fz, fzs, fzf, cmpT, eqT, ltT, T.flat, flats, VS.isNon, scal, T.ty, isTy, iOfJ, jSeq, seqT, jRng1, jRng2, jEnum, VS.iRng1, iSeq, VS.iEnum, ixN, atI, idxT, oSome, oNone, outsE, sFldSet, putO, lenF, absF, intF, divF, wipeE, VS.binT, VS.lim, forGo, Sm.t, inT, inV, eqV, strEq, strBeq, fzs_app, fzs_oI, map_tI, oI_len, tI_len, oI_app, tI_app, oI_nil, tI_nil, oI_cons, tI_cons, tInts_tI, e, d1, W6.s, hd, e3, e4], by simp [Sm.siz]; omega, by simp [Sm.dep]; omega, by simpa [Sm.gd] using ⟨g3, f3⟩⟩
end VW
namespace VW
open PySem L2 VS

abbrev bdBody (Φ : Phi) : DS := (sIf (beOfB (bCmp .Gt (qOfP (pIdx (pVar 3) (vC (.int 0)))) (vC (.int 0))))
 (sSeq (sAsg (eOfV (vBin .Sub (vOfP (pIdx (pVar 3) (vC (.int 0)))) (vC (.int 1)))) (bSub (pVar 3) (vC (.int 0))))
 (sDrop (eAppendN 4 (eCallU Φ.f__law_statement [0, 3] [some 0, none, none, some 3] [] (daCons (eMove 0) (daCons (eOfV (vOfP (pVar 1))) (daCons (eOfV (vOfP (pVar 2))) (daCons (eMove 3) daNil))))))))
 sNil)
theorem tss_app (a b : List Sm) : tss (a ++ b) = tss a ++ tss b := by
  induction a with
  | nil => rfl
  | cons s a ih => simp [tss, ih]
theorem tss_len (a : List Sm) : (tss a).length = a.length := by
  induction a with
  | nil => rfl
  | cons s a ih => simp [tss, ih]
theorem sizs_app (a b : List Sm) : sizs (a ++ b) = sizs a + sizs b := by
  induction a with
  | nil => simp [sizs]
  | cons s a ih => simp only [List.cons_append, sizs, ih]; omega
theorem deps_app (a b : List Sm) : deps (a ++ b) = max (deps a) (deps b) := by
  induction a with
  | nil => simp [deps]
  | cons s a ih => simp only [List.cons_append, deps, ih]; omega
theorem gds_app {P : Int} (a b : List Sm) : gds P (a ++ b) ↔ gds P a ∧ gds P b := by
  induction a with
  | nil => simp [gds]
  | cons s a ih => simp [gds, ih, and_assoc]
abbrev oT (ts : List T) : List O := ts.map O.val
theorem bd_loop {k d : Nat} {P : Int} (SM : StmOk k P d) : ∀ (ts : List T) (p : Int × Int) (r : Nat) (ss : List Sm) (x : Option O), ss.length + ts.length < 1000 →
    ∃ (s2 : List Sm) (p' : Int × Int) (r' : Nat) (x' : Option O), forGo (bName 5) (bdBody (PhiN k)) ts [some (pot p), some (.val (shp P)), some (.val (.int (d : Nat))), some (rm r), some (.lst (oT (tss ss))), x] =
      some (.nx, [some (pot p'), some (.val (shp P)), some (.val (.int (d : Nat))), some (rm r'), some (.lst (oT (tss (ss ++ s2)))), x']) ∧ sizs s2 + r' = r ∧ deps s2 ≤ d ∧ gds P s2
  | [], p, r, ss, x, _ => ⟨[], p, r, x, by simp [forGo], by simp [sizs], by simp [deps], by simp [gds]⟩
  | t :: ts, p, r, ss, x, hl => by
    have hb : bName 5 (.val t) [some (pot p), some (.val (shp P)), some (.val (.int (d : Nat))), some (rm r), some (.lst (oT (tss ss))), x] = some [some (pot p), some (.val (shp P)), some (.val (.int (d : Nat))), some (rm r), some (.lst (oT (tss ss))), some (.val t)] := by simp [bName]
    cases r with
    | zero =>
      obtain ⟨s2, p', r', x', e, h1, h2, h3⟩ := bd_loop SM ts p 0 ss (some (.val t)) (by simp at hl; omega)
      refine ⟨s2, p', r', x', ?_, h1, h2, h3⟩
      have st : bdBody (PhiN k) [some (pot p), some (.val (shp P)), some (.val (.int (d : Nat))), some (rm 0), some (.lst (oT (tss ss))), some (.val t)] = some (.nx, [some (pot p), some (.val (shp P)), some (.val (.int (d : Nat))), some (rm 0), some (.lst (oT (tss ss))), some (.val t)]) := by
        simp [runF, sNil, sSeq, sIf, sDrop, sRet, sRetN, sBrk, sCnt, sNever, sSet, sAsg, sFor, sTupAsg, boNil, boCons, bName, bTup, btCons, btNil, bSub, eOfN, eOfV, eOfB, eFrz, eMove, eVar, eBin, eTup, eLst, eIdx, eIf, eCallU, eCallV, eMake, eAppend, eAppendN, eExtend, ePop, daNil, daCons, putB, nOfV, nLst, nsNil, nsCons, nBin, nCallB, nCallU, nCallM, nComp, nCopy, dLst, vC, vOfP, vOfN, vOfB, vTup, vLst, vBin, vNeg, vIf, vCut, vIdx, vItK, vCopyT, asNil, asCons, bAnd, bOr, bNot, bCmp, bChain, bIsi, bIsC, bOfV, bInK, bTrue, beOfB, beOfE, beCmp, beNot, beAnd, beOr, qOfP, pVar, pIdx, pAttr, oIdx, getF, getT, O.fz, fzs, fzf, cmpT, eqT, ltT, T.flat, flats, VS.isNon, scal, T.ty, isTy, iOfJ, jSeq, seqT, jRng1, jRng2, jEnum, VS.iRng1, iSeq, VS.iEnum, ixN, atI, idxT, oSome, oNone, outsE, sFldSet, putO, lenF, absF, intF, divF, wipeE, VS.binT, VS.lim]
      simp only [forGo, hb, st, e]
    | succ r =>
      obtain ⟨s, p1, r1, es, g1, g2, g3⟩ := SM p r
      obtain ⟨s2, p', r', x', e, h1, h2, h3⟩ := bd_loop SM ts p1 r1 (ss ++ [s]) (some (.val t)) (by simp at hl ⊢; omega)
      refine ⟨s :: s2, p', r', x', ?_, by simp only [sizs]; omega, by simp only [deps]; omega, by simp only [gds]; exact ⟨g3, h3⟩⟩
      have hr : (0 : Int) < ((r + 1 : Nat) : Int) := by omega
      have hr2 : ((r : Nat) : Int) = ((r + 1 : Nat) : Int) - 1 := by omega
      have hlen : (tss ss).length < 100000 := by rw [tss_len]; simp at hl; omega
      have st : bdBody (PhiN k) [some (pot p), some (.val (shp P)), some (.val (.int (d : Nat))), some (rm (r + 1)), some (.lst (oT (tss ss))), some (.val t)] = some (.nx, [some (pot p1), some (.val (shp P)), some (.val (.int (d : Nat))), some (rm r1), some (.lst (oT (tss (ss ++ [s])))), some (.val t)]) := by
        unfold rm at es ⊢
        rw [hr2] at es
        generalize ((r + 1 : Nat) : Int) = R at es hr ⊢
        simp [runF, sNil, sSeq, sIf, sDrop, sRet, sRetN, sBrk, sCnt, sNever, sSet, sAsg, sFor, sTupAsg, boNil, boCons, bName, bTup, btCons, btNil, bSub, eOfN, eOfV, eOfB, eFrz, eMove, eVar, eBin, eTup, eLst, eIdx, eIf, eCallU, eCallV, eMake, eAppend, eAppendN, eExtend, ePop, daNil, daCons, putB, nOfV, nLst, nsNil, nsCons, nBin, nCallB, nCallU, nCallM, nComp, nCopy, dLst, vC, vOfP, vOfN, vOfB, vTup, vLst, vBin, vNeg, vIf, vCut, vIdx, vItK, vCopyT, asNil, asCons, bAnd, bOr, bNot, bCmp, bChain, bIsi, bIsC, bOfV, bInK, bTrue, beOfB, beOfE, beCmp, beNot, beAnd, beOr, qOfP, pVar, pIdx, pAttr, oIdx, getF, getT, O.fz, fzs, fzf, cmpT, eqT, ltT, T.flat, flats, VS.isNon, scal, T.ty, isTy, iOfJ, jSeq, seqT, jRng1, jRng2, jEnum, VS.iRng1, iSeq, VS.iEnum, ixN, atI, idxT, oSome, oNone, outsE, sFldSet, putO, lenF, absF, intF, divF, wipeE, VS.binT, VS.lim, hr, es, hlen, tss_app, tss]
      rw [List.append_assoc] at e
      simp only [forGo, hb, st, e]
      rfl
theorem bd_ok {k d : Nat} {P : Int} (SM : StmOk (k + 1) P d) : BodyOk (k + 2) P d := by
  intro p r
  have e := draw_eq k p 4 (by omega) (by omega)
  have l := dr_lt (p := p) (m := 4) (by omega)
  obtain ⟨ss, p', r', x', h, h1, h2, h3⟩ := bd_loop SM (rngT 0 (dr p 4).1.toNat) (dr p 4).2 r [] none (by simp [rngT]; omega)
  refine ⟨ss, p', r', ?_, h1, h2, h3⟩
  rw [e_f__law_body]
  simp only [d_f__law_body]
  have ho : rngOk (dr p 4).1 = true := by unfold rngOk; simp; omega
  have h' : forGo (bName 5) (bdBody (PhiN (k + 1))) (rngT 0 (dr p 4).1.toNat) [some (pot (dr p 4).2), some (.val (shp P)), some (.val (.int (d : Nat))), some (rm r), some (.lst []), none] = _ := h
  simp only [List.nil_append] at h'
  simp [runF, sNil, sSeq, sIf, sDrop, sRet, sRetN, sBrk, sCnt, sNever, sSet, sAsg, sFor, sTupAsg, boNil, boCons, bName, bTup, btCons, btNil, bSub, eOfN, eOfV, eOfB, eFrz, eMove, eVar, eBin, eTup, eLst, eIdx, eIf, eCallU, eCallV, eMake, eAppend, eAppendN, eExtend, ePop, daNil, daCons, putB, nOfV, nLst, nsNil, nsCons, nBin, nCallB, nCallU, nCallM, nComp, nCopy, dLst, vC, vOfP, vOfN, vOfB, vTup, vLst, vBin, vNeg, vIf, vCut, vIdx, vItK, vCopyT, asNil, asCons, bAnd, bOr, bNot, bCmp, bChain, bIsi, bIsC, bOfV, bInK, bTrue, beOfB, beOfE, beCmp, beNot, beAnd, beOr, qOfP, pVar, pIdx, pAttr, oIdx, getF, getT, O.fz, fzs, fzf, cmpT, eqT, ltT, T.flat, flats, VS.isNon, scal, T.ty, isTy, iOfJ, jSeq, seqT, jRng1, jRng2, jEnum, VS.iRng1, iSeq, VS.iEnum, ixN, atI, idxT, oSome, oNone, outsE, sFldSet, putO, lenF, absF, intF, divF, wipeE, VS.binT, VS.lim, e, ho, h', tVals_of]
theorem body2 (k : Nat) {P : Int} (hP : 0 < P) (hP2 : P < 1000) : BodyOk (k + 8) P 2 :=
  bd_ok (k := k + 6) (st_deep (k := k + 4) hP hP2 (bd_ok (k := k + 4) (st_deep (k := k + 2) hP hP2 (bd_ok (k := k + 2) (st_flat (k := k) hP hP2)))))

/-! ### what the program takes -/
theorem int_eq (k : Nat) (i : Int) : (PhiN (k + 1)).f_is_integer [.val (.int i)] = some (.val (.bl true), []) := by
  rw [e_f_is_integer]; simp [runF, sNil, sSeq, sIf, sDrop, sRet, sRetN, sBrk, sCnt, sNever, sSet, sAsg, sFor, sTupAsg, boNil, boCons, bName, bTup, btCons, btNil, bSub, eOfN, eOfV, eOfB, eFrz, eMove, eVar, eBin, eTup, eLst, eIdx, eIf, eCallU, eCallV, eMake, eAppend, eAppendN, eExtend, ePop, daNil, daCons, putB, nOfV, nLst, nsNil, nsCons, nBin, nCallB, nCallU, nCallM, nComp, nCopy, dLst, vC, vOfP, vOfN, vOfB, vTup, vLst, vBin, vNeg, vIf, vCut, vIdx, vItK, vCopyT, asNil, asCons, bAnd, bOr, bNot, bCmp, bChain, bIsi, bIsC, bOfV, bInK, bTrue, beOfB, beOfE, beCmp, beNot, beAnd, beOr, qOfP, pVar, pIdx, pAttr, oIdx, getF, getT, O.fz, fzs, fzf, cmpT, eqT, ltT, T.flat, flats, VS.isNon, scal, T.ty, isTy, iOfJ, jSeq, seqT, jRng1, jRng2, jEnum, VS.iRng1, iSeq, VS.iEnum, ixN, atI, idxT, oSome, oNone, outsE, sFldSet, putO, lenF, absF, intF, divF, wipeE, VS.binT, VS.lim, d_f_is_integer]
theorem count_eq (k : Nat) (i : Int) : (PhiN (k + 2)).f_is_count [.val (.int i)] = some (.val (.bl (decide (0 ≤ i))), []) := by
  rw [e_f_is_count]
  simp [runF, sNil, sSeq, sIf, sDrop, sRet, sRetN, sBrk, sCnt, sNever, sSet, sAsg, sFor, sTupAsg, boNil, boCons, bName, bTup, btCons, btNil, bSub, eOfN, eOfV, eOfB, eFrz, eMove, eVar, eBin, eTup, eLst, eIdx, eIf, eCallU, eCallV, eMake, eAppend, eAppendN, eExtend, ePop, daNil, daCons, putB, nOfV, nLst, nsNil, nsCons, nBin, nCallB, nCallU, nCallM, nComp, nCopy, dLst, vC, vOfP, vOfN, vOfB, vTup, vLst, vBin, vNeg, vIf, vCut, vIdx, vItK, vCopyT, asNil, asCons, bAnd, bOr, bNot, bCmp, bChain, bIsi, bIsC, bOfV, bInK, bTrue, beOfB, beOfE, beCmp, beNot, beAnd, beOr, qOfP, pVar, pIdx, pAttr, oIdx, getF, getT, O.fz, fzs, fzf, cmpT, eqT, ltT, T.flat, flats, VS.isNon, scal, T.ty, isTy, iOfJ, jSeq, seqT, jRng1, jRng2, jEnum, VS.iRng1, iSeq, VS.iEnum, ixN, atI, idxT, oSome, oNone, outsE, sFldSet, putO, lenF, absF, intF, divF, wipeE, VS.binT, VS.lim, d_f_is_count, int_eq]
theorem number_eq (k : Nat) (i a b : Int) (h : 0 ≤ i) (h1 : a ≤ i) (h2 : i ≤ b) : (PhiN (k + 3)).f_is_number_to [.val (.int i), .val (.int a), .val (.int b)] = some (.val (.bl true), []) := by
  rw [e_f_is_number_to]
  simp [runF, sNil, sSeq, sIf, sDrop, sRet, sRetN, sBrk, sCnt, sNever, sSet, sAsg, sFor, sTupAsg, boNil, boCons, bName, bTup, btCons, btNil, bSub, eOfN, eOfV, eOfB, eFrz, eMove, eVar, eBin, eTup, eLst, eIdx, eIf, eCallU, eCallV, eMake, eAppend, eAppendN, eExtend, ePop, daNil, daCons, putB, nOfV, nLst, nsNil, nsCons, nBin, nCallB, nCallU, nCallM, nComp, nCopy, dLst, vC, vOfP, vOfN, vOfB, vTup, vLst, vBin, vNeg, vIf, vCut, vIdx, vItK, vCopyT, asNil, asCons, bAnd, bOr, bNot, bCmp, bChain, bIsi, bIsC, bOfV, bInK, bTrue, beOfB, beOfE, beCmp, beNot, beAnd, beOr, qOfP, pVar, pIdx, pAttr, oIdx, getF, getT, O.fz, fzs, fzf, cmpT, eqT, ltT, T.flat, flats, VS.isNon, scal, T.ty, isTy, iOfJ, jSeq, seqT, jRng1, jRng2, jEnum, VS.iRng1, iSeq, VS.iEnum, ixN, atI, idxT, oSome, oNone, outsE, sFldSet, putO, lenF, absF, intF, divF, wipeE, VS.binT, VS.lim, d_f_is_number_to, count_eq, h, h1, h2]
theorem list_eq (k : Nat) (ts : List T) : (PhiN (k + 1)).f_is_list [.val (.lst ts)] = some (.val (.bl true), []) := by
  rw [e_f_is_list]
  simp [runF, sNil, sSeq, sIf, sDrop, sRet, sRetN, sBrk, sCnt, sNever, sSet, sAsg, sFor, sTupAsg, boNil, boCons, bName, bTup, btCons, btNil, bSub, eOfN, eOfV, eOfB, eFrz, eMove, eVar, eBin, eTup, eLst, eIdx, eIf, eCallU, eCallV, eMake, eAppend, eAppendN, eExtend, ePop, daNil, daCons, putB, nOfV, nLst, nsNil, nsCons, nBin, nCallB, nCallU, nCallM, nComp, nCopy, dLst, vC, vOfP, vOfN, vOfB, vTup, vLst, vBin, vNeg, vIf, vCut, vIdx, vItK, vCopyT, asNil, asCons, bAnd, bOr, bNot, bCmp, bChain, bIsi, bIsC, bOfV, bInK, bTrue, beOfB, beOfE, beCmp, beNot, beAnd, beOr, qOfP, pVar, pIdx, pAttr, oIdx, getF, getT, O.fz, fzs, fzf, cmpT, eqT, ltT, T.flat, flats, VS.isNon, scal, T.ty, isTy, iOfJ, jSeq, seqT, jRng1, jRng2, jEnum, VS.iRng1, iSeq, VS.iEnum, ixN, atI, idxT, oSome, oNone, outsE, sFldSet, putO, lenF, absF, intF, divF, wipeE, VS.binT, VS.lim, d_f_is_list]
theorem allF_true {α : Type} (l : List α) : allF [.lst (fzs (l.map fun _ => O.val (.bl true)))] = some (.val (.bl true)) := by
  have : fzs (l.map fun _ => O.val (.bl true)) = (l.map fun _ => true).map T.bl := by rw [fzs_map]; simp [O.fz]
  unfold allF
  rw [this]
  simp only [tBls_of, Option.map_some, List.all_map]
  simp
theorem isb_of {k : Nat} {P : Int} {b : List Sm} {D : Int} (hst : ∀ s ∈ b, (PhiN k).f_is_statement_of [.val (shp P), .val s.t, .val (.int D)] = some (.val (.bl true), [])) (hl : b.length < 1000) :
    (PhiN (k + 1)).f_is_body_of [.val (shp P), .val (.tup (tss b)), .val (.int D)] = some (.val (.bl true), []) := by
  rw [e_f_is_body_of]
  have h1 : ∀ t ∈ tss b, ∃ s ∈ b, t = s.t := by
    clear hst hl
    induction b with
    | nil => intro t ht; cases ht
    | cons s b ih =>
      intro t ht
      simp only [tss, List.mem_cons] at ht
      rcases ht with rfl | ht
      · exact ⟨s, List.mem_cons_self, rfl⟩
      · obtain ⟨s', h1, h2⟩ := ih t ht
        exact ⟨s', List.mem_cons_of_mem _ h1, h2⟩
  have hg := compGo_map (bd := bName 3) (c := bTrue) (d := nCallU (PhiN k).f_is_statement_of [] (asCons (vOfP (pVar 0)) (asCons (vOfP (pVar 3)) (asCons (vOfP (pVar 2)) asNil)))) (e := [some (.val (shp P)), some (.val (.tup (tss b))), some (.val (.int D)), none])
    (f := fun _ => .val (.bl true)) (p := fun _ => true) (ts := tss b) fun t ht => by
      obtain ⟨s, hs, rfl⟩ := h1 t ht
      exact ⟨_, by simp [bName]; rfl, rfl, fun _ => by simp [runF, sNil, sSeq, sIf, sDrop, sRet, sRetN, sBrk, sCnt, sNever, sSet, sAsg, sFor, sTupAsg, boNil, boCons, bName, bTup, btCons, btNil, bSub, eOfN, eOfV, eOfB, eFrz, eMove, eVar, eBin, eTup, eLst, eIdx, eIf, eCallU, eCallV, eMake, eAppend, eAppendN, eExtend, ePop, daNil, daCons, putB, nOfV, nLst, nsNil, nsCons, nBin, nCallB, nCallU, nCallM, nComp, nCopy, dLst, vC, vOfP, vOfN, vOfB, vTup, vLst, vBin, vNeg, vIf, vCut, vIdx, vItK, vCopyT, asNil, asCons, bAnd, bOr, bNot, bCmp, bChain, bIsi, bIsC, bOfV, bInK, bTrue, beOfB, beOfE, beCmp, beNot, beAnd, beOr, qOfP, pVar, pIdx, pAttr, oIdx, getF, getT, O.fz, fzs, fzf, cmpT, eqT, ltT, T.flat, flats, VS.isNon, scal, T.ty, isTy, iOfJ, jSeq, seqT, jRng1, jRng2, jEnum, VS.iRng1, iSeq, VS.iEnum, ixN, atI, idxT, oSome, oNone, outsE, sFldSet, putO, lenF, absF, intF, divF, wipeE, VS.binT, VS.lim, hst s hs]⟩
  have hll : (tss b).length ≤ 100000 := by rw [tss_len]; omega
  simp only [d_f_is_body_of]
  simp [runF, sNil, sSeq, sIf, sDrop, sRet, sRetN, sBrk, sCnt, sNever, sSet, sAsg, sFor, sTupAsg, boNil, boCons, bName, bTup, btCons, btNil, bSub, eOfN, eOfV, eOfB, eFrz, eMove, eVar, eBin, eTup, eLst, eIdx, eIf, eCallU, eCallV, eMake, eAppend, eAppendN, eExtend, ePop, daNil, daCons, putB, nOfV, nLst, nsNil, nsCons, nBin, nCallB, nCallU, nCallM, nComp, nCopy, dLst, vC, vOfP, vOfN, vOfB, vTup, vLst, vBin, vNeg, vIf, vCut, vIdx, vItK, vCopyT, asNil, asCons, bAnd, bOr, bNot, bCmp, bChain, bIsi, bIsC, bOfV, bInK, bTrue, beOfB, beOfE, beCmp, beNot, beAnd, beOr, qOfP, pVar, pIdx, pAttr, oIdx, getF, getT, O.fz, fzs, fzf, cmpT, eqT, ltT, T.flat, flats, VS.isNon, scal, T.ty, isTy, iOfJ, jSeq, seqT, jRng1, jRng2, jEnum, VS.iRng1, iSeq, VS.iEnum, ixN, atI, idxT, oSome, oNone, outsE, sFldSet, putO, lenF, absF, intF, divF, wipeE, VS.binT, VS.lim, hg, hll, allF_true]
end VW
namespace VW
open PySem L2 VS
theorem siz_pos : ∀ s : Sm, 0 < s.siz
  | .skip => by simp [Sm.siz]
  | .one _ _ => by simp [Sm.siz]
  | .hold _ _ => by simp [Sm.siz]
  | .either _ _ => by simp [Sm.siz]
  | .when _ _ _ => by simp [Sm.siz]
  | .loop _ => by simp [Sm.siz]
theorem sizs_len : ∀ b : List Sm, b.length ≤ sizs b
  | [] => by simp
  | s :: b => by have := sizs_len b; have := siz_pos s; simp only [sizs, List.length_cons]; omega
mutual
theorem iss {P : Int} (hP : 0 < P) (hP2 : P < 1000) : ∀ (s : Sm) (k : Nat) (D : Int), s.gd P → (s.dep : Int) < D → 4 + 2 * s.dep ≤ k → s.siz < 1000 → (PhiN k).f_is_statement_of [.val (shp P), .val s.t, .val (.int D)] = some (.val (.bl true), [])
  | .skip, k, D, hg, hD, hk, hs => by
    obtain ⟨k, rfl⟩ : ∃ j, k = j + 3 := ⟨k - 3, by omega⟩
    have hD0 : ¬ D = 0 := by simp only [Sm.dep] at hD; omega
    rw [e_f_is_statement_of]
    simp only [d_f_is_statement_of]
    simp [runF, sNil, sSeq, sIf, sDrop, sRet, sRetN, sBrk, sCnt, sNever, sSet, sAsg, sFor, sTupAsg, boNil, boCons, bName, bTup, btCons, btNil, bSub, eOfN, eOfV, eOfB, eFrz, eMove, eVar, eBin, eTup, eLst, eIdx, eIf, eCallU, eCallV, eMake, eAppend, eAppendN, eExtend, ePop, daNil, daCons, putB, nOfV, nLst, nsNil, nsCons, nBin, nCallB, nCallU, nCallM, nComp, nCopy, dLst, vC, vOfP, vOfN, vOfB, vTup, vLst, vBin, vNeg, vIf, vCut, vIdx, vItK, vCopyT, asNil, asCons, bAnd, bOr, bNot, bCmp, bChain, bIsi, bIsC, bOfV, bInK, bTrue, beOfB, beOfE, beCmp, beNot, beAnd, beOr, qOfP, pVar, pIdx, pAttr, oIdx, getF, getT, O.fz, fzs, fzf, cmpT, eqT, ltT, T.flat, flats, VS.isNon, scal, T.ty, isTy, iOfJ, jSeq, seqT, jRng1, jRng2, jEnum, VS.iRng1, iSeq, VS.iEnum, ixN, atI, idxT, oSome, oNone, outsE, sFldSet, putO, lenF, absF, intF, divF, wipeE, VS.binT, VS.lim, Sm.t, strEq, strBeq, fzs_app, fzs_oI, map_tI, oI_len, tI_len, oI_app, tI_app, oI_nil, tI_nil, oI_cons, tI_cons, tInts_tI, hD0, tb_KINDS, List.lookup, cutT, HT.sIx, compGo, allF, tBls]
  | .one w n, k, D, hg, hD, hk, hs => by
    obtain ⟨k, rfl⟩ : ∃ j, k = j + 3 := ⟨k - 3, by simp only [Sm.dep] at hk; omega⟩
    have hD0 : ¬ D = 0 := by simp only [Sm.dep] at hD; omega
    simp only [Sm.gd] at hg
    rw [e_f_is_statement_of]
    simp only [d_f_is_statement_of]
    have h0 := hg.1
    have h1 := hg.2
    cases w <;> simp only [W6.bd] at h1 <;> simp [runF, sNil, sSeq, sIf, sDrop, sRet, sRetN, sBrk, sCnt, sNever, sSet, sAsg, sFor, sTupAsg, boNil, boCons, bName, bTup, btCons, btNil, bSub, eOfN, eOfV, eOfB, eFrz, eMove, eVar, eBin, eTup, eLst, eIdx, eIf, eCallU, eCallV, eMake, eAppend, eAppendN, eExtend, ePop, daNil, daCons, putB, nOfV, nLst, nsNil, nsCons, nBin, nCallB, nCallU, nCallM, nComp, nCopy, dLst, vC, vOfP, vOfN, vOfB, vTup, vLst, vBin, vNeg, vIf, vCut, vIdx, vItK, vCopyT, asNil, asCons, bAnd, bOr, bNot, bCmp, bChain, bIsi, bIsC, bOfV, bInK, bTrue, beOfB, beOfE, beCmp, beNot, beAnd, beOr, qOfP, pVar, pIdx, pAttr, oIdx, getF, getT, O.fz, fzs, fzf, cmpT, eqT, ltT, T.flat, flats, VS.isNon, scal, T.ty, isTy, iOfJ, jSeq, seqT, jRng1, jRng2, jEnum, VS.iRng1, iSeq, VS.iEnum, ixN, atI, idxT, oSome, oNone, outsE, sFldSet, putO, lenF, absF, intF, divF, wipeE, VS.binT, VS.lim, Sm.t, W6.s, strEq, strBeq, fzs_app, fzs_oI, map_tI, oI_len, tI_len, oI_app, tI_app, oI_nil, tI_nil, oI_cons, tI_cons, tInts_tI, hD0, tb_KINDS, List.lookup, cutT, HT.sIx, compGo, allF, tBls, count_eq, h0, Int.not_le.mpr h1]
  | .hold n b, k, D, hg, hD, hk, hs => by
    obtain ⟨k, rfl⟩ : ∃ j, k = j + 6 := ⟨k - 6, by simp only [Sm.dep] at hk; omega⟩
    have hD0 : ¬ D = 0 := by simp only [Sm.dep] at hD; omega
    simp only [Sm.gd] at hg
    simp only [Sm.dep] at hD hk
    simp only [Sm.siz] at hs
    have h5 := isb_of (k := k + 4) (b := b) (P := P) (D := D - 1) (issl hP hP2 b (k + 4) (D - 1) hg.2 (by omega) (by omega) (by omega)) (by have := sizs_len b; omega)
    have h0 := hg.1.1
    have h1 := hg.1.2
    rw [e_f_is_statement_of]
    simp only [d_f_is_statement_of]
    simp [runF, sNil, sSeq, sIf, sDrop, sRet, sRetN, sBrk, sCnt, sNever, sSet, sAsg, sFor, sTupAsg, boNil, boCons, bName, bTup, btCons, btNil, bSub, eOfN, eOfV, eOfB, eFrz, eMove, eVar, eBin, eTup, eLst, eIdx, eIf, eCallU, eCallV, eMake, eAppend, eAppendN, eExtend, ePop, daNil, daCons, putB, nOfV, nLst, nsNil, nsCons, nBin, nCallB, nCallU, nCallM, nComp, nCopy, dLst, vC, vOfP, vOfN, vOfB, vTup, vLst, vBin, vNeg, vIf, vCut, vIdx, vItK, vCopyT, asNil, asCons, bAnd, bOr, bNot, bCmp, bChain, bIsi, bIsC, bOfV, bInK, bTrue, beOfB, beOfE, beCmp, beNot, beAnd, beOr, qOfP, pVar, pIdx, pAttr, oIdx, getF, getT, O.fz, fzs, fzf, cmpT, eqT, ltT, T.flat, flats, VS.isNon, scal, T.ty, isTy, iOfJ, jSeq, seqT, jRng1, jRng2, jEnum, VS.iRng1, iSeq, VS.iEnum, ixN, atI, idxT, oSome, oNone, outsE, sFldSet, putO, lenF, absF, intF, divF, wipeE, VS.binT, VS.lim, Sm.t, strEq, strBeq, fzs_app, fzs_oI, map_tI, oI_len, tI_len, oI_app, tI_app, oI_nil, tI_nil, oI_cons, tI_cons, tInts_tI, hD0, tb_KINDS, List.lookup, cutT, HT.sIx, compGo, allF, tBls, count_eq, h5, h0, Int.not_le.mpr h1]
  | .either a b, k, D, hg, hD, hk, hs => by
    obtain ⟨k, rfl⟩ : ∃ j, k = j + 6 := ⟨k - 6, by simp only [Sm.dep] at hk; omega⟩
    have hD0 : ¬ D = 0 := by simp only [Sm.dep] at hD; omega
    simp only [Sm.gd] at hg
    simp only [Sm.dep] at hD hk
    simp only [Sm.siz] at hs
    have h5 := isb_of (k := k + 4) (b := a) (P := P) (D := D - 1) (issl hP hP2 a (k + 4) (D - 1) hg.1 (by omega) (by omega) (by omega)) (by have := sizs_len a; omega)
    have h6 := isb_of (k := k + 4) (b := b) (P := P) (D := D - 1) (issl hP hP2 b (k + 4) (D - 1) hg.2 (by omega) (by omega) (by omega)) (by have := sizs_len b; omega)
    rw [e_f_is_statement_of]
    simp only [d_f_is_statement_of]
    simp [runF, sNil, sSeq, sIf, sDrop, sRet, sRetN, sBrk, sCnt, sNever, sSet, sAsg, sFor, sTupAsg, boNil, boCons, bName, bTup, btCons, btNil, bSub, eOfN, eOfV, eOfB, eFrz, eMove, eVar, eBin, eTup, eLst, eIdx, eIf, eCallU, eCallV, eMake, eAppend, eAppendN, eExtend, ePop, daNil, daCons, putB, nOfV, nLst, nsNil, nsCons, nBin, nCallB, nCallU, nCallM, nComp, nCopy, dLst, vC, vOfP, vOfN, vOfB, vTup, vLst, vBin, vNeg, vIf, vCut, vIdx, vItK, vCopyT, asNil, asCons, bAnd, bOr, bNot, bCmp, bChain, bIsi, bIsC, bOfV, bInK, bTrue, beOfB, beOfE, beCmp, beNot, beAnd, beOr, qOfP, pVar, pIdx, pAttr, oIdx, getF, getT, O.fz, fzs, fzf, cmpT, eqT, ltT, T.flat, flats, VS.isNon, scal, T.ty, isTy, iOfJ, jSeq, seqT, jRng1, jRng2, jEnum, VS.iRng1, iSeq, VS.iEnum, ixN, atI, idxT, oSome, oNone, outsE, sFldSet, putO, lenF, absF, intF, divF, wipeE, VS.binT, VS.lim, Sm.t, strEq, strBeq, fzs_app, fzs_oI, map_tI, oI_len, tI_len, oI_app, tI_app, oI_nil, tI_nil, oI_cons, tI_cons, tInts_tI, hD0, tb_KINDS, List.lookup, cutT, HT.sIx, compGo, allF, tBls, count_eq, h5, h6]
  | .when n a b, k, D, hg, hD, hk, hs => by
    obtain ⟨k, rfl⟩ : ∃ j, k = j + 6 := ⟨k - 6, by simp only [Sm.dep] at hk; omega⟩
    have hD0 : ¬ D = 0 := by simp only [Sm.dep] at hD; omega
    simp only [Sm.gd] at hg
    simp only [Sm.dep] at hD hk
    simp only [Sm.siz] at hs
    have h5 := isb_of (k := k + 4) (b := a) (P := P) (D := D - 1) (issl hP hP2 a (k + 4) (D - 1) hg.2.1 (by omega) (by omega) (by omega)) (by have := sizs_len a; omega)
    have h6 := isb_of (k := k + 4) (b := b) (P := P) (D := D - 1) (issl hP hP2 b (k + 4) (D - 1) hg.2.2 (by omega) (by omega) (by omega)) (by have := sizs_len b; omega)
    have h0 := hg.1.1
    have h1 := hg.1.2
    rw [e_f_is_statement_of]
    simp only [d_f_is_statement_of]
    simp [runF, sNil, sSeq, sIf, sDrop, sRet, sRetN, sBrk, sCnt, sNever, sSet, sAsg, sFor, sTupAsg, boNil, boCons, bName, bTup, btCons, btNil, bSub, eOfN, eOfV, eOfB, eFrz, eMove, eVar, eBin, eTup, eLst, eIdx, eIf, eCallU, eCallV, eMake, eAppend, eAppendN, eExtend, ePop, daNil, daCons, putB, nOfV, nLst, nsNil, nsCons, nBin, nCallB, nCallU, nCallM, nComp, nCopy, dLst, vC, vOfP, vOfN, vOfB, vTup, vLst, vBin, vNeg, vIf, vCut, vIdx, vItK, vCopyT, asNil, asCons, bAnd, bOr, bNot, bCmp, bChain, bIsi, bIsC, bOfV, bInK, bTrue, beOfB, beOfE, beCmp, beNot, beAnd, beOr, qOfP, pVar, pIdx, pAttr, oIdx, getF, getT, O.fz, fzs, fzf, cmpT, eqT, ltT, T.flat, flats, VS.isNon, scal, T.ty, isTy, iOfJ, jSeq, seqT, jRng1, jRng2, jEnum, VS.iRng1, iSeq, VS.iEnum, ixN, atI, idxT, oSome, oNone, outsE, sFldSet, putO, lenF, absF, intF, divF, wipeE, VS.binT, VS.lim, Sm.t, strEq, strBeq, fzs_app, fzs_oI, map_tI, oI_len, tI_len, oI_app, tI_app, oI_nil, tI_nil, oI_cons, tI_cons, tInts_tI, hD0, tb_KINDS, List.lookup, cutT, HT.sIx, compGo, allF, tBls, count_eq, h5, h6, h0, Int.not_le.mpr h1]
  | .loop b, k, D, hg, hD, hk, hs => by
    obtain ⟨k, rfl⟩ : ∃ j, k = j + 6 := ⟨k - 6, by simp only [Sm.dep] at hk; omega⟩
    have hD0 : ¬ D = 0 := by simp only [Sm.dep] at hD; omega
    simp only [Sm.gd] at hg
    simp only [Sm.dep] at hD hk
    simp only [Sm.siz] at hs
    have h5 := isb_of (k := k + 4) (b := b) (P := P) (D := D - 1) (issl hP hP2 b (k + 4) (D - 1) hg (by omega) (by omega) (by omega)) (by have := sizs_len b; omega)
    rw [e_f_is_statement_of]
    simp only [d_f_is_statement_of]
    simp [runF, sNil, sSeq, sIf, sDrop, sRet, sRetN, sBrk, sCnt, sNever, sSet, sAsg, sFor, sTupAsg, boNil, boCons, bName, bTup, btCons, btNil, bSub, eOfN, eOfV, eOfB, eFrz, eMove, eVar, eBin, eTup, eLst, eIdx, eIf, eCallU, eCallV, eMake, eAppend, eAppendN, eExtend, ePop, daNil, daCons, putB, nOfV, nLst, nsNil, nsCons, nBin, nCallB, nCallU, nCallM, nComp, nCopy, dLst, vC, vOfP, vOfN, vOfB, vTup, vLst, vBin, vNeg, vIf, vCut, vIdx, vItK, vCopyT, asNil, asCons, bAnd, bOr, bNot, bCmp, bChain, bIsi, bIsC, bOfV, bInK, bTrue, beOfB, beOfE, beCmp, beNot, beAnd, beOr, qOfP, pVar, pIdx, pAttr, oIdx, getF, getT, O.fz, fzs, fzf, cmpT, eqT, ltT, T.flat, flats, VS.isNon, scal, T.ty, isTy, iOfJ, jSeq, seqT, jRng1, jRng2, jEnum, VS.iRng1, iSeq, VS.iEnum, ixN, atI, idxT, oSome, oNone, outsE, sFldSet, putO, lenF, absF, intF, divF, wipeE, VS.binT, VS.lim, Sm.t, strEq, strBeq, fzs_app, fzs_oI, map_tI, oI_len, tI_len, oI_app, tI_app, oI_nil, tI_nil, oI_cons, tI_cons, tInts_tI, hD0, tb_KINDS, List.lookup, cutT, HT.sIx, compGo, allF, tBls, count_eq, h5]
theorem issl {P : Int} (hP : 0 < P) (hP2 : P < 1000) : ∀ (b : List Sm) (k : Nat) (D : Int), gds P b → (deps b : Int) < D → 4 + 2 * deps b ≤ k → sizs b < 1000 → ∀ s ∈ b, (PhiN k).f_is_statement_of [.val (shp P), .val s.t, .val (.int D)] = some (.val (.bl true), [])
  | [], k, D, hg, hD, hk, hs => fun s h => by cases h
  | s :: b, k, D, hg, hD, hk, hs => fun s' h => by
    simp only [gds] at hg
    simp only [deps] at hD hk
    simp only [sizs] at hs
    rcases List.mem_cons.mp h with e | h
    · rw [e]; exact iss hP hP2 s k D hg.1 (by omega) (by omega) (by omega)
    · exact issl hP hP2 b k D hg.2 (by omega) (by omega) (by omega) s' h
end
theorem isb {P : Int} (hP : 0 < P) (hP2 : P < 1000) (b : List Sm) (k : Nat) (hg : gds P b) (hd : deps b ≤ 2) (hs : sizs b < 1000) : (PhiN (k + 9)).f_is_body_of [.val (shp P), .val (.tup (tss b)), .val (.int 6)] = some (.val (.bl true), []) :=
  isb_of (k := k + 8) (issl hP hP2 b (k + 8) 6 hg (by omega) (by omega) hs) (by have := sizs_len b; omega)
/-! ### sizes -/
mutual
theorem bsz : ∀ (s : Sm) (k : Nat), 3 + 2 * s.dep ≤ k → (PhiN k).f_bodies_of [.val s.t] = some (.val (.tup (match s with
    | .skip => []
    | .one _ _ => []
    | .hold _ b => [.tup (tss b)]
    | .either a b => [.tup (tss a), .tup (tss b)]
    | .when _ a b => [.tup (tss a), .tup (tss b)]
    | .loop b => [.tup (tss b)])), [])
  | s, k, hk => by
    obtain ⟨k, rfl⟩ : ∃ j, k = j + 1 := ⟨k - 1, by omega⟩
    rw [e_f_bodies_of]
    simp only [d_f_bodies_of]
    cases s with
    | one w n => cases w <;> simp [runF, sNil, sSeq, sIf, sDrop, sRet, sRetN, sBrk, sCnt, sNever, sSet, sAsg, sFor, sTupAsg, boNil, boCons, bName, bTup, btCons, btNil, bSub, eOfN, eOfV, eOfB, eFrz, eMove, eVar, eBin, eTup, eLst, eIdx, eIf, eCallU, eCallV, eMake, eAppend, eAppendN, eExtend, ePop, daNil, daCons, putB, nOfV, nLst, nsNil, nsCons, nBin, nCallB, nCallU, nCallM, nComp, nCopy, dLst, vC, vOfP, vOfN, vOfB, vTup, vLst, vBin, vNeg, vIf, vCut, vIdx, vItK, vCopyT, asNil, asCons, bAnd, bOr, bNot, bCmp, bChain, bIsi, bIsC, bOfV, bInK, bTrue, beOfB, beOfE, beCmp, beNot, beAnd, beOr, qOfP, pVar, pIdx, pAttr, oIdx, getF, getT, O.fz, fzs, fzf, cmpT, eqT, ltT, T.flat, flats, VS.isNon, scal, T.ty, isTy, iOfJ, jSeq, seqT, jRng1, jRng2, jEnum, VS.iRng1, iSeq, VS.iEnum, ixN, atI, idxT, oSome, oNone, outsE, sFldSet, putO, lenF, absF, intF, divF, wipeE, VS.binT, VS.lim, Sm.t, W6.s, strEq, strBeq, fzs_app, fzs_oI, map_tI, oI_len, tI_len, oI_app, tI_app, oI_nil, tI_nil, oI_cons, tI_cons, tInts_tI, tb_KINDS, List.lookup, cutT, HT.sIx]
    | _ => simp [runF, sNil, sSeq, sIf, sDrop, sRet, sRetN, sBrk, sCnt, sNever, sSet, sAsg, sFor, sTupAsg, boNil, boCons, bName, bTup, btCons, btNil, bSub, eOfN, eOfV, eOfB, eFrz, eMove, eVar, eBin, eTup, eLst, eIdx, eIf, eCallU, eCallV, eMake, eAppend, eAppendN, eExtend, ePop, daNil, daCons, putB, nOfV, nLst, nsNil, nsCons, nBin, nCallB, nCallU, nCallM, nComp, nCopy, dLst, vC, vOfP, vOfN, vOfB, vTup, vLst, vBin, vNeg, vIf, vCut, vIdx, vItK, vCopyT, asNil, asCons, bAnd, bOr, bNot, bCmp, bChain, bIsi, bIsC, bOfV, bInK, bTrue, beOfB, beOfE, beCmp, beNot, beAnd, beOr, qOfP, pVar, pIdx, pAttr, oIdx, getF, getT, O.fz, fzs, fzf, cmpT, eqT, ltT, T.flat, flats, VS.isNon, scal, T.ty, isTy, iOfJ, jSeq, seqT, jRng1, jRng2, jEnum, VS.iRng1, iSeq, VS.iEnum, ixN, atI, idxT, oSome, oNone, outsE, sFldSet, putO, lenF, absF, intF, divF, wipeE, VS.binT, VS.lim, Sm.t, strEq, strBeq, fzs_app, fzs_oI, map_tI, oI_len, tI_len, oI_app, tI_app, oI_nil, tI_nil, oI_cons, tI_cons, tInts_tI, tb_KINDS, List.lookup, cutT, HT.sIx]
end
end VW
namespace VW
open PySem L2 VS
theorem compGo_of {α : Type} {bd : BO} {c : DB} {d : DN} {e : VS.Env} {u : α → T} {g : α → O} : ∀ {b : List α}, (∀ s ∈ b, ∃ e1, bd (.val (u s)) e = some e1 ∧ c e1 = some true ∧ d e1 = some (g s)) → compGo bd c d e (b.map u) = some (b.map g)
  | [], _ => rfl
  | s :: b, h => by
    obtain ⟨e1, h1, h2, h3⟩ := h s List.mem_cons_self
    have ih := compGo_of (b := b) fun u hu => h u (List.mem_cons_of_mem _ hu)
    simp only [List.map_cons, compGo, h1, h2, h3, ih]
theorem nComp_eq {src : DVs} {vs : List Nat} {b : BO} {c : DB} {d : DN} {e : VS.Env} {ts : List T} {os : List O} (h : src e = some ts) (hl : ts.length ≤ 100000) (hg : compGo b c d (wipeE e vs) ts = some os) : nComp src vs b c d e = some (.lst os) := by
  unfold nComp
  rw [h]
  simp only [if_pos (show ts.length ≤ lim from hl), hg, Option.map_some]
theorem tss_map (b : List Sm) : tss b = b.map Sm.t := by
  induction b with
  | nil => rfl
  | cons s b ih => simp [tss, ih]
theorem fzs_ints {α : Type} (l : List α) (f : α → Int) : fzs (l.map fun x => O.val (.int (f x))) = tI (l.map f) := by
  rw [fzs_map]; simp [O.fz, tI]
theorem sumF_tI (ns : List Int) : sumF [.lst (tI ns)] = some (.val (.int ns.sum)) := by
  unfold sumF; simp only [tInts_tI, Option.map_some]
def Sm.kids : Sm → List (List Sm)
  | .skip => []
  | .one _ _ => []
  | .hold _ b => [b]
  | .either a b => [a, b]
  | .when _ a b => [a, b]
  | .loop b => [b]
theorem kids_dep : ∀ (s : Sm), ∀ b ∈ s.kids, deps b < s.dep
  | .skip, b, h => by simp [Sm.kids] at h
  | .one _ _, b, h => by simp [Sm.kids] at h
  | .hold _ _, b, h => by simp [Sm.kids] at h; subst h; simp [Sm.dep]
  | .either _ _, b, h => by simp [Sm.kids] at h; rcases h with rfl | rfl <;> simp only [Sm.dep] <;> omega
  | .when _ _ _, b, h => by simp [Sm.kids] at h; rcases h with rfl | rfl <;> simp only [Sm.dep] <;> omega
  | .loop _, b, h => by simp [Sm.kids] at h; subst h; simp [Sm.dep]
theorem kids_sum : ∀ (s : Sm), (s.kids.map fun b => ((sizs b : Nat) : Int)).sum = (s.siz : Int) - 1
  | .skip => by simp [Sm.kids, Sm.siz]
  | .one _ _ => by simp [Sm.kids, Sm.siz]
  | .hold _ _ => by simp [Sm.kids, Sm.siz]
  | .either _ _ => by simp [Sm.kids, Sm.siz]
  | .when _ _ _ => by simp [Sm.kids, Sm.siz]
  | .loop _ => by simp [Sm.kids, Sm.siz]
theorem bodies_eq (s : Sm) (k : Nat) : (PhiN (k + 1)).f_bodies_of [.val s.t] = some (.val (.tup (s.kids.map fun b => .tup (tss b))), []) := by
  rw [e_f_bodies_of]
  simp only [d_f_bodies_of]
  cases s with
  | one w n => cases w <;> simp [runF, sNil, sSeq, sIf, sDrop, sRet, sRetN, sBrk, sCnt, sNever, sSet, sAsg, sFor, sTupAsg, boNil, boCons, bName, bTup, btCons, btNil, bSub, eOfN, eOfV, eOfB, eFrz, eMove, eVar, eBin, eTup, eLst, eIdx, eIf, eCallU, eCallV, eMake, eAppend, eAppendN, eExtend, ePop, daNil, daCons, putB, nOfV, nLst, nsNil, nsCons, nBin, nCallB, nCallU, nCallM, nComp, nCopy, dLst, vC, vOfP, vOfN, vOfB, vTup, vLst, vBin, vNeg, vIf, vCut, vIdx, vItK, vCopyT, asNil, asCons, bAnd, bOr, bNot, bCmp, bChain, bIsi, bIsC, bOfV, bInK, bTrue, beOfB, beOfE, beCmp, beNot, beAnd, beOr, qOfP, pVar, pIdx, pAttr, oIdx, getF, getT, O.fz, fzs, fzf, cmpT, eqT, ltT, T.flat, flats, VS.isNon, scal, T.ty, isTy, iOfJ, jSeq, seqT, jRng1, jRng2, jEnum, VS.iRng1, iSeq, VS.iEnum, ixN, atI, idxT, oSome, oNone, outsE, sFldSet, putO, lenF, absF, intF, divF, wipeE, VS.binT, VS.lim, Sm.t, W6.s, strEq, strBeq, fzs_app, fzs_oI, map_tI, oI_len, tI_len, oI_app, tI_app, oI_nil, tI_nil, oI_cons, tI_cons, tInts_tI, tb_KINDS, List.lookup, cutT, HT.sIx, Sm.kids]
  | _ => simp [runF, sNil, sSeq, sIf, sDrop, sRet, sRetN, sBrk, sCnt, sNever, sSet, sAsg, sFor, sTupAsg, boNil, boCons, bName, bTup, btCons, btNil, bSub, eOfN, eOfV, eOfB, eFrz, eMove, eVar, eBin, eTup, eLst, eIdx, eIf, eCallU, eCallV, eMake, eAppend, eAppendN, eExtend, ePop, daNil, daCons, putB, nOfV, nLst, nsNil, nsCons, nBin, nCallB, nCallU, nCallM, nComp, nCopy, dLst, vC, vOfP, vOfN, vOfB, vTup, vLst, vBin, vNeg, vIf, vCut, vIdx, vItK, vCopyT, asNil, asCons, bAnd, bOr, bNot, bCmp, bChain, bIsi, bIsC, bOfV, bInK, bTrue, beOfB, beOfE, beCmp, beNot, beAnd, beOr, qOfP, pVar, pIdx, pAttr, oIdx, getF, getT, O.fz, fzs, fzf, cmpT, eqT, ltT, T.flat, flats, VS.isNon, scal, T.ty, isTy, iOfJ, jSeq, seqT, jRng1, jRng2, jEnum, VS.iRng1, iSeq, VS.iEnum, ixN, atI, idxT, oSome, oNone, outsE, sFldSet, putO, lenF, absF, intF, divF, wipeE, VS.binT, VS.lim, Sm.t, strEq, strBeq, fzs_app, fzs_oI, map_tI, oI_len, tI_len, oI_app, tI_app, oI_nil, tI_nil, oI_cons, tI_cons, tInts_tI, tb_KINDS, List.lookup, cutT, HT.sIx, Sm.kids]
theorem siz_sum : ∀ b : List Sm, ((b.length : Nat) : Int) + (b.map fun s => (s.siz : Int) - 1).sum = ((sizs b : Nat) : Int)
  | [] => by simp [sizs]
  | s :: b => by
    have := siz_sum b
    simp only [sizs, List.map_cons, List.sum_cons, List.length_cons]
    omega
theorem deps_mem {b : List Sm} {s : Sm} (h : s ∈ b) : s.dep ≤ deps b := by
  induction b with
  | nil => cases h
  | cons t b ih =>
    simp only [deps]
    rcases List.mem_cons.mp h with e | h
    · rw [e]; omega
    · have := ih h; omega
theorem kids_len (s : Sm) : s.kids.length ≤ 2 := by cases s <;> simp [Sm.kids]
theorem size_eq : ∀ (k : Nat) (b : List Sm), deps b + 2 ≤ k → b.length < 1000 → sizs b < 1000 → (PhiN k).f_body_size [.val (.tup (tss b))] = some (.val (.int (sizs b : Nat)), [])
  | 0, b, h, _, _ => by omega
  | k + 1, b, h, hl, hs => by
    have hin : ∀ s ∈ b, nCallB sumF (asCons (vOfN (nComp (jSeq (vOfN (nCallU (PhiN k).f_bodies_of [] (asCons (vOfP (pVar 2)) asNil)))) [1] (bName 1) bTrue (nCallU (PhiN k).f_body_size [] (asCons (vOfP (pVar 1)) asNil)))) asNil)
        [some (.val (.tup (tss b))), none, some (.val s.t)] = some (.val (.int ((s.siz : Int) - 1))) := fun s hsb => by
      obtain ⟨k, rfl⟩ : ∃ j, k = j + 1 := ⟨k - 1, by omega⟩
      have hd := deps_mem hsb
      have hss : s.siz ≤ sizs b := by
        clear h hl hs hd
        induction b with
        | nil => cases hsb
        | cons t b ih =>
          simp only [sizs]
          rcases List.mem_cons.mp hsb with e | h
          · rw [e]; omega
          · have := ih h; omega
      have hkid : ∀ x ∈ s.kids, sizs x < s.siz := by
        intro x hx
        cases s <;> simp [Sm.kids] at hx <;> (try subst hx) <;> (try (rcases hx with rfl | rfl)) <;> simp only [Sm.siz] <;> omega
      have hg := compGo_of (bd := bName 1) (c := bTrue) (d := nCallU (PhiN (k + 1)).f_body_size [] (asCons (vOfP (pVar 1)) asNil)) (e := [some (.val (.tup (tss b))), none, some (.val s.t)]) (u := fun x => T.tup (tss x)) (g := fun x => .val (.int (sizs x : Nat))) (b := s.kids) fun x hx => by
        have hxs := hkid x hx
        have hxd := kids_dep s x hx
        exact ⟨_, by simp [bName]; rfl, rfl, by simp [runF, sNil, sSeq, sIf, sDrop, sRet, sRetN, sBrk, sCnt, sNever, sSet, sAsg, sFor, sTupAsg, boNil, boCons, bName, bTup, btCons, btNil, bSub, eOfN, eOfV, eOfB, eFrz, eMove, eVar, eBin, eTup, eLst, eIdx, eIf, eCallU, eCallV, eMake, eAppend, eAppendN, eExtend, ePop, daNil, daCons, putB, nOfV, nLst, nsNil, nsCons, nBin, nCallB, nCallU, nCallM, nComp, nCopy, dLst, vC, vOfP, vOfN, vOfB, vTup, vLst, vBin, vNeg, vIf, vCut, vIdx, vItK, vCopyT, asNil, asCons, bAnd, bOr, bNot, bCmp, bChain, bIsi, bIsC, bOfV, bInK, bTrue, beOfB, beOfE, beCmp, beNot, beAnd, beOr, qOfP, pVar, pIdx, pAttr, oIdx, getF, getT, O.fz, fzs, fzf, cmpT, eqT, ltT, T.flat, flats, VS.isNon, scal, T.ty, isTy, iOfJ, jSeq, seqT, jRng1, jRng2, jEnum, VS.iRng1, iSeq, VS.iEnum, ixN, atI, idxT, oSome, oNone, outsE, sFldSet, putO, lenF, absF, intF, divF, wipeE, VS.binT, VS.lim, size_eq (k + 1) x (by omega) (by have := sizs_len x; omega) (by omega)]⟩
      have hkl := kids_len s
      have hkl2 : s.kids.length ≤ 100000 := by omega
      simp [runF, sNil, sSeq, sIf, sDrop, sRet, sRetN, sBrk, sCnt, sNever, sSet, sAsg, sFor, sTupAsg, boNil, boCons, bName, bTup, btCons, btNil, bSub, eOfN, eOfV, eOfB, eFrz, eMove, eVar, eBin, eTup, eLst, eIdx, eIf, eCallU, eCallV, eMake, eAppend, eAppendN, eExtend, ePop, daNil, daCons, putB, nOfV, nLst, nsNil, nsCons, nBin, nCallB, nCallU, nCallM, nComp, nCopy, dLst, vC, vOfP, vOfN, vOfB, vTup, vLst, vBin, vNeg, vIf, vCut, vIdx, vItK, vCopyT, asNil, asCons, bAnd, bOr, bNot, bCmp, bChain, bIsi, bIsC, bOfV, bInK, bTrue, beOfB, beOfE, beCmp, beNot, beAnd, beOr, qOfP, pVar, pIdx, pAttr, oIdx, getF, getT, O.fz, fzs, fzf, cmpT, eqT, ltT, T.flat, flats, VS.isNon, scal, T.ty, isTy, iOfJ, jSeq, seqT, jRng1, jRng2, jEnum, VS.iRng1, iSeq, VS.iEnum, ixN, atI, idxT, oSome, oNone, outsE, sFldSet, putO, lenF, absF, intF, divF, wipeE, VS.binT, VS.lim, bodies_eq, hg, hkl2, fzs_ints, sumF_tI, kids_sum]
    have hg := compGo_of (bd := bName 2) (c := bTrue) (d := nCallB sumF (asCons (vOfN (nComp (jSeq (vOfN (nCallU (PhiN k).f_bodies_of [] (asCons (vOfP (pVar 2)) asNil)))) [1] (bName 1) bTrue (nCallU (PhiN k).f_body_size [] (asCons (vOfP (pVar 1)) asNil)))) asNil)) (e := [some (.val (.tup (tss b))), none, none]) (u := Sm.t) (g := fun s => .val (.int ((s.siz : Int) - 1))) (b := b) fun s hsb =>
      ⟨_, by simp [bName], rfl, hin s hsb⟩
    rw [← tss_map] at hg
    have hll : (tss b).length ≤ 100000 := by rw [tss_len]; omega
    rw [e_f_body_size]
    simp only [d_f_body_size]
    have h1 : nCallB sumF (asCons (vOfN (nComp (jSeq (vOfP (pVar 0))) [2] (bName 2) bTrue (nCallB sumF (asCons (vOfN (nComp (jSeq (vOfN (nCallU (PhiN k).f_bodies_of [] (asCons (vOfP (pVar 2)) asNil)))) [1] (bName 1) bTrue (nCallU (PhiN k).f_body_size [] (asCons (vOfP (pVar 1)) asNil)))) asNil)))) asNil) [some (.val (.tup (tss b))), none, none] = some (.val (.int (b.map fun s => (s.siz : Int) - 1).sum)) := by
      have h0 : nComp (jSeq (vOfP (pVar 0))) [2] (bName 2) bTrue (nCallB sumF (asCons (vOfN (nComp (jSeq (vOfN (nCallU (PhiN k).f_bodies_of [] (asCons (vOfP (pVar 2)) asNil)))) [1] (bName 1) bTrue (nCallU (PhiN k).f_body_size [] (asCons (vOfP (pVar 1)) asNil)))) asNil)) [some (.val (.tup (tss b))), none, none] = some (.lst (b.map fun s => O.val (.int ((s.siz : Int) - 1)))) := by
        exact nComp_eq (by simp [runF, sNil, sSeq, sIf, sDrop, sRet, sRetN, sBrk, sCnt, sNever, sSet, sAsg, sFor, sTupAsg, boNil, boCons, bName, bTup, btCons, btNil, bSub, eOfN, eOfV, eOfB, eFrz, eMove, eVar, eBin, eTup, eLst, eIdx, eIf, eCallU, eCallV, eMake, eAppend, eAppendN, eExtend, ePop, daNil, daCons, putB, nOfV, nLst, nsNil, nsCons, nBin, nCallB, nCallU, nCallM, nComp, nCopy, dLst, vC, vOfP, vOfN, vOfB, vTup, vLst, vBin, vNeg, vIf, vCut, vIdx, vItK, vCopyT, asNil, asCons, bAnd, bOr, bNot, bCmp, bChain, bIsi, bIsC, bOfV, bInK, bTrue, beOfB, beOfE, beCmp, beNot, beAnd, beOr, qOfP, pVar, pIdx, pAttr, oIdx, getF, getT, O.fz, fzs, fzf, cmpT, eqT, ltT, T.flat, flats, VS.isNon, scal, T.ty, isTy, iOfJ, jSeq, seqT, jRng1, jRng2, jEnum, VS.iRng1, iSeq, VS.iEnum, ixN, atI, idxT, oSome, oNone, outsE, sFldSet, putO, lenF, absF, intF, divF, wipeE, VS.binT, VS.lim]) hll hg
      simp only [nCallB, asCons, asNil, vOfN, h0, Option.map_some, O.fz, fzs_ints, sumF_tI]
    have h2 := siz_sum b
    generalize (b.map fun s => (s.siz : Int) - 1).sum = S at h1 h2
    rw [← h2]
    simp only [runF, sRet, eOfN, nBin, List.map_cons, List.map_nil, List.length_cons, List.length_nil, List.replicate, List.cons_append, List.nil_append, vOfN, h1]
    simp [runF, sNil, sSeq, sIf, sDrop, sRet, sRetN, sBrk, sCnt, sNever, sSet, sAsg, sFor, sTupAsg, boNil, boCons, bName, bTup, btCons, btNil, bSub, eOfN, eOfV, eOfB, eFrz, eMove, eVar, eBin, eTup, eLst, eIdx, eIf, eCallU, eCallV, eMake, eAppend, eAppendN, eExtend, ePop, daNil, daCons, putB, nOfV, nLst, nsNil, nsCons, nBin, nCallB, nCallU, nCallM, nComp, nCopy, dLst, vC, vOfP, vOfN, vOfB, vTup, vLst, vBin, vNeg, vIf, vCut, vIdx, vItK, vCopyT, asNil, asCons, bAnd, bOr, bNot, bCmp, bChain, bIsi, bIsC, bOfV, bInK, bTrue, beOfB, beOfE, beCmp, beNot, beAnd, beOr, qOfP, pVar, pIdx, pAttr, oIdx, getF, getT, O.fz, fzs, fzf, cmpT, eqT, ltT, T.flat, flats, VS.isNon, scal, T.ty, isTy, iOfJ, jSeq, seqT, jRng1, jRng2, jEnum, VS.iRng1, iSeq, VS.iEnum, ixN, atI, idxT, oSome, oNone, outsE, sFldSet, putO, lenF, absF, intF, divF, wipeE, VS.binT, VS.lim, tss_len]
end VW
namespace VW
open PySem L2 VS
def tB (bs : List (List Sm)) : List T := bs.map fun b => .tup (tss b)
theorem tB_len (bs : List (List Sm)) : (tB bs).length = bs.length := by simp [tB]
structure GoodP (bs : List (List Sm)) (ths : List Int) : Prop where
  n1 : 1 ≤ bs.length
  n2 : bs.length ≤ 4
  g : ∀ b ∈ bs, gds (bs.length : Nat) b
  d : ∀ b ∈ bs, deps b ≤ 2
  s : ∀ b ∈ bs, sizs b ≤ 5
  t1 : 1 ≤ ths.length
  t2 : ths.length ≤ 3
  t : ∀ x ∈ ths, 0 ≤ x ∧ x < (bs.length : Nat)
theorem are_bodies_eq {bs : List (List Sm)} {ths : List Int} (h : GoodP bs ths) (k : Nat) : (PhiN (k + 10)).f_are_bodies [.val (.int 1), .val (.int 1), .val (.int 1), .val (.lst (tB bs))] = some (.val (.bl true), []) := by
  have n1 := h.n1
  have n2 := h.n2
  have hg := compGo_of (bd := bName 5) (c := bTrue) (d := nCallU (PhiN (k + 9)).f_is_body_of [(.int 6)] (asCons (vOfP (pVar 4)) (asCons (vOfP (pVar 5)) asNil))) (e := [some (.val (.int 1)), some (.val (.int 1)), some (.val (.int 1)), some (.val (.lst (tB bs))), some (.val (shp (bs.length : Nat))), none])
    (u := fun b => T.tup (tss b)) (g := fun _ => .val (.bl true)) (b := bs) fun b hb => by
      exact ⟨_, by simp [bName]; rfl, rfl, by simp [runF, sNil, sSeq, sIf, sDrop, sRet, sRetN, sBrk, sCnt, sNever, sSet, sAsg, sFor, sTupAsg, boNil, boCons, bName, bTup, btCons, btNil, bSub, eOfN, eOfV, eOfB, eFrz, eMove, eVar, eBin, eTup, eLst, eIdx, eIf, eCallU, eCallV, eMake, eAppend, eAppendN, eExtend, ePop, daNil, daCons, putB, nOfV, nLst, nsNil, nsCons, nBin, nCallB, nCallU, nCallM, nComp, nCopy, dLst, vC, vOfP, vOfN, vOfB, vTup, vLst, vBin, vNeg, vIf, vCut, vIdx, vItK, vCopyT, asNil, asCons, bAnd, bOr, bNot, bCmp, bChain, bIsi, bIsC, bOfV, bInK, bTrue, beOfB, beOfE, beCmp, beNot, beAnd, beOr, qOfP, pVar, pIdx, pAttr, oIdx, getF, getT, O.fz, fzs, fzf, cmpT, eqT, ltT, T.flat, flats, VS.isNon, scal, T.ty, isTy, iOfJ, jSeq, seqT, jRng1, jRng2, jEnum, VS.iRng1, iSeq, VS.iEnum, ixN, atI, idxT, oSome, oNone, outsE, sFldSet, putO, lenF, absF, intF, divF, wipeE, VS.binT, VS.lim, isb (P := (bs.length : Nat)) (by omega) (by omega) b k (h.g b hb) (h.d b hb) (by have := h.s b hb; omega)]⟩
  have hll : bs.length ≤ 100000 := by omega
  have hb1 : (1 : Int) ≤ (bs.length : Nat) := by omega
  have hb2 : ((bs.length : Nat) : Int) ≤ 6 := by omega
  have hg' : compGo (bName 5) bTrue (nCallU (PhiN (k + 9)).f_is_body_of [(.int 6)] (asCons (vOfP (pVar 4)) (asCons (vOfP (pVar 5)) asNil))) [some (.val (.int 1)), some (.val (.int 1)), some (.val (.int 1)), some (.val (.lst (tB bs))), some (.val (shp (bs.length : Nat))), none] (tB bs) = _ := hg
  rw [e_f_are_bodies]
  simp only [d_f_are_bodies]
  simp [runF, sNil, sSeq, sIf, sDrop, sRet, sRetN, sBrk, sCnt, sNever, sSet, sAsg, sFor, sTupAsg, boNil, boCons, bName, bTup, btCons, btNil, bSub, eOfN, eOfV, eOfB, eFrz, eMove, eVar, eBin, eTup, eLst, eIdx, eIf, eCallU, eCallV, eMake, eAppend, eAppendN, eExtend, ePop, daNil, daCons, putB, nOfV, nLst, nsNil, nsCons, nBin, nCallB, nCallU, nCallM, nComp, nCopy, dLst, vC, vOfP, vOfN, vOfB, vTup, vLst, vBin, vNeg, vIf, vCut, vIdx, vItK, vCopyT, asNil, asCons, bAnd, bOr, bNot, bCmp, bChain, bIsi, bIsC, bOfV, bInK, bTrue, beOfB, beOfE, beCmp, beNot, beAnd, beOr, qOfP, pVar, pIdx, pAttr, oIdx, getF, getT, O.fz, fzs, fzf, cmpT, eqT, ltT, T.flat, flats, VS.isNon, scal, T.ty, isTy, iOfJ, jSeq, seqT, jRng1, jRng2, jEnum, VS.iRng1, iSeq, VS.iEnum, ixN, atI, idxT, oSome, oNone, outsE, sFldSet, putO, lenF, absF, intF, divF, wipeE, VS.binT, VS.lim, list_eq, tB_len, hb1, hb2, hg', hll, allF_true]
theorem are_threads_eq {bs : List (List Sm)} {ths : List Int} (h : GoodP bs ths) (k : Nat) : (PhiN (k + 4)).f_are_threads [.val (.lst (tI ths)), .val (.int (bs.length : Nat))] = some (.val (.bl true), []) := by
  have t1 := h.t1
  have t2 := h.t2
  have hg := compGo_of (bd := bName 2) (c := bTrue) (d := nCallU (PhiN (k + 3)).f_is_number_to [] (asCons (vOfP (pVar 2)) (asCons (vC (.int 0)) (asCons (vBin .Sub (vOfP (pVar 1)) (vC (.int 1))) asNil)))) (e := [some (.val (.lst (tI ths))), some (.val (.int (bs.length : Nat))), none])
    (u := T.int) (g := fun _ => .val (.bl true)) (b := ths) fun x hx => by
      have ht := h.t x hx
      exact ⟨_, by simp [bName]; rfl, rfl, by simp [runF, sNil, sSeq, sIf, sDrop, sRet, sRetN, sBrk, sCnt, sNever, sSet, sAsg, sFor, sTupAsg, boNil, boCons, bName, bTup, btCons, btNil, bSub, eOfN, eOfV, eOfB, eFrz, eMove, eVar, eBin, eTup, eLst, eIdx, eIf, eCallU, eCallV, eMake, eAppend, eAppendN, eExtend, ePop, daNil, daCons, putB, nOfV, nLst, nsNil, nsCons, nBin, nCallB, nCallU, nCallM, nComp, nCopy, dLst, vC, vOfP, vOfN, vOfB, vTup, vLst, vBin, vNeg, vIf, vCut, vIdx, vItK, vCopyT, asNil, asCons, bAnd, bOr, bNot, bCmp, bChain, bIsi, bIsC, bOfV, bInK, bTrue, beOfB, beOfE, beCmp, beNot, beAnd, beOr, qOfP, pVar, pIdx, pAttr, oIdx, getF, getT, O.fz, fzs, fzf, cmpT, eqT, ltT, T.flat, flats, VS.isNon, scal, T.ty, isTy, iOfJ, jSeq, seqT, jRng1, jRng2, jEnum, VS.iRng1, iSeq, VS.iEnum, ixN, atI, idxT, oSome, oNone, outsE, sFldSet, putO, lenF, absF, intF, divF, wipeE, VS.binT, VS.lim, number_eq k x 0 ((bs.length : Nat) - 1) ht.1 ht.1 (by omega)]⟩
  have hll : ths.length ≤ 100000 := by omega
  have hb1 : (1 : Int) ≤ (ths.length : Nat) := by omega
  have hb2 : ((ths.length : Nat) : Int) ≤ 4 := by omega
  have hg' : compGo (bName 2) bTrue (nCallU (PhiN (k + 3)).f_is_number_to [] (asCons (vOfP (pVar 2)) (asCons (vC (.int 0)) (asCons (vBin .Sub (vOfP (pVar 1)) (vC (.int 1))) asNil)))) [some (.val (.lst (tI ths))), some (.val (.int (bs.length : Nat))), none] (tI ths) = _ := hg
  rw [e_f_are_threads]
  simp only [d_f_are_threads]
  simp [runF, sNil, sSeq, sIf, sDrop, sRet, sRetN, sBrk, sCnt, sNever, sSet, sAsg, sFor, sTupAsg, boNil, boCons, bName, bTup, btCons, btNil, bSub, eOfN, eOfV, eOfB, eFrz, eMove, eVar, eBin, eTup, eLst, eIdx, eIf, eCallU, eCallV, eMake, eAppend, eAppendN, eExtend, ePop, daNil, daCons, putB, nOfV, nLst, nsNil, nsCons, nBin, nCallB, nCallU, nCallM, nComp, nCopy, dLst, vC, vOfP, vOfN, vOfB, vTup, vLst, vBin, vNeg, vIf, vCut, vIdx, vItK, vCopyT, asNil, asCons, bAnd, bOr, bNot, bCmp, bChain, bIsi, bIsC, bOfV, bInK, bTrue, beOfB, beOfE, beCmp, beNot, beAnd, beOr, qOfP, pVar, pIdx, pAttr, oIdx, getF, getT, O.fz, fzs, fzf, cmpT, eqT, ltT, T.flat, flats, VS.isNon, scal, T.ty, isTy, iOfJ, jSeq, seqT, jRng1, jRng2, jEnum, VS.iRng1, iSeq, VS.iEnum, ixN, atI, idxT, oSome, oNone, outsE, sFldSet, putO, lenF, absF, intF, divF, wipeE, VS.binT, VS.lim, list_eq, tI_len, hb1, hb2, hg', hll, allF_true]
def sumS (bs : List (List Sm)) : Int := (bs.map fun b => ((sizs b : Nat) : Int)).sum
theorem sumS_le {bs : List (List Sm)} (h : ∀ b ∈ bs, sizs b ≤ 5) : sumS bs ≤ 5 * (bs.length : Nat) := by
  induction bs with
  | nil => simp [sumS]
  | cons b bs ih =>
    have h1 := h b List.mem_cons_self
    have h2 := ih fun x hx => h x (List.mem_cons_of_mem _ hx)
    unfold sumS at h2 ⊢
    simp only [List.map_cons, List.sum_cons, List.length_cons]
    omega
theorem statements_eq {bs : List (List Sm)} {ths : List Int} (h : GoodP bs ths) (k : Nat) : (PhiN (k + 5)).f_statements_in [.val (.lst (tB bs))] = some (.val (.int (sumS bs)), []) := by
  have n2 := h.n2
  have hg := compGo_of (bd := bName 1) (c := bTrue) (d := nCallU (PhiN (k + 4)).f_body_size [] (asCons (vOfP (pVar 1)) asNil)) (e := [some (.val (.lst (tB bs))), none])
    (u := fun b => T.tup (tss b)) (g := fun b => .val (.int (sizs b : Nat))) (b := bs) fun b hb => by
      have hs := h.s b hb
      have hd := h.d b hb
      exact ⟨_, by simp [bName]; rfl, rfl, by simp [runF, sNil, sSeq, sIf, sDrop, sRet, sRetN, sBrk, sCnt, sNever, sSet, sAsg, sFor, sTupAsg, boNil, boCons, bName, bTup, btCons, btNil, bSub, eOfN, eOfV, eOfB, eFrz, eMove, eVar, eBin, eTup, eLst, eIdx, eIf, eCallU, eCallV, eMake, eAppend, eAppendN, eExtend, ePop, daNil, daCons, putB, nOfV, nLst, nsNil, nsCons, nBin, nCallB, nCallU, nCallM, nComp, nCopy, dLst, vC, vOfP, vOfN, vOfB, vTup, vLst, vBin, vNeg, vIf, vCut, vIdx, vItK, vCopyT, asNil, asCons, bAnd, bOr, bNot, bCmp, bChain, bIsi, bIsC, bOfV, bInK, bTrue, beOfB, beOfE, beCmp, beNot, beAnd, beOr, qOfP, pVar, pIdx, pAttr, oIdx, getF, getT, O.fz, fzs, fzf, cmpT, eqT, ltT, T.flat, flats, VS.isNon, scal, T.ty, isTy, iOfJ, jSeq, seqT, jRng1, jRng2, jEnum, VS.iRng1, iSeq, VS.iEnum, ixN, atI, idxT, oSome, oNone, outsE, sFldSet, putO, lenF, absF, intF, divF, wipeE, VS.binT, VS.lim, size_eq (k + 4) b (by omega) (by have := sizs_len b; omega) (by omega)]⟩
  have hll : bs.length ≤ 100000 := by omega
  have hg' : compGo (bName 1) bTrue (nCallU (PhiN (k + 4)).f_body_size [] (asCons (vOfP (pVar 1)) asNil)) [some (.val (.lst (tB bs))), none] (tB bs) = _ := hg
  rw [e_f_statements_in]
  simp only [d_f_statements_in]
  simp [runF, sNil, sSeq, sIf, sDrop, sRet, sRetN, sBrk, sCnt, sNever, sSet, sAsg, sFor, sTupAsg, boNil, boCons, bName, bTup, btCons, btNil, bSub, eOfN, eOfV, eOfB, eFrz, eMove, eVar, eBin, eTup, eLst, eIdx, eIf, eCallU, eCallV, eMake, eAppend, eAppendN, eExtend, ePop, daNil, daCons, putB, nOfV, nLst, nsNil, nsCons, nBin, nCallB, nCallU, nCallM, nComp, nCopy, dLst, vC, vOfP, vOfN, vOfB, vTup, vLst, vBin, vNeg, vIf, vCut, vIdx, vItK, vCopyT, asNil, asCons, bAnd, bOr, bNot, bCmp, bChain, bIsi, bIsC, bOfV, bInK, bTrue, beOfB, beOfE, beCmp, beNot, beAnd, beOr, qOfP, pVar, pIdx, pAttr, oIdx, getF, getT, O.fz, fzs, fzf, cmpT, eqT, ltT, T.flat, flats, VS.isNon, scal, T.ty, isTy, iOfJ, jSeq, seqT, jRng1, jRng2, jEnum, VS.iRng1, iSeq, VS.iEnum, ixN, atI, idxT, oSome, oNone, outsE, sFldSet, putO, lenF, absF, intF, divF, wipeE, VS.binT, VS.lim, tB_len, hg', hll, fzs_ints, sumF_tI, sumS]
def prF (bs : List (List Sm)) (ths : List Int) : List (Nat × T) := [(0, .int 1), (1, .int 1), (2, .int 1), (3, .tup (tB bs)), (4, .tup (tI ths))]
abbrev prT (bs : List (List Sm)) (ths : List Int) : T := .ins 0 (prF bs ths)
theorem init_eq {bs : List (List Sm)} {ths : List Int} (h : GoodP bs ths) (k : Nat) : (PhiN (k + 11)).m_Program_init [.ins 0 [], .val (.int 1), .val (.int 1), .val (.int 1), .val (.lst (tB bs)), .val (.lst (tI ths))] =
    some (.val .non, [.ins 0 [(0, .val (.int 1)), (1, .val (.int 1)), (2, .val (.int 1)), (3, .val (.tup (tB bs))), (4, .val (.tup (tI ths)))]]) := by
  have n2 := h.n2
  have hs := sumS_le h.s
  have hs2 : ¬ (60 < sumS bs) := by omega
  rw [e_m_Program_init]
  simp only [d_m_Program_init]
  simp [runF, sNil, sSeq, sIf, sDrop, sRet, sRetN, sBrk, sCnt, sNever, sSet, sAsg, sFor, sTupAsg, boNil, boCons, bName, bTup, btCons, btNil, bSub, eOfN, eOfV, eOfB, eFrz, eMove, eVar, eBin, eTup, eLst, eIdx, eIf, eCallU, eCallV, eMake, eAppend, eAppendN, eExtend, ePop, daNil, daCons, putB, nOfV, nLst, nsNil, nsCons, nBin, nCallB, nCallU, nCallM, nComp, nCopy, dLst, vC, vOfP, vOfN, vOfB, vTup, vLst, vBin, vNeg, vIf, vCut, vIdx, vItK, vCopyT, asNil, asCons, bAnd, bOr, bNot, bCmp, bChain, bIsi, bIsC, bOfV, bInK, bTrue, beOfB, beOfE, beCmp, beNot, beAnd, beOr, qOfP, pVar, pIdx, pAttr, oIdx, getF, getT, O.fz, fzs, fzf, cmpT, eqT, ltT, T.flat, flats, VS.isNon, scal, T.ty, isTy, iOfJ, jSeq, seqT, jRng1, jRng2, jEnum, VS.iRng1, iSeq, VS.iEnum, ixN, atI, idxT, oSome, oNone, outsE, sFldSet, putO, lenF, absF, intF, divF, wipeE, VS.binT, VS.lim, number_eq, are_bodies_eq h, are_threads_eq h, statements_eq h, tB_len, hs2, tupleF]
theorem made_eq {bs : List (List Sm)} {ths : List Int} (h : GoodP bs ths) (k : Nat) : (PhiN (k + 13)).f__law_made [.val (.tup [shp (bs.length : Nat), .lst (tB bs), .lst (tI ths)])] =
    some (.ins 0 [(0, .val (.int 1)), (1, .val (.int 1)), (2, .val (.int 1)), (3, .val (.tup (tB bs))), (4, .val (.tup (tI ths)))], []) := by
  rw [e_f__law_made]
  simp only [d_f__law_made]
  simp [runF, sNil, sSeq, sIf, sDrop, sRet, sRetN, sBrk, sCnt, sNever, sSet, sAsg, sFor, sTupAsg, boNil, boCons, bName, bTup, btCons, btNil, bSub, eOfN, eOfV, eOfB, eFrz, eMove, eVar, eBin, eTup, eLst, eIdx, eIf, eCallU, eCallV, eMake, eAppend, eAppendN, eExtend, ePop, daNil, daCons, putB, nOfV, nLst, nsNil, nsCons, nBin, nCallB, nCallU, nCallM, nComp, nCopy, dLst, vC, vOfP, vOfN, vOfB, vTup, vLst, vBin, vNeg, vIf, vCut, vIdx, vItK, vCopyT, asNil, asCons, bAnd, bOr, bNot, bCmp, bChain, bIsi, bIsC, bOfV, bInK, bTrue, beOfB, beOfE, beCmp, beNot, beAnd, beOr, qOfP, pVar, pIdx, pAttr, oIdx, getF, getT, O.fz, fzs, fzf, cmpT, eqT, ltT, T.flat, flats, VS.isNon, scal, T.ty, isTy, iOfJ, jSeq, seqT, jRng1, jRng2, jEnum, VS.iRng1, iSeq, VS.iEnum, ixN, atI, idxT, oSome, oNone, outsE, sFldSet, putO, lenF, absF, intF, divF, wipeE, VS.binT, VS.lim, e_mk_Program, init_eq h]
theorem want_eq (bs : List (List Sm)) (ths : List Int) (k : Nat) : (PhiN (k + 1)).f_want_program [.val (prT bs ths)] = some (.val (prT bs ths), []) := by
  rw [e_f_want_program]
  simp [runF, sNil, sSeq, sIf, sDrop, sRet, sRetN, sBrk, sCnt, sNever, sSet, sAsg, sFor, sTupAsg, boNil, boCons, bName, bTup, btCons, btNil, bSub, eOfN, eOfV, eOfB, eFrz, eMove, eVar, eBin, eTup, eLst, eIdx, eIf, eCallU, eCallV, eMake, eAppend, eAppendN, eExtend, ePop, daNil, daCons, putB, nOfV, nLst, nsNil, nsCons, nBin, nCallB, nCallU, nCallM, nComp, nCopy, dLst, vC, vOfP, vOfN, vOfB, vTup, vLst, vBin, vNeg, vIf, vCut, vIdx, vItK, vCopyT, asNil, asCons, bAnd, bOr, bNot, bCmp, bChain, bIsi, bIsC, bOfV, bInK, bTrue, beOfB, beOfE, beCmp, beNot, beAnd, beOr, qOfP, pVar, pIdx, pAttr, oIdx, getF, getT, O.fz, fzs, fzf, cmpT, eqT, ltT, T.flat, flats, VS.isNon, scal, T.ty, isTy, iOfJ, jSeq, seqT, jRng1, jRng2, jEnum, VS.iRng1, iSeq, VS.iEnum, ixN, atI, idxT, oSome, oNone, outsE, sFldSet, putO, lenF, absF, intF, divF, wipeE, VS.binT, VS.lim, d_f_want_program]
theorem bodiesM_eq (bs : List (List Sm)) (ths : List Int) (k : Nat) : (PhiN (k + 1)).m_Program_bodies [.val (prT bs ths)] = some (.lst ((tB bs).map O.val), []) := by
  rw [e_m_Program_bodies]
  simp [runF, sNil, sSeq, sIf, sDrop, sRet, sRetN, sBrk, sCnt, sNever, sSet, sAsg, sFor, sTupAsg, boNil, boCons, bName, bTup, btCons, btNil, bSub, eOfN, eOfV, eOfB, eFrz, eMove, eVar, eBin, eTup, eLst, eIdx, eIf, eCallU, eCallV, eMake, eAppend, eAppendN, eExtend, ePop, daNil, daCons, putB, nOfV, nLst, nsNil, nsCons, nBin, nCallB, nCallU, nCallM, nComp, nCopy, dLst, vC, vOfP, vOfN, vOfB, vTup, vLst, vBin, vNeg, vIf, vCut, vIdx, vItK, vCopyT, asNil, asCons, bAnd, bOr, bNot, bCmp, bChain, bIsi, bIsC, bOfV, bInK, bTrue, beOfB, beOfE, beCmp, beNot, beAnd, beOr, qOfP, pVar, pIdx, pAttr, oIdx, getF, getT, O.fz, fzs, fzf, cmpT, eqT, ltT, T.flat, flats, VS.isNon, scal, T.ty, isTy, iOfJ, jSeq, seqT, jRng1, jRng2, jEnum, VS.iRng1, iSeq, VS.iEnum, ixN, atI, idxT, oSome, oNone, outsE, sFldSet, putO, lenF, absF, intF, divF, wipeE, VS.binT, VS.lim, d_m_Program_bodies, prF, listF, nCls, nFld]
theorem threadsM_eq (bs : List (List Sm)) (ths : List Int) (k : Nat) : (PhiN (k + 1)).m_Program_threads [.val (prT bs ths)] = some (.lst (oI ths), []) := by
  rw [e_m_Program_threads]
  simp [runF, sNil, sSeq, sIf, sDrop, sRet, sRetN, sBrk, sCnt, sNever, sSet, sAsg, sFor, sTupAsg, boNil, boCons, bName, bTup, btCons, btNil, bSub, eOfN, eOfV, eOfB, eFrz, eMove, eVar, eBin, eTup, eLst, eIdx, eIf, eCallU, eCallV, eMake, eAppend, eAppendN, eExtend, ePop, daNil, daCons, putB, nOfV, nLst, nsNil, nsCons, nBin, nCallB, nCallU, nCallM, nComp, nCopy, dLst, vC, vOfP, vOfN, vOfB, vTup, vLst, vBin, vNeg, vIf, vCut, vIdx, vItK, vCopyT, asNil, asCons, bAnd, bOr, bNot, bCmp, bChain, bIsi, bIsC, bOfV, bInK, bTrue, beOfB, beOfE, beCmp, beNot, beAnd, beOr, qOfP, pVar, pIdx, pAttr, oIdx, getF, getT, O.fz, fzs, fzf, cmpT, eqT, ltT, T.flat, flats, VS.isNon, scal, T.ty, isTy, iOfJ, jSeq, seqT, jRng1, jRng2, jEnum, VS.iRng1, iSeq, VS.iEnum, ixN, atI, idxT, oSome, oNone, outsE, sFldSet, putO, lenF, absF, intF, divF, wipeE, VS.binT, VS.lim, d_m_Program_threads, prF, listF, nCls, nFld, map_tI]
def css (bs : List (List Sm)) : List (List Int) := bs.map cw
def tC (cs : List (List Int)) : List T := cs.map fun c => .lst (tI c)
def oC (cs : List (List Int)) : List O := cs.map fun c => .lst (oI c)
theorem fzs_oC (cs : List (List Int)) : fzs (oC cs) = tC cs := by rw [fzs_map]; simp [oC, tC, O.fz, fzs_oI]
theorem fzs_vals (ts : List T) : fzs (ts.map O.val) = ts := fzs_val ts
theorem cbb_eq {bs : List (List Sm)} {ths : List Int} (h : GoodP bs ths) (k : Nat) : (PhiN (k + 4)).f_calls_by_bodies [.val (prT bs ths)] = some (.lst (oC (css bs)), []) := by
  have n2 := h.n2
  have hg := compGo_of (bd := bName 1) (c := bTrue) (d := nCallU (PhiN (k + 3)).f_calls_within [] (asCons (vOfP (pVar 1)) asNil)) (e := [some (.val (prT bs ths)), none])
    (u := fun b => T.tup (tss b)) (g := fun b => .lst (oI (cw b))) (b := bs) fun b hb => by
      have hs := h.s b hb
      have hd := h.d b hb
      exact ⟨_, by simp [bName]; rfl, rfl, by simp [runF, sNil, sSeq, sIf, sDrop, sRet, sRetN, sBrk, sCnt, sNever, sSet, sAsg, sFor, sTupAsg, boNil, boCons, bName, bTup, btCons, btNil, bSub, eOfN, eOfV, eOfB, eFrz, eMove, eVar, eBin, eTup, eLst, eIdx, eIf, eCallU, eCallV, eMake, eAppend, eAppendN, eExtend, ePop, daNil, daCons, putB, nOfV, nLst, nsNil, nsCons, nBin, nCallB, nCallU, nCallM, nComp, nCopy, dLst, vC, vOfP, vOfN, vOfB, vTup, vLst, vBin, vNeg, vIf, vCut, vIdx, vItK, vCopyT, asNil, asCons, bAnd, bOr, bNot, bCmp, bChain, bIsi, bIsC, bOfV, bInK, bTrue, beOfB, beOfE, beCmp, beNot, beAnd, beOr, qOfP, pVar, pIdx, pAttr, oIdx, getF, getT, O.fz, fzs, fzf, cmpT, eqT, ltT, T.flat, flats, VS.isNon, scal, T.ty, isTy, iOfJ, jSeq, seqT, jRng1, jRng2, jEnum, VS.iRng1, iSeq, VS.iEnum, ixN, atI, idxT, oSome, oNone, outsE, sFldSet, putO, lenF, absF, intF, divF, wipeE, VS.binT, VS.lim, cw_eq (k + 3) b (by omega) (by omega)]⟩
  have hll : bs.length ≤ 100000 := by omega
  have hg' : compGo (bName 1) bTrue (nCallU (PhiN (k + 3)).f_calls_within [] (asCons (vOfP (pVar 1)) asNil)) [some (.val (prT bs ths)), none] (tB bs) = _ := hg
  rw [e_f_calls_by_bodies]
  simp only [d_f_calls_by_bodies]
  simp [runF, sNil, sSeq, sIf, sDrop, sRet, sRetN, sBrk, sCnt, sNever, sSet, sAsg, sFor, sTupAsg, boNil, boCons, bName, bTup, btCons, btNil, bSub, eOfN, eOfV, eOfB, eFrz, eMove, eVar, eBin, eTup, eLst, eIdx, eIf, eCallU, eCallV, eMake, eAppend, eAppendN, eExtend, ePop, daNil, daCons, putB, nOfV, nLst, nsNil, nsCons, nBin, nCallB, nCallU, nCallM, nComp, nCopy, dLst, vC, vOfP, vOfN, vOfB, vTup, vLst, vBin, vNeg, vIf, vCut, vIdx, vItK, vCopyT, asNil, asCons, bAnd, bOr, bNot, bCmp, bChain, bIsi, bIsC, bOfV, bInK, bTrue, beOfB, beOfE, beCmp, beNot, beAnd, beOr, qOfP, pVar, pIdx, pAttr, oIdx, getF, getT, O.fz, fzs, fzf, cmpT, eqT, ltT, T.flat, flats, VS.isNon, scal, T.ty, isTy, iOfJ, jSeq, seqT, jRng1, jRng2, jEnum, VS.iRng1, iSeq, VS.iEnum, ixN, atI, idxT, oSome, oNone, outsE, sFldSet, putO, lenF, absF, intF, divF, wipeE, VS.binT, VS.lim, bodiesM_eq, fzs_vals, tB_len, hg', hll, css, oC]
theorem calls_of_eq {bs : List (List Sm)} {ths : List Int} (h : GoodP bs ths) (k : Nat) : (PhiN (k + 5)).f_calls_of [.val (prT bs ths)] = some (.lst (oC (css bs)), []) := by
  rw [e_f_calls_of]
  simp only [d_f_calls_of]
  simp [runF, sNil, sSeq, sIf, sDrop, sRet, sRetN, sBrk, sCnt, sNever, sSet, sAsg, sFor, sTupAsg, boNil, boCons, bName, bTup, btCons, btNil, bSub, eOfN, eOfV, eOfB, eFrz, eMove, eVar, eBin, eTup, eLst, eIdx, eIf, eCallU, eCallV, eMake, eAppend, eAppendN, eExtend, ePop, daNil, daCons, putB, nOfV, nLst, nsNil, nsCons, nBin, nCallB, nCallU, nCallM, nComp, nCopy, dLst, vC, vOfP, vOfN, vOfB, vTup, vLst, vBin, vNeg, vIf, vCut, vIdx, vItK, vCopyT, asNil, asCons, bAnd, bOr, bNot, bCmp, bChain, bIsi, bIsC, bOfV, bInK, bTrue, beOfB, beOfE, beCmp, beNot, beAnd, beOr, qOfP, pVar, pIdx, pAttr, oIdx, getF, getT, O.fz, fzs, fzf, cmpT, eqT, ltT, T.flat, flats, VS.isNon, scal, T.ty, isTy, iOfJ, jSeq, seqT, jRng1, jRng2, jEnum, VS.iRng1, iSeq, VS.iEnum, ixN, atI, idxT, oSome, oNone, outsE, sFldSet, putO, lenF, absF, intF, divF, wipeE, VS.binT, VS.lim, want_eq, cbb_eq h]
end VW
namespace VW
open PySem L2 VS
/-! ### graphs -/
def ch (cs : List (List Int)) (x : Int) : List Int := cs.getD x.toNat []
inductive Reach (cs : List (List Int)) (p : Int) : Int → Prop where
  | refl : Reach cs p p
  | step {x y : Int} : Reach cs p x → y ∈ ch cs x → Reach cs p y
theorem Reach.trans {cs : List (List Int)} {p q x : Int} (a : Reach cs p q) (b : Reach cs q x) : Reach cs p x := by
  induction b with
  | refl => exact a
  | step _ h ih => exact .step ih h
structure Gr (cs : List (List Int)) : Prop where
  n : cs.length ≤ 4
  up : ∀ c ∈ cs, c.Pairwise (· < ·)
  rng : ∀ c ∈ cs, ∀ y ∈ c, 0 ≤ y ∧ y < (cs.length : Nat)
theorem ch_mem {cs : List (List Int)} {x : Int} (h : 0 ≤ x ∧ x < (cs.length : Nat)) : ch cs x ∈ cs := by
  unfold ch
  rw [List.getD_eq_getElem?_getD, List.getElem?_eq_getElem (by omega)]
  exact List.getElem_mem _
theorem Gr.ch {cs : List (List Int)} (g : Gr cs) {x y : Int} (hx : 0 ≤ x ∧ x < (cs.length : Nat)) (h : y ∈ ch cs x) : 0 ≤ y ∧ y < (cs.length : Nat) := g.rng _ (ch_mem hx) y h
theorem Gr.reach {cs : List (List Int)} (g : Gr cs) {p x : Int} (hp : 0 ≤ p ∧ p < (cs.length : Nat)) (h : Reach cs p x) : 0 ≤ x ∧ x < (cs.length : Nat) := by
  induction h with
  | refl => exact hp
  | step _ h ih => exact g.ch ih h
theorem nd_len : ∀ (n : Nat) (l : List Int), l.Nodup → (∀ x ∈ l, 0 ≤ x ∧ x < (n : Nat)) → l.length ≤ n
  | 0, l, _, h => by
    cases l with
    | nil => simp
    | cons x l => have := h x List.mem_cons_self; omega
  | n + 1, l, nd, h => by
    by_cases hm : (n : Int) ∈ l
    · have h1 := nd_len n (l.erase (n : Int)) (nd.erase _) fun x hx => by
        have h2 := (nd.mem_erase_iff).mp hx
        have h3 := h x h2.2
        have : x ≠ (n : Int) := h2.1
        omega
      rw [List.length_erase_of_mem hm] at h1
      omega
    · have h1 := nd_len n l nd fun x hx => by
        have h3 := h x hx
        have : x ≠ (n : Int) := fun e => hm (e ▸ hx)
        omega
      omega
theorem up_nodup {l : List Int} (h : l.Pairwise (· < ·)) : l.Nodup := h.imp fun h => by omega
theorem tC_len (cs : List (List Int)) : (tC cs).length = cs.length := by simp [tC]
theorem tC_get {cs : List (List Int)} {x : Int} (h : 0 ≤ x ∧ x < (cs.length : Nat)) : (tC cs)[x.toNat]? = some (.lst (tI (ch cs x))) := by
  unfold tC ch
  rw [List.getElem?_map, List.getElem?_eq_getElem (by omega), List.getD_eq_getElem?_getD, List.getElem?_eq_getElem (by omega)]
  rfl
theorem tC_at {cs : List (List Int)} {x : Int} (h : 0 ≤ x ∧ x < (cs.length : Nat)) (h' : x.toNat < (tC cs).length) : (tC cs)[x.toNat]'h' = .lst (tI (ch cs x)) := by
  have := tC_get h
  rw [List.getElem?_eq_getElem h'] at this
  exact Option.some.inj this
theorem flats_tI (l : List Int) : flats (tI l) = some (l.map V.int) := by
  induction l with
  | nil => rfl
  | cons x l ih =>
    show flats (T.int x :: tI l) = _
    unfold flats
    rw [ih]
    rfl
theorem inV_ints (x : Int) (l : List Int) : inV (V.int x) (l.map V.int) = decide (x ∈ l) := by
  unfold inV
  rw [Bool.eq_iff_iff]
  simp [eqV]
theorem inT_tI (x : Int) (l : List Int) : inT (.int x) (.lst (tI l)) = some (decide (x ∈ l)) := by
  simp [inT, T.flat, flats_tI, inV_ints]
theorem compGo_flt {α : Type} {bd : BO} {c : DB} {d : DN} {e : VS.Env} {u : α → T} {g : α → O} {p : α → Bool} : ∀ {b : List α}, (∀ s ∈ b, ∃ e1, bd (.val (u s)) e = some e1 ∧ c e1 = some (p s) ∧ d e1 = some (g s)) → compGo bd c d e (b.map u) = some ((b.filter p).map g)
  | [], _ => rfl
  | s :: b, h => by
    obtain ⟨e1, h1, h2, h3⟩ := h s List.mem_cons_self
    have ih := compGo_flt (b := b) fun u hu => h u (List.mem_cons_of_mem _ hu)
    cases hp : p s with
    | true => simp only [List.map_cons, compGo, h1, h2, h3, ih, hp, List.filter_cons, if_true]
    | false => simp [List.map_cons, compGo, h1, h2, h3, ih, hp, List.filter_cons]
/-- what one look adds -/
def news (cs : List (List Int)) (found : List Int) (x : Int) : List Int := (ch cs x).filter fun y => !decide (y ∈ found)
theorem news_nodup {cs : List (List Int)} (g : Gr cs) {found : List Int} {x : Int} (hx : 0 ≤ x ∧ x < (cs.length : Nat)) (nd : found.Nodup) : (found ++ news cs found x).Nodup := by
  rw [List.nodup_append]
  refine ⟨nd, (up_nodup (g.up _ (ch_mem hx))).sublist List.filter_sublist, fun a ha b hb e => ?_⟩
  subst e
  have := (List.mem_filter.mp hb).2
  simp at this
  exact this ha
theorem news_mem {cs : List (List Int)} {found : List Int} {x y : Int} : y ∈ news cs found x ↔ y ∈ ch cs x ∧ y ∉ found := by
  unfold news
  rw [List.mem_filter]
  simp
theorem dats_tI (l : List Int) : dats (tI l) = some (l.map PyData.int) := by
  induction l with
  | nil => rfl
  | cons x l ih =>
    show dats (T.int x :: tI l) = _
    unfold dats
    rw [ih]
    rfl
theorem dats_tC (l : List (List Int)) : dats (tC l) = some (l.map fun c => PyData.list (c.map PyData.int)) := by
  induction l with
  | nil => rfl
  | cons x l ih =>
    show dats (T.lst (tI x) :: tC l) = _
    unfold dats
    rw [ih]
    show (match (T.lst (tI x)).dat, some (l.map fun c => PyData.list (c.map PyData.int)) with
      | some x, some r => some (x :: r)
      | _, _ => none) = _
    rw [show (T.lst (tI x)).dat = some (.list (x.map PyData.int)) by show (dats (tI x)).map PyData.list = _; rw [dats_tI]; rfl]
    rfl
theorem eqv_ints : ∀ a b : List Int, PyData.eqvAll (a.map PyData.int) (b.map PyData.int) = decide (a = b)
  | [], [] => rfl
  | [], _ :: _ => rfl
  | _ :: _, [] => rfl
  | x :: a, y :: b => by
    show (PyData.eqv (.int x) (.int y) && PyData.eqvAll (a.map PyData.int) (b.map PyData.int)) = _
    rw [eqv_ints a b]
    show ((x == y) && decide (a = b)) = _
    rw [Bool.eq_iff_iff]
    simp
theorem eqv_intss : ∀ a b : List (List Int), PyData.eqvAll (a.map fun c => PyData.list (c.map PyData.int)) (b.map fun c => PyData.list (c.map PyData.int)) = decide (a = b)
  | [], [] => rfl
  | [], _ :: _ => rfl
  | _ :: _, [] => rfl
  | x :: a, y :: b => by
    show (PyData.eqvAll (x.map PyData.int) (y.map PyData.int) && PyData.eqvAll (a.map fun c => PyData.list (c.map PyData.int)) (b.map fun c => PyData.list (c.map PyData.int))) = _
    rw [eqv_intss a b, eqv_ints]
    rw [Bool.eq_iff_iff]
    simp
theorem lay_ints : ∀ a : List Int, PyData.canLayAll0 (a.map PyData.int) = true
  | [] => rfl
  | x :: a => by
    show (PyData.canLay0 (.int x) && PyData.canLayAll0 (a.map PyData.int)) = true
    rw [lay_ints a]; rfl
theorem dep_ints : ∀ a : List Int, PyData.depthAll (a.map PyData.int) = 0
  | [] => rfl
  | x :: a => by
    show max (PyData.depth (.int x)) (PyData.depthAll (a.map PyData.int)) = 0
    rw [dep_ints a]; rfl
theorem lay_intss : ∀ a : List (List Int), PyData.canLayAll0 (a.map fun c => PyData.list (c.map PyData.int)) = true
  | [] => rfl
  | x :: a => by
    show (PyData.canLayAll0 (x.map PyData.int) && PyData.canLayAll0 (a.map fun c => PyData.list (c.map PyData.int))) = true
    rw [lay_intss a, lay_ints]; rfl
theorem dep_intss : ∀ a : List (List Int), PyData.depthAll (a.map fun c => PyData.list (c.map PyData.int)) ≤ 1
  | [] => by show 0 ≤ 1; omega
  | x :: a => by
    show max (PyData.depthAll (x.map PyData.int) + 1) (PyData.depthAll (a.map fun c => PyData.list (c.map PyData.int))) ≤ 1
    have := dep_intss a
    rw [dep_ints]; omega
theorem eqT_tI (a b : List Int) : eqT (.lst (tI a)) (.lst (tI b)) = some (decide (a = b)) := by
  have h1 : ∀ l : List Int, (T.lst (tI l)).dat = some (.list (l.map PyData.int)) := fun l => by show (dats (tI l)).map PyData.list = _; rw [dats_tI]; rfl
  have h2 : ∀ l : List Int, SeqAt.shaped (.list (l.map PyData.int)) = true := fun l => by
    unfold SeqAt.shaped
    have e1 : PyData.canLay0 (.list (l.map PyData.int)) = true := lay_ints l
    have e2 : PyData.depth (.list (l.map PyData.int)) = 1 := by show PyData.depthAll (l.map PyData.int) + 1 = 1; rw [dep_ints]
    rw [e1, e2]; rfl
  have h3 : PyData.eqv (.list (a.map PyData.int)) (.list (b.map PyData.int)) = decide (a = b) := eqv_ints a b
  unfold eqT
  simp only [T.flat, h1, h2, and_self, if_true, h3]
theorem eqT_tC (a b : List (List Int)) : eqT (.lst (tC a)) (.lst (tC b)) = some (decide (a = b)) := by
  have h1 : ∀ l : List (List Int), (T.lst (tC l)).dat = some (.list (l.map fun c => PyData.list (c.map PyData.int))) := fun l => by show (dats (tC l)).map PyData.list = _; rw [dats_tC]; rfl
  have h2 : ∀ l : List (List Int), SeqAt.shaped (.list (l.map fun c => PyData.list (c.map PyData.int))) = true := fun l => by
    unfold SeqAt.shaped
    have e1 : PyData.canLay0 (.list (l.map fun c => PyData.list (c.map PyData.int))) = true := lay_intss l
    have e2 : PyData.depth (.list (l.map fun c => PyData.list (c.map PyData.int))) ≤ 2 := by
      show PyData.depthAll (l.map fun c => PyData.list (c.map PyData.int)) + 1 ≤ 2
      have := dep_intss l
      omega
    rw [e1, decide_eq_true (by omega)]; rfl
  have h3 : PyData.eqv (.list (a.map fun c => PyData.list (c.map PyData.int))) (.list (b.map fun c => PyData.list (c.map PyData.int))) = decide (a = b) := eqv_intss a b
  unfold eqT
  simp only [T.flat, h1, h2, and_self, if_true, h3]
/-! ### come_to -/
abbrev ctBody (Φ : Phi) : DS := (sSeq (sSet 4 (eFrz (ePop (pVar 3))))
 (sSeq (sSet 5 (eOfV (vOfN (nComp (jSeq (vOfP (pIdx (pVar 0) (vOfP (pVar 4))))) [6] (bName 6) (bCmp .NotIn (qOfP (pVar 6)) (qOfP (pVar 2))) (nOfV (vOfP (pVar 6)))))))
 (sSeq (sDrop (eExtend (pVar 2) (vOfP (pVar 5))))
 (sDrop (eExtend (pVar 3) (vOfP (pVar 5)))))))
abbrev ctTest : DBE := (beOfB (bCmp .NotEq (qOfP (pVar 3)) (vOfN (nLst nsNil))))
theorem ct_step {Φ : Phi} {cs : List (List Int)} (g : Gr cs) {p : Int} {found left : List Int} {x : Int} {a b : Option O} (hx : 0 ≤ x ∧ x < (cs.length : Nat)) (hf : found.length < 1000) (hl : left.length < 1000) (hn : (news cs found x).length < 1000) :
    ctBody Φ [some (.val (.lst (tC cs))), some (.val (.int p)), some (.lst (oI found)), some (.lst (oI (left ++ [x]))), a, b, none] =
      some (.nx, [some (.val (.lst (tC cs))), some (.val (.int p)), some (.lst (oI (found ++ news cs found x))), some (.lst (oI (left ++ news cs found x))), some (.val (.int x)), some (.val (.lst (tI (news cs found x)))), none]) := by
  have hg := compGo_flt (bd := bName 6) (c := bCmp .NotIn (qOfP (pVar 6)) (qOfP (pVar 2))) (d := nOfV (vOfP (pVar 6))) (e := [some (.val (.lst (tC cs))), some (.val (.int p)), some (.lst (oI found)), some (.lst (oI left)), some (.val (.int x)), b, none])
    (u := T.int) (g := fun y => .val (.int y)) (p := fun y => !decide (y ∈ found)) (b := ch cs x) fun y hy => by
      exact ⟨_, by simp [bName]; rfl, by simp [runF, sNil, sSeq, sIf, sDrop, sRet, sRetN, sBrk, sCnt, sNever, sSet, sAsg, sFor, sTupAsg, boNil, boCons, bName, bTup, btCons, btNil, bSub, eOfN, eOfV, eOfB, eFrz, eMove, eVar, eBin, eTup, eLst, eIdx, eIf, eCallU, eCallV, eMake, eAppend, eAppendN, eExtend, ePop, daNil, daCons, putB, nOfV, nLst, nsNil, nsCons, nBin, nCallB, nCallU, nCallM, nComp, nCopy, dLst, vC, vOfP, vOfN, vOfB, vTup, vLst, vBin, vNeg, vIf, vCut, vIdx, vItK, vCopyT, asNil, asCons, bAnd, bOr, bNot, bCmp, bChain, bIsi, bIsC, bOfV, bInK, bTrue, beOfB, beOfE, beCmp, beNot, beAnd, beOr, qOfP, pVar, pIdx, pAttr, oIdx, getF, getT, O.fz, fzs, fzf, cmpT, eqT, ltT, T.flat, flats, VS.isNon, scal, T.ty, isTy, iOfJ, jSeq, seqT, jRng1, jRng2, jEnum, VS.iRng1, iSeq, VS.iEnum, ixN, atI, idxT, oSome, oNone, outsE, sFldSet, putO, lenF, absF, intF, divF, wipeE, VS.binT, VS.lim, strEq, strBeq, fzs_app, fzs_oI, map_tI, oI_len, tI_len, oI_app, tI_app, oI_nil, tI_nil, oI_cons, tI_cons, tInts_tI, inT_tI], by simp [runF, sNil, sSeq, sIf, sDrop, sRet, sRetN, sBrk, sCnt, sNever, sSet, sAsg, sFor, sTupAsg, boNil, boCons, bName, bTup, btCons, btNil, bSub, eOfN, eOfV, eOfB, eFrz, eMove, eVar, eBin, eTup, eLst, eIdx, eIf, eCallU, eCallV, eMake, eAppend, eAppendN, eExtend, ePop, daNil, daCons, putB, nOfV, nLst, nsNil, nsCons, nBin, nCallB, nCallU, nCallM, nComp, nCopy, dLst, vC, vOfP, vOfN, vOfB, vTup, vLst, vBin, vNeg, vIf, vCut, vIdx, vItK, vCopyT, asNil, asCons, bAnd, bOr, bNot, bCmp, bChain, bIsi, bIsC, bOfV, bInK, bTrue, beOfB, beOfE, beCmp, beNot, beAnd, beOr, qOfP, pVar, pIdx, pAttr, oIdx, getF, getT, O.fz, fzs, fzf, cmpT, eqT, ltT, T.flat, flats, VS.isNon, scal, T.ty, isTy, iOfJ, jSeq, seqT, jRng1, jRng2, jEnum, VS.iRng1, iSeq, VS.iEnum, ixN, atI, idxT, oSome, oNone, outsE, sFldSet, putO, lenF, absF, intF, divF, wipeE, VS.binT, VS.lim]⟩
  have hcl : (ch cs x).length ≤ 100000 := by
    have := nd_len cs.length (ch cs x) (up_nodup (g.up _ (ch_mem hx))) (g.rng _ (ch_mem hx))
    have := g.n
    omega
  have hg' : compGo (bName 6) (bCmp .NotIn (qOfP (pVar 6)) (qOfP (pVar 2))) (nOfV (vOfP (pVar 6))) [some (.val (.lst (tC cs))), some (.val (.int p)), some (.lst (oI found)), some (.lst (oI left)), some (.val (.int x)), b, none] (tI (ch cs x)) = some (oI (news cs found x)) := hg
  have h1 : found.length + (news cs found x).length ≤ 100000 := by omega
  have h2 : left.length + (news cs found x).length ≤ 100000 := by omega
  simp [runF, sNil, sSeq, sIf, sDrop, sRet, sRetN, sBrk, sCnt, sNever, sSet, sAsg, sFor, sTupAsg, boNil, boCons, bName, bTup, btCons, btNil, bSub, eOfN, eOfV, eOfB, eFrz, eMove, eVar, eBin, eTup, eLst, eIdx, eIf, eCallU, eCallV, eMake, eAppend, eAppendN, eExtend, ePop, daNil, daCons, putB, nOfV, nLst, nsNil, nsCons, nBin, nCallB, nCallU, nCallM, nComp, nCopy, dLst, vC, vOfP, vOfN, vOfB, vTup, vLst, vBin, vNeg, vIf, vCut, vIdx, vItK, vCopyT, asNil, asCons, bAnd, bOr, bNot, bCmp, bChain, bIsi, bIsC, bOfV, bInK, bTrue, beOfB, beOfE, beCmp, beNot, beAnd, beOr, qOfP, pVar, pIdx, pAttr, oIdx, getF, getT, O.fz, fzs, fzf, cmpT, eqT, ltT, T.flat, flats, VS.isNon, scal, T.ty, isTy, iOfJ, jSeq, seqT, jRng1, jRng2, jEnum, VS.iRng1, iSeq, VS.iEnum, ixN, atI, idxT, oSome, oNone, outsE, sFldSet, putO, lenF, absF, intF, divF, wipeE, VS.binT, VS.lim, strEq, strBeq, fzs_app, fzs_oI, map_tI, oI_len, tI_len, oI_app, tI_app, oI_nil, tI_nil, oI_cons, tI_cons, tInts_tI, List.getLast?_concat, List.dropLast_concat, hx.1, hx.2, tC_len, tC_at hx, hcl, hg', h1, h2]

theorem ct_test {cs : List (List Int)} {p : Int} {found left : List Int} {a b : Option O} : ctTest [some (.val (.lst (tC cs))), some (.val (.int p)), some (.lst (oI found)), some (.lst (oI left)), a, b, none] = some (!decide (left = []), [some (.val (.lst (tC cs))), some (.val (.int p)), some (.lst (oI found)), some (.lst (oI left)), a, b, none]) := by
  have e : eqT (.lst (tI left)) (.lst []) = some (decide (left = [])) := eqT_tI left []
  simp [beOfB, bCmp, qOfP, pVar, vOfN, nLst, nsNil, O.fz, fzs, fzs_oI, cmpT, e]
structure CtI (cs : List (List Int)) (p : Int) (found left : List Int) : Prop where
  nd : found.Nodup
  rc : ∀ x ∈ found, Reach cs p x
  p : p ∈ found
  l : ∀ x ∈ left, x ∈ found
  cl : ∀ x ∈ found, x ∉ left → ∀ y ∈ ch cs x, y ∈ found
theorem ct_loop {Φ : Phi} {cs : List (List Int)} (g : Gr cs) {p : Int} (hp : 0 ≤ p ∧ p < (cs.length : Nat)) : ∀ (m : Nat) (found left : List Int) (a b : Option O), CtI cs p found left → 2 * (cs.length - found.length) + left.length < m → m < 500 →
    ∃ L a' b', whGo ctTest (ctBody Φ) m [some (.val (.lst (tC cs))), some (.val (.int p)), some (.lst (oI found)), some (.lst (oI left)), a, b, none] = some (.nx, [some (.val (.lst (tC cs))), some (.val (.int p)), some (.lst (oI L)), some (.lst (oI [])), a', b', none]) ∧ CtI cs p L []
  | 0, found, left, a, b, I, hm, _ => by omega
  | m + 1, found, left, a, b, I, hm, hl => by
    have rf : ∀ x ∈ found, 0 ≤ x ∧ x < (cs.length : Nat) := fun x hx => g.reach hp (I.rc x hx)
    have fl := nd_len cs.length found I.nd rf
    have gn := g.n
    by_cases h0 : left = []
    · subst h0
      exact ⟨found, a, b, by unfold whGo; rw [ct_test]; simp, I⟩
    · obtain ⟨left', x, rfl⟩ : ∃ l' x, left = l' ++ [x] := ⟨left.dropLast, left.getLast h0, (List.dropLast_concat_getLast h0).symm⟩
      have hxf : x ∈ found := I.l x (by simp)
      have hx := rf x hxf
      have nd2 := news_nodup g hx I.nd
      have rf2 : ∀ y ∈ found ++ news cs found x, 0 ≤ y ∧ y < (cs.length : Nat) := fun y hy => by
        rcases List.mem_append.mp hy with h | h
        · exact rf y h
        · exact g.ch hx (news_mem.mp h).1
      have fl2 := nd_len cs.length _ nd2 rf2
      rw [List.length_append] at fl2
      rw [List.length_append] at hm
      simp only [List.length_singleton] at hm
      have I2 : CtI cs p (found ++ news cs found x) (left' ++ news cs found x) := by
        refine ⟨nd2, fun y hy => ?_, List.mem_append_left _ I.p, fun y hy => ?_, fun y hy hn z hz => ?_⟩
        · rcases List.mem_append.mp hy with h | h
          · exact I.rc y h
          · exact .step (I.rc x hxf) (news_mem.mp h).1
        · rcases List.mem_append.mp hy with h | h
          · exact List.mem_append_left _ (I.l y (by simp [h]))
          · exact List.mem_append_right _ h
        · rcases List.mem_append.mp hy with h | h
          · by_cases e : y = x
            · subst e
              by_cases hzf : z ∈ found
              · exact List.mem_append_left _ hzf
              · exact List.mem_append_right _ (news_mem.mpr ⟨hz, hzf⟩)
            · exact List.mem_append_left _ (I.cl y h (by simp only [List.mem_append, List.mem_singleton, not_or] at hn ⊢; exact ⟨hn.1, e⟩) z hz)
          · exact absurd (List.mem_append_right _ h) hn
      obtain ⟨L, a', b', hw, IL⟩ := ct_loop (Φ := Φ) g hp m (found ++ news cs found x) (left' ++ news cs found x) (some (.val (.int x))) (some (.val (.lst (tI (news cs found x))))) I2 (by rw [List.length_append, List.length_append]; omega) (by omega)
      refine ⟨L, a', b', ?_, IL⟩
      unfold whGo
      rw [ct_test]
      have st := ct_step (Φ := Φ) g (p := p) (found := found) (left := left') (x := x) (a := a) (b := b) hx (by omega) (by omega) (by omega)
      simp only [show decide (left' ++ [x] = []) = false by simp, Bool.not_false, st, hw]

open Classical in
noncomputable def cm (cs : List (List Int)) (p : Int) : List Int := ssetI (((List.range cs.length).map fun i : Nat => (i : Int)).filter fun x => decide (Reach cs p x))
theorem cm_up (cs : List (List Int)) (p : Int) : (cm cs p).Pairwise (· < ·) := ssetI_up _
theorem cm_mem {cs : List (List Int)} (g : Gr cs) {p : Int} (hp : 0 ≤ p ∧ p < (cs.length : Nat)) {x : Int} : x ∈ cm cs p ↔ Reach cs p x := by
  unfold cm
  rw [ssetI_mem, List.mem_filter]
  simp only [decide_eq_true_eq]
  refine ⟨fun h => h.2, fun h => ⟨?_, h⟩⟩
  have := g.reach hp h
  rw [List.mem_map]
  exact ⟨x.toNat, List.mem_range.mpr (by omega), by omega⟩
theorem cm_rng {cs : List (List Int)} (g : Gr cs) {p : Int} (hp : 0 ≤ p ∧ p < (cs.length : Nat)) {x : Int} (h : x ∈ cm cs p) : 0 ≤ x ∧ x < (cs.length : Nat) := g.reach hp ((cm_mem g hp).mp h)
theorem closed_reach {cs : List (List Int)} {p : Int} {L : List Int} (hp : p ∈ L) (cl : ∀ x ∈ L, ∀ y ∈ ch cs x, y ∈ L) : ∀ x, Reach cs p x → x ∈ L := fun x h => by
  induction h with
  | refl => exact hp
  | step _ h ih => exact cl _ ih _ h
theorem come_eq {cs : List (List Int)} (g : Gr cs) {p : Int} (hp : 0 ≤ p ∧ p < (cs.length : Nat)) (k : Nat) : (PhiN (k + 1)).f_come_to [.val (.lst (tC cs)), .val (.int p)] = some (.lst (oI (cm cs p)), []) := by
  have gn := g.n
  obtain ⟨L, a', b', hw, I⟩ := ct_loop (Φ := PhiN k) g hp 400 [p] [p] none none ⟨by simp, fun x hx => by simp at hx; subst hx; exact .refl, by simp, fun x hx => hx, fun x hx hn => absurd hx hn⟩ (by simp; omega) (by omega)
  have hs := sWhile_eq hw
  have eL : sortI L = cm cs p := by
    have perm := sortI_perm L
    refine up_the ?_ (cm_up cs p) fun x => ?_
    · have u := sortI_up L
      have nd : (sortI L).Nodup := perm.nodup_iff.mpr I.nd
      exact (List.pairwise_and_iff.mpr ⟨u, nd⟩).imp fun h => by have := h.1; have := h.2; omega
    · rw [perm.mem_iff, cm_mem g hp]
      exact ⟨fun h => I.rc x h, fun h => closed_reach I.p (fun x hx y hy => I.cl x hx (by simp) y hy) x h⟩
  have hs' : sWhile ctTest (ctBody (PhiN k)) [some (.val (.lst (tC cs))), some (.val (.int p)), some (.lst [.val (.int p)]), some (.lst [.val (.int p)]), none, none, none] = _ := hs
  have hsort : sortF [.lst (tI L)] = some (.lst (oI (cm cs p))) := by unfold sortF; simp only [tInts_tI, Option.map_some, eL]; rfl
  rw [e_f_come_to]
  simp only [d_f_come_to]
  simp [runF, sNil, sSeq, sIf, sDrop, sRet, sRetN, sBrk, sCnt, sNever, sSet, sAsg, sFor, sTupAsg, boNil, boCons, bName, bTup, btCons, btNil, bSub, eOfN, eOfV, eOfB, eFrz, eMove, eVar, eBin, eTup, eLst, eIdx, eIf, eCallU, eCallV, eMake, eAppend, eAppendN, eExtend, ePop, daNil, daCons, putB, nOfV, nLst, nsNil, nsCons, nBin, nCallB, nCallU, nCallM, nComp, nCopy, dLst, vC, vOfP, vOfN, vOfB, vTup, vLst, vBin, vNeg, vIf, vCut, vIdx, vItK, vCopyT, asNil, asCons, bAnd, bOr, bNot, bCmp, bChain, bIsi, bIsC, bOfV, bInK, bTrue, beOfB, beOfE, beCmp, beNot, beAnd, beOr, qOfP, pVar, pIdx, pAttr, oIdx, getF, getT, O.fz, fzs, fzf, cmpT, eqT, ltT, T.flat, flats, VS.isNon, scal, T.ty, isTy, iOfJ, jSeq, seqT, jRng1, jRng2, jEnum, VS.iRng1, iSeq, VS.iEnum, ixN, atI, idxT, oSome, oNone, outsE, sFldSet, putO, lenF, absF, intF, divF, wipeE, VS.binT, VS.lim, strEq, strBeq, fzs_app, fzs_oI, map_tI, oI_len, tI_len, oI_app, tI_app, oI_nil, tI_nil, oI_cons, tI_cons, tInts_tI, hs', hsort]
end VW
namespace VW
open PySem L2 VS
/-! ### the law's own rounds -/
abbrev roIn : DS := (sDrop (eExtend (pVar 2) (vOfN (nComp (jSeq (vOfP (pIdx (pVar 0) (vOfP (pVar 4))))) [5] (bName 5) (bCmp .NotIn (qOfP (pVar 5)) (qOfP (pVar 2))) (nOfV (vOfP (pVar 5)))))))
abbrev roOut : DS := (sFor (iOfJ (jSeq (vOfN (nCopy (pVar 2))))) (bName 4) roIn)
abbrev roE (cs : List (List Int)) (p : Int) (F : List Int) (a b : Option O) : VS.Env := [some (.val (.lst (tC cs))), some (.val (.int p)), some (.lst (oI F)), a, b, none]
structure RoI (cs : List (List Int)) (p : Int) (F : List Int) : Prop where
  nd : F.Nodup
  rc : ∀ x ∈ F, Reach cs p x
  p : p ∈ F
def Clo (cs : List (List Int)) (F : List Int) : Prop := ∀ x ∈ F, ∀ y ∈ ch cs x, y ∈ F
theorem ro_len {cs : List (List Int)} (g : Gr cs) {p : Int} (hp : 0 ≤ p ∧ p < (cs.length : Nat)) {F : List Int} (I : RoI cs p F) : F.length ≤ cs.length := nd_len cs.length F I.nd fun x hx => g.reach hp (I.rc x hx)
theorem ro_news {cs : List (List Int)} (g : Gr cs) {p : Int} (hp : 0 ≤ p ∧ p < (cs.length : Nat)) {F : List Int} (I : RoI cs p F) {x : Int} (hx : Reach cs p x) : RoI cs p (F ++ news cs F x) := by
  refine ⟨news_nodup g (g.reach hp hx) I.nd, fun y hy => ?_, List.mem_append_left _ I.p⟩
  rcases List.mem_append.mp hy with h | h
  · exact I.rc y h
  · exact .step hx (news_mem.mp h).1
theorem ro_in {cs : List (List Int)} (g : Gr cs) {p : Int} (hp : 0 ≤ p ∧ p < (cs.length : Nat)) : ∀ (xs F : List Int) (a b : Option O), RoI cs p F → (∀ x ∈ xs, Reach cs p x) →
    ∃ E b', forGo (bName 4) roIn (tI xs) (roE cs p F a b) = some (.nx, roE cs p (F ++ E) a b') ∧ RoI cs p (F ++ E) ∧ (∀ x ∈ xs, ∀ y ∈ ch cs x, y ∈ F ++ E) ∧ (Clo cs F → (∀ x ∈ xs, x ∈ F) → E = [])
  | [], F, a, b, I, _ => ⟨[], b, by simp [tI_nil, forGo], by simpa using I, (fun x hx => by cases hx), fun _ _ => rfl⟩
  | x :: xs, F, a, b, I, hr => by
    have hxr := hr x List.mem_cons_self
    have hx := g.reach hp hxr
    have I2 := ro_news g hp I hxr
    have l2 := ro_len g hp I2
    rw [List.length_append] at l2
    have gn := g.n
    have hg := compGo_flt (bd := bName 5) (c := bCmp .NotIn (qOfP (pVar 5)) (qOfP (pVar 2))) (d := nOfV (vOfP (pVar 5))) (e := roE cs p F a (some (.val (.int x))))
      (u := T.int) (g := fun y => .val (.int y)) (p := fun y => !decide (y ∈ F)) (b := ch cs x) fun y hy => by
        exact ⟨_, by simp [bName, roE]; rfl, by simp [runF, sNil, sSeq, sIf, sDrop, sRet, sRetN, sBrk, sCnt, sNever, sSet, sAsg, sFor, sTupAsg, boNil, boCons, bName, bTup, btCons, btNil, bSub, eOfN, eOfV, eOfB, eFrz, eMove, eVar, eBin, eTup, eLst, eIdx, eIf, eCallU, eCallV, eMake, eAppend, eAppendN, eExtend, ePop, daNil, daCons, putB, nOfV, nLst, nsNil, nsCons, nBin, nCallB, nCallU, nCallM, nComp, nCopy, dLst, vC, vOfP, vOfN, vOfB, vTup, vLst, vBin, vNeg, vIf, vCut, vIdx, vItK, vCopyT, asNil, asCons, bAnd, bOr, bNot, bCmp, bChain, bIsi, bIsC, bOfV, bInK, bTrue, beOfB, beOfE, beCmp, beNot, beAnd, beOr, qOfP, pVar, pIdx, pAttr, oIdx, getF, getT, O.fz, fzs, fzf, cmpT, eqT, ltT, T.flat, flats, VS.isNon, scal, T.ty, isTy, iOfJ, jSeq, seqT, jRng1, jRng2, jEnum, VS.iRng1, iSeq, VS.iEnum, ixN, atI, idxT, oSome, oNone, outsE, sFldSet, putO, lenF, absF, intF, divF, wipeE, VS.binT, VS.lim, strEq, strBeq, fzs_app, fzs_oI, map_tI, oI_len, tI_len, oI_app, tI_app, oI_nil, tI_nil, oI_cons, tI_cons, tInts_tI, inT_tI], by simp [runF, sNil, sSeq, sIf, sDrop, sRet, sRetN, sBrk, sCnt, sNever, sSet, sAsg, sFor, sTupAsg, boNil, boCons, bName, bTup, btCons, btNil, bSub, eOfN, eOfV, eOfB, eFrz, eMove, eVar, eBin, eTup, eLst, eIdx, eIf, eCallU, eCallV, eMake, eAppend, eAppendN, eExtend, ePop, daNil, daCons, putB, nOfV, nLst, nsNil, nsCons, nBin, nCallB, nCallU, nCallM, nComp, nCopy, dLst, vC, vOfP, vOfN, vOfB, vTup, vLst, vBin, vNeg, vIf, vCut, vIdx, vItK, vCopyT, asNil, asCons, bAnd, bOr, bNot, bCmp, bChain, bIsi, bIsC, bOfV, bInK, bTrue, beOfB, beOfE, beCmp, beNot, beAnd, beOr, qOfP, pVar, pIdx, pAttr, oIdx, getF, getT, O.fz, fzs, fzf, cmpT, eqT, ltT, T.flat, flats, VS.isNon, scal, T.ty, isTy, iOfJ, jSeq, seqT, jRng1, jRng2, jEnum, VS.iRng1, iSeq, VS.iEnum, ixN, atI, idxT, oSome, oNone, outsE, sFldSet, putO, lenF, absF, intF, divF, wipeE, VS.binT, VS.lim]⟩
    have hcl : (ch cs x).length ≤ 100000 := by
      have := nd_len cs.length (ch cs x) (up_nodup (g.up _ (ch_mem hx))) (g.rng _ (ch_mem hx))
      omega
    have hg' : compGo (bName 5) (bCmp .NotIn (qOfP (pVar 5)) (qOfP (pVar 2))) (nOfV (vOfP (pVar 5))) (roE cs p F a (some (.val (.int x)))) (tI (ch cs x)) = some (oI (news cs F x)) := hg
    have h1 : F.length + (news cs F x).length ≤ 100000 := by omega
    have st : roIn (roE cs p F a (some (.val (.int x)))) = some (.nx, roE cs p (F ++ news cs F x) a (some (.val (.int x)))) := by
      simp [runF, sNil, sSeq, sIf, sDrop, sRet, sRetN, sBrk, sCnt, sNever, sSet, sAsg, sFor, sTupAsg, boNil, boCons, bName, bTup, btCons, btNil, bSub, eOfN, eOfV, eOfB, eFrz, eMove, eVar, eBin, eTup, eLst, eIdx, eIf, eCallU, eCallV, eMake, eAppend, eAppendN, eExtend, ePop, daNil, daCons, putB, nOfV, nLst, nsNil, nsCons, nBin, nCallB, nCallU, nCallM, nComp, nCopy, dLst, vC, vOfP, vOfN, vOfB, vTup, vLst, vBin, vNeg, vIf, vCut, vIdx, vItK, vCopyT, asNil, asCons, bAnd, bOr, bNot, bCmp, bChain, bIsi, bIsC, bOfV, bInK, bTrue, beOfB, beOfE, beCmp, beNot, beAnd, beOr, qOfP, pVar, pIdx, pAttr, oIdx, getF, getT, O.fz, fzs, fzf, cmpT, eqT, ltT, T.flat, flats, VS.isNon, scal, T.ty, isTy, iOfJ, jSeq, seqT, jRng1, jRng2, jEnum, VS.iRng1, iSeq, VS.iEnum, ixN, atI, idxT, oSome, oNone, outsE, sFldSet, putO, lenF, absF, intF, divF, wipeE, VS.binT, VS.lim, strEq, strBeq, fzs_app, fzs_oI, map_tI, oI_len, tI_len, oI_app, tI_app, oI_nil, tI_nil, oI_cons, tI_cons, tInts_tI, hx.1, hx.2, tC_len, tC_at hx, hcl, hg', h1, roE] at hg' ⊢
    obtain ⟨E, b', he, hI, hc, hz⟩ := ro_in g hp xs (F ++ news cs F x) a (some (.val (.int x))) I2 fun y hy => hr y (List.mem_cons_of_mem _ hy)
    have hb : bName 4 (.val (.int x)) (roE cs p F a b) = some (roE cs p F a (some (.val (.int x)))) := by simp [bName, roE]
    refine ⟨news cs F x ++ E, b', ?_, by rw [← List.append_assoc]; exact hI, fun z hz2 y hy => ?_, fun hcl hin => ?_⟩
    · rw [tI_cons]
      simp only [forGo, hb, st, he, List.append_assoc]
    · rw [← List.append_assoc]
      rcases List.mem_cons.mp hz2 with e | h
      · subst e
        apply List.mem_append_left
        by_cases hyf : y ∈ F
        · exact List.mem_append_left _ hyf
        · exact List.mem_append_right _ (news_mem.mpr ⟨hy, hyf⟩)
      · exact hc z h y hy
    · have e0 : news cs F x = [] := by
        refine List.eq_nil_iff_forall_not_mem.mpr fun y hy => ?_
        have := news_mem.mp hy
        exact this.2 (hcl x (hin x List.mem_cons_self) y this.1)
      rw [e0, List.append_nil] at hz
      rw [e0, List.nil_append]
      exact hz hcl fun z hz2 => hin z (List.mem_cons_of_mem _ hz2)
theorem ro_out {cs : List (List Int)} (g : Gr cs) {p : Int} (hp : 0 ≤ p ∧ p < (cs.length : Nat)) : ∀ (ts : List T) (r : Nat) (F : List Int) (a b : Option O), RoI cs p F → (Clo cs F ∨ r + 1 ≤ F.length) →
    ∃ F' a' b', forGo (bName 3) roOut ts (roE cs p F a b) = some (.nx, roE cs p F' a' b') ∧ RoI cs p F' ∧ (Clo cs F' ∨ r + ts.length + 1 ≤ F'.length)
  | [], r, F, a, b, I, h => ⟨F, a, b, by simp [forGo], I, by simpa using h⟩
  | t :: ts, r, F, a, b, I, h => by
    have hb : bName 3 (.val t) (roE cs p F a b) = some (roE cs p F (some (.val t)) b) := by simp [bName, roE]
    obtain ⟨E, b', he, hI, hc, hz⟩ := ro_in g hp F F (some (.val t)) b I I.rc
    have st : roOut (roE cs p F (some (.val t)) b) = some (.nx, roE cs p (F ++ E) (some (.val t)) b') := by
      have e1 : iOfJ (jSeq (vOfN (nCopy (pVar 2)))) (roE cs p F (some (.val t)) b) = some (tI F, roE cs p F (some (.val t)) b) := by
        have : tVals (oI F) = some (tI F) := by rw [← map_tI]; exact tVals_of _
        simp [runF, sNil, sSeq, sIf, sDrop, sRet, sRetN, sBrk, sCnt, sNever, sSet, sAsg, sFor, sTupAsg, boNil, boCons, bName, bTup, btCons, btNil, bSub, eOfN, eOfV, eOfB, eFrz, eMove, eVar, eBin, eTup, eLst, eIdx, eIf, eCallU, eCallV, eMake, eAppend, eAppendN, eExtend, ePop, daNil, daCons, putB, nOfV, nLst, nsNil, nsCons, nBin, nCallB, nCallU, nCallM, nComp, nCopy, dLst, vC, vOfP, vOfN, vOfB, vTup, vLst, vBin, vNeg, vIf, vCut, vIdx, vItK, vCopyT, asNil, asCons, bAnd, bOr, bNot, bCmp, bChain, bIsi, bIsC, bOfV, bInK, bTrue, beOfB, beOfE, beCmp, beNot, beAnd, beOr, qOfP, pVar, pIdx, pAttr, oIdx, getF, getT, O.fz, fzs, fzf, cmpT, eqT, ltT, T.flat, flats, VS.isNon, scal, T.ty, isTy, iOfJ, jSeq, seqT, jRng1, jRng2, jEnum, VS.iRng1, iSeq, VS.iEnum, ixN, atI, idxT, oSome, oNone, outsE, sFldSet, putO, lenF, absF, intF, divF, wipeE, VS.binT, VS.lim, roE, this, map_tI, fzs_oI]
      show sFor _ _ _ _ = _
      unfold sFor
      rw [e1]
      exact he
    obtain ⟨F', a', b2, h1, h2, h3⟩ := ro_out g hp ts (r + 1) (F ++ E) (some (.val t)) b' hI (by
      rcases h with h | h
      · left
        rw [hz h fun x hx => hx, List.append_nil]
        exact h
      · by_cases hE : E = []
        · left
          subst hE
          rw [List.append_nil] at hc ⊢
          exact hc
        · right
          have : 0 < E.length := List.length_pos_iff.mpr hE
          rw [List.length_append]
          omega)
    refine ⟨F', a', b2, ?_, h2, ?_⟩
    · simp only [forGo, hb, st, h1]
    · rw [List.length_cons]
      rcases h3 with h | h
      · exact .inl h
      · right; omega
theorem lcome_eq {cs : List (List Int)} (g : Gr cs) {p : Int} (hp : 0 ≤ p ∧ p < (cs.length : Nat)) (k : Nat) : (PhiN (k + 1)).f__law_come [.val (.lst (tC cs)), .val (.int p)] = some (.lst (oI (cm cs p)), []) := by
  obtain ⟨F, a', b', h1, I, h3⟩ := ro_out g hp (tC cs) 0 [p] none none ⟨by simp, fun x hx => by simp at hx; subst hx; exact .refl, by simp⟩ (.inr (by simp))
  have hl := ro_len g hp I
  have gn := g.n
  have cl : Clo cs F := by
    rcases h3 with h | h
    · exact h
    · rw [tC_len] at h; omega
  have e : cm cs p = ssetI F := ssetI_the (cm_up cs p) fun x => by
    rw [cm_mem g hp]
    exact ⟨fun h => closed_reach I.p cl x h, fun h => I.rc x h⟩
  have h1' : forGo (bName 3) roOut (tC cs) [some (.val (.lst (tC cs))), some (.val (.int p)), some (.lst [.val (.int p)]), none, none, none] = _ := h1
  rw [e_f__law_come]
  simp only [d_f__law_come]
  simp [runF, sNil, sSeq, sIf, sDrop, sRet, sRetN, sBrk, sCnt, sNever, sSet, sAsg, sFor, sTupAsg, boNil, boCons, bName, bTup, btCons, btNil, bSub, eOfN, eOfV, eOfB, eFrz, eMove, eVar, eBin, eTup, eLst, eIdx, eIf, eCallU, eCallV, eMake, eAppend, eAppendN, eExtend, ePop, daNil, daCons, putB, nOfV, nLst, nsNil, nsCons, nBin, nCallB, nCallU, nCallM, nComp, nCopy, dLst, vC, vOfP, vOfN, vOfB, vTup, vLst, vBin, vNeg, vIf, vCut, vIdx, vItK, vCopyT, asNil, asCons, bAnd, bOr, bNot, bCmp, bChain, bIsi, bIsC, bOfV, bInK, bTrue, beOfB, beOfE, beCmp, beNot, beAnd, beOr, qOfP, pVar, pIdx, pAttr, oIdx, getF, getT, O.fz, fzs, fzf, cmpT, eqT, ltT, T.flat, flats, VS.isNon, scal, T.ty, isTy, iOfJ, jSeq, seqT, jRng1, jRng2, jEnum, VS.iRng1, iSeq, VS.iEnum, ixN, atI, idxT, oSome, oNone, outsE, sFldSet, putO, lenF, absF, intF, divF, wipeE, VS.binT, VS.lim, h1', strEq, strBeq, fzs_app, fzs_oI, map_tI, oI_len, tI_len, oI_app, tI_app, oI_nil, tI_nil, oI_cons, tI_cons, tInts_tI, ssetF_oI (show F.length < 64 by omega), e]
end VW
namespace VW
open PySem L2 VS
theorem fzs_bls {α : Type} (l : List α) (f : α → Bool) : fzs (l.map fun x => O.val (.bl (f x))) = (l.map f).map T.bl := by
  rw [fzs_map]; simp [O.fz]
theorem anyF_bls (bs : List Bool) : anyF [.lst (bs.map T.bl)] = some (.val (.bl (bs.any id))) := by
  unfold anyF; simp only [tBls_of, Option.map_some]
/-! ### rings -/
noncomputable def ring (cs : List (List Int)) (p : Int) : Bool := (ch cs p).any fun y => decide (p ∈ cm cs y)
theorem ch_len {cs : List (List Int)} (g : Gr cs) {p : Int} (hp : 0 ≤ p ∧ p < (cs.length : Nat)) : (ch cs p).length ≤ 4 := by
  have := nd_len cs.length (ch cs p) (up_nodup (g.up _ (ch_mem hp))) (g.rng _ (ch_mem hp))
  have := g.n
  omega
theorem cm_len {cs : List (List Int)} (g : Gr cs) {p : Int} (hp : 0 ≤ p ∧ p < (cs.length : Nat)) : (cm cs p).length ≤ cs.length :=
  nd_len cs.length (cm cs p) (up_nodup (cm_up cs p)) fun x hx => cm_rng g hp hx
theorem ring_eq {cs : List (List Int)} (g : Gr cs) {p : Int} (hp : 0 ≤ p ∧ p < (cs.length : Nat)) (k : Nat) : (PhiN (k + 2)).f_is_in_ring [.val (.lst (tC cs)), .val (.int p)] = some (.val (.bl (ring cs p)), []) := by
  have hg := compGo_of (bd := bName 2) (c := bTrue) (d := nOfV (vOfB (bCmp .In (qOfP (pVar 1)) (vOfN (nCallU (PhiN (k + 1)).f_come_to [] (asCons (vOfP (pVar 0)) (asCons (vOfP (pVar 2)) asNil))))))) (e := [some (.val (.lst (tC cs))), some (.val (.int p)), none])
    (u := T.int) (g := fun y => .val (.bl (decide (p ∈ cm cs y)))) (b := ch cs p) fun y hy => by
      have hy' := g.ch hp hy
      exact ⟨_, by simp [bName]; rfl, rfl, by simp [runF, sNil, sSeq, sIf, sDrop, sRet, sRetN, sBrk, sCnt, sNever, sSet, sAsg, sFor, sTupAsg, boNil, boCons, bName, bTup, btCons, btNil, bSub, eOfN, eOfV, eOfB, eFrz, eMove, eVar, eBin, eTup, eLst, eIdx, eIf, eCallU, eCallV, eMake, eAppend, eAppendN, eExtend, ePop, daNil, daCons, putB, nOfV, nLst, nsNil, nsCons, nBin, nCallB, nCallU, nCallM, nComp, nCopy, dLst, vC, vOfP, vOfN, vOfB, vTup, vLst, vBin, vNeg, vIf, vCut, vIdx, vItK, vCopyT, asNil, asCons, bAnd, bOr, bNot, bCmp, bChain, bIsi, bIsC, bOfV, bInK, bTrue, beOfB, beOfE, beCmp, beNot, beAnd, beOr, qOfP, pVar, pIdx, pAttr, oIdx, getF, getT, O.fz, fzs, fzf, cmpT, eqT, ltT, T.flat, flats, VS.isNon, scal, T.ty, isTy, iOfJ, jSeq, seqT, jRng1, jRng2, jEnum, VS.iRng1, iSeq, VS.iEnum, ixN, atI, idxT, oSome, oNone, outsE, sFldSet, putO, lenF, absF, intF, divF, wipeE, VS.binT, VS.lim, come_eq g hy', strEq, strBeq, fzs_app, fzs_oI, map_tI, oI_len, tI_len, oI_app, tI_app, oI_nil, tI_nil, oI_cons, tI_cons, tInts_tI, inT_tI]⟩
  have hg' : compGo (bName 2) bTrue (nOfV (vOfB (bCmp .In (qOfP (pVar 1)) (vOfN (nCallU (PhiN (k + 1)).f_come_to [] (asCons (vOfP (pVar 0)) (asCons (vOfP (pVar 2)) asNil))))))) [some (.val (.lst (tC cs))), some (.val (.int p)), none] (tI (ch cs p)) = _ := hg
  have hll : (ch cs p).length ≤ 100000 := by have := ch_len g hp; omega
  rw [e_f_is_in_ring]
  simp only [d_f_is_in_ring]
  simp [runF, sNil, sSeq, sIf, sDrop, sRet, sRetN, sBrk, sCnt, sNever, sSet, sAsg, sFor, sTupAsg, boNil, boCons, bName, bTup, btCons, btNil, bSub, eOfN, eOfV, eOfB, eFrz, eMove, eVar, eBin, eTup, eLst, eIdx, eIf, eCallU, eCallV, eMake, eAppend, eAppendN, eExtend, ePop, daNil, daCons, putB, nOfV, nLst, nsNil, nsCons, nBin, nCallB, nCallU, nCallM, nComp, nCopy, dLst, vC, vOfP, vOfN, vOfB, vTup, vLst, vBin, vNeg, vIf, vCut, vIdx, vItK, vCopyT, asNil, asCons, bAnd, bOr, bNot, bCmp, bChain, bIsi, bIsC, bOfV, bInK, bTrue, beOfB, beOfE, beCmp, beNot, beAnd, beOr, qOfP, pVar, pIdx, pAttr, oIdx, getF, getT, O.fz, fzs, fzf, cmpT, eqT, ltT, T.flat, flats, VS.isNon, scal, T.ty, isTy, iOfJ, jSeq, seqT, jRng1, jRng2, jEnum, VS.iRng1, iSeq, VS.iEnum, ixN, atI, idxT, oSome, oNone, outsE, sFldSet, putO, lenF, absF, intF, divF, wipeE, VS.binT, VS.lim, strEq, strBeq, fzs_app, fzs_oI, map_tI, oI_len, tI_len, oI_app, tI_app, oI_nil, tI_nil, oI_cons, tI_cons, tInts_tI, hp.1, hp.2, tC_len, tC_at hp, hg', hll, fzs_bls, anyF_bls]
  rw [← List.map_map, anyF_bls]
  simp [ring]
/-- to which the threads come -/
noncomputable def ctm (cs : List (List Int)) (ths : List Int) : List Int := ths.flatMap (cm cs)
structure GoodT (cs : List (List Int)) (ths : List Int) : Prop where
  g : Gr cs
  t1 : 1 ≤ ths.length
  t2 : ths.length ≤ 3
  t : ∀ x ∈ ths, 0 ≤ x ∧ x < (cs.length : Nat)
theorem ctm_len {cs : List (List Int)} (g : Gr cs) : ∀ ths : List Int, (∀ x ∈ ths, 0 ≤ x ∧ x < (cs.length : Nat)) → (ctm cs ths).length ≤ 4 * ths.length
  | [], _ => by simp [ctm]
  | p :: ths, h => by
    have h1 := cm_len g (h p List.mem_cons_self)
    have h2 := ctm_len g ths fun x hx => h x (List.mem_cons_of_mem _ hx)
    have gn := g.n
    have e : ctm cs (p :: ths) = cm cs p ++ ctm cs ths := by simp [ctm]
    rw [e, List.length_append, List.length_cons]
    omega
abbrev cbE (pr : T) (cs : List (List Int)) (F : List Int) (a : Option O) : VS.Env := [some (.val pr), some (.val (.lst (tC cs))), some (.lst (oI F)), a]
theorem cb_loop {cs : List (List Int)} (g : Gr cs) {pr : T} (k : Nat) : ∀ (ths F : List Int) (a : Option O), (∀ x ∈ ths, 0 ≤ x ∧ x < (cs.length : Nat)) → F.length + 4 * ths.length < 1000 →
    ∃ a', forGo (bName 3) (sDrop (eExtend (pVar 2) (vOfN (nCallU (PhiN (k + 1)).f_come_to [] (asCons (vOfP (pVar 1)) (asCons (vOfP (pVar 3)) asNil)))))) (tI ths) (cbE pr cs F a) = some (.nx, cbE pr cs (F ++ ctm cs ths) a')
  | [], F, a, _, _ => ⟨a, by simp [tI_nil, forGo, ctm]⟩
  | p :: ths, F, a, h, hl => by
    have hp := h p List.mem_cons_self
    have h1 := cm_len g hp
    have gn := g.n
    rw [List.length_cons] at hl
    have hb : bName 3 (.val (.int p)) (cbE pr cs F a) = some (cbE pr cs F (some (.val (.int p)))) := by simp [bName, cbE]
    have h2 : F.length + (cm cs p).length ≤ 100000 := by omega
    have st : sDrop (eExtend (pVar 2) (vOfN (nCallU (PhiN (k + 1)).f_come_to [] (asCons (vOfP (pVar 1)) (asCons (vOfP (pVar 3)) asNil))))) (cbE pr cs F (some (.val (.int p)))) = some (.nx, cbE pr cs (F ++ cm cs p) (some (.val (.int p)))) := by
      simp [runF, sNil, sSeq, sIf, sDrop, sRet, sRetN, sBrk, sCnt, sNever, sSet, sAsg, sFor, sTupAsg, boNil, boCons, bName, bTup, btCons, btNil, bSub, eOfN, eOfV, eOfB, eFrz, eMove, eVar, eBin, eTup, eLst, eIdx, eIf, eCallU, eCallV, eMake, eAppend, eAppendN, eExtend, ePop, daNil, daCons, putB, nOfV, nLst, nsNil, nsCons, nBin, nCallB, nCallU, nCallM, nComp, nCopy, dLst, vC, vOfP, vOfN, vOfB, vTup, vLst, vBin, vNeg, vIf, vCut, vIdx, vItK, vCopyT, asNil, asCons, bAnd, bOr, bNot, bCmp, bChain, bIsi, bIsC, bOfV, bInK, bTrue, beOfB, beOfE, beCmp, beNot, beAnd, beOr, qOfP, pVar, pIdx, pAttr, oIdx, getF, getT, O.fz, fzs, fzf, cmpT, eqT, ltT, T.flat, flats, VS.isNon, scal, T.ty, isTy, iOfJ, jSeq, seqT, jRng1, jRng2, jEnum, VS.iRng1, iSeq, VS.iEnum, ixN, atI, idxT, oSome, oNone, outsE, sFldSet, putO, lenF, absF, intF, divF, wipeE, VS.binT, VS.lim, strEq, strBeq, fzs_app, fzs_oI, map_tI, oI_len, tI_len, oI_app, tI_app, oI_nil, tI_nil, oI_cons, tI_cons, tInts_tI, cbE, come_eq g hp, h2]
    obtain ⟨a', he⟩ := cb_loop g (pr := pr) k ths (F ++ cm cs p) (some (.val (.int p))) (fun x hx => h x (List.mem_cons_of_mem _ hx)) (by rw [List.length_append]; omega)
    have e : ctm cs (p :: ths) = cm cs p ++ ctm cs ths := by simp [ctm]
    exact ⟨a', by rw [tI_cons]; simp only [forGo, hb, st, he, e, List.append_assoc]⟩
theorem cbt_eq {bs : List (List Sm)} {ths : List Int} {cs : List (List Int)} (h : GoodT cs ths) (k : Nat) : (PhiN (k + 2)).f_come_to_by_threads [.val (prT bs ths), .val (.lst (tC cs))] = some (.lst (oI (ssetI (ctm cs ths))), []) := by
  have t2 := h.t2
  obtain ⟨a', he⟩ := cb_loop h.g (pr := prT bs ths) k ths [] none h.t (by simp; omega)
  have hl := ctm_len h.g ths h.t
  have he' : forGo (bName 3) (sDrop (eExtend (pVar 2) (vOfN (nCallU (PhiN (k + 1)).f_come_to [] (asCons (vOfP (pVar 1)) (asCons (vOfP (pVar 3)) asNil)))))) (tI ths) [some (.val (prT bs ths)), some (.val (.lst (tC cs))), some (.lst []), none] = _ := he
  rw [e_f_come_to_by_threads]
  simp only [d_f_come_to_by_threads]
  simp only [List.nil_append] at he'
  simp [runF, sNil, sSeq, sIf, sDrop, sRet, sRetN, sBrk, sCnt, sNever, sSet, sAsg, sFor, sTupAsg, boNil, boCons, bName, bTup, btCons, btNil, bSub, eOfN, eOfV, eOfB, eFrz, eMove, eVar, eBin, eTup, eLst, eIdx, eIf, eCallU, eCallV, eMake, eAppend, eAppendN, eExtend, ePop, daNil, daCons, putB, nOfV, nLst, nsNil, nsCons, nBin, nCallB, nCallU, nCallM, nComp, nCopy, dLst, vC, vOfP, vOfN, vOfB, vTup, vLst, vBin, vNeg, vIf, vCut, vIdx, vItK, vCopyT, asNil, asCons, bAnd, bOr, bNot, bCmp, bChain, bIsi, bIsC, bOfV, bInK, bTrue, beOfB, beOfE, beCmp, beNot, beAnd, beOr, qOfP, pVar, pIdx, pAttr, oIdx, getF, getT, O.fz, fzs, fzf, cmpT, eqT, ltT, T.flat, flats, VS.isNon, scal, T.ty, isTy, iOfJ, jSeq, seqT, jRng1, jRng2, jEnum, VS.iRng1, iSeq, VS.iEnum, ixN, atI, idxT, oSome, oNone, outsE, sFldSet, putO, lenF, absF, intF, divF, wipeE, VS.binT, VS.lim, strEq, strBeq, fzs_app, fzs_oI, map_tI, oI_len, tI_len, oI_app, tI_app, oI_nil, tI_nil, oI_cons, tI_cons, tInts_tI, threadsM_eq, he', ssetF_oI (show (ctm cs ths).length < 64 by omega)]
noncomputable def recB (cs : List (List Int)) (ths : List Int) : Bool := (ssetI (ctm cs ths)).any (ring cs)
theorem rec_eq {bs : List (List Sm)} {ths : List Int} (h : GoodP bs ths) (hT : GoodT (css bs) ths) (k : Nat) : (PhiN (k + 5)).f_is_recursive [.val (prT bs ths)] = some (.val (.bl (recB (css bs) ths)), []) := by
  have hl := ctm_len hT.g ths hT.t
  have t2 := hT.t2
  have hg := compGo_of (bd := bName 3) (c := bTrue) (d := nCallU (PhiN (k + 4)).f_is_in_ring [] (asCons (vOfP (pVar 2)) (asCons (vOfP (pVar 3)) asNil))) (e := [some (.val (prT bs ths)), some (.val (prT bs ths)), some (.val (.lst (tC (css bs)))), none])
    (u := T.int) (g := fun y => .val (.bl (ring (css bs) y))) (b := ssetI (ctm (css bs) ths)) fun y hy => by
      rw [ssetI_mem] at hy
      obtain ⟨p, hp, hy⟩ := List.mem_flatMap.mp hy
      have hy' := cm_rng hT.g (hT.t p hp) hy
      exact ⟨_, by simp [bName]; rfl, rfl, by simp [runF, sNil, sSeq, sIf, sDrop, sRet, sRetN, sBrk, sCnt, sNever, sSet, sAsg, sFor, sTupAsg, boNil, boCons, bName, bTup, btCons, btNil, bSub, eOfN, eOfV, eOfB, eFrz, eMove, eVar, eBin, eTup, eLst, eIdx, eIf, eCallU, eCallV, eMake, eAppend, eAppendN, eExtend, ePop, daNil, daCons, putB, nOfV, nLst, nsNil, nsCons, nBin, nCallB, nCallU, nCallM, nComp, nCopy, dLst, vC, vOfP, vOfN, vOfB, vTup, vLst, vBin, vNeg, vIf, vCut, vIdx, vItK, vCopyT, asNil, asCons, bAnd, bOr, bNot, bCmp, bChain, bIsi, bIsC, bOfV, bInK, bTrue, beOfB, beOfE, beCmp, beNot, beAnd, beOr, qOfP, pVar, pIdx, pAttr, oIdx, getF, getT, O.fz, fzs, fzf, cmpT, eqT, ltT, T.flat, flats, VS.isNon, scal, T.ty, isTy, iOfJ, jSeq, seqT, jRng1, jRng2, jEnum, VS.iRng1, iSeq, VS.iEnum, ixN, atI, idxT, oSome, oNone, outsE, sFldSet, putO, lenF, absF, intF, divF, wipeE, VS.binT, VS.lim, ring_eq hT.g hy']⟩
  have hg' : compGo (bName 3) bTrue (nCallU (PhiN (k + 4)).f_is_in_ring [] (asCons (vOfP (pVar 2)) (asCons (vOfP (pVar 3)) asNil))) [some (.val (prT bs ths)), some (.val (prT bs ths)), some (.val (.lst (tC (css bs)))), none] (tI (ssetI (ctm (css bs) ths))) = _ := hg
  have hll : (ssetI (ctm (css bs) ths)).length ≤ 100000 := by have := ssetI_len (ctm (css bs) ths); omega
  rw [e_f_is_recursive]
  simp only [d_f_is_recursive]
  simp [runF, sNil, sSeq, sIf, sDrop, sRet, sRetN, sBrk, sCnt, sNever, sSet, sAsg, sFor, sTupAsg, boNil, boCons, bName, bTup, btCons, btNil, bSub, eOfN, eOfV, eOfB, eFrz, eMove, eVar, eBin, eTup, eLst, eIdx, eIf, eCallU, eCallV, eMake, eAppend, eAppendN, eExtend, ePop, daNil, daCons, putB, nOfV, nLst, nsNil, nsCons, nBin, nCallB, nCallU, nCallM, nComp, nCopy, dLst, vC, vOfP, vOfN, vOfB, vTup, vLst, vBin, vNeg, vIf, vCut, vIdx, vItK, vCopyT, asNil, asCons, bAnd, bOr, bNot, bCmp, bChain, bIsi, bIsC, bOfV, bInK, bTrue, beOfB, beOfE, beCmp, beNot, beAnd, beOr, qOfP, pVar, pIdx, pAttr, oIdx, getF, getT, O.fz, fzs, fzf, cmpT, eqT, ltT, T.flat, flats, VS.isNon, scal, T.ty, isTy, iOfJ, jSeq, seqT, jRng1, jRng2, jEnum, VS.iRng1, iSeq, VS.iEnum, ixN, atI, idxT, oSome, oNone, outsE, sFldSet, putO, lenF, absF, intF, divF, wipeE, VS.binT, VS.lim, strEq, strBeq, fzs_app, fzs_oI, map_tI, oI_len, tI_len, oI_app, tI_app, oI_nil, tI_nil, oI_cons, tI_cons, tInts_tI, want_eq, cbb_eq h, cbt_eq hT, fzs_oC, hg', hll]
  rw [fzs_bls, anyF_bls]
  simp [recB]
end VW
namespace VW
open PySem L2 VS
/-! ### the longest row -/
def lr (cs : List (List Int)) : Nat → Int → Int
  | 0, _ => 0
  | m + 1, p => 1 + maxI (0 :: (ch cs p).map (lr cs m))
theorem maxI0 (xs : List Int) : (maxI (0 :: xs) = 0 ∨ maxI (0 :: xs) ∈ xs) ∧ 0 ≤ maxI (0 :: xs) ∧ ∀ y ∈ xs, y ≤ maxI (0 :: xs) := by
  have h := maxI_mem (xs := 0 :: xs) (by simp)
  refine ⟨?_, h.2 0 List.mem_cons_self, fun y hy => h.2 y (List.mem_cons_of_mem _ hy)⟩
  rcases List.mem_cons.mp h.1 with e | h
  · exact .inl e
  · exact .inr h
theorem lr_bd (cs : List (List Int)) : ∀ (m : Nat) (p : Int), 0 ≤ lr cs m p ∧ lr cs m p ≤ m
  | 0, p => by simp [lr]
  | m + 1, p => by
    have h := maxI0 ((ch cs p).map (lr cs m))
    simp only [lr]
    refine ⟨by omega, ?_⟩
    rcases h.1 with e | e
    · rw [e]; omega
    · obtain ⟨y, _, hy⟩ := List.mem_map.mp e
      have := (lr_bd cs m y).2
      omega
/-- no ring is come to from here -/
def Acy (cs : List (List Int)) (p : Int) : Prop := ∀ x, Reach cs p x → ring cs x = false
theorem Acy.ch {cs : List (List Int)} {p y : Int} (a : Acy cs p) (h : y ∈ ch cs p) : Acy cs y := fun x hx => a x ((Reach.step .refl h).trans hx)
theorem ring_false {cs : List (List Int)} (g : Gr cs) {p : Int} (hp : 0 ≤ p ∧ p < (cs.length : Nat)) (h : ring cs p = false) {y : Int} (hy : y ∈ ch cs p) : ¬ Reach cs y p := fun hr => by
  unfold ring at h
  rw [List.any_eq_false] at h
  have := h y hy
  simp at this
  exact this ((cm_mem g (g.ch hp hy)).mpr hr)
theorem nd_sub : ∀ {l m : List Int}, l.Nodup → (∀ x ∈ l, x ∈ m) → l.length ≤ m.length
  | [], m, _, _ => by simp
  | x :: l, m, nd, h => by
    have hx := h x List.mem_cons_self
    have nd' := List.nodup_cons.mp nd
    have h1 := nd_sub (l := l) (m := m.erase x) nd'.2 fun y hy => (List.mem_erase_of_ne (fun e : y = x => nd'.1 (by rw [← e]; exact hy))).mpr (h y (List.mem_cons_of_mem _ hy))
    rw [List.length_erase_of_mem hx] at h1
    have : 0 < m.length := List.length_pos_of_mem hx
    rw [List.length_cons]
    omega
theorem pIdx_of {p : DP} {q : DV} {e : VS.Env} {o : O} {st : O → Option VS.Env} {i : Int} (h1 : p e = some (o, st)) (h2 : q e = some (.int i)) : pIdx p q e = oIdx o i st := by
  unfold pIdx
  rw [h1, h2]
theorem vOfP_of {p : DP} {e : VS.Env} {t : T} {st : O → Option VS.Env} (h1 : p e = some (.val t, st)) : vOfP p e = some t := by
  unfold vOfP
  rw [h1]
theorem jSeq_of {d : DV} {e : VS.Env} {ts : List T} (h : d e = some (.lst ts)) : iOfJ (jSeq d) e = some (ts, e) := by
  unfold iOfJ jSeq
  simp only [h, seqT, Option.map_some]
theorem sFor_of {src : VS.Env → Option (List T × VS.Env)} {bd : BO} {b : DS} {e e1 : VS.Env} {ts : List T} (h : src e = some (ts, e1)) : sFor src bd b e = forGo bd b ts e1 := by
  unfold sFor
  rw [h]
theorem cm_lt {cs : List (List Int)} (g : Gr cs) {p : Int} (hp : 0 ≤ p ∧ p < (cs.length : Nat)) (a : Acy cs p) {y : Int} (hy : y ∈ ch cs p) : (cm cs y).length < (cm cs p).length := by
  have hy' := g.ch hp hy
  have hn := ring_false g hp (a p .refl) hy
  have h1 : p ∈ cm cs p := (cm_mem g hp).mpr .refl
  have h2 : ∀ x ∈ cm cs y, x ∈ (cm cs p).erase p := fun x hx => by
    have hr := (cm_mem g hy').mp hx
    refine ((up_nodup (cm_up cs p)).mem_erase_iff).mpr ⟨fun e => hn (e ▸ hr), (cm_mem g hp).mpr ((Reach.step .refl hy).trans hr)⟩
  have h3 : (cm cs y).length ≤ ((cm cs p).erase p).length := by
    exact nd_sub (up_nodup (cm_up cs y)) h2
  rw [List.length_erase_of_mem h1] at h3
  have : 0 < (cm cs p).length := List.length_pos_of_mem h1
  omega
theorem maxF_tI {ns : List Int} (h : 0 < ns.length) : maxF [.lst (tI ns)] = some (.val (.int (maxI ns))) := by
  unfold maxF; simp only [tInts_tI, h, if_true]
theorem row_eq {cs : List (List Int)} (g : Gr cs) : ∀ (m k : Nat) (p : Int), 0 ≤ p ∧ p < (cs.length : Nat) → Acy cs p → (cm cs p).length ≤ m → m ≤ k → (PhiN k).f_longest_row [.val (.lst (tC cs)), .val (.int p)] = some (.val (.int (lr cs m p)), [])
  | 0, k, p, hp, a, h, _ => by
    have : 0 < (cm cs p).length := List.length_pos_of_mem ((cm_mem g hp).mpr .refl)
    omega
  | m + 1, k, p, hp, a, h, hk => by
    obtain ⟨k, rfl⟩ : ∃ j, k = j + 1 := ⟨k - 1, by omega⟩
    have hg := compGo_of (bd := bName 2) (c := bTrue) (d := nCallU (PhiN k).f_longest_row [] (asCons (vOfP (pVar 0)) (asCons (vOfP (pVar 2)) asNil))) (e := [some (.val (.lst (tC cs))), some (.val (.int p)), none])
      (u := T.int) (g := fun y => .val (.int (lr cs m y))) (b := ch cs p) fun y hy => by
        have hy' := g.ch hp hy
        have := cm_lt g hp a hy
        exact ⟨_, by simp [bName]; rfl, rfl, by simp [runF, sNil, sSeq, sIf, sDrop, sRet, sRetN, sBrk, sCnt, sNever, sSet, sAsg, sFor, sTupAsg, boNil, boCons, bName, bTup, btCons, btNil, bSub, eOfN, eOfV, eOfB, eFrz, eMove, eVar, eBin, eTup, eLst, eIdx, eIf, eCallU, eCallV, eMake, eAppend, eAppendN, eExtend, ePop, daNil, daCons, putB, nOfV, nLst, nsNil, nsCons, nBin, nCallB, nCallU, nCallM, nComp, nCopy, dLst, vC, vOfP, vOfN, vOfB, vTup, vLst, vBin, vNeg, vIf, vCut, vIdx, vItK, vCopyT, asNil, asCons, bAnd, bOr, bNot, bCmp, bChain, bIsi, bIsC, bOfV, bInK, bTrue, beOfB, beOfE, beCmp, beNot, beAnd, beOr, qOfP, pVar, pIdx, pAttr, oIdx, getF, getT, O.fz, fzs, fzf, cmpT, eqT, ltT, T.flat, flats, VS.isNon, scal, T.ty, isTy, iOfJ, jSeq, seqT, jRng1, jRng2, jEnum, VS.iRng1, iSeq, VS.iEnum, ixN, atI, idxT, oSome, oNone, outsE, sFldSet, putO, lenF, absF, intF, divF, wipeE, VS.binT, VS.lim, row_eq g m k y hy' (a.ch hy) (by omega) (by omega)]⟩
    have hg' : compGo (bName 2) bTrue (nCallU (PhiN k).f_longest_row [] (asCons (vOfP (pVar 0)) (asCons (vOfP (pVar 2)) asNil))) [some (.val (.lst (tC cs))), some (.val (.int p)), none] (tI (ch cs p)) = _ := hg
    have hll : (ch cs p).length ≤ 100000 := by have := ch_len g hp; omega
    have hl2 : 1 + (ch cs p).length ≤ 100000 := by have := ch_len g hp; omega
    have hm := maxF_tI (ns := 0 :: (ch cs p).map (lr cs m)) (by simp)
    rw [tI_cons] at hm
    rw [e_f_longest_row]
    simp only [d_f_longest_row]
    simp [runF, sNil, sSeq, sIf, sDrop, sRet, sRetN, sBrk, sCnt, sNever, sSet, sAsg, sFor, sTupAsg, boNil, boCons, bName, bTup, btCons, btNil, bSub, eOfN, eOfV, eOfB, eFrz, eMove, eVar, eBin, eTup, eLst, eIdx, eIf, eCallU, eCallV, eMake, eAppend, eAppendN, eExtend, ePop, daNil, daCons, putB, nOfV, nLst, nsNil, nsCons, nBin, nCallB, nCallU, nCallM, nComp, nCopy, dLst, vC, vOfP, vOfN, vOfB, vTup, vLst, vBin, vNeg, vIf, vCut, vIdx, vItK, vCopyT, asNil, asCons, bAnd, bOr, bNot, bCmp, bChain, bIsi, bIsC, bOfV, bInK, bTrue, beOfB, beOfE, beCmp, beNot, beAnd, beOr, qOfP, pVar, pIdx, pAttr, oIdx, getF, getT, O.fz, fzs, fzf, cmpT, eqT, ltT, T.flat, flats, VS.isNon, scal, T.ty, isTy, iOfJ, jSeq, seqT, jRng1, jRng2, jEnum, VS.iRng1, iSeq, VS.iEnum, ixN, atI, idxT, oSome, oNone, outsE, sFldSet, putO, lenF, absF, intF, divF, wipeE, VS.binT, VS.lim, strEq, strBeq, fzs_app, fzs_oI, map_tI, oI_len, tI_len, oI_app, tI_app, oI_nil, tI_nil, oI_cons, tI_cons, tInts_tI, hp.1, hp.2, tC_len, tC_at hp, hg', hll, fzs_ints, hl2, hm, lr]
/-! ### the law's own longest row -/
def fmx (cs : List (List Int)) (f : Int → Int) (row : List Int) : List Int → Int → Int
  | [], b => b
  | y :: ys, b => fmx cs f row ys (if y ∈ row then b else if f y > b then f y else b)
def lw (cs : List (List Int)) : Nat → List Int → Int
  | 0, _ => 0
  | m + 1, row => fmx cs (fun y => lw cs m (row ++ [y])) row (ch cs (row.getLast?.getD 0)) row.length
abbrev lwBody (Φ : Phi) : DS := (sIf (beOfB (bCmp .NotIn (qOfP (pVar 3)) (qOfP (pVar 1))))
 (sSet 2 (eOfV (vOfN (nCallB maxF (asCons (qOfP (pVar 2)) (asCons (vOfN (nCallU Φ.f__law_longest [] (asCons (vOfP (pVar 0)) (asCons (vBin .Add (vOfP (pVar 1)) (vOfN (nLst (nsCons (nOfV (vOfP (pVar 3))) nsNil)))) asNil)))) asNil))))))
 sNil)
abbrev lwE (cs : List (List Int)) (row : List Int) (b : Int) (a : Option O) : VS.Env := [some (.val (.lst (tC cs))), some (.val (.lst (tI row))), some (.val (.int b)), a]
theorem lw_loop {cs : List (List Int)} {Φ : Phi} {row : List Int} {f : Int → Int} (hr : row.length < 1000) : ∀ (ys : List Int) (b : Int) (a : Option O), (∀ y ∈ ys, y ∉ row → Φ.f__law_longest [.val (.lst (tC cs)), .val (.lst (tI (row ++ [y])))] = some (.val (.int (f y)), [])) →
    ∃ a', forGo (bName 3) (lwBody Φ) (tI ys) (lwE cs row b a) = some (.nx, lwE cs row (fmx cs f row ys b) a')
  | [], b, a, _ => ⟨a, by simp [tI_nil, forGo, fmx]⟩
  | y :: ys, b, a, h => by
    have hb : bName 3 (.val (.int y)) (lwE cs row b a) = some (lwE cs row b (some (.val (.int y)))) := by simp [bName, lwE]
    have hr1 : row.length + 1 ≤ 100000 := by omega
    have st : lwBody Φ (lwE cs row b (some (.val (.int y)))) = some (.nx, lwE cs row (if y ∈ row then b else if f y > b then f y else b) (some (.val (.int y)))) := by
      by_cases hm : y ∈ row
      · simp [runF, sNil, sSeq, sIf, sDrop, sRet, sRetN, sBrk, sCnt, sNever, sSet, sAsg, sFor, sTupAsg, boNil, boCons, bName, bTup, btCons, btNil, bSub, eOfN, eOfV, eOfB, eFrz, eMove, eVar, eBin, eTup, eLst, eIdx, eIf, eCallU, eCallV, eMake, eAppend, eAppendN, eExtend, ePop, daNil, daCons, putB, nOfV, nLst, nsNil, nsCons, nBin, nCallB, nCallU, nCallM, nComp, nCopy, dLst, vC, vOfP, vOfN, vOfB, vTup, vLst, vBin, vNeg, vIf, vCut, vIdx, vItK, vCopyT, asNil, asCons, bAnd, bOr, bNot, bCmp, bChain, bIsi, bIsC, bOfV, bInK, bTrue, beOfB, beOfE, beCmp, beNot, beAnd, beOr, qOfP, pVar, pIdx, pAttr, oIdx, getF, getT, O.fz, fzs, fzf, cmpT, eqT, ltT, T.flat, flats, VS.isNon, scal, T.ty, isTy, iOfJ, jSeq, seqT, jRng1, jRng2, jEnum, VS.iRng1, iSeq, VS.iEnum, ixN, atI, idxT, oSome, oNone, outsE, sFldSet, putO, lenF, absF, intF, divF, wipeE, VS.binT, VS.lim, strEq, strBeq, fzs_app, fzs_oI, map_tI, oI_len, tI_len, oI_app, tI_app, oI_nil, tI_nil, oI_cons, tI_cons, tInts_tI, inT_tI, hm]
      · have e := h y List.mem_cons_self hm
        rw [tI_app, tI_cons, tI_nil] at e
        simp [runF, sNil, sSeq, sIf, sDrop, sRet, sRetN, sBrk, sCnt, sNever, sSet, sAsg, sFor, sTupAsg, boNil, boCons, bName, bTup, btCons, btNil, bSub, eOfN, eOfV, eOfB, eFrz, eMove, eVar, eBin, eTup, eLst, eIdx, eIf, eCallU, eCallV, eMake, eAppend, eAppendN, eExtend, ePop, daNil, daCons, putB, nOfV, nLst, nsNil, nsCons, nBin, nCallB, nCallU, nCallM, nComp, nCopy, dLst, vC, vOfP, vOfN, vOfB, vTup, vLst, vBin, vNeg, vIf, vCut, vIdx, vItK, vCopyT, asNil, asCons, bAnd, bOr, bNot, bCmp, bChain, bIsi, bIsC, bOfV, bInK, bTrue, beOfB, beOfE, beCmp, beNot, beAnd, beOr, qOfP, pVar, pIdx, pAttr, oIdx, getF, getT, O.fz, fzs, fzf, cmpT, eqT, ltT, T.flat, flats, VS.isNon, scal, T.ty, isTy, iOfJ, jSeq, seqT, jRng1, jRng2, jEnum, VS.iRng1, iSeq, VS.iEnum, ixN, atI, idxT, oSome, oNone, outsE, sFldSet, putO, lenF, absF, intF, divF, wipeE, VS.binT, VS.lim, strEq, strBeq, fzs_app, fzs_oI, map_tI, oI_len, tI_len, oI_app, tI_app, oI_nil, tI_nil, oI_cons, tI_cons, tInts_tI, inT_tI, hm, hr1, e, maxF]
    obtain ⟨a', he⟩ := lw_loop (cs := cs) (Φ := Φ) hr ys (if y ∈ row then b else if f y > b then f y else b) (some (.val (.int y))) fun z hz => h z (List.mem_cons_of_mem _ hz)
    exact ⟨a', by rw [tI_cons]; simp only [forGo, hb, st, he, fmx]⟩
theorem lw_eq {cs : List (List Int)} (g : Gr cs) : ∀ (m k : Nat) (row : List Int), row.Nodup → (∀ x ∈ row, 0 ≤ x ∧ x < (cs.length : Nat)) → row ≠ [] → cs.length + 1 ≤ row.length + m → m ≤ k → (PhiN k).f__law_longest [.val (.lst (tC cs)), .val (.lst (tI row))] = some (.val (.int (lw cs m row)), [])
  | 0, k, row, nd, rg, h0, hl, _ => by
    have := nd_len cs.length row nd rg
    omega
  | m + 1, k, row, nd, rg, h0, hl, hk => by
    obtain ⟨k, rfl⟩ : ∃ j, k = j + 1 := ⟨k - 1, by omega⟩
    have hlen := nd_len cs.length row nd rg
    have gn := g.n
    obtain ⟨row', x, rfl⟩ : ∃ l' x, row = l' ++ [x] := ⟨row.dropLast, row.getLast h0, (List.dropLast_concat_getLast h0).symm⟩
    have hx := rg x (by simp)
    obtain ⟨a', he⟩ := lw_loop (cs := cs) (Φ := PhiN k) (row := row' ++ [x]) (f := fun y => lw cs m ((row' ++ [x]) ++ [y])) (by omega) (ch cs x) ((row' ++ [x]).length : Nat) none fun y hy hn =>
      lw_eq g m k ((row' ++ [x]) ++ [y]) (by
        rw [List.nodup_append]
        refine ⟨nd, by simp, fun a ha b hb e => ?_⟩
        simp at hb
        subst hb; subst e
        exact hn ha) (fun z hz => by
        rcases List.mem_append.mp hz with h | h
        · exact rg z h
        · simp at h; subst h; exact g.ch hx hy) (by simp) (by rw [List.length_append (as := row' ++ [x])]; simp at hl ⊢; omega) (by omega)
    have hll : (ch cs x).length ≤ 100000 := by have := ch_len g hx; omega
    have hp : pIdx (pVar 1) (vNeg (vC (.int 1))) (lwE cs (row' ++ [x]) ((row' ++ [x]).length : Nat) none) = some (.val (.int x), fun _ => none) := by
      have h1 : atI (tI row' ++ [T.int x]) (-1) = some (.int x) := atI_last _ _
      simp [pIdx, pVar, vNeg, vC, oIdx, strEq, strBeq, fzs_app, fzs_oI, map_tI, oI_len, tI_len, oI_app, tI_app, oI_nil, tI_nil, oI_cons, tI_cons, tInts_tI, h1]
    have hlast : lw cs (m + 1) (row' ++ [x]) = fmx cs (fun y => lw cs m ((row' ++ [x]) ++ [y])) (row' ++ [x]) (ch cs x) ((row' ++ [x]).length : Nat) := by
      simp only [lw, List.getLast?_concat, Option.getD_some]
    have hsrc : iOfJ (jSeq (vOfP (pIdx (pVar 0) (vOfP (pIdx (pVar 1) (vNeg (vC (.int 1)))))))) (lwE cs (row' ++ [x]) ((row' ++ [x]).length : Nat) none) = some (tI (ch cs x), lwE cs (row' ++ [x]) ((row' ++ [x]).length : Nat) none) := by
      have h2 : pIdx (pVar 0) (vOfP (pIdx (pVar 1) (vNeg (vC (.int 1))))) (lwE cs (row' ++ [x]) ((row' ++ [x]).length : Nat) none) = some (.val (.lst (tI (ch cs x))), fun _ => none) := by
        have h3 : vOfP (pIdx (pVar 1) (vNeg (vC (.int 1)))) (lwE cs (row' ++ [x]) ((row' ++ [x]).length : Nat) none) = some (.int x) := by
          exact vOfP_of hp
        rw [pIdx_of (o := .val (.lst (tC cs))) rfl h3]
        simp [oIdx, atI, ixN, hx.1, hx.2, tC_len, tC_at hx]
      exact jSeq_of (vOfP_of h2)
    rw [hlast]
    rw [e_f__law_longest]
    have h5 : sFor (iOfJ (jSeq (vOfP (pIdx (pVar 0) (vOfP (pIdx (pVar 1) (vNeg (vC (.int 1))))))))) (bName 3) (lwBody (PhiN k)) (lwE cs (row' ++ [x]) ((row' ++ [x]).length : Nat) none) = some (.nx, lwE cs (row' ++ [x]) (fmx cs (fun y => lw cs m ((row' ++ [x]) ++ [y])) (row' ++ [x]) (ch cs x) ((row' ++ [x]).length : Nat)) a') := by
      rw [sFor_of hsrc]
      exact he
    have h6 : sSet 2 (eOfV (vOfN (nCallB lenF (asCons (qOfP (pVar 1)) asNil)))) [some (.val (.lst (tC cs))), some (.val (.lst (tI (row' ++ [x])))), none, none] = some (.nx, lwE cs (row' ++ [x]) ((row' ++ [x]).length : Nat) none) := by
      simp [runF, sNil, sSeq, sIf, sDrop, sRet, sRetN, sBrk, sCnt, sNever, sSet, sAsg, sFor, sTupAsg, boNil, boCons, bName, bTup, btCons, btNil, bSub, eOfN, eOfV, eOfB, eFrz, eMove, eVar, eBin, eTup, eLst, eIdx, eIf, eCallU, eCallV, eMake, eAppend, eAppendN, eExtend, ePop, daNil, daCons, putB, nOfV, nLst, nsNil, nsCons, nBin, nCallB, nCallU, nCallM, nComp, nCopy, dLst, vC, vOfP, vOfN, vOfB, vTup, vLst, vBin, vNeg, vIf, vCut, vIdx, vItK, vCopyT, asNil, asCons, bAnd, bOr, bNot, bCmp, bChain, bIsi, bIsC, bOfV, bInK, bTrue, beOfB, beOfE, beCmp, beNot, beAnd, beOr, qOfP, pVar, pIdx, pAttr, oIdx, getF, getT, O.fz, fzs, fzf, cmpT, eqT, ltT, T.flat, flats, VS.isNon, scal, T.ty, isTy, iOfJ, jSeq, seqT, jRng1, jRng2, jEnum, VS.iRng1, iSeq, VS.iEnum, ixN, atI, idxT, oSome, oNone, outsE, sFldSet, putO, lenF, absF, intF, divF, wipeE, VS.binT, VS.lim, tI_len]
    simp only [d_f__law_longest, runF, List.length_cons, List.length_nil, List.map_cons, List.map_nil, List.replicate, List.cons_append, List.nil_append, sSeq, h6, h5]
    simp [runF, sNil, sSeq, sIf, sDrop, sRet, sRetN, sBrk, sCnt, sNever, sSet, sAsg, sFor, sTupAsg, boNil, boCons, bName, bTup, btCons, btNil, bSub, eOfN, eOfV, eOfB, eFrz, eMove, eVar, eBin, eTup, eLst, eIdx, eIf, eCallU, eCallV, eMake, eAppend, eAppendN, eExtend, ePop, daNil, daCons, putB, nOfV, nLst, nsNil, nsCons, nBin, nCallB, nCallU, nCallM, nComp, nCopy, dLst, vC, vOfP, vOfN, vOfB, vTup, vLst, vBin, vNeg, vIf, vCut, vIdx, vItK, vCopyT, asNil, asCons, bAnd, bOr, bNot, bCmp, bChain, bIsi, bIsC, bOfV, bInK, bTrue, beOfB, beOfE, beCmp, beNot, beAnd, beOr, qOfP, pVar, pIdx, pAttr, oIdx, getF, getT, O.fz, fzs, fzf, cmpT, eqT, ltT, T.flat, flats, VS.isNon, scal, T.ty, isTy, iOfJ, jSeq, seqT, jRng1, jRng2, jEnum, VS.iRng1, iSeq, VS.iEnum, ixN, atI, idxT, oSome, oNone, outsE, sFldSet, putO, lenF, absF, intF, divF, wipeE, VS.binT, VS.lim]
end VW
namespace VW
open PySem L2 VS
/-! ### the two longest rows are one, without rings -/
theorem fmx_max (cs : List (List Int)) (f : Int → Int) (row : List Int) : ∀ (ys : List Int) (b : Int), (∀ y ∈ ys, y ∉ row) → (fmx cs f row ys b = b ∨ fmx cs f row ys b ∈ ys.map f) ∧ b ≤ fmx cs f row ys b ∧ ∀ y ∈ ys, f y ≤ fmx cs f row ys b
  | [], b, _ => by simp [fmx]
  | y :: ys, b, h => by
    have hy := h y List.mem_cons_self
    simp only [fmx, if_neg hy]
    obtain ⟨h1, h2, h3⟩ := fmx_max cs f row ys (if f y > b then f y else b) fun z hz => h z (List.mem_cons_of_mem _ hz)
    refine ⟨?_, ?_, fun z hz => ?_⟩
    · rcases h1 with e | e
      · by_cases hb : f y > b
        · rw [if_pos hb] at e ⊢
          right; rw [e]; exact List.mem_cons_self
        · rw [if_neg hb] at e ⊢
          left; exact e
      · right; exact List.mem_cons_of_mem _ e
    · refine Int.le_trans ?_ h2
      by_cases hb : f y > b
      · rw [if_pos hb]; omega
      · rw [if_neg hb]; omega
    · rcases List.mem_cons.mp hz with e | h
      · subst e
        refine Int.le_trans ?_ h2
        by_cases hb : f z > b
        · rw [if_pos hb]; omega
        · rw [if_neg hb]; omega
      · exact h3 z h
theorem lw_lr {cs : List (List Int)} (g : Gr cs) : ∀ (m : Nat) (row : List Int) (x : Int), 0 ≤ x ∧ x < (cs.length : Nat) → Acy cs x → (cm cs x).length ≤ m → (∀ z ∈ row ++ [x], ∀ y ∈ ch cs x, ¬ Reach cs y z) → lw cs m (row ++ [x]) = (row.length : Nat) + lr cs m x
  | 0, row, x, hx, a, h, _ => by
    have : 0 < (cm cs x).length := List.length_pos_of_mem ((cm_mem g hx).mpr .refl)
    omega
  | m + 1, row, x, hx, a, h, hr => by
    have hout : ∀ y ∈ ch cs x, y ∉ row ++ [x] := fun y hy hm => hr y hm y hy .refl
    have hf : ∀ y ∈ ch cs x, lw cs m ((row ++ [x]) ++ [y]) = ((row.length : Nat) + 1 : Int) + lr cs m y := fun y hy => by
      have := cm_lt g hx a hy
      have e := lw_lr g m (row ++ [x]) y (g.ch hx hy) (a.ch hy) (by omega) fun z hz w hw => by
        rcases List.mem_append.mp hz with h1 | h1
        · exact fun hwz => hr z h1 y hy ((Reach.step .refl hw).trans hwz)
        · simp at h1
          subst h1
          exact ring_false g (g.ch hx hy) (a z (.step .refl hy)) hw
      rw [e, List.length_append]
      simp
    have hM := maxI0 ((ch cs x).map (lr cs m))
    obtain ⟨h1, h2, h3⟩ := fmx_max cs (fun y => lw cs m ((row ++ [x]) ++ [y])) (row ++ [x]) (ch cs x) ((row ++ [x]).length : Nat) hout
    have e1 : lw cs (m + 1) (row ++ [x]) = fmx cs (fun y => lw cs m ((row ++ [x]) ++ [y])) (row ++ [x]) (ch cs x) ((row ++ [x]).length : Nat) := by
      simp only [lw, List.getLast?_concat, Option.getD_some]
    rw [e1]
    have e2 : ((row ++ [x]).length : Int) = (row.length : Nat) + 1 := by simp
    simp only [lr]
    rw [e2] at h1 h2 h3 ⊢
    generalize fmx cs (fun y => lw cs m ((row ++ [x]) ++ [y])) (row ++ [x]) (ch cs x) ((row.length : Nat) + 1) = A at h1 h2 h3
    obtain ⟨k1, k2, k3⟩ := hM
    generalize maxI (0 :: (ch cs x).map (lr cs m)) = B at k1 k2 k3
    have hAB : A ≤ (row.length : Nat) + 1 + B := by
      rcases h1 with e | e
      · omega
      · obtain ⟨y, hy, e⟩ := List.mem_map.mp e
        have := hf y hy
        have := k3 _ (List.mem_map_of_mem (f := lr cs m) hy)
        omega
    have hBA : (row.length : Nat) + 1 + B ≤ A := by
      rcases k1 with e | e
      · omega
      · obtain ⟨y, hy, e⟩ := List.mem_map.mp e
        have := hf y hy
        have := h3 y hy
        omega
    omega
/-! ### deepest -/
theorem acy_of {cs : List (List Int)} {ths : List Int} (hT : GoodT cs ths) (h : recB cs ths = false) : ∀ p ∈ ths, Acy cs p := fun p hp x hx => by
  unfold recB at h
  rw [List.any_eq_false] at h
  have hm : x ∈ ssetI (ctm cs ths) := ssetI_mem.mpr (List.mem_flatMap.mpr ⟨p, hp, (cm_mem hT.g (hT.t p hp)).mpr hx⟩)
  have := h x hm
  simpa using this
noncomputable def deepT (cs : List (List Int)) (ths : List Int) : T := if recB cs ths = true then .non else .int (maxI (ths.map (lr cs 4)))
theorem deep_eq {bs : List (List Sm)} {ths : List Int} (h : GoodP bs ths) (hT : GoodT (css bs) ths) (k : Nat) : (PhiN (k + 6)).f_deepest [.val (prT bs ths)] = some (.val (deepT (css bs) ths), []) := by
  rw [e_f_deepest]
  simp only [d_f_deepest]
  by_cases hr : recB (css bs) ths = true
  · simp [runF, sNil, sSeq, sIf, sDrop, sRet, sRetN, sBrk, sCnt, sNever, sSet, sAsg, sFor, sTupAsg, boNil, boCons, bName, bTup, btCons, btNil, bSub, eOfN, eOfV, eOfB, eFrz, eMove, eVar, eBin, eTup, eLst, eIdx, eIf, eCallU, eCallV, eMake, eAppend, eAppendN, eExtend, ePop, daNil, daCons, putB, nOfV, nLst, nsNil, nsCons, nBin, nCallB, nCallU, nCallM, nComp, nCopy, dLst, vC, vOfP, vOfN, vOfB, vTup, vLst, vBin, vNeg, vIf, vCut, vIdx, vItK, vCopyT, asNil, asCons, bAnd, bOr, bNot, bCmp, bChain, bIsi, bIsC, bOfV, bInK, bTrue, beOfB, beOfE, beCmp, beNot, beAnd, beOr, qOfP, pVar, pIdx, pAttr, oIdx, getF, getT, O.fz, fzs, fzf, cmpT, eqT, ltT, T.flat, flats, VS.isNon, scal, T.ty, isTy, iOfJ, jSeq, seqT, jRng1, jRng2, jEnum, VS.iRng1, iSeq, VS.iEnum, ixN, atI, idxT, oSome, oNone, outsE, sFldSet, putO, lenF, absF, intF, divF, wipeE, VS.binT, VS.lim, rec_eq h hT, hr, deepT]
  · have hr' : recB (css bs) ths = false := by simpa using hr
    have ac := acy_of hT hr'
    have gn := hT.g.n
    have t1 := hT.t1
    have t2 := hT.t2
    have hg := compGo_of (bd := bName 2) (c := bTrue) (d := nCallU (PhiN (k + 5)).f_longest_row [] (asCons (vOfP (pVar 1)) (asCons (vOfP (pVar 2)) asNil))) (e := [some (.val (prT bs ths)), some (.val (.lst (tC (css bs)))), none])
      (u := T.int) (g := fun p => .val (.int (lr (css bs) 4 p))) (b := ths) fun p hp => by
        have hp' := hT.t p hp
        have := cm_len hT.g hp'
        exact ⟨_, by simp [bName]; rfl, rfl, by simp [runF, sNil, sSeq, sIf, sDrop, sRet, sRetN, sBrk, sCnt, sNever, sSet, sAsg, sFor, sTupAsg, boNil, boCons, bName, bTup, btCons, btNil, bSub, eOfN, eOfV, eOfB, eFrz, eMove, eVar, eBin, eTup, eLst, eIdx, eIf, eCallU, eCallV, eMake, eAppend, eAppendN, eExtend, ePop, daNil, daCons, putB, nOfV, nLst, nsNil, nsCons, nBin, nCallB, nCallU, nCallM, nComp, nCopy, dLst, vC, vOfP, vOfN, vOfB, vTup, vLst, vBin, vNeg, vIf, vCut, vIdx, vItK, vCopyT, asNil, asCons, bAnd, bOr, bNot, bCmp, bChain, bIsi, bIsC, bOfV, bInK, bTrue, beOfB, beOfE, beCmp, beNot, beAnd, beOr, qOfP, pVar, pIdx, pAttr, oIdx, getF, getT, O.fz, fzs, fzf, cmpT, eqT, ltT, T.flat, flats, VS.isNon, scal, T.ty, isTy, iOfJ, jSeq, seqT, jRng1, jRng2, jEnum, VS.iRng1, iSeq, VS.iEnum, ixN, atI, idxT, oSome, oNone, outsE, sFldSet, putO, lenF, absF, intF, divF, wipeE, VS.binT, VS.lim, row_eq hT.g 4 (k + 5) p hp' (ac p hp) (by omega) (by omega)]⟩
    have hg' : compGo (bName 2) bTrue (nCallU (PhiN (k + 5)).f_longest_row [] (asCons (vOfP (pVar 1)) (asCons (vOfP (pVar 2)) asNil))) [some (.val (prT bs ths)), some (.val (.lst (tC (css bs)))), none] (tI ths) = _ := hg
    have hll : ths.length ≤ 100000 := by omega
    have hm := maxF_tI (ns := ths.map (lr (css bs) 4)) (by simp; omega)
    simp [runF, sNil, sSeq, sIf, sDrop, sRet, sRetN, sBrk, sCnt, sNever, sSet, sAsg, sFor, sTupAsg, boNil, boCons, bName, bTup, btCons, btNil, bSub, eOfN, eOfV, eOfB, eFrz, eMove, eVar, eBin, eTup, eLst, eIdx, eIf, eCallU, eCallV, eMake, eAppend, eAppendN, eExtend, ePop, daNil, daCons, putB, nOfV, nLst, nsNil, nsCons, nBin, nCallB, nCallU, nCallM, nComp, nCopy, dLst, vC, vOfP, vOfN, vOfB, vTup, vLst, vBin, vNeg, vIf, vCut, vIdx, vItK, vCopyT, asNil, asCons, bAnd, bOr, bNot, bCmp, bChain, bIsi, bIsC, bOfV, bInK, bTrue, beOfB, beOfE, beCmp, beNot, beAnd, beOr, qOfP, pVar, pIdx, pAttr, oIdx, getF, getT, O.fz, fzs, fzf, cmpT, eqT, ltT, T.flat, flats, VS.isNon, scal, T.ty, isTy, iOfJ, jSeq, seqT, jRng1, jRng2, jEnum, VS.iRng1, iSeq, VS.iEnum, ixN, atI, idxT, oSome, oNone, outsE, sFldSet, putO, lenF, absF, intF, divF, wipeE, VS.binT, VS.lim, strEq, strBeq, fzs_app, fzs_oI, map_tI, oI_len, tI_len, oI_app, tI_app, oI_nil, tI_nil, oI_cons, tI_cons, tInts_tI, rec_eq h hT, hr', deepT, cbb_eq h, threadsM_eq, fzs_oC, hg', hll, fzs_ints, hm]
theorem reached_eq {bs : List (List Sm)} {ths : List Int} (h : GoodP bs ths) (hT : GoodT (css bs) ths) (k : Nat) {i : Nat} (hi : i < ths.length) : (PhiN (k + 5)).f_reached [.val (prT bs ths), .val (.int (i : Nat))] = some (.lst (oI (cm (css bs) ths[i])), []) := by
  have hp := hT.t ths[i] (List.getElem_mem hi)
  have hw : (PhiN (k + 4)).f_want_thread [.val (prT bs ths), .val (.int (i : Nat))] = some (.val (.int (i : Nat)), []) := by
    rw [e_f_want_thread]
    simp only [d_f_want_thread]
    simp [runF, sNil, sSeq, sIf, sDrop, sRet, sRetN, sBrk, sCnt, sNever, sSet, sAsg, sFor, sTupAsg, boNil, boCons, bName, bTup, btCons, btNil, bSub, eOfN, eOfV, eOfB, eFrz, eMove, eVar, eBin, eTup, eLst, eIdx, eIf, eCallU, eCallV, eMake, eAppend, eAppendN, eExtend, ePop, daNil, daCons, putB, nOfV, nLst, nsNil, nsCons, nBin, nCallB, nCallU, nCallM, nComp, nCopy, dLst, vC, vOfP, vOfN, vOfB, vTup, vLst, vBin, vNeg, vIf, vCut, vIdx, vItK, vCopyT, asNil, asCons, bAnd, bOr, bNot, bCmp, bChain, bIsi, bIsC, bOfV, bInK, bTrue, beOfB, beOfE, beCmp, beNot, beAnd, beOr, qOfP, pVar, pIdx, pAttr, oIdx, getF, getT, O.fz, fzs, fzf, cmpT, eqT, ltT, T.flat, flats, VS.isNon, scal, T.ty, isTy, iOfJ, jSeq, seqT, jRng1, jRng2, jEnum, VS.iRng1, iSeq, VS.iEnum, ixN, atI, idxT, oSome, oNone, outsE, sFldSet, putO, lenF, absF, intF, divF, wipeE, VS.binT, VS.lim, strEq, strBeq, fzs_app, fzs_oI, map_tI, oI_len, tI_len, oI_app, tI_app, oI_nil, tI_nil, oI_cons, tI_cons, tInts_tI, prF, nCls, nFld, number_eq k (i : Nat) 0 ((ths.length : Nat) - 1) (by omega) (by omega) (by omega)]
  have ht : (tI ths)[i]? = some (.int ths[i]) := by unfold tI; rw [List.getElem?_map, List.getElem?_eq_getElem hi]; rfl
  have hil : (i : Int) < (ths.length : Nat) := by omega
  have ht2 : ∀ h', (tI ths)[i]'h' = .int ths[i] := fun h' => by
    rw [List.getElem?_eq_getElem h'] at ht
    exact Option.some.inj ht
  rw [e_f_reached]
  simp only [d_f_reached]
  simp [runF, sNil, sSeq, sIf, sDrop, sRet, sRetN, sBrk, sCnt, sNever, sSet, sAsg, sFor, sTupAsg, boNil, boCons, bName, bTup, btCons, btNil, bSub, eOfN, eOfV, eOfB, eFrz, eMove, eVar, eBin, eTup, eLst, eIdx, eIf, eCallU, eCallV, eMake, eAppend, eAppendN, eExtend, ePop, daNil, daCons, putB, nOfV, nLst, nsNil, nsCons, nBin, nCallB, nCallU, nCallM, nComp, nCopy, dLst, vC, vOfP, vOfN, vOfB, vTup, vLst, vBin, vNeg, vIf, vCut, vIdx, vItK, vCopyT, asNil, asCons, bAnd, bOr, bNot, bCmp, bChain, bIsi, bIsC, bOfV, bInK, bTrue, beOfB, beOfE, beCmp, beNot, beAnd, beOr, qOfP, pVar, pIdx, pAttr, oIdx, getF, getT, O.fz, fzs, fzf, cmpT, eqT, ltT, T.flat, flats, VS.isNon, scal, T.ty, isTy, iOfJ, jSeq, seqT, jRng1, jRng2, jEnum, VS.iRng1, iSeq, VS.iEnum, ixN, atI, idxT, oSome, oNone, outsE, sFldSet, putO, lenF, absF, intF, divF, wipeE, VS.binT, VS.lim, strEq, strBeq, fzs_app, fzs_oI, map_tI, oI_len, tI_len, oI_app, tI_app, oI_nil, tI_nil, oI_cons, tI_cons, tInts_tI, want_eq, hw, cbb_eq h, threadsM_eq, fzs_oC, hi, hil, ht2, ht, come_eq hT.g hp]
end VW
namespace VW
open PySem L2 VS
/-! ### the law -/
def GB (P : Int) (b : List Sm) : Prop := gds P b ∧ deps b ≤ 2 ∧ sizs b ≤ 5
theorem tB_app (a b : List (List Sm)) : tB (a ++ b) = tB a ++ tB b := by simp [tB]
abbrev E1 (P : Int) (p : Int × Int) (bs : List (List Sm)) (a b : Option O) : VS.Env := [some (pot p), some (.val (shp P)), some (.lst (oT (tB bs))), some (.lst []), some (.lst []), a, b, none, none, none, none, none, none, none, none, none]
theorem ixN_last (n : Nat) : ixN (n + 1) (-1) = some n := by
  unfold ixN
  rw [if_neg (by decide), if_pos (by omega)]
  congr 1
  omega
theorem pLast {pd : DP} {e : VS.Env} {os : List O} {o : O} {st : O → Option VS.Env} (h : pd e = some (.lst (os ++ [o]), st)) : pIdx pd (vNeg (vC (.int 1))) e = some (o, fun o2 => st (.lst (os ++ [o2]))) := by
  rw [pIdx_of h rfl]
  simp [oIdx, ixN_last]
theorem bLast {pd : DP} {e : VS.Env} {os : List O} {o o2 : O} {st : O → Option VS.Env} (h : pd e = some (.lst (os ++ [o]), st)) : bSub pd (vNeg (vC (.int 1))) o2 e = st (.lst (os ++ [o2])) := by
  unfold bSub
  rw [h, show vNeg (vC (.int 1)) e = some (.int (-1)) from rfl]
  simp [ixN_last]
abbrev l1Body (Φ : Phi) : DS := (sSeq (sDrop (eAppendN 2 (eCallU Φ.f__law_body [0, 3] [some 0, none, none, none] [] (daCons (eMove 0) (daCons (eOfV (vOfP (pVar 1))) (daCons (eOfV (vC (.int 2))) (daCons (eOfN (nLst (nsCons (nOfV (vC (.int 4))) nsNil))) daNil)))))))
 (sIf (beCmp .Eq (eCallU Φ.f__law_draw [0] [some 0, none] [] (daCons (eMove 0) (daCons (eOfV (vC (.int 2))) daNil))) (eOfV (vC (.int 0))))
 (sAsg (eBin .Add (eOfV (vOfP (pIdx (pVar 2) (vNeg (vC (.int 1)))))) (eTup (daCons (eTup (daCons (eOfV (vC (.str "call"))) (daCons (eCallU Φ.f__law_draw [0] [some 0, none] [] (daCons (eMove 0) (daCons (eOfV (vOfP (pIdx (pVar 1) (vC (.int 3))))) daNil))) daNil))) daNil))) (bSub (pVar 2) (vNeg (vC (.int 1)))))
 sNil))
theorem l1_step {k : Nat} {P : Int} (hP : 0 < P) (hP2 : P < 1000) (p : Int × Int) (bs : List (List Sm)) (hl : bs.length < 1000) (a b : Option O) :
    ∃ c p', l1Body (PhiN (k + 8)) (E1 P p bs a b) = some (.nx, E1 P p' (bs ++ [c]) a b) ∧ GB P c := by
  obtain ⟨ss, p1, r1, e1, h1, h2, h3⟩ := body2 k hP hP2 p 4
  have e1' : (PhiN (k + 8)).f__law_body [pot p, .val (shp P), .val (.int 2), .lst [.val (.int 4)]] = some (.val (.tup (tss ss)), [pot p1, rm r1]) := e1
  have hbl : (tB bs).length < 100000 := by rw [tB_len]; omega
  have st1 : sDrop (eAppendN 2 (eCallU (PhiN (k + 8)).f__law_body [0, 3] [some 0, none, none, none] [] (daCons (eMove 0) (daCons (eOfV (vOfP (pVar 1))) (daCons (eOfV (vC (.int 2))) (daCons (eOfN (nLst (nsCons (nOfV (vC (.int 4))) nsNil))) daNil)))))) (E1 P p bs a b) = some (.nx, E1 P p1 (bs ++ [ss]) a b) := by
    simp [runF, sNil, sSeq, sIf, sDrop, sRet, sRetN, sBrk, sCnt, sNever, sSet, sAsg, sFor, sTupAsg, boNil, boCons, bName, bTup, btCons, btNil, bSub, eOfN, eOfV, eOfB, eFrz, eMove, eVar, eBin, eTup, eLst, eIdx, eIf, eCallU, eCallV, eMake, eAppend, eAppendN, eExtend, ePop, daNil, daCons, putB, nOfV, nLst, nsNil, nsCons, nBin, nCallB, nCallU, nCallM, nComp, nCopy, dLst, vC, vOfP, vOfN, vOfB, vTup, vLst, vBin, vNeg, vIf, vCut, vIdx, vItK, vCopyT, asNil, asCons, bAnd, bOr, bNot, bCmp, bChain, bIsi, bIsC, bOfV, bInK, bTrue, beOfB, beOfE, beCmp, beNot, beAnd, beOr, qOfP, pVar, pIdx, pAttr, oIdx, getF, getT, O.fz, fzs, fzf, cmpT, eqT, ltT, T.flat, flats, VS.isNon, scal, T.ty, isTy, iOfJ, jSeq, seqT, jRng1, jRng2, jEnum, VS.iRng1, iSeq, VS.iEnum, ixN, atI, idxT, oSome, oNone, outsE, sFldSet, putO, lenF, absF, intF, divF, wipeE, VS.binT, VS.lim, e1', hbl, tB_app]
    simp [tB]
  have e2 := draw_eq (k + 7) p1 2 (by omega) (by omega)
  have e3 := draw_eq (k + 7) (dr p1 2).2 P (by omega) (by omega)
  have l3 := dr_lt (p := (dr p1 2).2) (m := P) (by omega)
  have hte : ∀ q, E1 P q (bs ++ [ss]) a b = [some (pot q), some (.val (shp P)), some (.lst (oT (tB bs) ++ [.val (.tup (tss ss))])), some (.lst []), some (.lst []), a, b, none, none, none, none, none, none, none, none, none] := fun q => by simp [E1, tB_app, tB]
  have tst : beCmp .Eq (eCallU (PhiN (k + 8)).f__law_draw [0] [some 0, none] [] (daCons (eMove 0) (daCons (eOfV (vC (.int 2))) daNil))) (eOfV (vC (.int 0))) (E1 P p1 (bs ++ [ss]) a b) = some (decide ((dr p1 2).1 = 0), E1 P (dr p1 2).2 (bs ++ [ss]) a b) := by
    simp [runF, sNil, sSeq, sIf, sDrop, sRet, sRetN, sBrk, sCnt, sNever, sSet, sAsg, sFor, sTupAsg, boNil, boCons, bName, bTup, btCons, btNil, bSub, eOfN, eOfV, eOfB, eFrz, eMove, eVar, eBin, eTup, eLst, eIdx, eIf, eCallU, eCallV, eMake, eAppend, eAppendN, eExtend, ePop, daNil, daCons, putB, nOfV, nLst, nsNil, nsCons, nBin, nCallB, nCallU, nCallM, nComp, nCopy, dLst, vC, vOfP, vOfN, vOfB, vTup, vLst, vBin, vNeg, vIf, vCut, vIdx, vItK, vCopyT, asNil, asCons, bAnd, bOr, bNot, bCmp, bChain, bIsi, bIsC, bOfV, bInK, bTrue, beOfB, beOfE, beCmp, beNot, beAnd, beOr, qOfP, pVar, pIdx, pAttr, oIdx, getF, getT, O.fz, fzs, fzf, cmpT, eqT, ltT, T.flat, flats, VS.isNon, scal, T.ty, isTy, iOfJ, jSeq, seqT, jRng1, jRng2, jEnum, VS.iRng1, iSeq, VS.iEnum, ixN, atI, idxT, oSome, oNone, outsE, sFldSet, putO, lenF, absF, intF, divF, wipeE, VS.binT, VS.lim, e2]
  by_cases hz : (dr p1 2).1 = 0
  · have hssl := sizs_len ss
    have hlen : (tss ss).length + 1 ≤ 100000 := by rw [tss_len]; omega
    refine ⟨ss ++ [.one .call (dr (dr p1 2).2 P).1], (dr (dr p1 2).2 P).2, ?_, ?_⟩
    · have hV : eOfV (vOfP (pIdx (pVar 2) (vNeg (vC (.int 1))))) (E1 P (dr p1 2).2 (bs ++ [ss]) a b) = some (.val (.tup (tss ss)), E1 P (dr p1 2).2 (bs ++ [ss]) a b) := by
        have h := pLast (pd := pVar 2) (e := E1 P (dr p1 2).2 (bs ++ [ss]) a b) (os := oT (tB bs)) (o := .val (.tup (tss ss))) (st := fun o' => some ((E1 P (dr p1 2).2 (bs ++ [ss]) a b).set 2 (some o'))) (by rw [hte]; rfl)
        unfold eOfV
        rw [vOfP_of h]
        rfl
      have hT : eTup (daCons (eTup (daCons (eOfV (vC (.str "call"))) (daCons (eCallU (PhiN (k + 8)).f__law_draw [0] [some 0, none] [] (daCons (eMove 0) (daCons (eOfV (vOfP (pIdx (pVar 1) (vC (.int 3))))) daNil))) daNil))) daNil) (E1 P (dr p1 2).2 (bs ++ [ss]) a b) = some (.val (.tup [.tup [.str "call", .int (dr (dr p1 2).2 P).1]]), E1 P (dr (dr p1 2).2 P).2 (bs ++ [ss]) a b) := by
        simp [runF, sNil, sSeq, sIf, sDrop, sRet, sRetN, sBrk, sCnt, sNever, sSet, sAsg, sFor, sTupAsg, boNil, boCons, bName, bTup, btCons, btNil, bSub, eOfN, eOfV, eOfB, eFrz, eMove, eVar, eBin, eTup, eLst, eIdx, eIf, eCallU, eCallV, eMake, eAppend, eAppendN, eExtend, ePop, daNil, daCons, putB, nOfV, nLst, nsNil, nsCons, nBin, nCallB, nCallU, nCallM, nComp, nCopy, dLst, vC, vOfP, vOfN, vOfB, vTup, vLst, vBin, vNeg, vIf, vCut, vIdx, vItK, vCopyT, asNil, asCons, bAnd, bOr, bNot, bCmp, bChain, bIsi, bIsC, bOfV, bInK, bTrue, beOfB, beOfE, beCmp, beNot, beAnd, beOr, qOfP, pVar, pIdx, pAttr, oIdx, getF, getT, O.fz, fzs, fzf, cmpT, eqT, ltT, T.flat, flats, VS.isNon, scal, T.ty, isTy, iOfJ, jSeq, seqT, jRng1, jRng2, jEnum, VS.iRng1, iSeq, VS.iEnum, ixN, atI, idxT, oSome, oNone, outsE, sFldSet, putO, lenF, absF, intF, divF, wipeE, VS.binT, VS.lim, e3]
      have hB : eBin .Add (eOfV (vOfP (pIdx (pVar 2) (vNeg (vC (.int 1)))))) (eTup (daCons (eTup (daCons (eOfV (vC (.str "call"))) (daCons (eCallU (PhiN (k + 8)).f__law_draw [0] [some 0, none] [] (daCons (eMove 0) (daCons (eOfV (vOfP (pIdx (pVar 1) (vC (.int 3))))) daNil))) daNil))) daNil)) (E1 P (dr p1 2).2 (bs ++ [ss]) a b) = some (.val (.tup (tss ss ++ [.tup [.str "call", .int (dr (dr p1 2).2 P).1]])), E1 P (dr (dr p1 2).2 P).2 (bs ++ [ss]) a b) := by
        simp [eBin, hV, hT, O.fz, VS.binT, VS.lim, hlen]
      have hS := bLast (pd := pVar 2) (e := E1 P (dr (dr p1 2).2 P).2 (bs ++ [ss]) a b) (os := oT (tB bs)) (o := .val (.tup (tss ss))) (o2 := .val (.tup (tss ss ++ [.tup [.str "call", .int (dr (dr p1 2).2 P).1]]))) (st := fun o' => some ((E1 P (dr (dr p1 2).2 P).2 (bs ++ [ss]) a b).set 2 (some o'))) (by rw [hte]; rfl)
      simp only [l1Body, sSeq, st1, sIf, tst, hz, decide_true, sAsg, hB, hS]
      simp [E1, tB_app, tB, tss_app, tss, Sm.t, W6.s]
    · refine ⟨(gds_app _ _).mpr ⟨h3, by simp only [gds, Sm.gd, W6.bd]; exact ⟨l3, trivial⟩⟩, ?_, ?_⟩
      · rw [deps_app]; simp only [deps, Sm.dep]; omega
      · rw [sizs_app]; simp only [sizs, Sm.siz]; omega
  · refine ⟨ss, (dr p1 2).2, ?_, h3, by omega, by omega⟩
    simp only [l1Body, sSeq, st1, sIf, tst, hz, decide_false, sNil]
theorem l1_loop {k : Nat} {P : Int} (hP : 0 < P) (hP2 : P < 1000) : ∀ (ts : List T) (p : Int × Int) (bs : List (List Sm)) (a b : Option O), bs.length + ts.length < 1000 → (∀ c ∈ bs, GB P c) →
    ∃ bs' p' a', forGo (bName 5) (l1Body (PhiN (k + 8))) ts (E1 P p bs a b) = some (.nx, E1 P p' bs' a' b) ∧ (∀ c ∈ bs', GB P c) ∧ bs'.length = bs.length + ts.length
  | [], p, bs, a, b, _, h => ⟨bs, p, a, by simp [forGo], h, by simp⟩
  | t :: ts, p, bs, a, b, hl, h => by
    rw [List.length_cons] at hl
    have hb : bName 5 (.val t) (E1 P p bs a b) = some (E1 P p bs (some (.val t)) b) := by simp [bName, E1]
    obtain ⟨c, p1, st, hc⟩ := l1_step (k := k) hP hP2 p bs (by omega) (some (.val t)) b
    obtain ⟨bs', p', a', he, h1, h2⟩ := l1_loop (k := k) hP hP2 ts p1 (bs ++ [c]) (some (.val t)) b (by rw [List.length_append, List.length_singleton]; omega) fun x hx => by
      rcases List.mem_append.mp hx with h3 | h3
      · exact h x h3
      · simp at h3; subst h3; exact hc
    refine ⟨bs', p', a', by simp only [forGo, hb, st, he], h1, ?_⟩
    rw [h2, List.length_append, List.length_singleton, List.length_cons]
    omega
abbrev E2 (P : Int) (p : Int × Int) (bs : List (List Sm)) (ths : List Int) (a b : Option O) : VS.Env := [some (pot p), some (.val (shp P)), some (.lst (oT (tB bs))), some (.lst (oI ths)), some (.lst []), a, b, none, none, none, none, none, none, none, none, none]
abbrev l2Body (Φ : Phi) : DS := (sDrop (eAppendN 3 (eCallU Φ.f__law_draw [0] [some 0, none] [] (daCons (eMove 0) (daCons (eOfV (vOfP (pIdx (pVar 1) (vC (.int 3))))) daNil)))))
theorem l2_loop {k : Nat} {P : Int} (hP : 0 < P) (hP2 : P < 1000) {bs : List (List Sm)} : ∀ (ts : List T) (p : Int × Int) (ths : List Int) (a b : Option O), ths.length + ts.length < 1000 → (∀ x ∈ ths, 0 ≤ x ∧ x < P) →
    ∃ ths' p' b', forGo (bName 6) (l2Body (PhiN (k + 1))) ts (E2 P p bs ths a b) = some (.nx, E2 P p' bs ths' a b') ∧ (∀ x ∈ ths', 0 ≤ x ∧ x < P) ∧ ths'.length = ths.length + ts.length
  | [], p, ths, a, b, _, h => ⟨ths, p, b, by simp [forGo], h, by simp⟩
  | t :: ts, p, ths, a, b, hl, h => by
    rw [List.length_cons] at hl
    have hb : bName 6 (.val t) (E2 P p bs ths a b) = some (E2 P p bs ths a (some (.val t))) := by simp [bName, E2]
    have e := draw_eq k p P (by omega) (by omega)
    have l := dr_lt (p := p) (m := P) (by omega)
    have h1 : ths.length < 100000 := by omega
    have st : l2Body (PhiN (k + 1)) (E2 P p bs ths a (some (.val t))) = some (.nx, E2 P (dr p P).2 bs (ths ++ [(dr p P).1]) a (some (.val t))) := by
      simp [runF, sNil, sSeq, sIf, sDrop, sRet, sRetN, sBrk, sCnt, sNever, sSet, sAsg, sFor, sTupAsg, boNil, boCons, bName, bTup, btCons, btNil, bSub, eOfN, eOfV, eOfB, eFrz, eMove, eVar, eBin, eTup, eLst, eIdx, eIf, eCallU, eCallV, eMake, eAppend, eAppendN, eExtend, ePop, daNil, daCons, putB, nOfV, nLst, nsNil, nsCons, nBin, nCallB, nCallU, nCallM, nComp, nCopy, dLst, vC, vOfP, vOfN, vOfB, vTup, vLst, vBin, vNeg, vIf, vCut, vIdx, vItK, vCopyT, asNil, asCons, bAnd, bOr, bNot, bCmp, bChain, bIsi, bIsC, bOfV, bInK, bTrue, beOfB, beOfE, beCmp, beNot, beAnd, beOr, qOfP, pVar, pIdx, pAttr, oIdx, getF, getT, O.fz, fzs, fzf, cmpT, eqT, ltT, T.flat, flats, VS.isNon, scal, T.ty, isTy, iOfJ, jSeq, seqT, jRng1, jRng2, jEnum, VS.iRng1, iSeq, VS.iEnum, ixN, atI, idxT, oSome, oNone, outsE, sFldSet, putO, lenF, absF, intF, divF, wipeE, VS.binT, VS.lim, strEq, strBeq, fzs_app, fzs_oI, map_tI, oI_len, tI_len, oI_app, tI_app, oI_nil, tI_nil, oI_cons, tI_cons, tInts_tI, e, h1]
    obtain ⟨ths', p', b', he, h2, h3⟩ := l2_loop (k := k) hP hP2 (bs := bs) ts (dr p P).2 (ths ++ [(dr p P).1]) a (some (.val t)) (by rw [List.length_append, List.length_singleton]; omega) fun x hx => by
      rcases List.mem_append.mp hx with h3 | h3
      · exact h x h3
      · simp at h3; subst h3; exact l
    refine ⟨ths', p', b', by simp only [forGo, hb, st, he], h2, ?_⟩
    rw [h3, List.length_append, List.length_singleton, List.length_cons]
    omega
end VW
namespace VW
open PySem L2 VS
/-! ### behind the making -/
theorem css_good {bs : List (List Sm)} (h1 : bs.length ≤ 4) (h : ∀ c ∈ bs, GB (bs.length : Nat) c) : Gr (css bs) := by
  have key : ∀ (n : Int) (s : List Sm), gds n s → ∀ y ∈ cls s, 0 ≤ y ∧ y < n := by
    intro n s
    have aux : ∀ (m : Nat) (s : List Sm), deps s < m → gds n s → ∀ y ∈ cls s, 0 ≤ y ∧ y < n := by
      intro m
      induction m with
      | zero => intro s hd; omega
      | succ m ih =>
        intro s
        induction s with
        | nil => intro _ _ y hy; simp [cls] at hy
        | cons t s ihs =>
          intro hd hg y hy
          simp only [deps] at hd
          simp only [gds] at hg
          simp only [cls, List.mem_append] at hy
          rcases hy with hy | hy
          · cases t with
            | skip => simp [Sm.cl] at hy
            | one w i =>
              cases w <;> simp [Sm.cl] at hy
              subst hy
              simpa [Sm.gd, W6.bd] using hg.1
            | hold i b =>
              simp only [Sm.cl, ssetI_mem] at hy
              simp only [Sm.gd] at hg
              simp only [Sm.dep] at hd
              exact ih b (by omega) hg.1.2 y hy
            | either a b =>
              simp only [Sm.cl, List.mem_append, ssetI_mem] at hy
              simp only [Sm.gd] at hg
              simp only [Sm.dep] at hd
              rcases hy with hy | hy
              · exact ih a (by omega) hg.1.1 y hy
              · exact ih b (by omega) hg.1.2 y hy
            | «when» i a b =>
              simp only [Sm.cl, List.mem_append, ssetI_mem] at hy
              simp only [Sm.gd] at hg
              simp only [Sm.dep] at hd
              rcases hy with hy | hy
              · exact ih a (by omega) hg.1.2.1 y hy
              · exact ih b (by omega) hg.1.2.2 y hy
            | loop b =>
              simp only [Sm.cl, ssetI_mem] at hy
              simp only [Sm.gd] at hg
              simp only [Sm.dep] at hd
              exact ih b (by omega) hg.1 y hy
          · exact ihs (by omega) hg.2 y hy
    exact fun hg => aux (deps s + 1) s (by omega) hg
  refine ⟨by simpa [css] using h1, fun c hc => ?_, fun c hc y hy => ?_⟩
  · unfold css at hc
    obtain ⟨b, hb, rfl⟩ := List.mem_map.mp hc
    exact ssetI_up _
  · unfold css at hc
    obtain ⟨b, hb, rfl⟩ := List.mem_map.mp hc
    unfold cw at hy
    rw [ssetI_mem] at hy
    have := key _ b (h b hb).1 y hy
    simpa [css] using this
abbrev E3 (p : Int × Int) (bs : List (List Sm)) (ths : List Int) (cs : List (List Int)) (mo : List Int) (x5 x6 tl co x12 x13 : Option O) : VS.Env :=
  [some (pot p), some (.val (shp (bs.length : Nat))), some (.val (.lst (tB bs))), some (.val (.lst (tI ths))), some (.lst (oI mo)), x5, x6, some (.val (prT bs ths)), some (.val (.lst (tC cs))), none, tl, co, x12, x13, none, none]
abbrev l3Body (Φ : Phi) : DS := (sSeq (sSet 11 (eOfV (vOfN (nCallU Φ.f_reached [] (asCons (vOfP (pVar 7)) (asCons (vOfP (pVar 6)) asNil))))))
 (sSeq (sIf (beOfB (bOr (bCmp .NotEq (qOfP (pVar 11)) (vOfN (nCallU Φ.f__law_come [] (asCons (vOfP (pVar 8)) (asCons (vOfP (pVar 5)) asNil))))) (bCmp .NotEq (vOfN (nCallU Φ.f_calls_of [] (asCons (vOfP (pVar 7)) asNil))) (qOfP (pVar 8)))))
 (sRet (eOfN (nOfV (vC (.bl false)))))
 sNil)
 (sDrop (eExtend (pVar 4) (vOfN (nComp (jSeq (vOfP (pVar 11))) [12] (bName 12) (bCmp .NotIn (qOfP (pVar 12)) (qOfP (pVar 4))) (nOfV (vOfP (pVar 12)))))))))
structure MoI (cs : List (List Int)) (ths mo : List Int) (j : Nat) : Prop where
  nd : mo.Nodup
  mem : ∀ x, x ∈ mo ↔ ∃ p ∈ ths.take j, x ∈ cm cs p
theorem l3_step {bs : List (List Sm)} {ths : List Int} (h : GoodP bs ths) (hT : GoodT (css bs) ths) (k : Nat) {p : Int × Int} {mo : List Int} {tl co x12 x13 : Option O} {j : Nat} (hj : j < ths.length) (I : MoI (css bs) ths mo j) :
    ∃ mo', l3Body (PhiN (k + 6)) (E3 p bs ths (css bs) mo (some (.val (.int ths[j]))) (some (.val (.int (j : Nat)))) tl co x12 x13) = some (.nx, E3 p bs ths (css bs) mo' (some (.val (.int ths[j]))) (some (.val (.int (j : Nat)))) tl (some (.val (.lst (tI (cm (css bs) ths[j]))))) x12 x13) ∧ MoI (css bs) ths mo' (j + 1) := by
  have hp := hT.t ths[j] (List.getElem_mem hj)
  have gn := hT.g.n
  have hr := reached_eq h hT (k + 1) hj
  have hc := lcome_eq hT.g hp (k + 5)
  have ho := calls_of_eq h (k + 1)
  have hcl := cm_len hT.g hp
  have hmo : mo.length ≤ (css bs).length := nd_len _ mo I.nd fun x hx => by
    obtain ⟨q, hq, hx⟩ := (I.mem x).mp hx
    exact cm_rng hT.g (hT.t q (List.mem_of_mem_take hq)) hx
  have hg := compGo_flt (bd := bName 12) (c := bCmp .NotIn (qOfP (pVar 12)) (qOfP (pVar 4))) (d := nOfV (vOfP (pVar 12))) (e := E3 p bs ths (css bs) mo (some (.val (.int ths[j]))) (some (.val (.int (j : Nat)))) tl (some (.val (.lst (tI (cm (css bs) ths[j]))))) none x13)
    (u := T.int) (g := fun y => .val (.int y)) (p := fun y => !decide (y ∈ mo)) (b := cm (css bs) ths[j]) fun y hy => by
      exact ⟨_, by simp [bName, E3]; rfl, by simp [runF, sNil, sSeq, sIf, sDrop, sRet, sRetN, sBrk, sCnt, sNever, sSet, sAsg, sFor, sTupAsg, boNil, boCons, bName, bTup, btCons, btNil, bSub, eOfN, eOfV, eOfB, eFrz, eMove, eVar, eBin, eTup, eLst, eIdx, eIf, eCallU, eCallV, eMake, eAppend, eAppendN, eExtend, ePop, daNil, daCons, putB, nOfV, nLst, nsNil, nsCons, nBin, nCallB, nCallU, nCallM, nComp, nCopy, dLst, vC, vOfP, vOfN, vOfB, vTup, vLst, vBin, vNeg, vIf, vCut, vIdx, vItK, vCopyT, asNil, asCons, bAnd, bOr, bNot, bCmp, bChain, bIsi, bIsC, bOfV, bInK, bTrue, beOfB, beOfE, beCmp, beNot, beAnd, beOr, qOfP, pVar, pIdx, pAttr, oIdx, getF, getT, O.fz, fzs, fzf, cmpT, eqT, ltT, T.flat, flats, VS.isNon, scal, T.ty, isTy, iOfJ, jSeq, seqT, jRng1, jRng2, jEnum, VS.iRng1, iSeq, VS.iEnum, ixN, atI, idxT, oSome, oNone, outsE, sFldSet, putO, lenF, absF, intF, divF, wipeE, VS.binT, VS.lim, strEq, strBeq, fzs_app, fzs_oI, map_tI, oI_len, tI_len, oI_app, tI_app, oI_nil, tI_nil, oI_cons, tI_cons, tInts_tI, inT_tI], by simp [runF, sNil, sSeq, sIf, sDrop, sRet, sRetN, sBrk, sCnt, sNever, sSet, sAsg, sFor, sTupAsg, boNil, boCons, bName, bTup, btCons, btNil, bSub, eOfN, eOfV, eOfB, eFrz, eMove, eVar, eBin, eTup, eLst, eIdx, eIf, eCallU, eCallV, eMake, eAppend, eAppendN, eExtend, ePop, daNil, daCons, putB, nOfV, nLst, nsNil, nsCons, nBin, nCallB, nCallU, nCallM, nComp, nCopy, dLst, vC, vOfP, vOfN, vOfB, vTup, vLst, vBin, vNeg, vIf, vCut, vIdx, vItK, vCopyT, asNil, asCons, bAnd, bOr, bNot, bCmp, bChain, bIsi, bIsC, bOfV, bInK, bTrue, beOfB, beOfE, beCmp, beNot, beAnd, beOr, qOfP, pVar, pIdx, pAttr, oIdx, getF, getT, O.fz, fzs, fzf, cmpT, eqT, ltT, T.flat, flats, VS.isNon, scal, T.ty, isTy, iOfJ, jSeq, seqT, jRng1, jRng2, jEnum, VS.iRng1, iSeq, VS.iEnum, ixN, atI, idxT, oSome, oNone, outsE, sFldSet, putO, lenF, absF, intF, divF, wipeE, VS.binT, VS.lim]⟩
  have hg' : compGo (bName 12) (bCmp .NotIn (qOfP (pVar 12)) (qOfP (pVar 4))) (nOfV (vOfP (pVar 12))) (E3 p bs ths (css bs) mo (some (.val (.int ths[j]))) (some (.val (.int (j : Nat)))) tl (some (.val (.lst (tI (cm (css bs) ths[j]))))) none x13) (tI (cm (css bs) ths[j])) = some (oI ((cm (css bs) ths[j]).filter fun y => !decide (y ∈ mo))) := hg
  have hfl := List.length_filter_le (fun y => !decide (y ∈ mo)) (cm (css bs) ths[j])
  have hll : (cm (css bs) ths[j]).length ≤ 100000 := by omega
  have hl2 : mo.length + ((cm (css bs) ths[j]).filter fun y => !decide (y ∈ mo)).length ≤ 100000 := by omega
  refine ⟨mo ++ (cm (css bs) ths[j]).filter fun y => !decide (y ∈ mo), ?_, ?_, fun x => ?_⟩
  · have s1 : sSet 11 (eOfV (vOfN (nCallU (PhiN (k + 6)).f_reached [] (asCons (vOfP (pVar 7)) (asCons (vOfP (pVar 6)) asNil))))) (E3 p bs ths (css bs) mo (some (.val (.int ths[j]))) (some (.val (.int (j : Nat)))) tl co x12 x13) = some (.nx, E3 p bs ths (css bs) mo (some (.val (.int ths[j]))) (some (.val (.int (j : Nat)))) tl (some (.val (.lst (tI (cm (css bs) ths[j]))))) x12 x13) := by
      simp [sSet, eOfV, vOfN, nCallU, asCons, vOfP, pVar, asNil, E3, hr, O.fz, fzs_oI]
    have s2 : beOfB (bOr (bCmp .NotEq (qOfP (pVar 11)) (vOfN (nCallU (PhiN (k + 6)).f__law_come [] (asCons (vOfP (pVar 8)) (asCons (vOfP (pVar 5)) asNil))))) (bCmp .NotEq (vOfN (nCallU (PhiN (k + 6)).f_calls_of [] (asCons (vOfP (pVar 7)) asNil))) (qOfP (pVar 8)))) (E3 p bs ths (css bs) mo (some (.val (.int ths[j]))) (some (.val (.int (j : Nat)))) tl (some (.val (.lst (tI (cm (css bs) ths[j]))))) x12 x13) = some (false, E3 p bs ths (css bs) mo (some (.val (.int ths[j]))) (some (.val (.int (j : Nat)))) tl (some (.val (.lst (tI (cm (css bs) ths[j]))))) x12 x13) := by
      simp [beOfB, bOr, bCmp, qOfP, vOfN, nCallU, asCons, vOfP, pVar, asNil, E3, hc, ho, O.fz, fzs_oI, fzs_oC, cmpT, eqT_tI, eqT_tC]
    have s3 : nComp (jSeq (vOfP (pVar 11))) [12] (bName 12) (bCmp .NotIn (qOfP (pVar 12)) (qOfP (pVar 4))) (nOfV (vOfP (pVar 12))) (E3 p bs ths (css bs) mo (some (.val (.int ths[j]))) (some (.val (.int (j : Nat)))) tl (some (.val (.lst (tI (cm (css bs) ths[j]))))) x12 x13) = some (.lst (oI ((cm (css bs) ths[j]).filter fun y => !decide (y ∈ mo)))) :=
      nComp_eq (ts := tI (cm (css bs) ths[j])) (by simp [jSeq, vOfP, pVar, E3, seqT]) (by rw [tI_len]; exact hll) hg'
    have s4 : sDrop (eExtend (pVar 4) (vOfN (nComp (jSeq (vOfP (pVar 11))) [12] (bName 12) (bCmp .NotIn (qOfP (pVar 12)) (qOfP (pVar 4))) (nOfV (vOfP (pVar 12)))))) (E3 p bs ths (css bs) mo (some (.val (.int ths[j]))) (some (.val (.int (j : Nat)))) tl (some (.val (.lst (tI (cm (css bs) ths[j]))))) x12 x13) = some (.nx, E3 p bs ths (css bs) (mo ++ (cm (css bs) ths[j]).filter fun y => !decide (y ∈ mo)) (some (.val (.int ths[j]))) (some (.val (.int (j : Nat)))) tl (some (.val (.lst (tI (cm (css bs) ths[j]))))) x12 x13) := by
      have s3' : vOfN (nComp (jSeq (vOfP (pVar 11))) [12] (bName 12) (bCmp .NotIn (qOfP (pVar 12)) (qOfP (pVar 4))) (nOfV (vOfP (pVar 12)))) (E3 p bs ths (css bs) mo (some (.val (.int ths[j]))) (some (.val (.int (j : Nat)))) tl (some (.val (.lst (tI (cm (css bs) ths[j]))))) x12 x13) = some (.lst (tI ((cm (css bs) ths[j]).filter fun y => !decide (y ∈ mo)))) := by
        unfold vOfN
        rw [s3, ← fzs_oI]
        rfl
      simp only [sDrop, eExtend, s3', pVar, E3, List.getElem?_cons_succ, List.getElem?_cons_zero, oI_len, tI_len, VS.lim]
      simp [hl2, map_tI, oI_app]
    simp only [l3Body, sSeq, s1, sIf, s2, sNil, s4]
  · rw [List.nodup_append]
    refine ⟨I.nd, (up_nodup (cm_up _ _)).sublist List.filter_sublist, fun a ha b hb e => ?_⟩
    subst e
    have := (List.mem_filter.mp hb).2
    simp at this
    exact this ha
  · rw [List.mem_append, I.mem x, List.mem_filter]
    have ht : ths.take (j + 1) = ths.take j ++ [ths[j]] := by rw [List.take_succ, List.getElem?_eq_getElem hj]; rfl
    rw [ht]
    constructor
    · rintro (⟨q, hq, hx⟩ | ⟨hx, _⟩)
      · exact ⟨q, List.mem_append_left _ hq, hx⟩
      · exact ⟨ths[j], List.mem_append_right _ (List.mem_singleton.mpr rfl), hx⟩
    · rintro ⟨q, hq, hx⟩
      rcases List.mem_append.mp hq with h1 | h1
      · exact .inl ⟨q, h1, hx⟩
      · simp at h1
        subst h1
        by_cases hm : x ∈ mo
        · exact .inl ((I.mem x).mp hm)
        · exact .inr ⟨hx, by simpa using hm⟩
theorem l3_loop {bs : List (List Sm)} {ths : List Int} (h : GoodP bs ths) (hT : GoodT (css bs) ths) (k : Nat) {p : Int × Int} {tl x12 x13 : Option O} : ∀ (m j : Nat) (mo : List Int) (x5 x6 co : Option O), j + m = ths.length → MoI (css bs) ths mo j →
    ∃ mo' x5' x6' co', forGo (bTup 2 (btCons (bName 6) (btCons (bName 5) btNil))) (l3Body (PhiN (k + 6))) (enumT j (tI (ths.drop j))) (E3 p bs ths (css bs) mo x5 x6 tl co x12 x13) = some (.nx, E3 p bs ths (css bs) mo' x5' x6' tl co' x12 x13) ∧ MoI (css bs) ths mo' ths.length
  | 0, j, mo, x5, x6, co, hm, I => by
    have e : j = ths.length := by omega
    subst e
    exact ⟨mo, x5, x6, co, by rw [List.drop_length]; simp [tI_nil, enumT, forGo], I⟩
  | m + 1, j, mo, x5, x6, co, hm, I => by
    have hj : j < ths.length := by omega
    have hb : bTup 2 (btCons (bName 6) (btCons (bName 5) btNil)) (.val (.tup [.int (j : Nat), .int ths[j]])) (E3 p bs ths (css bs) mo x5 x6 tl co x12 x13) = some (E3 p bs ths (css bs) mo (some (.val (.int ths[j]))) (some (.val (.int (j : Nat)))) tl co x12 x13) := by
      simp [bTup, btCons, bName, btNil, E3]
    obtain ⟨mo1, st, I1⟩ := l3_step h hT k (p := p) (tl := tl) (co := co) (x12 := x12) (x13 := x13) hj I
    obtain ⟨mo', x5', x6', co', he, I'⟩ := l3_loop h hT k (p := p) (tl := tl) (x12 := x12) (x13 := x13) m (j + 1) mo1 (some (.val (.int ths[j]))) (some (.val (.int (j : Nat)))) (some (.val (.lst (tI (cm (css bs) ths[j]))))) (by omega) I1
    refine ⟨mo', x5', x6', co', ?_, I'⟩
    rw [List.drop_eq_getElem_cons hj, tI_cons]
    simp only [enumT, forGo, hb, st, he]
end VW
namespace VW
open PySem L2 VS
abbrev E4 (p : Int × Int) (bs : List (List Sm)) (ths : List Int) (cs : List (List Int)) (mo : List Int) (x5 x6 tl co x12 : Option O) (d : Bool) : VS.Env :=
  [some (pot p), some (.val (shp (bs.length : Nat))), some (.val (.lst (tB bs))), some (.val (.lst (tI ths))), some (.val (.lst (tI mo))), x5, x6, some (.val (prT bs ths)), some (.val (.lst (tC cs))), none, tl, co, x12, some (.val (.bl d)), none, none]
abbrev l4Body (Φ : Phi) : DS := (sSet 13 (eOfV (vOfB (bOr (bOfV (vOfP (pVar 13))) (bOfV (vOfN (nCallB anyF (asCons (vOfN (nComp (jSeq (vOfP (pIdx (pVar 8) (vOfP (pVar 12))))) [14] (bName 14) bTrue (nOfV (vOfB (bCmp .In (qOfP (pVar 12)) (vOfN (nCallU Φ.f__law_come [] (asCons (vOfP (pVar 8)) (asCons (vOfP (pVar 14)) asNil))))))))) asNil))))))))
theorem l4_step {bs : List (List Sm)} {ths : List Int} {cs : List (List Int)} (g : Gr cs) (k : Nat) {p : Int × Int} {mo : List Int} {x5 x6 tl co : Option O} {d : Bool} {x : Int} (hx : 0 ≤ x ∧ x < (cs.length : Nat)) :
    l4Body (PhiN (k + 1)) (E4 p bs ths cs mo x5 x6 tl co (some (.val (.int x))) d) = some (.nx, E4 p bs ths cs mo x5 x6 tl co (some (.val (.int x))) (d || ring cs x)) := by
  have hg := compGo_of (bd := bName 14) (c := bTrue) (d := nOfV (vOfB (bCmp .In (qOfP (pVar 12)) (vOfN (nCallU (PhiN (k + 1)).f__law_come [] (asCons (vOfP (pVar 8)) (asCons (vOfP (pVar 14)) asNil))))))) (e := E4 p bs ths cs mo x5 x6 tl co (some (.val (.int x))) d)
    (u := T.int) (g := fun y => .val (.bl (decide (x ∈ cm cs y)))) (b := ch cs x) fun y hy => by
      have hy' := g.ch hx hy
      exact ⟨_, by simp [bName, E4]; rfl, rfl, by simp [runF, sNil, sSeq, sIf, sDrop, sRet, sRetN, sBrk, sCnt, sNever, sSet, sAsg, sFor, sTupAsg, boNil, boCons, bName, bTup, btCons, btNil, bSub, eOfN, eOfV, eOfB, eFrz, eMove, eVar, eBin, eTup, eLst, eIdx, eIf, eCallU, eCallV, eMake, eAppend, eAppendN, eExtend, ePop, daNil, daCons, putB, nOfV, nLst, nsNil, nsCons, nBin, nCallB, nCallU, nCallM, nComp, nCopy, dLst, vC, vOfP, vOfN, vOfB, vTup, vLst, vBin, vNeg, vIf, vCut, vIdx, vItK, vCopyT, asNil, asCons, bAnd, bOr, bNot, bCmp, bChain, bIsi, bIsC, bOfV, bInK, bTrue, beOfB, beOfE, beCmp, beNot, beAnd, beOr, qOfP, pVar, pIdx, pAttr, oIdx, getF, getT, O.fz, fzs, fzf, cmpT, eqT, ltT, T.flat, flats, VS.isNon, scal, T.ty, isTy, iOfJ, jSeq, seqT, jRng1, jRng2, jEnum, VS.iRng1, iSeq, VS.iEnum, ixN, atI, idxT, oSome, oNone, outsE, sFldSet, putO, lenF, absF, intF, divF, wipeE, VS.binT, VS.lim, lcome_eq g hy', strEq, strBeq, fzs_app, fzs_oI, map_tI, oI_len, tI_len, oI_app, tI_app, oI_nil, tI_nil, oI_cons, tI_cons, tInts_tI, inT_tI]⟩
  have hll : (ch cs x).length ≤ 100000 := by have := ch_len g hx; omega
  have hsrc : vOfP (pIdx (pVar 8) (vOfP (pVar 12))) (E4 p bs ths cs mo x5 x6 tl co (some (.val (.int x))) d) = some (.lst (tI (ch cs x))) := by
    refine vOfP_of (st := fun _ => none) ?_
    rw [pIdx_of (o := .val (.lst (tC cs))) (i := x) rfl rfl]
    simp [oIdx, atI, ixN, hx.1, hx.2, tC_len, tC_at hx]
  have s3 : nComp (jSeq (vOfP (pIdx (pVar 8) (vOfP (pVar 12))))) [14] (bName 14) bTrue (nOfV (vOfB (bCmp .In (qOfP (pVar 12)) (vOfN (nCallU (PhiN (k + 1)).f__law_come [] (asCons (vOfP (pVar 8)) (asCons (vOfP (pVar 14)) asNil))))))) (E4 p bs ths cs mo x5 x6 tl co (some (.val (.int x))) d) = some (.lst ((ch cs x).map fun y => O.val (.bl (decide (x ∈ cm cs y))))) :=
    nComp_eq (ts := tI (ch cs x)) (by unfold jSeq; rw [hsrc]; rfl) (by rw [tI_len]; exact hll) hg
  have s4 : bOfV (vOfN (nCallB anyF (asCons (vOfN (nComp (jSeq (vOfP (pIdx (pVar 8) (vOfP (pVar 12))))) [14] (bName 14) bTrue (nOfV (vOfB (bCmp .In (qOfP (pVar 12)) (vOfN (nCallU (PhiN (k + 1)).f__law_come [] (asCons (vOfP (pVar 8)) (asCons (vOfP (pVar 14)) asNil))))))))) asNil))) (E4 p bs ths cs mo x5 x6 tl co (some (.val (.int x))) d) = some (ring cs x) := by
    have e : ((ch cs x).map fun y => decide (x ∈ cm cs y)).any id = ring cs x := by simp [ring]
    simp only [bOfV, vOfN, nCallB, asCons, asNil, s3, Option.map_some, O.fz, fzs_bls, anyF_bls, e]
  cases d with
  | true => simp [l4Body, sSet, eOfV, vOfB, bOr, bOfV, vOfP, pVar, E4]
  | false =>
    have s5 : bOr (bOfV (vOfP (pVar 13))) (bOfV (vOfN (nCallB anyF (asCons (vOfN (nComp (jSeq (vOfP (pIdx (pVar 8) (vOfP (pVar 12))))) [14] (bName 14) bTrue (nOfV (vOfB (bCmp .In (qOfP (pVar 12)) (vOfN (nCallU (PhiN (k + 1)).f__law_come [] (asCons (vOfP (pVar 8)) (asCons (vOfP (pVar 14)) asNil))))))))) asNil)))) (E4 p bs ths cs mo x5 x6 tl co (some (.val (.int x))) false) = some (ring cs x) := by
      have e : bOfV (vOfP (pVar 13)) (E4 p bs ths cs mo x5 x6 tl co (some (.val (.int x))) false) = some false := rfl
      simp only [bOr, e, s4]
    simp only [l4Body, sSet, eOfV, vOfB, s5, Option.map_some]
    simp [E4]
theorem l4_loop {bs : List (List Sm)} {ths : List Int} {cs : List (List Int)} (g : Gr cs) (k : Nat) {p : Int × Int} {mo : List Int} {x5 x6 tl co : Option O} : ∀ (xs : List Int) (x12 : Option O) (d : Bool), (∀ x ∈ xs, 0 ≤ x ∧ x < (cs.length : Nat)) →
    ∃ x12', forGo (bName 12) (l4Body (PhiN (k + 1))) (tI xs) (E4 p bs ths cs mo x5 x6 tl co x12 d) = some (.nx, E4 p bs ths cs mo x5 x6 tl co x12' (d || xs.any (ring cs)))
  | [], x12, d, _ => ⟨x12, by simp [tI_nil, forGo]⟩
  | x :: xs, x12, d, h => by
    have hb : bName 12 (.val (.int x)) (E4 p bs ths cs mo x5 x6 tl co x12 d) = some (E4 p bs ths cs mo x5 x6 tl co (some (.val (.int x))) d) := by simp [bName, E4]
    have st := l4_step (bs := bs) (ths := ths) g k (p := p) (mo := mo) (x5 := x5) (x6 := x6) (tl := tl) (co := co) (d := d) (h x List.mem_cons_self)
    obtain ⟨x12', he⟩ := l4_loop (bs := bs) (ths := ths) g k (p := p) (mo := mo) (x5 := x5) (x6 := x6) (tl := tl) (co := co) xs (some (.val (.int x))) (d || ring cs x) fun z hz => h z (List.mem_cons_of_mem _ hz)
    refine ⟨x12', ?_⟩
    rw [tI_cons]
    simp only [forGo, hb, st, he, List.any_cons, Bool.or_assoc]
end VW
namespace VW
open PySem L2 VS
theorem sSeq_nx {a b : DS} {e e1 : VS.Env} {r : Option (Out × VS.Env)} (h : a e = some (.nx, e1)) (h2 : b e1 = r) : sSeq a b e = r := by
  unfold sSeq
  rw [h]
  exact h2
theorem sIf_f {c : DBE} {a b : DS} {e e1 : VS.Env} {r : Option (Out × VS.Env)} (h : c e = some (false, e1)) (h2 : b e1 = r) : sIf c a b e = r := by
  unfold sIf
  rw [h]
  exact h2
theorem sIf_t {c : DBE} {a b : DS} {e e1 : VS.Env} {r : Option (Out × VS.Env)} (h : c e = some (true, e1)) (h2 : a e1 = r) : sIf c a b e = r := by
  unfold sIf
  rw [h]
  exact h2
theorem sRet_b {d : DB} {e : VS.Env} {b : Bool} (h : d e = some b) : sRet (eOfN (nOfV (vOfB d))) e = some (.rt (.val (.bl b)), e) := by
  simp only [sRet, eOfN, nOfV, vOfB, h, Option.map_some]
theorem runF_rt {np n : Nat} {io : List Nat} {d : DS} {os : List O} {e e' : VS.Env} {o : O} {x : List O} (hl : os.length = np) (he : os.map some ++ List.replicate (n - np) none = e) (h : d e = some (.rt o, e')) (hx : outsE io e' = some x) : runF np n io d os = some (o, x) := by
  unfold runF
  rw [if_pos hl, he, h]
  show (outsE io e').map (fun x => (o, x)) = _
  rw [hx]
  rfl
theorem rngT_len (n : Nat) : (rngT 0 n).length = n := by simp [rngT]
theorem right_eq (k : Nat) (p0 : Int × Int) : ∃ p9, (PhiN (k + 21)).f__law_right [pot p0] = some (.val (.bl true), [pot p9]) := by
  have d3 := draw_eq (k + 19) p0 3 (by omega) (by omega)
  have l3 := dr_lt (p := p0) (m := 3) (by omega)
  generalize hP : (2 : Int) + (dr p0 3).1 = P
  generalize hp1 : (dr p0 3).2 = p1 at d3
  have hP0 : 0 < P := by omega
  have hP1 : P < 1000 := by omega
  have s1 : sSet 1 (eFrz (eTup (daCons (eOfV (vC (.int 1))) (daCons (eOfV (vC (.int 1))) (daCons (eOfV (vC (.int 1))) (daCons (eBin .Add (eOfV (vC (.int 2))) (eCallU (PhiN (k + 20)).f__law_draw [0] [some 0, none] [] (daCons (eMove 0) (daCons (eOfV (vC (.int 3))) daNil)))) daNil)))))) [some (pot p0), none, none, none, none, none, none, none, none, none, none, none, none, none, none, none] =
      some (.nx, [some (pot p1), some (.val (shp P)), none, none, none, none, none, none, none, none, none, none, none, none, none, none]) := by
    simp [runF, sNil, sSeq, sIf, sDrop, sRet, sRetN, sBrk, sCnt, sNever, sSet, sAsg, sFor, sTupAsg, boNil, boCons, bName, bTup, btCons, btNil, bSub, eOfN, eOfV, eOfB, eFrz, eMove, eVar, eBin, eTup, eLst, eIdx, eIf, eCallU, eCallV, eMake, eAppend, eAppendN, eExtend, ePop, daNil, daCons, putB, nOfV, nLst, nsNil, nsCons, nBin, nCallB, nCallU, nCallM, nComp, nCopy, dLst, vC, vOfP, vOfN, vOfB, vTup, vLst, vBin, vNeg, vIf, vCut, vIdx, vItK, vCopyT, asNil, asCons, bAnd, bOr, bNot, bCmp, bChain, bIsi, bIsC, bOfV, bInK, bTrue, beOfB, beOfE, beCmp, beNot, beAnd, beOr, qOfP, pVar, pIdx, pAttr, oIdx, getF, getT, O.fz, fzs, fzf, cmpT, eqT, ltT, T.flat, flats, VS.isNon, scal, T.ty, isTy, iOfJ, jSeq, seqT, jRng1, jRng2, jEnum, VS.iRng1, iSeq, VS.iEnum, ixN, atI, idxT, oSome, oNone, outsE, sFldSet, putO, lenF, absF, intF, divF, wipeE, VS.binT, VS.lim, d3, hP]
  have s2 : sTupAsg 3 (daCons (eOfN (nLst nsNil)) (daCons (eOfN (nLst nsNil)) (daCons (eOfN (nLst nsNil)) daNil))) (boCons (bName 2) (boCons (bName 3) (boCons (bName 4) boNil))) [some (pot p1), some (.val (shp P)), none, none, none, none, none, none, none, none, none, none, none, none, none, none] = some (.nx, E1 P p1 [] none none) := by
    simp [runF, sNil, sSeq, sIf, sDrop, sRet, sRetN, sBrk, sCnt, sNever, sSet, sAsg, sFor, sTupAsg, boNil, boCons, bName, bTup, btCons, btNil, bSub, eOfN, eOfV, eOfB, eFrz, eMove, eVar, eBin, eTup, eLst, eIdx, eIf, eCallU, eCallV, eMake, eAppend, eAppendN, eExtend, ePop, daNil, daCons, putB, nOfV, nLst, nsNil, nsCons, nBin, nCallB, nCallU, nCallM, nComp, nCopy, dLst, vC, vOfP, vOfN, vOfB, vTup, vLst, vBin, vNeg, vIf, vCut, vIdx, vItK, vCopyT, asNil, asCons, bAnd, bOr, bNot, bCmp, bChain, bIsi, bIsC, bOfV, bInK, bTrue, beOfB, beOfE, beCmp, beNot, beAnd, beOr, qOfP, pVar, pIdx, pAttr, oIdx, getF, getT, O.fz, fzs, fzf, cmpT, eqT, ltT, T.flat, flats, VS.isNon, scal, T.ty, isTy, iOfJ, jSeq, seqT, jRng1, jRng2, jEnum, VS.iRng1, iSeq, VS.iEnum, ixN, atI, idxT, oSome, oNone, outsE, sFldSet, putO, lenF, absF, intF, divF, wipeE, VS.binT, VS.lim, E1, tB]
  obtain ⟨bs, p2, a5, f3, hB, hBl⟩ := l1_loop (k := k + 12) hP0 hP1 (rngT 0 P.toNat) p1 [] none none (by rw [rngT_len]; simp; omega) (fun c hc => by cases hc)
  rw [rngT_len, List.length_nil, Nat.zero_add] at hBl
  have hbP : P = (bs.length : Nat) := by omega
  have rP : rngOk P = true := by unfold rngOk; simp; omega
  have s3 : sFor (iOfJ (jRng1 (vOfP (pIdx (pVar 1) (vC (.int 3)))))) (bName 5) (l1Body (PhiN (k + 20))) (E1 P p1 [] none none) = some (.nx, E1 P p2 bs a5 none) := by
    rw [sFor_of (ts := rngT 0 P.toNat) (e1 := E1 P p1 [] none none)]
    · exact f3
    · simp [iOfJ, jRng1, vOfP, pIdx, pVar, vC, oIdx, atI, ixN, rP, E1]
  have d4 := draw_eq (k + 19) p2 3 (by omega) (by omega)
  have l4 := dr_lt (p := p2) (m := 3) (by omega)
  obtain ⟨ths, p3, b6, f4, hT, hTl⟩ := l2_loop (k := k + 19) hP0 hP1 (bs := bs) (rngT 0 (1 + (dr p2 3).1).toNat) (dr p2 3).2 [] a5 none (by rw [rngT_len]; simp; omega) (fun c hc => by cases hc)
  rw [rngT_len, List.length_nil, Nat.zero_add] at hTl
  have r4 : rngOk (1 + (dr p2 3).1) = true := by unfold rngOk; simp; omega
  have s4 : sFor (VS.iRng1 (eBin .Add (eOfV (vC (.int 1))) (eCallU (PhiN (k + 20)).f__law_draw [0] [some 0, none] [] (daCons (eMove 0) (daCons (eOfV (vC (.int 3))) daNil))))) (bName 6) (l2Body (PhiN (k + 20))) (E1 P p2 bs a5 none) = some (.nx, E2 P p3 bs ths a5 b6) := by
    rw [sFor_of (ts := rngT 0 (1 + (dr p2 3).1).toNat) (e1 := E2 P (dr p2 3).2 bs [] a5 none)]
    · exact f4
    · simp [VS.iRng1, eBin, eOfV, vC, eCallU, daCons, eMove, daNil, d4, putB, O.fz, VS.binT, r4, E1, E2, oI_nil]
  subst hbP
  have hG : GoodP bs ths := ⟨by omega, by omega, fun b hb => (hB b hb).1, fun b hb => (hB b hb).2.1, fun b hb => (hB b hb).2.2, by omega, by omega, hT⟩
  have cl : (css bs).length = bs.length := by simp [css]
  have hGT : GoodT (css bs) ths := ⟨css_good (by omega) hB, by omega, by omega, fun x hx => by rw [cl]; exact hT x hx⟩
  -- the program and the law's calls
  have mk := made_eq hG (k + 7)
  have hg5 := compGo_of (bd := bName 9) (c := bTrue) (d := nCallU (PhiN (k + 20)).f__law_calls [] (asCons (vOfP (pVar 9)) asNil)) (e := [some (pot p3), some (.val (shp (bs.length : Nat))), some (.val (.lst (tB bs))), some (.val (.lst (tI ths))), some (.lst []), a5, b6, none, none, none, none, none, none, none, none, none])
    (u := fun b => T.tup (tss b)) (g := fun b => .lst (oI (cw b))) (b := bs) fun b hb => by
      have hs := (hB b hb).2.2
      have hd := (hB b hb).2.1
      exact ⟨_, by simp [bName]; rfl, rfl, by simp [runF, sNil, sSeq, sIf, sDrop, sRet, sRetN, sBrk, sCnt, sNever, sSet, sAsg, sFor, sTupAsg, boNil, boCons, bName, bTup, btCons, btNil, bSub, eOfN, eOfV, eOfB, eFrz, eMove, eVar, eBin, eTup, eLst, eIdx, eIf, eCallU, eCallV, eMake, eAppend, eAppendN, eExtend, ePop, daNil, daCons, putB, nOfV, nLst, nsNil, nsCons, nBin, nCallB, nCallU, nCallM, nComp, nCopy, dLst, vC, vOfP, vOfN, vOfB, vTup, vLst, vBin, vNeg, vIf, vCut, vIdx, vItK, vCopyT, asNil, asCons, bAnd, bOr, bNot, bCmp, bChain, bIsi, bIsC, bOfV, bInK, bTrue, beOfB, beOfE, beCmp, beNot, beAnd, beOr, qOfP, pVar, pIdx, pAttr, oIdx, getF, getT, O.fz, fzs, fzf, cmpT, eqT, ltT, T.flat, flats, VS.isNon, scal, T.ty, isTy, iOfJ, jSeq, seqT, jRng1, jRng2, jEnum, VS.iRng1, iSeq, VS.iEnum, ixN, atI, idxT, oSome, oNone, outsE, sFldSet, putO, lenF, absF, intF, divF, wipeE, VS.binT, VS.lim, lc_eq (k + 20) b (by omega) (by omega)]⟩
  have hcs5 : (bs.map fun b => O.lst (oI (cw b))) = oC (css bs) := by simp [oC, css]
  rw [hcs5] at hg5
  have s5 : sTupAsg 2 (daCons (eFrz (eCallU (PhiN (k + 20)).f__law_made [] [none] [] (daCons (eTup (daCons (eOfV (vOfP (pVar 1))) (daCons (eVar 2) (daCons (eVar 3) daNil)))) daNil))) (daCons (eOfV (vOfN (nComp (jSeq (vOfP (pVar 2))) [9] (bName 9) bTrue (nCallU (PhiN (k + 20)).f__law_calls [] (asCons (vOfP (pVar 9)) asNil))))) daNil)) (boCons (bName 7) (boCons (bName 8) boNil)) (E2 (bs.length : Nat) p3 bs ths a5 b6) =
      some (.nx, E3 p3 bs ths (css bs) [] a5 b6 none none none none) := by
    have h1 : eFrz (eCallU (PhiN (k + 20)).f__law_made [] [none] [] (daCons (eTup (daCons (eOfV (vOfP (pVar 1))) (daCons (eVar 2) (daCons (eVar 3) daNil)))) daNil)) (E2 (bs.length : Nat) p3 bs ths a5 b6) = some (.val (prT bs ths), [some (pot p3), some (.val (shp (bs.length : Nat))), some (.val (.lst (tB bs))), some (.val (.lst (tI ths))), some (.lst []), a5, b6, none, none, none, none, none, none, none, none, none]) := by
      simp [eFrz, eCallU, daCons, daNil, eTup, eOfV, vOfP, pVar, eVar, E2, O.fz, fzs, fzs_vals, fzs_oI, VS.lim, mk, putB, fzf, prF]
    have h2 : nComp (jSeq (vOfP (pVar 2))) [9] (bName 9) bTrue (nCallU (PhiN (k + 20)).f__law_calls [] (asCons (vOfP (pVar 9)) asNil)) [some (pot p3), some (.val (shp (bs.length : Nat))), some (.val (.lst (tB bs))), some (.val (.lst (tI ths))), some (.lst []), a5, b6, none, none, none, none, none, none, none, none, none] = some (.lst (oC (css bs))) :=
      nComp_eq (ts := tB bs) (by simp [jSeq, vOfP, pVar, seqT]) (by rw [tB_len]; omega) hg5
    have h3 : eOfV (vOfN (nComp (jSeq (vOfP (pVar 2))) [9] (bName 9) bTrue (nCallU (PhiN (k + 20)).f__law_calls [] (asCons (vOfP (pVar 9)) asNil)))) [some (pot p3), some (.val (shp (bs.length : Nat))), some (.val (.lst (tB bs))), some (.val (.lst (tI ths))), some (.lst []), a5, b6, none, none, none, none, none, none, none, none, none] = some (.val (.lst (tC (css bs))), [some (pot p3), some (.val (shp (bs.length : Nat))), some (.val (.lst (tB bs))), some (.val (.lst (tI ths))), some (.lst []), a5, b6, none, none, none, none, none, none, none, none, none]) := by
      simp only [eOfV, vOfN, h2, Option.map_some, O.fz, fzs_oC]
    simp only [sTupAsg, daCons, h1, h3, daNil]
    simp [boCons, bName, boNil, VS.lim, E3, oI_nil]
  have co := calls_of_eq hG (k + 15)
  have s6 : sSet 10 (eOfN (nCallU (PhiN (k + 20)).f_calls_of [] (asCons (vOfP (pVar 7)) asNil))) (E3 p3 bs ths (css bs) [] a5 b6 none none none none) = some (.nx, E3 p3 bs ths (css bs) [] a5 b6 (some (.lst (oC (css bs)))) none none none) := by
    simp [sSet, eOfN, nCallU, asCons, asNil, vOfP, pVar, E3, co]
  have s7 : beOfB (bCmp .NotEq (qOfP (pVar 10)) (qOfP (pVar 8))) (E3 p3 bs ths (css bs) [] a5 b6 (some (.lst (oC (css bs)))) none none none) = some (false, E3 p3 bs ths (css bs) [] a5 b6 (some (.lst (oC (css bs)))) none none none) := by
    simp [beOfB, bCmp, qOfP, pVar, E3, O.fz, fzs_oC, cmpT, eqT_tC]
  obtain ⟨c0, cr, hcc⟩ : ∃ c0 cr, css bs = c0 :: cr := by
    cases e : css bs with
    | nil => rw [e] at cl; simp at cl; have := hG.n1; omega
    | cons c0 cr => exact ⟨c0, cr, rfl⟩
  have hc0 : c0.length ≤ 4 := by
    have := ch_len hGT.g (p := 0) ⟨by omega, by rw [cl]; have := hG.n1; omega⟩
    simpa [ch, hcc] using this
  have s8 : sDrop (eAppend (pIdx (pVar 10) (vC (.int 0))) (nOfV (vC .non))) (E3 p3 bs ths (css bs) [] a5 b6 (some (.lst (oC (css bs)))) none none none) = some (.nx, E3 p3 bs ths (css bs) [] a5 b6 (some (.lst (.lst (oI c0 ++ [.val .non]) :: oC cr))) none none none) := by
    have h0 : oC (css bs) = .lst (oI c0) :: oC cr := by rw [hcc]; rfl
    have h1 : c0.length < 100000 := by omega
    have h2 : pIdx (pVar 10) (vC (.int 0)) (E3 p3 bs ths (css bs) [] a5 b6 (some (.lst (oC (css bs)))) none none none) = some (.lst (oI c0), fun o2 => some ((E3 p3 bs ths (css bs) [] a5 b6 (some (.lst (oC (css bs)))) none none none).set 10 (some (.lst (o2 :: oC cr))))) := by
      rw [pIdx_of (o := .lst (oC (css bs))) (i := 0) rfl rfl]
      rw [h0]
      simp [oIdx, ixN]
    simp only [sDrop, eAppend, h2, nOfV, vC, Option.map_some, VS.lim, oI_len, if_pos h1]
    rfl
  obtain ⟨mo, x5, x6, co9, f9, I9⟩ := l3_loop hG hGT (k + 14) (p := p3) (tl := some (.lst (.lst (oI c0 ++ [.val .non]) :: oC cr))) (x12 := none) (x13 := none) ths.length 0 [] a5 b6 none (by omega) ⟨by simp, fun x => by simp⟩
  have s9 : sFor (VS.iEnum (eVar 3)) (bTup 2 (btCons (bName 6) (btCons (bName 5) btNil))) (l3Body (PhiN (k + 20))) (E3 p3 bs ths (css bs) [] a5 b6 (some (.lst (.lst (oI c0 ++ [.val .non]) :: oC cr))) none none none) = some (.nx, E3 p3 bs ths (css bs) mo x5 x6 (some (.lst (.lst (oI c0 ++ [.val .non]) :: oC cr))) co9 none none) := by
    rw [sFor_of (ts := enumT 0 (tI ths)) (e1 := E3 p3 bs ths (css bs) [] a5 b6 (some (.lst (.lst (oI c0 ++ [.val .non]) :: oC cr))) none none none)]
    · exact f9
    · simp [VS.iEnum, eVar, E3, O.fz]
  have s10 : sSet 13 (eOfV (vC (.bl false))) (E3 p3 bs ths (css bs) mo x5 x6 (some (.lst (.lst (oI c0 ++ [.val .non]) :: oC cr))) co9 none none) = some (.nx, E3 p3 bs ths (css bs) mo x5 x6 (some (.lst (.lst (oI c0 ++ [.val .non]) :: oC cr))) co9 none (some (.val (.bl false)))) := by
    simp [sSet, eOfV, vC, E3]
  have hmo : ∀ x ∈ mo, 0 ≤ x ∧ x < ((css bs).length : Nat) := fun x hx => by
    obtain ⟨q, hq, hx⟩ := (I9.mem x).mp hx
    exact cm_rng hGT.g (hGT.t q (List.mem_of_mem_take hq)) hx
  obtain ⟨x12, f11⟩ := l4_loop (bs := bs) (ths := ths) hGT.g (k + 19) (p := p3) (mo := mo) (x5 := x5) (x6 := x6) (tl := some (.lst (.lst (oI c0 ++ [.val .non]) :: oC cr))) (co := co9) mo none false hmo
  have due : (false || mo.any (ring (css bs))) = recB (css bs) ths := by
    rw [Bool.false_or, Bool.eq_iff_iff]
    unfold recB
    rw [List.any_eq_true, List.any_eq_true]
    have hm : ∀ x, x ∈ mo ↔ x ∈ ssetI (ctm (css bs) ths) := fun x => by
      rw [I9.mem x, ssetI_mem, List.take_length]
      unfold ctm
      rw [List.mem_flatMap]
    exact ⟨fun ⟨x, h1, h2⟩ => ⟨x, (hm x).mp h1, h2⟩, fun ⟨x, h1, h2⟩ => ⟨x, (hm x).mpr h1, h2⟩⟩
  rw [due] at f11
  have s11 : sFor (iSeq (eVar 4)) (bName 12) (l4Body (PhiN (k + 20))) (E3 p3 bs ths (css bs) mo x5 x6 (some (.lst (.lst (oI c0 ++ [.val .non]) :: oC cr))) co9 none (some (.val (.bl false)))) = some (.nx, E4 p3 bs ths (css bs) mo x5 x6 (some (.lst (.lst (oI c0 ++ [.val .non]) :: oC cr))) co9 x12 (recB (css bs) ths)) := by
    rw [sFor_of (ts := tI mo) (e1 := E4 p3 bs ths (css bs) mo x5 x6 (some (.lst (.lst (oI c0 ++ [.val .non]) :: oC cr))) co9 none false)]
    · exact f11
    · simp [iSeq, eVar, E3, E4, O.fz, fzs_oI, seqT]
  have rc := rec_eq hG hGT (k + 15)
  have s12 : beOfB (bCmp .NotEq (vOfN (nCallB reprF (asCons (vOfN (nCallU (PhiN (k + 20)).f_is_recursive [] (asCons (vOfP (pVar 7)) asNil))) asNil))) (vOfN (nCallB reprF (asCons (qOfP (pVar 13)) asNil)))) (E4 p3 bs ths (css bs) mo x5 x6 (some (.lst (.lst (oI c0 ++ [.val .non]) :: oC cr))) co9 x12 (recB (css bs) ths)) = some (false, E4 p3 bs ths (css bs) mo x5 x6 (some (.lst (.lst (oI c0 ++ [.val .non]) :: oC cr))) co9 x12 (recB (css bs) ths)) := by
    simp [beOfB, bCmp, vOfN, nCallB, asCons, asNil, nCallU, vOfP, pVar, qOfP, E4, rc, O.fz, reprF, cmpT, eqT, T.flat, scal]
  have hg13 := compGo_of (bd := bName 5) (c := bTrue) (d := nCallU (PhiN (k + 20)).f__law_longest [] (asCons (vOfP (pVar 8)) (asCons (vOfN (nLst (nsCons (nOfV (vOfP (pVar 5))) nsNil))) asNil))) (e := E4 p3 bs ths (css bs) mo none x6 (some (.lst (.lst (oI c0 ++ [.val .non]) :: oC cr))) co9 x12 (recB (css bs) ths))
    (u := T.int) (g := fun x => .val (.int (lw (css bs) 4 [x]))) (b := ths) fun x hx => by
      have e := lw_eq hGT.g 4 (k + 20) [x] (by simp) (fun z hz => by simp at hz; subst hz; exact hGT.t z hx) (by simp) (by have := hGT.g.n; simp; omega) (by omega)
      exact ⟨_, by simp [bName, E4]; rfl, rfl, by simp [runF, sNil, sSeq, sIf, sDrop, sRet, sRetN, sBrk, sCnt, sNever, sSet, sAsg, sFor, sTupAsg, boNil, boCons, bName, bTup, btCons, btNil, bSub, eOfN, eOfV, eOfB, eFrz, eMove, eVar, eBin, eTup, eLst, eIdx, eIf, eCallU, eCallV, eMake, eAppend, eAppendN, eExtend, ePop, daNil, daCons, putB, nOfV, nLst, nsNil, nsCons, nBin, nCallB, nCallU, nCallM, nComp, nCopy, dLst, vC, vOfP, vOfN, vOfB, vTup, vLst, vBin, vNeg, vIf, vCut, vIdx, vItK, vCopyT, asNil, asCons, bAnd, bOr, bNot, bCmp, bChain, bIsi, bIsC, bOfV, bInK, bTrue, beOfB, beOfE, beCmp, beNot, beAnd, beOr, qOfP, pVar, pIdx, pAttr, oIdx, getF, getT, O.fz, fzs, fzf, cmpT, eqT, ltT, T.flat, flats, VS.isNon, scal, T.ty, isTy, iOfJ, jSeq, seqT, jRng1, jRng2, jEnum, VS.iRng1, iSeq, VS.iEnum, ixN, atI, idxT, oSome, oNone, outsE, sFldSet, putO, lenF, absF, intF, divF, wipeE, VS.binT, VS.lim, e, tI_cons, tI_nil] at e ⊢⟩
  have t1 := hGT.t1
  have t2 := hGT.t2
  have hmax := maxF_tI (ns := ths.map fun x => lw (css bs) 4 [x]) (by simp; omega)
  have s13 : sSet 15 (eOfV (vOfN (nCallB maxF (asCons (vOfN (nComp (jSeq (vOfP (pVar 3))) [5] (bName 5) bTrue (nCallU (PhiN (k + 20)).f__law_longest [] (asCons (vOfP (pVar 8)) (asCons (vOfN (nLst (nsCons (nOfV (vOfP (pVar 5))) nsNil))) asNil))))) asNil)))) (E4 p3 bs ths (css bs) mo x5 x6 (some (.lst (.lst (oI c0 ++ [.val .non]) :: oC cr))) co9 x12 (recB (css bs) ths)) =
      some (.nx, (E4 p3 bs ths (css bs) mo x5 x6 (some (.lst (.lst (oI c0 ++ [.val .non]) :: oC cr))) co9 x12 (recB (css bs) ths)).set 15 (some (.val (.int (maxI (ths.map fun x => lw (css bs) 4 [x])))))) := by
    have h2 : nComp (jSeq (vOfP (pVar 3))) [5] (bName 5) bTrue (nCallU (PhiN (k + 20)).f__law_longest [] (asCons (vOfP (pVar 8)) (asCons (vOfN (nLst (nsCons (nOfV (vOfP (pVar 5))) nsNil))) asNil))) (E4 p3 bs ths (css bs) mo x5 x6 (some (.lst (.lst (oI c0 ++ [.val .non]) :: oC cr))) co9 x12 (recB (css bs) ths)) = some (.lst (ths.map fun x => O.val (.int (lw (css bs) 4 [x])))) :=
      nComp_eq (ts := tI ths) (by simp [jSeq, vOfP, pVar, seqT, E4]) (by rw [tI_len]; omega) hg13
    simp only [sSet, eOfV, vOfN, nCallB, asCons, asNil, h2, Option.map_some, O.fz, fzs_ints, hmax]
    simp [E4]
  have dp := deep_eq hG hGT (k + 14)
  have fin : bCmp .Eq (vOfN (nCallB reprF (asCons (vOfN (nCallU (PhiN (k + 20)).f_deepest [] (asCons (vOfP (pVar 7)) asNil))) asNil))) (vOfN (nCallB reprF (asCons (vIf (bOfV (vOfP (pVar 13))) (vC .non) (vOfP (pVar 15))) asNil))) ((E4 p3 bs ths (css bs) mo x5 x6 (some (.lst (.lst (oI c0 ++ [.val .non]) :: oC cr))) co9 x12 (recB (css bs) ths)).set 15 (some (.val (.int (maxI (ths.map fun x => lw (css bs) 4 [x])))))) = some true := by
    by_cases hr : recB (css bs) ths = true
    · have dp' : (PhiN (k + 20)).f_deepest [.val (prT bs ths)] = some (.val .non, []) := by rw [dp]; unfold deepT; rw [if_pos hr]
      simp [bCmp, vOfN, nCallB, asCons, asNil, nCallU, vOfP, pVar, E4, dp', O.fz, reprF, vIf, bOfV, hr, vC, cmpT, eqT, T.flat, scal]
    · have hr' : recB (css bs) ths = false := by simpa using hr
      have ac := acy_of hGT hr'
      have em : (ths.map fun x => lw (css bs) 4 [x]) = ths.map (lr (css bs) 4) := by
        apply List.map_congr_left
        intro x hx
        have hx' := hGT.t x hx
        have e := lw_lr hGT.g 4 [] x hx' (ac x hx) (by have := cm_len hGT.g hx'; have := hGT.g.n; omega) fun z hz y hy hyz => by
          simp at hz
          subst hz
          exact ring_false hGT.g hx' (ac z hx z .refl) hy hyz
        simpa using e
      have dp' : (PhiN (k + 20)).f_deepest [.val (prT bs ths)] = some (.val (.int (maxI (ths.map (lr (css bs) 4)))), []) := by rw [dp]; unfold deepT; rw [if_neg hr]
      rw [em]
      have hb : 0 ≤ maxI (ths.map (lr (css bs) 4)) ∧ maxI (ths.map (lr (css bs) 4)) ≤ 4 := by
        have h := maxI_mem (xs := ths.map (lr (css bs) 4)) (by simp; omega)
        obtain ⟨y, _, e⟩ := List.mem_map.mp h.1
        have := lr_bd (css bs) 4 y
        omega
      generalize maxI (ths.map (lr (css bs) 4)) = i at dp' hb
      have hlog : i.natAbs.log2 < 1920 := by
        have : i = 0 ∨ i = 1 ∨ i = 2 ∨ i = 3 ∨ i = 4 := by omega
        rcases this with rfl | rfl | rfl | rfl | rfl <;> decide
      simp [bCmp, vOfN, nCallB, asCons, asNil, nCallU, vOfP, pVar, E4, dp', O.fz, reprF, vIf, bOfV, hr', vC, hlog, cmpT, eqT, T.flat, scal]
  refine ⟨p3, ?_⟩
  rw [e_f__law_right]
  have run : d_f__law_right (PhiN (k + 20)) [some (pot p0), none, none, none, none, none, none, none, none, none, none, none, none, none, none, none] = some (.rt (.val (.bl true)), (E4 p3 bs ths (css bs) mo x5 x6 (some (.lst (.lst (oI c0 ++ [.val .non]) :: oC cr))) co9 x12 (recB (css bs) ths)).set 15 (some (.val (.int (maxI (ths.map fun x => lw (css bs) 4 [x])))))) := by
    unfold d_f__law_right
    exact sSeq_nx s1 (sSeq_nx s2 (sSeq_nx s3 (sSeq_nx s4 (sSeq_nx s5 (sSeq_nx s6 (sSeq_nx (sIf_f s7 rfl) (sSeq_nx s8 (sSeq_nx s9 (sSeq_nx s10 (sSeq_nx s11 (sSeq_nx (sIf_f s12 rfl) (sSeq_nx s13 (sRet_b fin)))))))))))))
  exact runF_rt rfl rfl run (by simp [outsE, E4])
theorem pot_eq (k : Nat) (ns : List Int) : ∃ p, (PhiN (k + 1)).f__law_pot [.val (.scr ns), .val (.int 0)] = some (pot p, []) := by
  rw [e_f__law_pot]
  simp only [d_f__law_pot]
  have m1 : mulOk 127 0 = true := by decide
  have m2 : mulOk 4001 0 = true := by decide
  have m3 : ∀ i, mulOk i 38737 = true := fun i => mulOk_r _ _ (by decide) (by decide)
  cases ns with
  | nil => exact ⟨(_, _), by simp [runF, sNil, sSeq, sIf, sDrop, sRet, sRetN, sBrk, sCnt, sNever, sSet, sAsg, sFor, sTupAsg, boNil, boCons, bName, bTup, btCons, btNil, bSub, eOfN, eOfV, eOfB, eFrz, eMove, eVar, eBin, eTup, eLst, eIdx, eIf, eCallU, eCallV, eMake, eAppend, eAppendN, eExtend, ePop, daNil, daCons, putB, nOfV, nLst, nsNil, nsCons, nBin, nCallB, nCallU, nCallM, nComp, nCopy, dLst, vC, vOfP, vOfN, vOfB, vTup, vLst, vBin, vNeg, vIf, vCut, vIdx, vItK, vCopyT, asNil, asCons, bAnd, bOr, bNot, bCmp, bChain, bIsi, bIsC, bOfV, bInK, bTrue, beOfB, beOfE, beCmp, beNot, beAnd, beOr, qOfP, pVar, pIdx, pAttr, oIdx, getF, getT, O.fz, fzs, fzf, cmpT, eqT, ltT, T.flat, flats, VS.isNon, scal, T.ty, isTy, iOfJ, jSeq, seqT, jRng1, jRng2, jEnum, VS.iRng1, iSeq, VS.iEnum, ixN, atI, idxT, oSome, oNone, outsE, sFldSet, putO, lenF, absF, intF, divF, wipeE, VS.binT, VS.lim, m1, m2, m3, intF, maxF]; exact ⟨rfl, rfl⟩⟩
  | cons n ns =>
    have hn : ¬ ((ns.length : Int) + 1 ≤ 0) := by omega
    exact ⟨(_, _), by simp [runF, sNil, sSeq, sIf, sDrop, sRet, sRetN, sBrk, sCnt, sNever, sSet, sAsg, sFor, sTupAsg, boNil, boCons, bName, bTup, btCons, btNil, bSub, eOfN, eOfV, eOfB, eFrz, eMove, eVar, eBin, eTup, eLst, eIdx, eIf, eCallU, eCallV, eMake, eAppend, eAppendN, eExtend, ePop, daNil, daCons, putB, nOfV, nLst, nsNil, nsCons, nBin, nCallB, nCallU, nCallM, nComp, nCopy, dLst, vC, vOfP, vOfN, vOfB, vTup, vLst, vBin, vNeg, vIf, vCut, vIdx, vItK, vCopyT, asNil, asCons, bAnd, bOr, bNot, bCmp, bChain, bIsi, bIsC, bOfV, bInK, bTrue, beOfB, beOfE, beCmp, beNot, beAnd, beOr, qOfP, pVar, pIdx, pAttr, oIdx, getF, getT, O.fz, fzs, fzf, cmpT, eqT, ltT, T.flat, flats, VS.isNon, scal, T.ty, isTy, iOfJ, jSeq, seqT, jRng1, jRng2, jEnum, VS.iRng1, iSeq, VS.iEnum, ixN, atI, idxT, oSome, oNone, outsE, sFldSet, putO, lenF, absF, intF, divF, wipeE, VS.binT, VS.lim, m1, m2, m3, intF, maxF, hn]; exact ⟨rfl, rfl⟩⟩
theorem law_eq (k : Nat) (ns : List Int) : (PhiN (k + 22)).f_law [.val (.scr ns)] = some (.val (.bl true), []) := by
  obtain ⟨p, hp⟩ := pot_eq (k + 20) ns
  obtain ⟨p9, hr⟩ := right_eq k p
  rw [e_f_law]
  simp only [d_f_law]
  simp [runF, sNil, sSeq, sIf, sDrop, sRet, sRetN, sBrk, sCnt, sNever, sSet, sAsg, sFor, sTupAsg, boNil, boCons, bName, bTup, btCons, btNil, bSub, eOfN, eOfV, eOfB, eFrz, eMove, eVar, eBin, eTup, eLst, eIdx, eIf, eCallU, eCallV, eMake, eAppend, eAppendN, eExtend, ePop, daNil, daCons, putB, nOfV, nLst, nsNil, nsCons, nBin, nCallB, nCallU, nCallM, nComp, nCopy, dLst, vC, vOfP, vOfN, vOfB, vTup, vLst, vBin, vNeg, vIf, vCut, vIdx, vItK, vCopyT, asNil, asCons, bAnd, bOr, bNot, bCmp, bChain, bIsi, bIsC, bOfV, bInK, bTrue, beOfB, beOfE, beCmp, beNot, beAnd, beOr, qOfP, pVar, pIdx, pAttr, oIdx, getF, getT, O.fz, fzs, fzf, cmpT, eqT, ltT, T.flat, flats, VS.isNon, scal, T.ty, isTy, iOfJ, jSeq, seqT, jRng1, jRng2, jEnum, VS.iRng1, iSeq, VS.iEnum, ixN, atI, idxT, oSome, oNone, outsE, sFldSet, putO, lenF, absF, intF, divF, wipeE, VS.binT, VS.lim, hp, hr]
end VW
namespace VW
open PySem L2 VS
abbrev LV : Nat := 100
abbrev rwl : PySem.W.OpenLaw := PySem.Challenge.rw_cutruns_k23_whole_callings_by_statements
end VW
section
open PySem PySem.W PySem.Calls PyProof.Rows
theorem VW.holds_of (math : ∀ ns : List Int, ns.length ≤ 63 → (VW.PhiN (VW.LV + 1)).f_law [.val (.scr ns)] = some (.val (.bl true), [])) : VW.rwl.Holds := by
  w_on; o_law
  refine HandSHeadRun.head_any (r := VW.RR) (q := view VW.RR.prog [59]) (H := VW.hk) (ob := VW.ob) (M := 6000) (loose := VW.names) (d := HandSHeadRun.topDef VW.RR.prog 59) (kwd := []) VW.ob_eq
    (by kernel_rfl) (fun s => by kernel_rfl) VW.run (by kernel_rfl) (by kernel_rfl) (by kernel_rfl) (by rfl) (by first | assumption | decide +kernel) (by decide +kernel) ⟨rfl, rfl, rfl, rfl, rfl, by decide +kernel⟩ ?hw ?hc
  case hw => w_witness2
  case hc =>
    refine L2.walk_ofE (l := VW.rwl) (n := 63) (k := VW.LV + 1) (x := "_law_script") (CX := L2.CX0) rfl (by decide) (by kernel_rfl) ⟨rfl, by decide, by decide⟩ ?F (fun _ _ _ _ z => z)
    intro w mg fa h Y G hmg0
    obtain ⟨K, KX, c⟩ := Y
    have hmg : mg ("law" : PySem.Str) = some (.ref fa) := by
      have e : (HandSHeadRun.topDef VW.RR.prog 59).name = ("law" : PySem.Str) := by kernel_rfl
      rw [← e]
      exact hmg0
    obtain ⟨f0, fd, F, hm⟩ := (VW.dfs_ok (P := VW.prg) (w := w) (base := default) KX G c).f_law
    have e : f0 = fa := by
      have := hm.symm.trans hmg
      cases this
      rfl
    subst e
    refine ⟨K, fd, VS.spF (VW.gl0 K) [] (VW.PhiN (VW.LV + 1)).f_law, KX, fun s v => (L2.FunD.bindsA (ps := ["_law_script"]) F fun _ _ _ _ _ _ us hl => match us, hl with | [_], _ => rfl) s [v] rfl, fun H a ns hl _ hS => VS.spF_law (math ns hl) hS, fun base hK hG => ?_⟩
    have st := VW.stat_ok (P := VW.prg) (w := w) (base := base) KX G c
    have df := VW.dfs_ok (P := VW.prg) (w := w) (base := base) KX G c
    exact VW.s_f_law st (VW.factsN st df VW.LV) F
end
theorem VW.math (ns : List Int) : (VW.PhiN (VW.LV + 1)).f_law [.val (.scr ns)] = some (.val (.bl true), []) := VW.law_eq 79 ns
theorem PySem.Challenge.cw_cutruns_k23_whole_callings_by_statements_holds : PySem.Challenge.rw_cutruns_k23_whole_callings_by_statements.Holds := by
  exact VW.holds_of fun ns _ => VW.math ns
