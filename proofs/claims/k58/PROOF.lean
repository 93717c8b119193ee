import PyProof.Rows.All
import Wide.All
import OpenK.AllK
import Wide.FinOn
import HandS.ForMost
import HandS.IsInst
import HandS.Wide
import HandS.TupAny
import HandS.Zip
import HandS.Style
import PyProof.WalkInts
import PyProof.MinMaxWalk
import PyProof.WalksMore
import PyProof.AutoSeq1
import HandS.TupMul
import HandS.Star
import HandS.More
import PySem.Challenge.RW_newsbehind_k58_whole_lives_hold_all_runs
/-! DL1 -/
set_option Elab.async false
set_option linter.all false
set_option maxRecDepth 100000
namespace NB
open PySem L2

/-! plain data; a token for the source of draws -/
inductive D where
  | non
  | bl (b : Bool)
  | int (i : Int)
  | str (x : Str)
  | tup (ds : List D)
  | lst (ds : List D)
  | deal

abbrev Dl := Option (Addr × Addr)
mutual
def At (K : PySem.W.Frag) (g : Dl) (F : Hp) : D → V → Prop
  | .non, v => v = .non
  | .bl b, v => v = .bl b
  | .int i, v => v = .int i
  | .str x, v => v = .str x
  | .tup ds, v => ∃ a vs, v = .ref a ∧ SqT K F a vs ∧ Ats K g F ds vs
  | .lst ds, v => ∃ a vs, v = .ref a ∧ F a = some (.lst vs) ∧ Ats K g F ds vs
  | .deal, v => ∃ a b, g = some (a, b) ∧ v = .ref a
def Ats (K : PySem.W.Frag) (g : Dl) (F : Hp) : List D → List V → Prop
  | [], vs => vs = []
  | d :: ds, vs => ∃ v r, vs = v :: r ∧ At K g F d v ∧ Ats K g F ds r
end

def Sub (F H : Hp) : Prop := ∀ p o, F p = some o → H p = some o
theorem Sub.refl (F : Hp) : Sub F F := fun _ _ h => h
theorem Sub.trans {F G H : Hp} (a : Sub F G) (b : Sub G H) : Sub F H := fun p o h => b p o (a p o h)
theorem Sub.sqt {K : PySem.W.Frag} {F H : Hp} {a : Addr} {xs : List V} (s : Sub F H) (h : SqT K F a xs) : SqT K H a xs := by
  rcases h with (h | ⟨o, h⟩) | h
  · exact .inl (.inl (s _ _ h))
  · exact .inl (.inr ⟨o, s _ _ h⟩)
  · exact .inr h
theorem Sub.sql {K : PySem.W.Frag} {F H : Hp} {a : Addr} {xs : List V} (s : Sub F H) (h : SqL K F a xs) : SqL K H a xs := by
  rcases h with (h | ⟨o, h⟩) | h
  · exact .inl (.inl (s _ _ h))
  · exact .inl (.inr ⟨o, s _ _ h⟩)
  · exact .inr h
mutual
theorem At.mono {K : PySem.W.Frag} {g : Dl} {F G : Hp} (s : Sub F G) : ∀ (d : D) (v : V), At K g F d v → At K g G d v
  | .non, _, h => h
  | .bl _, _, h => h
  | .int _, _, h => h
  | .str _, _, h => h
  | .tup ds, v, h => by
    unfold At at h ⊢
    obtain ⟨a, vs, e, q, r⟩ := h
    exact ⟨a, vs, e, s.sqt q, Ats.mono s ds vs r⟩
  | .lst ds, v, h => by
    unfold At at h ⊢
    obtain ⟨a, vs, e, q, r⟩ := h
    exact ⟨a, vs, e, s _ _ q, Ats.mono s ds vs r⟩
  | .deal, _, h => h
theorem Ats.mono {K : PySem.W.Frag} {g : Dl} {F G : Hp} (s : Sub F G) : ∀ (ds : List D) (vs : List V), Ats K g F ds vs → Ats K g G ds vs
  | [], _, h => h
  | d :: ds, vs, h => by
    unfold Ats at h ⊢
    obtain ⟨v, r, e, q, t⟩ := h
    exact ⟨v, r, e, At.mono s d v q, Ats.mono s ds r t⟩
end
section
variable {K : PySem.W.Frag} {g : Dl} {F : Hp}
theorem at_int {i : Int} {v : V} : At K g F (.int i) v ↔ v = .int i := Iff.rfl
theorem Ats.nil : Ats K g F [] [] := rfl
theorem Ats.cons {d : D} {ds : List D} {v : V} {vs : List V} (h : At K g F d v) (t : Ats K g F ds vs) : Ats K g F (d :: ds) (v :: vs) := by
  unfold Ats; exact ⟨v, vs, rfl, h, t⟩
theorem Ats.of_cons {d : D} {ds : List D} {vs : List V} (h : Ats K g F (d :: ds) vs) : ∃ v r, vs = v :: r ∧ At K g F d v ∧ Ats K g F ds r := by
  unfold Ats at h; exact h
theorem Ats.length : ∀ {ds : List D} {vs : List V}, Ats K g F ds vs → ds.length = vs.length
  | [], _, h => by cases h; rfl
  | d :: ds, vs, h => by
    obtain ⟨v, r, rfl, _, t⟩ := h.of_cons
    simp [t.length]
theorem Ats.app : ∀ {ds es : List D} {vs ws : List V}, Ats K g F ds vs → Ats K g F es ws → Ats K g F (ds ++ es) (vs ++ ws)
  | [], _, _, _, h, k => by cases h; exact k
  | d :: ds, es, vs, ws, h, k => by
    obtain ⟨v, r, rfl, q, t⟩ := h.of_cons
    exact Ats.cons q (Ats.app t k)
theorem Ats.get : ∀ {ds : List D} {vs : List V} {i : Nat} {d : D}, Ats K g F ds vs → ds[i]? = some d → ∃ v, vs[i]? = some v ∧ At K g F d v
  | [], _, _, _, _, e => by simp at e
  | d :: ds, vs, 0, d', h, e => by
    obtain ⟨v, r, rfl, q, t⟩ := h.of_cons
    simp at e; subst e
    exact ⟨v, rfl, q⟩
  | d :: ds, vs, i + 1, d', h, e => by
    obtain ⟨v, r, rfl, q, t⟩ := h.of_cons
    obtain ⟨w, e1, e2⟩ := Ats.get (i := i) t (by simpa using e)
    exact ⟨w, by simpa using e1, e2⟩
theorem Ats.get' : ∀ {ds : List D} {vs : List V} {i : Nat} {v : V}, Ats K g F ds vs → vs[i]? = some v → ∃ d, ds[i]? = some d ∧ At K g F d v
  | [], _, _, _, h, e => by cases h; simp at e
  | d :: ds, vs, 0, v', h, e => by
    obtain ⟨v, r, rfl, q, t⟩ := h.of_cons
    simp at e; subst e
    exact ⟨d, rfl, q⟩
  | d :: ds, vs, i + 1, v', h, e => by
    obtain ⟨v, r, rfl, q, t⟩ := h.of_cons
    obtain ⟨w, e1, e2⟩ := Ats.get' (i := i) t (by simpa using e)
    exact ⟨w, by simpa using e1, e2⟩
theorem Ats.drop : ∀ {ds : List D} {vs : List V} (n : Nat), Ats K g F ds vs → Ats K g F (ds.drop n) (vs.drop n)
  | _, _, 0, h => h
  | [], _, n + 1, h => by cases h; rfl
  | d :: ds, vs, n + 1, h => by
    obtain ⟨v, r, rfl, q, t⟩ := h.of_cons
    exact Ats.drop n t
theorem Ats.take : ∀ {ds : List D} {vs : List V} (n : Nat), Ats K g F ds vs → Ats K g F (ds.take n) (vs.take n)
  | _, _, 0, h => rfl
  | [], _, n + 1, h => by cases h; rfl
  | d :: ds, vs, n + 1, h => by
    obtain ⟨v, r, rfl, q, t⟩ := h.of_cons
    exact Ats.cons q (Ats.take n t)
theorem Ats.rev : ∀ {ds : List D} {vs : List V}, Ats K g F ds vs → Ats K g F ds.reverse vs.reverse
  | [], _, h => by cases h; rfl
  | d :: ds, vs, h => by
    obtain ⟨v, r, rfl, q, t⟩ := h.of_cons
    rw [List.reverse_cons, List.reverse_cons]
    exact Ats.app (Ats.rev t) (Ats.cons q Ats.nil)
theorem Ats.ints : ∀ {ns : List Int} {vs : List V}, Ats K g F (ns.map D.int) vs → vs = ns.map V.int
  | [], _, h => h
  | n :: ns, vs, h => by
    obtain ⟨v, r, rfl, q, t⟩ := Ats.of_cons h
    rw [Ats.ints t]; cases q; rfl
theorem Ats.bls : ∀ {ns : List Bool} {vs : List V}, Ats K g F (ns.map D.bl) vs → vs = ns.map V.bl
  | [], _, h => h
  | n :: ns, vs, h => by
    obtain ⟨v, r, rfl, q, t⟩ := Ats.of_cons h
    rw [Ats.bls t]; cases q; rfl
theorem Ats.of_ints : ∀ (ns : List Int), Ats K g F (ns.map D.int) (ns.map V.int)
  | [] => rfl
  | n :: ns => Ats.cons (show At K g F (.int n) (.int n) from rfl) (Ats.of_ints ns)
end

/-! steps of the heap -/
def notDl (g : Dl) (p : Addr) : Prop := ∀ a b, g = some (a, b) → p ≠ a ∧ p ≠ b
def DealOk (g : Dl) (H : Hp) : Prop := ∀ a b, g = some (a, b) → a ≠ b ∧ ∃ (xs : List Int) (x : Int), H a = some (.lst [.ref b, .int x]) ∧ H b = some (.lst (xs.map V.int)) ∧ (∀ i ∈ xs, 0 ≤ i) ∧ 0 ≤ x ∧ x < 2147483647 ∧ xs.length ≤ 48
def Lens (H : Hp) : Prop := ∀ a xs, (Rd H a (.tup xs) ∨ Rd H a (.lst xs)) → xs.length ≤ sizeLine
theorem Lens.t {H : Hp} (l : Lens H) {K : PySem.W.Frag} {a : Addr} {xs : List V} (h : SqT K H a xs) : xs.length ≤ sizeLine := by
  rcases h with h | ⟨o, its, n, _, _, _, hz, r⟩
  · exact l a xs (.inl h)
  · have := r.length
    simp at this; omega
theorem Lens.l {H : Hp} (l : Lens H) {K : PySem.W.Frag} {a : Addr} {xs : List V} (h : SqL K H a xs) : xs.length ≤ sizeLine := by
  rcases h with h | ⟨o, its, n, _, _, _, _, hz, r⟩
  · exact l a xs (.inr h)
  · have := r.length
    simp at this; omega
theorem Lens.updT {H : Hp} (l : Lens H) {p : Addr} {ys : List V} (hz : ys.length ≤ sizeLine) : Lens (upd H p (.tup ys)) := by
  intro a xs h
  by_cases e : a = p
  · subst e
    rcases h with (h | ⟨_, h⟩) | (h | ⟨_, h⟩) <;> rw [upd_same] at h <;> cases h
    exact hz
  · refine l a xs ?_
    rcases h with (h | ⟨o, h⟩) | (h | ⟨o, h⟩) <;> rw [upd_ne e] at h
    · exact .inl (.inl h)
    · exact .inl (.inr ⟨o, h⟩)
    · exact .inr (.inl h)
    · exact .inr (.inr ⟨o, h⟩)
theorem Lens.updL {H : Hp} (l : Lens H) {p : Addr} {ys : List V} (hz : ys.length ≤ sizeLine) : Lens (upd H p (.lst ys)) := by
  intro a xs h
  by_cases e : a = p
  · subst e
    rcases h with (h | ⟨_, h⟩) | (h | ⟨_, h⟩) <;> rw [upd_same] at h <;> cases h
    exact hz
  · refine l a xs ?_
    rcases h with (h | ⟨o, h⟩) | (h | ⟨o, h⟩) <;> rw [upd_ne e] at h
    · exact .inl (.inl h)
    · exact .inl (.inr ⟨o, h⟩)
    · exact .inr (.inl h)
    · exact .inr (.inr ⟨o, h⟩)
/-- F: what stands for good; H: all -/
structure Bs (g : Dl) (F H : Hp) : Prop where
  sub : Sub F H
  dl : DealOk g H
  dn : ∀ a b, g = some (a, b) → F a = none ∧ F b = none
  ln : Lens H
structure Step (g : Dl) (F H F' H' : Hp) : Prop where
  up : Sub F F'
  sub : Sub F' H'
  keep : ∀ p o, H p = some o → notDl g p → H' p = some o
  new : ∀ p o, F' p = some o → F p = some o ∨ H p = none
  dl : DealOk g H'
  ln : Lens H'
section
variable {K : PySem.W.Frag} {g : Dl} {F H F' H' F'' H'' : Hp}
theorem Bs.refl (b : Bs g F H) : Step g F H F H := ⟨Sub.refl F, b.sub, fun _ _ h _ => h, fun _ _ h => .inl h, b.dl, b.ln⟩
theorem DealOk.some_a {a b : Addr} (h : DealOk g H) (e : g = some (a, b)) : H a ≠ none ∧ H b ≠ none := by
  obtain ⟨_, xs, x, h1, h2, _⟩ := h a b e
  rw [h1, h2]; exact ⟨(fun z => nomatch z), (fun z => nomatch z)⟩
theorem Bs.step (b : Bs g F H) (s : Step g F H F' H') : Bs g F' H' := by
  refine ⟨s.sub, s.dl, fun x y e => ?_, s.ln⟩
  obtain ⟨h1, h2⟩ := b.dl.some_a e
  obtain ⟨n1, n2⟩ := b.dn x y e
  constructor
  · cases q : F' x with
    | none => rfl
    | some o => rcases s.new x o q with z | z
                · rw [n1] at z; cases z
                · exact absurd z h1
  · cases q : F' y with
    | none => rfl
    | some o => rcases s.new y o q with z | z
                · rw [n2] at z; cases z
                · exact absurd z h2
theorem Step.trans (b : Bs g F H) (s : Step g F H F' H') (t : Step g F' H' F'' H'') : Step g F H F'' H'' := by
  refine ⟨s.up.trans t.up, t.sub, fun p o h n => t.keep p o (s.keep p o h n) n, fun p o h => ?_, t.dl, t.ln⟩
  rcases t.new p o h with z | z
  · exact s.new p o z
  · right
    cases q : H p with
    | none => rfl
    | some u =>
      by_cases n : notDl g p
      · rw [s.keep p u q n] at z; cases z
      · exfalso
        apply n
        intro x y e
        obtain ⟨h1, h2⟩ := s.dl.some_a e
        refine ⟨?_, ?_⟩
        · rintro rfl; exact h1 z
        · rintro rfl; exact h2 z
theorem upd_sub {p : Addr} {o : HO} (h : Sub F H) : Sub (upd F p o) (upd H p o) := fun q u e => by
  by_cases z : q = p
  · subst z; rw [upd_same] at e ⊢; exact e
  · rw [upd_ne z] at e ⊢; exact h q u e
theorem sub_upd {p : Addr} {o : HO} (h : F p = none) : Sub F (upd F p o) := fun q u e => by
  rw [upd_ne (ne_of_none e h)]; exact e
theorem Bs.free (b : Bs g F H) {p : Addr} (h : H p = none) : F p = none := by
  cases q : F p with
  | none => rfl
  | some o => rw [b.sub p o q] at h; cases h
theorem DealOk.upd (h : DealOk g H) {p : Addr} {o : HO} (n : notDl g p) : DealOk g (upd H p o) := fun a b e => by
  obtain ⟨na, nb⟩ := n a b e
  obtain ⟨h0, xs, x, h1, h2, h3⟩ := h a b e
  exact ⟨h0, xs, x, by rw [upd_ne (Ne.symm na)]; exact h1, by rw [upd_ne (Ne.symm nb)]; exact h2, h3⟩
theorem Bs.notDl (b : Bs g F H) {p : Addr} (h : H p = none) : notDl g p := fun x y e => by
  obtain ⟨h1, h2⟩ := b.dl.some_a e
  exact ⟨by rintro rfl; exact h1 h, by rintro rfl; exact h2 h⟩
/-- a new object -/
theorem Bs.alloc (b : Bs g F H) {p : Addr} {o : HO} (h : H p = none) (l : Lens (upd H p o)) : Step g F H (upd F p o) (upd H p o) :=
  ⟨sub_upd (b.free h), upd_sub b.sub, fun q u e _ => by rw [upd_ne (ne_of_none e h)]; exact e, fun q u e => by
    by_cases z : q = p
    · subst z; exact .inr h
    · rw [upd_ne z] at e; exact .inl e, b.dl.upd (b.notDl h), l⟩
theorem Bs.allocT (b : Bs g F H) {p : Addr} {vs : List V} {ds : List D} (h : H p = none) (hz : vs.length ≤ sizeLine) (a : Ats K g F ds vs) :
    Step g F H (upd F p (.tup vs)) (upd H p (.tup vs)) ∧ At K g (upd F p (.tup vs)) (.tup ds) (.ref p) := by
  refine ⟨b.alloc h (b.ln.updT hz), ?_⟩
  unfold At
  exact ⟨p, vs, rfl, SqT.of upd_same, Ats.mono (sub_upd (b.free h)) ds vs a⟩
theorem Bs.allocL (b : Bs g F H) {p : Addr} {vs : List V} {ds : List D} (h : H p = none) (hz : vs.length ≤ sizeLine) (a : Ats K g F ds vs) :
    Step g F H (upd F p (.lst vs)) (upd H p (.lst vs)) ∧ At K g (upd F p (.lst vs)) (.lst ds) (.ref p) := by
  refine ⟨b.alloc h (b.ln.updL hz), ?_⟩
  unfold At
  exact ⟨p, vs, rfl, upd_same, Ats.mono (sub_upd (b.free h)) ds vs a⟩
end

/-! environments -/
inductive Slot where
  | no
  | im (d : D)
  | ow (ds : List D)
def getS : List Slot → Nat → Slot
  | [], _ => .no
  | s :: _, 0 => s
  | _ :: r, n + 1 => getS r n
def setS : List Slot → Nat → Slot → List Slot
  | [], _, _ => []
  | _ :: r, 0, s => s :: r
  | a :: r, n + 1, s => a :: setS r n s
def wipeS (env : List Slot) : List Nat → List Slot
  | [] => env
  | v :: vs => setS (wipeS env vs) v .no
theorem setS_length : ∀ (env : List Slot) (i : Nat) (s : Slot), (setS env i s).length = env.length
  | [], _, _ => rfl
  | _ :: r, 0, _ => rfl
  | a :: r, n + 1, s => by simp [setS, setS_length r n s]
theorem getS_ne : ∀ (env : List Slot) (i j : Nat) (s : Slot), j ≠ i → getS (setS env i s) j = getS env j
  | [], _, _, _, _ => rfl
  | _ :: r, 0, 0, _, h => absurd rfl h
  | _ :: r, 0, j + 1, _, _ => rfl
  | a :: r, n + 1, 0, s, _ => rfl
  | a :: r, n + 1, j + 1, s, h => getS_ne r n j s (fun e => h (by rw [e]))
theorem getS_eq : ∀ (env : List Slot) (i : Nat) (s : Slot), i < env.length → getS (setS env i s) i = s
  | [], _, _, h => absurd h (Nat.not_lt_zero _)
  | _ :: r, 0, _, _ => rfl
  | a :: r, n + 1, s, h => getS_eq r n s (Nat.lt_of_succ_lt_succ h)
theorem getS_out : ∀ (env : List Slot) (i : Nat), env.length ≤ i → getS env i = .no
  | [], _, _ => rfl
  | _ :: r, 0, h => absurd h (Nat.not_succ_le_zero _)
  | a :: r, n + 1, h => getS_out r n (Nat.le_of_succ_le_succ h)

def SlotOk (K : PySem.W.Frag) (g : Dl) (F H : Hp) : Slot → Option (Option V) → Prop
  | .no, _ => True
  | .im d, o => ∃ v, o = some (some v) ∧ At K g F d v
  | .ow ds, o => ∃ p vs, o = some (some (.ref p)) ∧ H p = some (.lst vs) ∧ F p = none ∧ notDl g p ∧ Ats K g F ds vs
structure EnvOk (K : PySem.W.Frag) (g : Dl) (σ : L2.St) (F H : Hp) (env : List Slot) : Prop where
  b : Bs g F H
  len : σ.length = env.length
  sl : ∀ i, SlotOk K g F H (getS env i) σ[i]?
  apart : ∀ i j ds es p, getS env i = .ow ds → getS env j = .ow es → σ[i]? = some (some (.ref p)) → σ[j]? = some (some (.ref p)) → i = j
section
variable {K : PySem.W.Frag} {g : Dl} {F H F' H' : Hp} {σ : L2.St} {env : List Slot}
theorem SlotOk.step {s : Slot} {o : Option (Option V)} (h : SlotOk K g F H s o) (st : Step g F H F' H') : SlotOk K g F' H' s o := by
  cases s with
  | no => trivial
  | im d => obtain ⟨v, e, a⟩ := h; exact ⟨v, e, At.mono st.up _ _ a⟩
  | ow ds =>
    obtain ⟨p, vs, e, h1, h2, h3, h4⟩ := h
    refine ⟨p, vs, e, st.keep p _ h1 h3, ?_, h3, Ats.mono st.up _ _ h4⟩
    cases q : F' p with
    | none => rfl
    | some u => rcases st.new p u q with z | z
                · rw [h2] at z; cases z
                · rw [h1] at z; cases z
theorem EnvOk.step (h : EnvOk K g σ F H env) (st : Step g F H F' H') : EnvOk K g σ F' H' env :=
  ⟨h.b.step st, h.len, fun i => (h.sl i).step st, h.apart⟩
theorem EnvOk.set (h : EnvOk K g σ F H env) {i : Nat} {d : D} {v : V} (a : At K g F d v) : EnvOk K g (σ.set i (some v)) F H (setS env i (.im d)) := by
  refine ⟨h.b, by rw [List.length_set, setS_length]; exact h.len, fun j => ?_, fun j k ds es p e1 e2 e3 e4 => ?_⟩
  · by_cases e : j = i
    · subst e
      by_cases hl : j < env.length
      · rw [getS_eq _ _ _ hl, List.getElem?_set_self (by rw [h.len]; exact hl)]
        exact ⟨v, rfl, a⟩
      · rw [getS_out _ _ (by rw [setS_length]; exact Nat.le_of_not_lt hl)]
        trivial
    · rw [getS_ne _ _ _ _ e, List.getElem?_set_ne (Ne.symm e)]
      exact h.sl j
  · have nj : j ≠ i := by
      rintro rfl
      by_cases hl : j < env.length
      · rw [getS_eq _ _ _ hl] at e1; cases e1
      · rw [getS_out _ _ (by rw [setS_length]; exact Nat.le_of_not_lt hl)] at e1; cases e1
    have nk : k ≠ i := by
      rintro rfl
      by_cases hl : k < env.length
      · rw [getS_eq _ _ _ hl] at e2; cases e2
      · rw [getS_out _ _ (by rw [setS_length]; exact Nat.le_of_not_lt hl)] at e2; cases e2
    rw [getS_ne _ _ _ _ nj] at e1
    rw [getS_ne _ _ _ _ nk] at e2
    rw [List.getElem?_set_ne (Ne.symm nj)] at e3
    rw [List.getElem?_set_ne (Ne.symm nk)] at e4
    exact h.apart j k ds es p e1 e2 e3 e4
theorem EnvOk.wipe1 (h : EnvOk K g σ F H env) (i : Nat) : EnvOk K g (σ.set i none) F H (setS env i .no) := by
  refine ⟨h.b, by rw [List.length_set, setS_length]; exact h.len, fun j => ?_, fun j k ds es p e1 e2 e3 e4 => ?_⟩
  · by_cases e : j = i
    · subst e
      by_cases hl : j < env.length
      · rw [getS_eq _ _ _ hl]; trivial
      · rw [getS_out _ _ (by rw [setS_length]; exact Nat.le_of_not_lt hl)]; trivial
    · rw [getS_ne _ _ _ _ e, List.getElem?_set_ne (Ne.symm e)]
      exact h.sl j
  · have nj : j ≠ i := by
      rintro rfl
      by_cases hl : j < env.length
      · rw [getS_eq _ _ _ hl] at e1; cases e1
      · rw [getS_out _ _ (by rw [setS_length]; exact Nat.le_of_not_lt hl)] at e1; cases e1
    have nk : k ≠ i := by
      rintro rfl
      by_cases hl : k < env.length
      · rw [getS_eq _ _ _ hl] at e2; cases e2
      · rw [getS_out _ _ (by rw [setS_length]; exact Nat.le_of_not_lt hl)] at e2; cases e2
    rw [getS_ne _ _ _ _ nj] at e1
    rw [getS_ne _ _ _ _ nk] at e2
    rw [List.getElem?_set_ne (Ne.symm nj)] at e3
    rw [List.getElem?_set_ne (Ne.symm nk)] at e4
    exact h.apart j k ds es p e1 e2 e3 e4
theorem EnvOk.wipe (h : EnvOk K g σ F H env) : ∀ vs : List Nat, EnvOk K g (wipe σ vs) F H (wipeS env vs)
  | [] => h
  | v :: vs => (EnvOk.wipe h vs).wipe1 v
end

/-! readings on data -/
abbrev DE := List Slot → (D → Prop) → Prop
abbrev DT := List Slot → (Bool → Prop) → Prop
abbrev DA := List Slot → (List D → Prop) → Prop
abbrev DS := (List Slot → Prop) → (D → Prop) → List Slot → Prop
abbrev DB := D → List Slot → (List Slot → Prop) → Prop
abbrev DO := List Slot → (Option Int → Prop) → Prop

def Then (K : PySem.W.Frag) (g : Dl) (F H : Hp) (Φ : D → Prop) (Q : VK) : Prop := ∀ d v F' H', Φ d → Step g F H F' H' → At K g F' d v → Q v H'
def lift (K : PySem.W.Frag) (w : DE) : TE := fun σ H Q => ∃ g F env Φ, EnvOk K g σ F H env ∧ w env Φ ∧ Then K g F H Φ Q
def liftT (K : PySem.W.Frag) (w : DT) : TT := fun σ H Q => ∃ g F env Φ, EnvOk K g σ F H env ∧ w env Φ ∧ ∀ b F' H', Φ b → Step g F H F' H' → Q b H'
def liftA (K : PySem.W.Frag) (w : DA) : TA := fun σ H Q => ∃ g F env Φ, EnvOk K g σ F H env ∧ w env Φ ∧ ∀ ds vs F' H', Φ ds → Step g F H F' H' → Ats K g F' ds vs → Q vs H'
def liftO (K : PySem.W.Frag) (w : DO) : TO := fun σ H Q => ∃ g F env Φ, EnvOk K g σ F H env ∧ w env Φ ∧ ∀ o F' H', Φ o → Step g F H F' H' → Q o H'
structure WalkOk (K : PySem.W.Frag) (g : Dl) (F : Hp) (J : It) (ds : List D) : Prop where
  go : ∀ i H, Sub F H → i < ds.length → J.go i H
  stop : ∀ H, Sub F H → J.stop ds.length H
  yld : ∀ i H x H' d, Sub F H → ds[i]? = some d → J.yld i H x H' → (H' = H ∧ At K g F d x) ∨ (∃ T vs es, d = .tup es ∧ x = .ref T ∧ H T = none ∧ H' = upd H T (.tup vs) ∧ Ats K g F es vs ∧ vs.length ≤ sizeLine)
def liftI (K : PySem.W.Frag) (w : DA) : TI := fun σ H R => ∃ g F env Φ, EnvOk K g σ F H env ∧ w env Φ ∧ ∀ ds J F' H', Φ ds → Step g F H F' H' → WalkOk K g F' J ds → ds.length ≤ sizeLine → R J H'
structure EnvS (K : PySem.W.Frag) (g : Dl) (F0 H0 : Hp) (σ : L2.St) (F H : Hp) (env : List Slot) : Prop where
  e : EnvOk K g σ F H env
  b0 : Bs g F0 H0
  st : Step g F0 H0 F H
  fr : ∀ i ds p, getS env i = .ow ds → σ[i]? = some (some (.ref p)) → H0 p = none
def liftS (K : PySem.W.Frag) (w : DS) : TS := fun D σ H => ∃ g F0 H0 F env N R, EnvS K g F0 H0 σ F H env ∧ w N R env ∧
  (∀ σ' F' H' env', N env' → EnvS K g F0 H0 σ' F' H' env' → Sub F F' → D.nx σ' H') ∧ (Then K g F0 H0 R D.rt)
def BindOk (K : PySem.W.Frag) (p : Nat → Prop) (tg : TG) (b : DB) : Prop := ∀ g F H (I : L2.St → List Slot → Prop), Bs g F H → (∀ σ env i v d, p i → I σ env → At K g F d v → I (σ.set i (some v)) (setS env i (.im d))) →
  ∀ σ env d v P Q, I σ env → At K g F d v → b d env P → (∀ σ' env', P env' → I σ' env' → Q σ' H) → tg v σ H Q
theorem EnvS.step {K : PySem.W.Frag} {g : Dl} {F0 H0 F H F' H' : Hp} {σ : L2.St} {env : List Slot} (h : EnvS K g F0 H0 σ F H env) (s : Step g F H F' H') : EnvS K g F0 H0 σ F' H' env :=
  ⟨h.e.step s, h.b0, h.st.trans h.b0 s, h.fr⟩
theorem EnvS.set {K : PySem.W.Frag} {g : Dl} {F0 H0 F H : Hp} {σ : L2.St} {env : List Slot} (h : EnvS K g F0 H0 σ F H env) {i : Nat} {d : D} {v : V} (a : At K g F d v) : EnvS K g F0 H0 (σ.set i (some v)) F H (setS env i (.im d)) := by
  refine ⟨h.e.set a, h.b0, h.st, fun j ds p e1 e2 => ?_⟩
  have nj : j ≠ i := by
    rintro rfl
    by_cases hl : j < env.length
    · rw [getS_eq _ _ _ hl] at e1; cases e1
    · rw [getS_out _ _ (by rw [setS_length]; exact Nat.le_of_not_lt hl)] at e1; cases e1
  rw [getS_ne _ _ _ _ nj] at e1
  rw [List.getElem?_set_ne (Ne.symm nj)] at e2
  exact h.fr j ds p e1 e2
theorem EnvS.of {K : PySem.W.Frag} {g : Dl} {F H : Hp} {σ : L2.St} {env : List Slot} (h : EnvOk K g σ F H env) (no : ∀ i ds, getS env i ≠ .ow ds) : EnvS K g F H σ F H env :=
  ⟨h, h.b, h.b.refl, fun i ds p e _ => absurd e (no i ds)⟩
end NB

/-! DL2 -/
set_option Elab.async false
set_option linter.all false
set_option maxRecDepth 100000
namespace NB
open PySem L2

section
variable {X : Cx} {K : PySem.W.Frag} {g : Dl} {F H : Hp}
theorem PEm {e : Expr} {t t' : TE} (h : PE X e t) (m : ∀ σ H Q, t' σ H Q → t σ H Q) : PE X e t' := ⟨fun pins s σ H Q I q => h.run pins s σ H Q I (m σ H Q q)⟩
theorem PTm {e : Expr} {t t' : TT} (h : PT X e t) (m : ∀ σ H Q, t' σ H Q → t σ H Q) : PT X e t' := ⟨fun pins s σ H Q I q => h.run pins s σ H Q I (m σ H Q q)⟩
theorem PWm {e : Expr} {t t' : TT} (h : PW X e t) (m : ∀ σ H Q, t' σ H Q → t σ H Q) : PW X e t' := ⟨fun wh pins s σ H Q I q => h.run wh pins s σ H Q I (m σ H Q q)⟩
theorem PAm {e : List Expr} {t t' : TA} (h : PA X e t) (m : ∀ σ H Q, t' σ H Q → t σ H Q) : PA X e t' := ⟨fun p pins s σ H Q I q => h.run p pins s σ H Q I (m σ H Q q)⟩
theorem POm {e : Option Expr} {t t' : TO} (h : PO X e t) (m : ∀ σ H Q, t' σ H Q → t σ H Q) : PO X e t' := ⟨fun pins s σ H Q I q => h.run pins s σ H Q I (m σ H Q q)⟩
theorem PIm {tg e : Expr} {t t' : TI} (h : PI X tg e t) (m : ∀ σ H Q, t' σ H Q → t σ H Q) : PI X tg e t' := ⟨fun pins s σ H Q I q => h.run pins s σ H Q I (m σ H Q q)⟩
theorem PSm {e : Stmt} {t t' : TS} (h : PS X e t) (m : ∀ D σ H, t' D σ H → t D σ H) : PS X e t' := ⟨fun pins s σ H D I q => h.run pins s σ H D I (m D σ H q)⟩
theorem PSsm {e : List Stmt} {t t' : TS} (h : PSs X e t) (m : ∀ D σ H, t' D σ H → t D σ H) : PSs X e t' := ⟨fun pins s σ H D I q => h.run pins s σ H D I (m D σ H q)⟩
theorem Then.now {Φ : D → Prop} {Q : VK} (h : Then K g F H Φ Q) (b : Bs g F H) {d : D} {v : V} (φ : Φ d) (a : At K g F d v) : Q v H := h d v F H φ b.refl a
theorem Then.aft {Φ : D → Prop} {Q : VK} {F' H' : Hp} (h : Then K g F H Φ Q) (b : Bs g F H) (s : Step g F H F' H') : Then K g F' H' Φ Q := fun d v F'' H'' φ t a => h d v F'' H'' φ (s.trans b t) a

/-! names, constants -/
def dVar (i : Nat) : DE := fun env Φ => match getS env i with
  | .im d => Φ d
  | _ => False
def dC (d : D) : DE := fun _ Φ => Φ d
theorem we_var (i : Nat) {x : Str} {pos : Pos} (hN : X.N[i]? = some x := by rfl) (hv : Vis X.env.scope x := by first | exact Or.inl rfl | exact Or.inr (Or.inl rfl) | exact Or.inr (Or.inr rfl)) (hd : (x == ("__debug__" : Str)) = false := by decide)
    (hcd : (x == ("__classdict__" : Str)) = false := by decide) : PE X (.Name x pos) (lift X.K (dVar i)) := by
  refine PEm (pe_var (i := i) hN hv hd hcd) fun σ H Q ⟨g, F, env, Φ, hE, hw, k⟩ => ?_
  have hs := hE.sl i
  unfold dVar at hw
  cases e : getS env i with
  | no => rw [e] at hw; exact hw.elim
  | ow ds => rw [e] at hw; exact hw.elim
  | im d =>
    rw [e] at hw hs
    obtain ⟨v, e1, a⟩ := hs
    exact ⟨v, e1, k.now hE.b hw a⟩
theorem we_c {e : Expr} {v : V} {d : D} (h : PE X e (tC v)) (a : ∀ g F, At X.K g F d v) : PE X e (lift X.K (dC d)) :=
  PEm h fun σ H Q ⟨g, F, env, Φ, hE, hw, k⟩ => k.now hE.b hw (a g F)
theorem we_int {i j pos} : PE X (.Constant (.int i) j pos) (lift X.K (dC (.int i))) := we_c pe_int fun _ _ => rfl
theorem we_bl {b j pos} : PE X (.Constant (.bool b) j pos) (lift X.K (dC (.bl b))) := we_c pe_bl fun _ _ => rfl
theorem we_non {j pos} : PE X (.Constant .none j pos) (lift X.K (dC .non)) := we_c pe_non fun _ _ => rfl
theorem we_str {x j pos} : PE X (.Constant (.str x) j pos) (lift X.K (dC (.str x))) := we_c pe_str fun _ _ => rfl
theorem we_gint {x : Str} {i : Int} {t : Tok} {pos : Pos} (hg : Gl X x) (hm : X.mg x = some (.int i t)) (hd : (x == ("__debug__" : Str)) = false := by decide) : PE X (.Name x pos) (lift X.K (dC (.int i))) :=
  we_c (pe_glob (v := .int i) hg hm ⟨_, rfl⟩ hd) fun _ _ => rfl
theorem we_gref {x : Str} {a : Addr} {d : D} {pos : Pos} (hg : Gl X x) (hm : X.mg x = some (.ref a)) (h : ∀ g F, At X.K g F d (.ref a)) (hd : (x == ("__debug__" : Str)) = false := by decide) : PE X (.Name x pos) (lift X.K (dC d)) :=
  we_c (pe_glob (v := .ref a) hg hm rfl hd) h

/-! two operands -/
abbrev RD := D → D → (D → Prop) → Prop
def OpD (K : PySem.W.Frag) (r : R2) (rd : RD) : Prop := ∀ g F H x y dx dy Φ Q, Bs g F H → At K g F dx x → At K g F dy y → rd dx dy Φ → Then K g F H Φ Q → r x y H Q
def dOp (rd : RD) (wa wb : DE) : DE := fun env Φ => wa env fun x => wb env fun y => rd x y Φ
theorem lift_op {r : R2} {rd : RD} {wa wb : DE} (o : OpD K r rd) (σ : L2.St) (H : Hp) (Q : VK) (h : lift K (dOp rd wa wb) σ H Q) : tOp r (lift K wa) (lift K wb) σ H Q := by
  obtain ⟨g, F, env, Φ, hE, hw, k⟩ := h
  refine ⟨g, F, env, _, hE, hw, fun d1 v1 F1 H1 φ1 s1 a1 => ?_⟩
  refine ⟨g, F1, env, _, hE.step s1, φ1, fun d2 v2 F2 H2 φ2 s2 a2 => ?_⟩
  have b1 := hE.b.step s1
  exact o g F2 H2 v1 v2 d1 d2 Φ Q (b1.step s2) (At.mono s2.up _ _ a1) a2 φ2 ((k.aft hE.b s1).aft b1 s2)
variable {a b c : Expr} {wa wb wc : DE} {pos : Pos}
theorem we_bin {op : Operator} {r : R2} {rd : RD} (ho : OpR X (binaryOp op) r) (o : OpD X.K r rd) (ha : PE X a (lift X.K wa)) (hb : PE X b (lift X.K wb)) : PE X (.BinOp a op b pos) (lift X.K (dOp rd wa wb)) :=
  PEm (pe_op ho ha hb) (lift_op o)
theorem we_cmp {op : CmpOp} {r : R2} {rd : RD} (ho : OpR X (compareOp op) r) (o : OpD X.K r rd) (ha : PE X a (lift X.K wa)) (hb : PE X b (lift X.K wb)) (hm : behindInMarks op b = false := by first | exact nomark _ | rfl) : PE X (.Compare a [op] [b] pos) (lift X.K (dOp rd wa wb)) :=
  PEm (pe_cmpR ho ha hb hm) (lift_op o)
theorem we_ixG {r : R2} {rd : RD} (hr : IxR X r) (o : OpD X.K r rd) (ha : PE X a (lift X.K wa)) (hb : PE X b (lift X.K wb)) (hs : PlainIx b := by exact fun _ _ => rfl) : PE X (.Subscript a b pos) (lift X.K (dOp rd wa wb)) :=
  PEm (pe_ix hr ha hb hs) (lift_op o)
def rdI (C : Int → Int → Prop) (f : Int → Int → Int) : RD := fun x y Φ => match x, y with
  | .int i, .int j => C i j ∧ Φ (.int (f i j))
  | _, _ => False
def rdI0 (f : Int → Int → Int) : RD := fun x y Φ => match x, y with
  | .int i, .int j => Φ (.int (f i j))
  | _, _ => False
def rdB0 (f : Int → Int → Bool) : RD := fun x y Φ => match x, y with
  | .int i, .int j => Φ (.bl (f i j))
  | _, _ => False
theorem opd_I {C : Int → Int → Prop} {f : Int → Int → Int} : OpD K (rI C fun i j => .int (f i j)) (rdI C f) := by
  intro g F H x y dx dy Φ Q b ax ay h k
  cases dx <;> cases dy <;> try exact False.elim h
  cases ax; cases ay
  exact ⟨_, _, rfl, rfl, h.1, k.now b h.2 rfl⟩
theorem opd_I0 {f : Int → Int → Int} : OpD K (rI0 fun i j => .int (f i j)) (rdI0 f) := by
  intro g F H x y dx dy Φ Q b ax ay h k
  cases dx <;> cases dy <;> try exact False.elim h
  cases ax; cases ay
  exact ⟨_, _, rfl, rfl, k.now b h rfl⟩
theorem opd_B0 {f : Int → Int → Bool} : OpD K (rI0 fun i j => .bl (f i j)) (rdB0 f) := by
  intro g F H x y dx dy Φ Q b ax ay h k
  cases dx <;> cases dy <;> try exact False.elim h
  cases ax; cases ay
  exact ⟨_, _, rfl, rfl, k.now b h rfl⟩
abbrev dAdd := dOp (rdI0 fun i j => i + j)
abbrev dSub := dOp (rdI0 fun i j => i - j)
abbrev dMul := dOp (rdI CMul fun i j => i * j)
abbrev dMulW := dOp (rdI CMulW fun i j => i * j)
abbrev dDiv := dOp (rdI CDiv fun i j => i / j)
abbrev dMod := dOp (rdI (fun _ j => 0 < j) fun i j => i % j)
abbrev dLt := dOp (rdB0 fun i j => decide (i < j))
abbrev dLe := dOp (rdB0 fun i j => decide (i ≤ j))
abbrev dGt := dOp (rdB0 fun i j => decide (j < i))
abbrev dGe := dOp (rdB0 fun i j => decide (j ≤ i))
theorem we_add (ha : PE X a (lift X.K wa)) (hb : PE X b (lift X.K wb)) : PE X (.BinOp a .Add b pos) (lift X.K (dAdd wa wb)) := we_bin op_add opd_I0 ha hb
theorem we_sub (ha : PE X a (lift X.K wa)) (hb : PE X b (lift X.K wb)) : PE X (.BinOp a .Sub b pos) (lift X.K (dSub wa wb)) := we_bin op_sub opd_I0 ha hb
theorem we_mul (ha : PE X a (lift X.K wa)) (hb : PE X b (lift X.K wb)) : PE X (.BinOp a .Mult b pos) (lift X.K (dMul wa wb)) := we_bin op_mul opd_I ha hb
theorem we_mulW (ha : PE X a (lift X.K wa)) (hb : PE X b (lift X.K wb)) : PE X (.BinOp a .Mult b pos) (lift X.K (dMulW wa wb)) := we_bin op_mulW opd_I ha hb
theorem we_div (ha : PE X a (lift X.K wa)) (hb : PE X b (lift X.K wb)) : PE X (.BinOp a .FloorDiv b pos) (lift X.K (dDiv wa wb)) := we_bin op_fdiv opd_I ha hb
theorem we_mod (ha : PE X a (lift X.K wa)) (hb : PE X b (lift X.K wb)) : PE X (.BinOp a .Mod b pos) (lift X.K (dMod wa wb)) := we_bin op_mod opd_I ha hb
theorem we_lt (ha : PE X a (lift X.K wa)) (hb : PE X b (lift X.K wb)) : PE X (.Compare a [.Lt] [b] pos) (lift X.K (dLt wa wb)) := we_cmp op_lt opd_B0 ha hb (nomark _)
theorem we_le (ha : PE X a (lift X.K wa)) (hb : PE X b (lift X.K wb)) : PE X (.Compare a [.LtE] [b] pos) (lift X.K (dLe wa wb)) := we_cmp op_le opd_B0 ha hb (nomark _)
theorem we_gt (ha : PE X a (lift X.K wa)) (hb : PE X b (lift X.K wb)) : PE X (.Compare a [.Gt] [b] pos) (lift X.K (dGt wa wb)) := we_cmp op_gt opd_B0 ha hb (nomark _)
theorem we_ge (ha : PE X a (lift X.K wa)) (hb : PE X b (lift X.K wb)) : PE X (.Compare a [.GtE] [b] pos) (lift X.K (dGe wa wb)) := we_cmp op_ge opd_B0 ha hb (nomark _)
/-- == of ints, texts, bools -/
def rdEq : RD := fun x y Φ => match x, y with
  | .int i, .int j => Φ (.bl (decide (i = j)))
  | .str i, .str j => Φ (.bl (decide (i = j)))
  | .bl i, .bl j => Φ (.bl (decide (i = j)))
  | _, _ => False
def rdNe : RD := fun x y Φ => match x, y with
  | .int i, .int j => Φ (.bl (!decide (i = j)))
  | .str i, .str j => Φ (.bl (!decide (i = j)))
  | .bl i, .bl j => Φ (.bl (!decide (i = j)))
  | _, _ => False
theorem decV {α : Type} {f : α → V} [DecidableEq α] (hf : ∀ a b, f a = f b → a = b) (a b : α) : decide (f a = f b) = decide (a = b) := by
  by_cases h : a = b
  · subst h; simp
  · rw [decide_eq_false h, decide_eq_false fun e => h (hf a b e)]
theorem opd_eq : OpD K rEq rdEq := by
  intro g F H x y dx dy Φ Q b ax ay h k
  cases dx <;> cases dy <;> try exact False.elim h
  · rename_i i j; cases ax; cases ay; exact ⟨rfl, k.now b h (by unfold At; exact congrArg V.bl (decV (fun _ _ e => V.bl.inj e) i j))⟩
  · rename_i i j; cases ax; cases ay; exact ⟨rfl, k.now b h (by unfold At; exact congrArg V.bl (decV (fun _ _ e => V.int.inj e) i j))⟩
  · rename_i i j; cases ax; cases ay; exact ⟨rfl, k.now b h (by unfold At; exact congrArg V.bl (decV (fun _ _ e => V.str.inj e) i j))⟩
theorem opd_ne : OpD K rNe rdNe := by
  intro g F H x y dx dy Φ Q b ax ay h k
  cases dx <;> cases dy <;> try exact False.elim h
  · rename_i i j; cases ax; cases ay; exact ⟨rfl, k.now b h (by unfold At; exact congrArg (fun z => V.bl (!z)) (decV (fun _ _ e => V.bl.inj e) i j))⟩
  · rename_i i j; cases ax; cases ay; exact ⟨rfl, k.now b h (by unfold At; exact congrArg (fun z => V.bl (!z)) (decV (fun _ _ e => V.int.inj e) i j))⟩
  · rename_i i j; cases ax; cases ay; exact ⟨rfl, k.now b h (by unfold At; exact congrArg (fun z => V.bl (!z)) (decV (fun _ _ e => V.str.inj e) i j))⟩
abbrev dEq := dOp rdEq
abbrev dNe := dOp rdNe
theorem we_eq (ha : PE X a (lift X.K wa)) (hb : PE X b (lift X.K wb)) : PE X (.Compare a [.Eq] [b] pos) (lift X.K (dEq wa wb)) := we_cmp op_eq opd_eq ha hb (nomark _)
theorem we_ne (ha : PE X a (lift X.K wa)) (hb : PE X b (lift X.K wb)) : PE X (.Compare a [.NotEq] [b] pos) (lift X.K (dNe wa wb)) := we_cmp op_ne opd_ne ha hb (nomark _)
/-- is None -/
def isNon : D → Bool
  | .non => true
  | _ => false
theorem at_non {d : D} {v : V} (h : At K g F d v) : decide (v = V.non) = isNon d := by
  cases d <;> (unfold At at h)
  · cases h; rfl
  · cases h; rfl
  · cases h; rfl
  · cases h; rfl
  · obtain ⟨a, vs, rfl, _⟩ := h; rfl
  · obtain ⟨a, vs, rfl, _⟩ := h; rfl
  · obtain ⟨a, b, _, rfl⟩ := h; rfl
def rdIsN : RD := fun x y Φ => match y with
  | .non => Φ (.bl (isNon x))
  | _ => False
def rdNotN : RD := fun x y Φ => match y with
  | .non => Φ (.bl (!isNon x))
  | _ => False
theorem opd_isN : OpD K (fun x y H Q => y = .non ∧ Q (.bl (decide (x = .non))) H) rdIsN := by
  intro g F H x y dx dy Φ Q b ax ay h k
  cases dy <;> try exact False.elim h
  cases ay
  exact ⟨rfl, k.now b h (by unfold At; rw [at_non ax])⟩
theorem opd_notN : OpD K (fun x y H Q => y = .non ∧ Q (.bl (!decide (x = .non))) H) rdNotN := by
  intro g F H x y dx dy Φ Q b ax ay h k
  cases dy <;> try exact False.elim h
  cases ay
  exact ⟨rfl, k.now b h (by unfold At; rw [at_non ax])⟩
abbrev dIsN := dOp rdIsN
abbrev dNotN := dOp rdNotN
theorem we_isN (ha : PE X a (lift X.K wa)) (hb : PE X b (lift X.K wb)) : PE X (.Compare a [.Is] [b] pos) (lift X.K (dIsN wa wb)) := we_cmp op_isN opd_isN ha hb (nomark _)
theorem we_notN (ha : PE X a (lift X.K wa)) (hb : PE X b (lift X.K wb)) : PE X (.Compare a [.IsNot] [b] pos) (lift X.K (dNotN wa wb)) := we_cmp op_notN opd_notN ha hb (nomark _)
/-- x is True, x a bool or None -/
theorem op_isT : OpR X (compareOp .Is) (fun x y H Q => y = .bl true ∧ ((∃ a, x = .bl a ∧ Q (.bl a) H) ∨ (x = .non ∧ Q (.bl false) H))) := by
  intro pins s σ H x y v u Q I rx ry h
  obtain ⟨rfl, h⟩ := h
  cases (show u = Value.bool true from ry)
  rcases h with ⟨a, rfl, q⟩ | ⟨rfl, q⟩
  · cases (show v = Value.bool a from rx)
    cases a with
    | true => exact wpAny_is_self rfl ⟨.bl true, H, I, rfl, q⟩
    | false => exact wpAny_is_other rfl (fun z => nomatch z) ⟨.bl false, H, I, rfl, q⟩
  · cases (show v = Value.none from rx)
    exact wpAny_is_other rfl (fun z => nomatch z) ⟨.bl false, H, I, rfl, q⟩
def rdIsT : RD := fun x y Φ => match x, y with
  | .bl a, .bl true => Φ (.bl a)
  | .non, .bl true => Φ (.bl false)
  | _, _ => False
theorem opd_isT : OpD K (fun x y H Q => y = .bl true ∧ ((∃ a, x = .bl a ∧ Q (.bl a) H) ∨ (x = .non ∧ Q (.bl false) H))) rdIsT := by
  intro g F H x y dx dy Φ Q b ax ay h k
  cases dx <;> cases dy <;> try exact False.elim h
  · rename_i c
    cases c
    · exact False.elim h
    · cases ax; cases ay; exact ⟨rfl, .inr ⟨rfl, k.now b h rfl⟩⟩
  · rename_i i c
    cases c
    · exact False.elim h
    · cases ax; cases ay; exact ⟨rfl, .inl ⟨_, rfl, k.now b h rfl⟩⟩
abbrev dIsT := dOp rdIsT
theorem we_isT (ha : PE X a (lift X.K wa)) (hb : PE X b (lift X.K wb)) : PE X (.Compare a [.Is] [b] pos) (lift X.K (dIsT wa wb)) := we_cmp op_isT opd_isT ha hb (nomark _)

/-! and, or, not, if -/
def dAndV (wa wb : DE) : DE := fun env Φ => wa env fun x => match x with
  | .bl true => wb env Φ
  | .bl false => Φ (.bl false)
  | _ => False
def dOrV (wa wb : DE) : DE := fun env Φ => wa env fun x => match x with
  | .bl false => wb env Φ
  | .bl true => Φ (.bl true)
  | _ => False
def dNotV (wa : DE) : DE := fun env Φ => wa env fun x => match x with
  | .bl b => Φ (.bl (!b))
  | _ => False
variable {rest : List Expr}
theorem we_and (ha : PE X a (lift X.K wa)) (hb : PE X (.BoolOp .And (b :: rest) pos) (lift X.K wb)) : PE X (.BoolOp .And (a :: b :: rest) pos) (lift X.K (dAndV wa wb)) := by
  refine PEm (pe_and ha hb) fun σ H Q ⟨g, F, env, Φ, hE, hw, k⟩ => ⟨g, F, env, _, hE, hw, fun d1 v1 F1 H1 φ1 s1 a1 => ?_⟩
  cases d1 <;> try exact False.elim φ1
  rename_i c
  cases a1
  refine ⟨c, rfl, ?_⟩
  cases c with
  | true => exact iteT ⟨g, F1, env, Φ, hE.step s1, φ1, k.aft hE.b s1⟩
  | false => exact iteF ((k.aft hE.b s1).now (hE.b.step s1) φ1 rfl)
theorem we_or (ha : PE X a (lift X.K wa)) (hb : PE X (.BoolOp .Or (b :: rest) pos) (lift X.K wb)) : PE X (.BoolOp .Or (a :: b :: rest) pos) (lift X.K (dOrV wa wb)) := by
  refine PEm (pe_or ha hb) fun σ H Q ⟨g, F, env, Φ, hE, hw, k⟩ => ⟨g, F, env, _, hE, hw, fun d1 v1 F1 H1 φ1 s1 a1 => ?_⟩
  cases d1 <;> try exact False.elim φ1
  rename_i c
  cases a1
  refine ⟨c, rfl, ?_⟩
  cases c with
  | false => exact iteF ⟨g, F1, env, Φ, hE.step s1, φ1, k.aft hE.b s1⟩
  | true => exact iteT ((k.aft hE.b s1).now (hE.b.step s1) φ1 rfl)
theorem we_one {op} (h : PE X a (lift X.K wa)) : PE X (.BoolOp op [a] pos) (lift X.K wa) := pe_one h
theorem we_not (ha : PE X a (lift X.K wa)) : PE X (.UnaryOp .Not a pos) (lift X.K (dNotV wa)) := by
  refine PEm (pe_not ha) fun σ H Q ⟨g, F, env, Φ, hE, hw, k⟩ => ⟨g, F, env, _, hE, hw, fun d1 v1 F1 H1 φ1 s1 a1 => ?_⟩
  cases d1 <;> try exact False.elim φ1
  cases a1
  exact ⟨_, rfl, (k.aft hE.b s1).now (hE.b.step s1) φ1 rfl⟩
/-! tests -/
def dTst (w : DE) : DT := fun env Φ => w env fun x => match x with
  | .bl c => Φ c
  | _ => False
theorem lift_tst {w : DE} (σ : L2.St) (H : Hp) (Q : Bool → Hp → Prop) (h : liftT K (dTst w) σ H Q) : tB (lift K w) σ H Q := by
  obtain ⟨g, F, env, Φ, hE, hw, k⟩ := h
  refine ⟨g, F, env, _, hE, hw, fun d1 v1 F1 H1 φ1 s1 a1 => ?_⟩
  cases d1 <;> try exact False.elim φ1
  cases a1
  exact ⟨_, rfl, k _ _ _ φ1 s1⟩
theorem wt_val {e : Expr} {w : DE} (h : PE X e (lift X.K w)) (he : ∀ whole, isTrue e X.env whole = (do let v ← whole; standAt e.pos; holding [v] (truthy v)) := by intro _; rfl) : PT X e (liftT X.K (dTst w)) :=
  PTm (pt_val h he) lift_tst
theorem wt_cmp {op : CmpOp} {r : R2} {rd : RD} (ho : OpR X (compareOp op) r) (o : OpD X.K r rd) (ha : PE X a (lift X.K wa)) (hb : PE X b (lift X.K wb)) (hm : behindInMarks op b = false := by first | exact nomark _ | rfl) : PT X (.Compare a [op] [b] pos) (liftT X.K (dTst (dOp rd wa wb))) :=
  PTm (pt_cmpR ho ha hb hm) fun σ H Q h => by
    obtain ⟨g, F, env, Φ, hE, hw, k⟩ := h
    refine lift_op o σ H _ ⟨g, F, env, _, hE, hw, fun d1 v1 F1 H1 φ1 s1 a1 => ?_⟩
    cases d1 <;> try exact False.elim φ1
    cases a1
    exact ⟨_, rfl, k _ _ _ φ1 s1⟩
variable {ta tb : DT}
def dTAnd (ta tb : DT) : DT := fun env Φ => ta env fun c => match c with
  | true => tb env Φ
  | false => Φ false
def dTOr (ta tb : DT) : DT := fun env Φ => ta env fun c => match c with
  | true => Φ true
  | false => tb env Φ
def dTNot (ta : DT) : DT := fun env Φ => ta env fun c => Φ (!c)
theorem wt_and1 (ha : PT X a (liftT X.K ta)) : PW X (.BoolOp .And [a] pos) (liftT X.K ta) := pw_and1 ha
theorem wt_or1 (ha : PT X a (liftT X.K ta)) : PW X (.BoolOp .Or [a] pos) (liftT X.K ta) := pw_or1 ha
theorem wt_and (ha : PT X a (liftT X.K ta)) (hb : PW X (.BoolOp .And (b :: rest) pos) (liftT X.K tb)) : PW X (.BoolOp .And (a :: b :: rest) pos) (liftT X.K (dTAnd ta tb)) := by
  refine PWm (pw_and ha hb) fun σ H Q ⟨g, F, env, Φ, hE, hw, k⟩ => ⟨g, F, env, _, hE, hw, fun c F1 H1 φ1 s1 => ?_⟩
  cases c with
  | true => exact iteT ⟨g, F1, env, Φ, hE.step s1, φ1, fun b F2 H2 φ2 s2 => k b F2 H2 φ2 (s1.trans hE.b s2)⟩
  | false => exact iteF (k _ _ _ φ1 s1)
theorem wt_or (ha : PT X a (liftT X.K ta)) (hb : PW X (.BoolOp .Or (b :: rest) pos) (liftT X.K tb)) : PW X (.BoolOp .Or (a :: b :: rest) pos) (liftT X.K (dTOr ta tb)) := by
  refine PWm (pw_or ha hb) fun σ H Q ⟨g, F, env, Φ, hE, hw, k⟩ => ⟨g, F, env, _, hE, hw, fun c F1 H1 φ1 s1 => ?_⟩
  cases c with
  | false => exact iteF ⟨g, F1, env, Φ, hE.step s1, φ1, fun b F2 H2 φ2 s2 => k b F2 H2 φ2 (s1.trans hE.b s2)⟩
  | true => exact iteT (k _ _ _ φ1 s1)
theorem wt_not (ha : PT X a (liftT X.K ta)) : PT X (.UnaryOp .Not a pos) (liftT X.K (dTNot ta)) :=
  PTm (pt_not ha) fun σ H Q ⟨g, F, env, Φ, hE, hw, k⟩ => ⟨g, F, env, _, hE, hw, fun c F1 H1 φ1 s1 => k _ _ _ φ1 s1⟩
def dIf (t : DT) (wa wb : DE) : DE := fun env Φ => t env fun c => match c with
  | true => wa env Φ
  | false => wb env Φ
theorem we_if (hc : PT X c (liftT X.K ta)) (ha : PE X a (lift X.K wa)) (hb : PE X b (lift X.K wb)) : PE X (.IfExp c a b pos) (lift X.K (dIf ta wa wb)) := by
  refine PEm (pe_ifExp hc ha hb) fun σ H Q ⟨g, F, env, Φ, hE, hw, k⟩ => ⟨g, F, env, _, hE, hw, fun c F1 H1 φ1 s1 => ?_⟩
  cases c with
  | true => exact iteT ⟨g, F1, env, Φ, hE.step s1, φ1, k.aft hE.b s1⟩
  | false => exact iteF ⟨g, F1, env, Φ, hE.step s1, φ1, k.aft hE.b s1⟩
/-! a < b < c -/
def dChain (r r' : RD) (wa wb wc : DE) : DE := fun env Φ => wa env fun x => wb env fun y => r x y fun z => match z with
  | .bl true => wc env fun u => r' y u Φ
  | .bl false => Φ (.bl false)
  | _ => False
theorem lift_chain {r r' : R2} {rd rd' : RD} (o : OpD K r rd) (o' : OpD K r' rd') (σ : L2.St) (H : Hp) (Q : VK) (h : lift K (dChain rd rd' wa wb wc) σ H Q) : tChain r r' (lift K wa) (lift K wb) (lift K wc) σ H Q := by
  obtain ⟨g, F, env, Φ, hE, hw, k⟩ := h
  refine ⟨g, F, env, _, hE, hw, fun d1 v1 F1 H1 φ1 s1 a1 => ?_⟩
  refine ⟨g, F1, env, _, hE.step s1, φ1, fun d2 v2 F2 H2 φ2 s2 a2 => ?_⟩
  have b1 := hE.b.step s1
  have b2 := b1.step s2
  refine o g F2 H2 v1 v2 d1 d2 _ _ b2 (At.mono s2.up _ _ a1) a2 φ2 fun d3 v3 F3 H3 φ3 s3 a3 => ?_
  cases d3 <;> try exact False.elim φ3
  rename_i q
  cases a3
  have k3 := ((k.aft hE.b s1).aft b1 s2).aft b2 s3
  have b3 := b2.step s3
  refine ⟨q, rfl, ?_⟩
  cases q with
  | false => exact iteF (k3.now b3 φ3 rfl)
  | true =>
    refine iteT ⟨g, F3, env, _, ((hE.step s1).step s2).step s3, φ3, fun d4 v4 F4 H4 φ4 s4 a4 => ?_⟩
    exact o' g F4 H4 v2 v4 d2 d4 Φ Q (b3.step s4) (At.mono (s3.up.trans s4.up) _ _ a2) a4 φ4 (k3.aft b3 s4)
theorem we_chain {op op' : CmpOp} {r r' : R2} {rd rd' : RD} (ho : OpR X (compareOp op) r) (ho' : OpR X (compareOp op') r') (o : OpD X.K r rd) (o' : OpD X.K r' rd') (ha : PE X a (lift X.K wa)) (hb : PE X b (lift X.K wb)) (hc : PE X c (lift X.K wc)) (hm : lastMarks [op, op'] [b, c] = false := by with_unfolding_all rfl) :
    PE X (.Compare a [op, op'] [b, c] pos) (lift X.K (dChain rd rd' wa wb wc)) := PEm (pe_chain ho ho' ha hb hc hm) (lift_chain o o')
theorem wt_chain {op op' : CmpOp} {r r' : R2} {rd rd' : RD} (ho : OpR X (compareOp op) r) (ho' : OpR X (compareOp op') r') (o : OpD X.K r rd) (o' : OpD X.K r' rd') (ha : PE X a (lift X.K wa)) (hb : PE X b (lift X.K wb)) (hc : PE X c (lift X.K wc)) (hm : lastMarks [op, op'] [b, c] = false := by with_unfolding_all rfl) :
    PT X (.Compare a [op, op'] [b, c] pos) (liftT X.K (dTst (dChain rd rd' wa wb wc))) := PTm (pt_chain ho ho' ha hb hc hm) fun σ H Q h => by
    obtain ⟨g, F, env, Φ, hE, hw, k⟩ := h
    refine lift_chain o o' σ H _ ⟨g, F, env, _, hE, hw, fun d1 v1 F1 H1 φ1 s1 a1 => ?_⟩
    cases d1 <;> try exact False.elim φ1
    cases a1
    exact ⟨_, rfl, k _ _ _ φ1 s1⟩
/-! arguments, displays -/
def dNil : DA := fun _ Φ => Φ []
def dCons (w : DE) (r : DA) : DA := fun env Φ => w env fun x => r env fun xs => Φ (x :: xs)
theorem wa_nil : PA X [] (liftA X.K dNil) := PAm pa_nil fun σ H Q ⟨g, F, env, Φ, hE, hw, k⟩ => k [] [] F H hw hE.b.refl rfl
theorem wa_cons {e : Expr} {es : List Expr} {w : DE} {r : DA} (ha : PE X e (lift X.K w)) (hr : PA X es (liftA X.K r)) (hs : starEach (e :: es) X.env = (false, eval e X.env) :: starEach es X.env := by rfl) : PA X (e :: es) (liftA X.K (dCons w r)) := by
  refine PAm (pa_cons ha hr hs) fun σ H Q ⟨g, F, env, Φ, hE, hw, k⟩ => ⟨g, F, env, _, hE, hw, fun d1 v1 F1 H1 φ1 s1 a1 => ?_⟩
  refine ⟨g, F1, env, _, hE.step s1, φ1, fun ds vs F2 H2 φ2 s2 a2 => ?_⟩
  exact k _ _ F2 H2 φ2 (s1.trans hE.b s2) (Ats.cons (At.mono s2.up _ _ a1) a2)
def dTup (r : DA) : DE := fun env Φ => r env fun xs => xs.length ≤ 1000 ∧ Φ (.tup xs)
def dLst (r : DA) : DE := fun env Φ => r env fun xs => xs.length ≤ 1000 ∧ Φ (.lst xs)
theorem le_line {n : Nat} (h : n ≤ 1000) : n ≤ sizeLine := Nat.le_of_lt (small1000 h)
theorem we_tup {es : List Expr} {r : DA} {x1} (h : PA X es (liftA X.K r)) : PE X (.Tuple es x1 pos) (lift X.K (dTup r)) := by
  refine PEm (pe_tup h) fun σ H Q ⟨g, F, env, Φ, hE, hw, k⟩ => ⟨g, F, env, _, hE, hw, fun ds vs F1 H1 φ1 s1 a1 => ?_⟩
  have hz : vs.length ≤ sizeLine := by rw [← a1.length]; exact le_line φ1.1
  refine ⟨hz, fun p hp => ?_⟩
  obtain ⟨st, at_⟩ := (hE.b.step s1).allocT hp hz a1
  exact (k.aft hE.b s1) _ _ _ _ φ1.2 st at_
theorem we_lst {es : List Expr} {r : DA} (h : PA X es (liftA X.K r)) : PE X (.List es pos) (lift X.K (dLst r)) := by
  refine PEm (pe_lst h) fun σ H Q ⟨g, F, env, Φ, hE, hw, k⟩ => ⟨g, F, env, _, hE, hw, fun ds vs F1 H1 φ1 s1 a1 => ?_⟩
  have hz : vs.length ≤ sizeLine := by rw [← a1.length]; exact le_line φ1.1
  refine ⟨hz, fun p hp => ?_⟩
  obtain ⟨st, at_⟩ := (hE.b.step s1).allocL hp hz a1
  exact (k.aft hE.b s1) _ _ _ _ φ1.2 st at_
/-! items, slices -/
def rdIx : RD := fun x y Φ => match x, y with
  | .tup ds, .int i => match atI ds i with
    | some d => Φ d
    | none => False
  | .lst ds, .int i => match atI ds i with
    | some d => Φ d
    | none => False
  | _, _ => False
theorem Ats.atI {ds : List D} {vs : List V} (h : Ats K g F ds vs) {i : Int} {d : D} (e : L2.atI ds i = some d) : ∃ v, L2.atI vs i = some v ∧ At K g F d v := by
  unfold L2.atI at e ⊢
  rw [← h.length]
  cases q : ixN ds.length i with
  | none => rw [q] at e; cases e
  | some j =>
    rw [q] at e
    exact h.get e
theorem opd_ix : OpD K (rIx K) rdIx := by
  intro g F H x y dx dy Φ Q b ax ay h k
  cases dx <;> cases dy <;> try exact False.elim h
  · rename_i ds i
    unfold At at ax
    obtain ⟨a, vs, rfl, hs, as⟩ := ax
    cases ay
    have h : (match L2.atI ds i with
      | some d => Φ d
      | none => False) := h
    cases e : L2.atI ds i with
    | none => rw [e] at h; exact h.elim
    | some d =>
      rw [e] at h
      obtain ⟨v, e1, a1⟩ := as.atI e
      exact .inr (.inl ⟨a, vs, i, v, rfl, rfl, b.sub.sqt hs, e1, k.now b h a1⟩)
  · rename_i ds i
    unfold At at ax
    obtain ⟨a, vs, rfl, hs, as⟩ := ax
    cases ay
    have h : (match L2.atI ds i with
      | some d => Φ d
      | none => False) := h
    cases e : L2.atI ds i with
    | none => rw [e] at h; exact h.elim
    | some d =>
      rw [e] at h
      obtain ⟨v, e1, a1⟩ := as.atI e
      exact .inl ⟨a, vs, i, v, rfl, rfl, SqL.of (b.sub _ _ hs), e1, k.now b h a1⟩
abbrev dIx := dOp rdIx
theorem we_ix (ha : PE X a (lift X.K wa)) (hb : PE X b (lift X.K wb)) (hs : PlainIx b := by exact fun _ _ => rfl) : PE X (.Subscript a b pos) (lift X.K (dIx wa wb)) := we_ixG ix_seq opd_ix ha hb hs
def dNoPart : DO := fun _ Φ => Φ none
def dPart (w : DE) : DO := fun env Φ => w env fun x => match x with
  | .int i => Φ (some i)
  | _ => False
theorem wo_none : PO X none (liftO X.K dNoPart) := POm po_none fun σ H Q ⟨g, F, env, Φ, hE, hw, k⟩ => k none F H hw hE.b.refl
theorem wo_some {e : Expr} {w : DE} (h : PE X e (lift X.K w)) : PO X (some e) (liftO X.K (dPart w)) := by
  refine POm (po_some h) fun σ H Q ⟨g, F, env, Φ, hE, hw, k⟩ => ⟨g, F, env, _, hE, hw, fun d1 v1 F1 H1 φ1 s1 a1 => ?_⟩
  cases d1 <;> try exact False.elim φ1
  cases a1
  exact ⟨_, rfl, k _ _ _ φ1 s1⟩
def cutD (xs : List D) (lo hi : Option Int) : List D := (xs.drop (HT.sIx xs.length 0 lo)).take (HT.sIx xs.length xs.length hi - HT.sIx xs.length 0 lo)
theorem Ats.cut {ds : List D} {vs : List V} (h : Ats K g F ds vs) (lo hi : Option Int) : Ats K g F (cutD ds lo hi) (cutV vs lo hi) := by
  unfold cutD cutV
  rw [h.length]
  exact (h.drop _).take _
def dSl (w : DE) (ol oh : DO) : DE := fun env Φ => w env fun x => ol env fun lo => oh env fun hi => match x with
  | .tup ds => Φ (.tup (cutD ds lo hi))
  | .lst ds => Φ (.lst (cutD ds lo hi))
  | _ => False
theorem we_slice {lo hi : Option Expr} {ol oh : DO} {p2 : Pos} (he : PE X a (lift X.K wa)) (hl : PO X lo (liftO X.K ol)) (hh : PO X hi (liftO X.K oh)) : PE X (.Subscript a (.Slice lo hi none p2) pos) (lift X.K (dSl wa ol oh)) := by
  refine PEm (pe_slice (SlR.or sl_tupA sl_list) he hl hh) fun σ H Q ⟨g, F, env, Φ, hE, hw, k⟩ => ⟨g, F, env, _, hE, hw, fun d1 v1 F1 H1 φ1 s1 a1 => ?_⟩
  refine ⟨g, F1, env, _, hE.step s1, φ1, fun o1 F2 H2 φ2 s2 => ?_⟩
  have b1 := hE.b.step s1
  have b2 := b1.step s2
  refine ⟨g, F2, env, _, (hE.step s1).step s2, φ2, fun o2 F3 H3 φ3 s3 => ?_⟩
  have b3 := b2.step s3
  have k3 := ((k.aft hE.b s1).aft b1 s2).aft b2 s3
  have a3 := At.mono (s2.up.trans s3.up) _ _ a1
  cases d1 <;> try exact False.elim φ3
  · rename_i ds
    unfold At at a3
    obtain ⟨q, vs, rfl, hs, as⟩ := a3
    refine .inl ⟨q, vs, rfl, b3.sub.sqt hs, fun ⟨e1, e2⟩ => ?_, fun _ p hp => ?_⟩
    · have e : cutD ds o1 o2 = ds := by
        unfold cutD
        rw [as.length, e1, e2, ← as.length]
        simp
      have φ3 : Φ (D.tup (cutD ds o1 o2)) := φ3
      rw [e] at φ3
      exact k3.now b3 φ3 (by unfold At; exact ⟨q, vs, rfl, hs, as⟩)
    · have hz : (cutV vs o1 o2).length ≤ sizeLine := Nat.le_trans (cutV_length _ _ _) (b3.ln.t (b3.sub.sqt hs))
      obtain ⟨st, at_⟩ := b3.allocT hp hz (as.cut o1 o2)
      exact k3 _ _ _ _ φ3 st at_
  · rename_i ds
    unfold At at a3
    obtain ⟨q, vs, rfl, hs, as⟩ := a3
    refine .inr ⟨q, vs, rfl, SqL.of (b3.sub _ _ hs), fun p hp => ?_⟩
    have hz : (cutV vs o1 o2).length ≤ sizeLine := Nat.le_trans (cutV_length _ _ _) (b3.ln.l (SqL.of (K := X.K) (b3.sub _ _ hs)))
    obtain ⟨st, at_⟩ := b3.allocL hp hz (as.cut o1 o2)
    exact k3 _ _ _ _ φ3 st at_
/-! + and * -/
def rdCat : RD := fun x y Φ => match x, y with
  | .tup xs, .tup ys => xs.length + ys.length ≤ 1000 ∧ Φ (.tup (xs ++ ys))
  | .lst xs, .lst ys => xs.length + ys.length ≤ 1000 ∧ Φ (.lst (xs ++ ys))
  | _, _ => False
theorem opd_cat : OpD K (fun x y H Q => rCatA K x y H Q ∨ rCat x y H Q) rdCat := by
  intro g F H x y dx dy Φ Q b ax ay h k
  cases dx <;> cases dy <;> try exact False.elim h
  · rename_i xs ys
    obtain ⟨hl, h⟩ := h
    have ax0 := ax
    have ay0 := ay
    unfold At at ax ay
    obtain ⟨p, vs, rfl, hs, as⟩ := ax
    obtain ⟨q, us, rfl, ht, bs⟩ := ay
    have hz : vs.length + us.length ≤ sizeLine := by rw [← as.length, ← bs.length]; exact le_line hl
    refine .inl ⟨p, q, vs, us, rfl, rfl, b.sub.sqt hs, b.sub.sqt ht, hz, fun e => ?_, fun _ e => ?_, fun _ _ r hr => ?_⟩
    · subst e
      have e2 : xs = [] := List.eq_nil_of_length_eq_zero as.length
      subst e2
      exact k.now b h ay0
    · subst e
      have e2 : ys = [] := List.eq_nil_of_length_eq_zero bs.length
      subst e2
      rw [List.append_nil] at h
      exact k.now b h ax0
    · obtain ⟨st, at_⟩ := b.allocT hr (by rw [List.length_append]; exact hz) (as.app bs)
      exact k _ _ _ _ h st at_
  · rename_i xs ys
    obtain ⟨hl, h⟩ := h
    unfold At at ax ay
    obtain ⟨p, vs, rfl, hs, as⟩ := ax
    obtain ⟨q, us, rfl, ht, bs⟩ := ay
    have hz : vs.length + us.length ≤ sizeLine := by rw [← as.length, ← bs.length]; exact le_line hl
    refine .inr ⟨p, q, vs, us, rfl, rfl, b.sub _ _ hs, b.sub _ _ ht, hz, fun r hr => ?_⟩
    obtain ⟨st, at_⟩ := b.allocL hr (by rw [List.length_append]; exact hz) (as.app bs)
    exact k _ _ _ _ h st at_
abbrev dCat := dOp rdCat
theorem we_cat (ha : PE X a (lift X.K wa)) (hb : PE X b (lift X.K wb)) : PE X (.BinOp a .Add b pos) (lift X.K (dCat wa wb)) := we_bin (OpR.or op_catA op_cat) opd_cat ha hb
end
end NB

/-! DL3 -/
set_option Elab.async false
set_option linter.all false
set_option maxRecDepth 100000
set_option maxHeartbeats 1000000
namespace NB
open PySem PySem.Spec PyProof.Rows L2

/-! min, max of a tuple of ints -/
section
variable {prog : Program} {w : World} {A : Around} {E : Value → Shared → Prop} {s : Shared} {l : Addr} {xs : Array (Int × Tok)}
theorem iter_intTup {Q : Value → Shared → Prop} (hl : s.heap.IsTuple l (intItems xs))
    (h : ∀ s₂ : Shared, s₂ = { s with heap := s.heap.push { cls := .type "tuple_iterator", data := .fields #[.ref l, .int 0 0] } } →
      (s₂.heap.IsTupleIter s.heap.objs.size l 0 ∧ s₂.heap.IsTuple l (intItems xs)) → (∀ b ∈ [s.heap.objs.size, l], b < s₂.heap.objs.size) → l ≠ s.heap.objs.size → Q (.ref s.heap.objs.size) s₂) :
    wpAny (model prog w) A (pyIter (.ref l)) Q E s := by
  have hlt : l < s.heap.objs.size := by obtain ⟨_, e, _⟩ := hl; exact Heap.lt_size e
  refine wpAny_pyIter_tuple hl (h _ rfl ⟨⟨_, Heap.get?_push_size _ rfl, rfl, rfl⟩, hl.push _⟩ (fun b hb => ?_) (Nat.ne_of_lt hlt))
  show b < (s.heap.push _).objs.size
  rw [Heap.size_push]
  rcases List.mem_cons.mp hb with rfl | hb
  · exact Nat.lt_succ_self _
  · rcases List.mem_cons.mp hb with rfl | hb
    · exact Nat.lt_succ_of_lt hlt
    · cases hb
theorem old_keptT {h' : Heap} (hk : ∀ b o, b ∉ [s.heap.objs.size] → (s.heap.push { cls := .type "tuple_iterator", data := .fields #[.ref l, .int 0 0] }).get? b = some o → h'.get? b = some o) :
    ∀ b o, s.heap.get? b = some o → h'.get? b = some o := fun b o e => by
  refine hk b o (fun hm => ?_) (Heap.get?_push_of_some _ e)
  rcases List.mem_cons.mp hm with e1 | hm
  · exact absurd (e1 ▸ Heap.lt_size e) (Nat.lt_irrefl _)
  · cases hm
theorem max_intTup {Q : Value → Shared → Prop} (hh : A.handled = none) (hl : s.heap.IsTuple l (intItems xs)) (hne : 0 < xs.size)
    (h : ∀ v h' tk, (intItems xs)[argBest (fun i j => decide (numAt xs i > numAt xs j)) (xs.size - 1)]? = some v → (∀ b o, s.heap.get? b = some o → h'.get? b = some o) → Q v { s with heap := h', toks := tk }) :
    wpAny (model prog w) A (call (.builtin "max") [.ref l]) Q E s := by
  refine call_max_walk (iter_intTup hl fun s₂ e st hfp hlI => ?_)
  subst e
  refine ⟨_, _, _, _, _, _, _, rfl, Walks.tuple (A := A.in1) hh _ l hlI (intItems xs), st, hfp, by simpa [intItems] using hne, CmpOf.ints_gt (numAt xs) (fun _ _ => intItems_at), fun v h' tk hP hk => ?_⟩
  exact h v h' tk (by simpa [intItems] using hP) (old_keptT hk)
theorem min_intTup {Q : Value → Shared → Prop} (hh : A.handled = none) (hl : s.heap.IsTuple l (intItems xs)) (hne : 0 < xs.size)
    (h : ∀ v h' tk, (intItems xs)[argBest (fun i j => decide (numAt xs i < numAt xs j)) (xs.size - 1)]? = some v → (∀ b o, s.heap.get? b = some o → h'.get? b = some o) → Q v { s with heap := h', toks := tk }) :
    wpAny (model prog w) A (call (.builtin "min") [.ref l]) Q E s := by
  refine call_min_walk (iter_intTup hl fun s₂ e st hfp hlI => ?_)
  subst e
  refine ⟨_, _, _, _, _, _, _, rfl, Walks.tuple (A := A.in1) hh _ l hlI (intItems xs), st, hfp, by simpa [intItems] using hne, CmpOf.ints_lt (numAt xs) (fun _ _ => intItems_at), fun v h' tk hP hk => ?_⟩
  exact h v h' tk (by simpa [intItems] using hP) (old_keptT hk)
variable {its : List Value} {ns : List Int}
theorem max_rawT {Q : Value → Shared → Prop} (hh : A.handled = none) (hl : s.heap.IsTuple l its.toArray) (hi : IntsAre its ns) (hne : 0 < ns.length)
    (h : ∀ h' tk M t', (∀ b o, s.heap.get? b = some o → h'.get? b = some o) → M ∈ ns → (∀ a, a ∈ ns → a ≤ M) → Q (.int M t') { s with heap := h', toks := tk }) : wpAny (model prog w) A (call (.builtin "max") [.ref l]) Q E s := by
  obtain ⟨xs, e⟩ := hi.allInts.items
  have hn : numsOf (intItems xs).toList = ns := by rw [← e]; exact hi.numsOf
  rw [nums_intItems] at hn
  subst hn
  rw [e] at hl
  have hsz : 0 < xs.size := by simpa using hne
  refine max_intTup hh hl hsz fun v h' tk hv hk => ?_
  obtain ⟨t, rfl⟩ := intItems_at hv
  obtain ⟨h1, h2⟩ := argBest_gt (numAt xs) (xs.size - 1)
  refine h h' tk _ t hk ?_ fun a ha => ?_
  · rw [numAt_eq]; exact PySem.getD_mem (by rw [List.length_map, Array.length_toList]; omega)
  · obtain ⟨j, hj, rfl⟩ := mem_getD ha
    rw [List.length_map, Array.length_toList] at hj
    rw [← numAt_eq]; exact h2 j (by omega)
theorem min_rawT {Q : Value → Shared → Prop} (hh : A.handled = none) (hl : s.heap.IsTuple l its.toArray) (hi : IntsAre its ns) (hne : 0 < ns.length)
    (h : ∀ h' tk M t', (∀ b o, s.heap.get? b = some o → h'.get? b = some o) → M ∈ ns → (∀ a, a ∈ ns → M ≤ a) → Q (.int M t') { s with heap := h', toks := tk }) : wpAny (model prog w) A (call (.builtin "min") [.ref l]) Q E s := by
  obtain ⟨xs, e⟩ := hi.allInts.items
  have hn : numsOf (intItems xs).toList = ns := by rw [← e]; exact hi.numsOf
  rw [nums_intItems] at hn
  subst hn
  rw [e] at hl
  have hsz : 0 < xs.size := by simpa using hne
  refine min_intTup hh hl hsz fun v h' tk hv hk => ?_
  obtain ⟨t, rfl⟩ := intItems_at hv
  obtain ⟨h1, h2⟩ := argBest_lt (numAt xs) (xs.size - 1)
  refine h h' tk _ t hk ?_ fun a ha => ?_
  · rw [numAt_eq]; exact PySem.getD_mem (by rw [List.length_map, Array.length_toList]; omega)
  · obtain ⟨j, hj, rfl⟩ := mem_getD ha
    rw [List.length_map, Array.length_toList] at hj
    rw [← numAt_eq]; exact h2 j (by omega)
theorem list_extend_list_tup (l : Addr) (items : Array Value) (n : Nat) (b : Addr) (items2 : Array Value) (n2 : Nat) (dd : Option Addr) (sl : Array (Option Value)) (hs0 : ¬(!items.isEmpty && Builtin.List.listTooLong (items.size + items2.size)) = true) (hs1 : items.size ≤ sizeLine) (hs2 : items.size + items2.size ≤ sizeLine + 1 := by seq_fits) :
    Meets (Builtin.«list.extend» ⟨[.ref l, .ref b], []⟩) (fun _ R s => s.heap.get? l = some { cls := .type "list", dict := none, data := .seq items n, slots := #[] } ∧ s.heap.get? b = some { cls := .type "tuple", dict := dd, data := .seq items2 n2, slots := sl } ∧ R (.ok (.ret Value.none)) { s with heap := s.heap.update l (Obj.mapSeq fun x => x ++ items2), toks := s.toks }) :=
  .of_wp fun prog w A R s h => by
    obtain ⟨hp, g, d, tk, os⟩ := s; obtain ⟨hl, hb, h⟩ := h; have f1 := AutoSeq1.idx_int; have f2 := AutoSeq1.sub_tuple_tuple; have f3 := AutoSeq1.sub_list_list; have f4 := AutoSeq1.sub_tuple_list; have f5 := AutoSeq1.sub_list_tuple;
    have hz' : (items ++ items2).size ≤ sizeLine + 1 := by rw [Array.size_append]; exact hs2
    wp_walk using (wpAny_updateSeq hl rfl (hz := hs1) (_hz' := hz')), AutoSeq1.wpAny_loadPart' hl, AutoSeq1.wpAny_loadPart' hb; exact ⟨_, rfl, h⟩
end
section
variable {X : Cx}
def rMaxT (K : PySem.W.Frag) : List V → Hp → VK → Prop := fun vs H Q => ∃ (a : Addr) (ns : List Int), vs = [V.ref a] ∧ SqT K H a (ns.map V.int) ∧ 0 < ns.length ∧ ∀ m, m ∈ ns → (∀ y, y ∈ ns → y ≤ m) → Q (.int m) H
def rMinT (K : PySem.W.Frag) : List V → Hp → VK → Prop := fun vs H Q => ∃ (a : Addr) (ns : List Int), vs = [V.ref a] ∧ SqT K H a (ns.map V.int) ∧ 0 < ns.length ∧ ∀ m, m ∈ ns → (∀ y, y ∈ ns → m ≤ y) → Q (.int m) H
theorem cr_maxT (hc : X.calm = true) : CallR X (.builtin "max") (rMaxT X.K) := by
  intro pins s σ H vs us Q I r h
  obtain ⟨a, ns, rfl, hs, hne, q⟩ := h
  obtain ⟨its, rv, hl, _⟩ := I.tuple hs
  rw [Vals.ref1 r]
  exact max_rawT (I.ok.hd hc) (show s.heap.IsTuple a its.toArray from hl) rv.ints hne fun h' tk m t' hk h1 h2 => ⟨.int _, H, I.kept hk, ⟨_, rfl⟩, q m h1 h2⟩
theorem cr_minT (hc : X.calm = true) : CallR X (.builtin "min") (rMinT X.K) := by
  intro pins s σ H vs us Q I r h
  obtain ⟨a, ns, rfl, hs, hne, q⟩ := h
  obtain ⟨its, rv, hl, _⟩ := I.tuple hs
  rw [Vals.ref1 r]
  exact min_rawT (I.ok.hd hc) (show s.heap.IsTuple a its.toArray from hl) rv.ints hne fun h' tk m t' hk h1 h2 => ⟨.int _, H, I.kept hk, ⟨_, rfl⟩, q m h1 h2⟩
def rExtendT (K : PySem.W.Frag) : V → List V → Hp → VK → Prop := fun x vs H Q => ∃ l b xs zs, x = .ref l ∧ vs = [.ref b] ∧ H l = some (.lst xs) ∧ SqT K H b zs ∧ xs.length + zs.length ≤ sizeLine ∧ Q .non (upd H l (.lst (xs ++ zs)))
theorem mt_extendT : MtM X "list.extend" (rExtendT X.K) := by
  intro pins s σ H x vs v us Q I rx rv h
  obtain ⟨l, b, xs, zs, rfl, rfl, hH, hB, hz, q⟩ := h
  cases rx
  obtain ⟨u, rfl, ru⟩ := rv.one
  cases ru
  obtain ⟨z, its, n, r, hl, e⟩ := I.lstM hH
  obtain ⟨its2, r2, ⟨o, e2, hc2, n2, hd2⟩, hz2⟩ := I.tuple hB
  obtain ⟨oc, od, dt, sl⟩ := o
  simp only at hc2 hd2
  subst hc2 hd2
  have hl2 := r2.length
  have hsz : its.toArray.size + its2.toArray.size ≤ sizeLine := by rw [List.size_toArray, List.size_toArray]; omega
  have hlong : ¬ (!its.toArray.isEmpty && Builtin.List.listTooLong (its.toArray.size + its2.toArray.size)) = true := by
    rw [notLongL hsz, Bool.and_false]
    exact Bool.false_ne_true
  refine call_meets F.slot_list_extend ⟨_, e, rfl⟩ F.entry_list_extend (F.args_list_extend_2 _ _)
    (list_extend_list_tup l its.toArray n b its2.toArray n2 od sl hlong (by rw [List.size_toArray]; omega) (by omega)) ⟨e, e2, ?_⟩
  refine ⟨.non, _, I.lset (its' := its ++ its2) hH e (by simp) (r.append r2) ?_, rfl, q⟩
  rw [List.length_append]
  omega
end

/-! the calls of built-ins on data -/
abbrev RL := List D → (D → Prop) → Prop
def CalD (K : PySem.W.Frag) (r : List V → Hp → VK → Prop) (rd : RL) : Prop := ∀ g F H vs ds Φ Q, Bs g F H → Ats K g F ds vs → rd ds Φ → Then K g F H Φ Q → r vs H Q
def dCall (rd : RL) (wa : DA) : DE := fun env Φ => wa env fun ds => rd ds Φ
section
variable {X : Cx} {K : PySem.W.Frag} {g : Dl} {F H : Hp} {e : Expr} {es : List Expr} {wa : DA} {x : Str} {p pos : Pos} {id T : String} {r : List V → Hp → VK → Prop} {rd : RL}
theorem lift_cb (o : CalD K r rd) (σ : L2.St) (H : Hp) (Q : VK) (h : lift K (dCall rd wa) σ H Q) : tCB r (liftA K wa) σ H Q := by
  obtain ⟨g, F, env, Φ, hE, hw, k⟩ := h
  refine ⟨g, F, env, _, hE, hw, fun ds vs F1 H1 φ1 s1 a1 => ?_⟩
  exact o g F1 H1 vs ds Φ Q (hE.b.step s1) a1 φ1 (k.aft hE.b s1)
theorem we_callB (hc : CallR X (.builtin id) r) (o : CalD X.K r rd) (hg : Gl X x) (hm : X.mg x = none) (ha : PA X (e :: es) (liftA X.K wa)) (hv : bootBuiltins x = some (.builtin id) := by decide +kernel) (hn : x ≠ "__name__" := by decide) (hdb : (x == ("__debug__" : Str)) = false := by decide) (hs : starEach (e :: es) X.env = (false, eval e X.env) :: starEach es X.env := by rfl) (hpl : (backTo pos (starEach es X.env)).any (·.1) = false := by rfl) :
    PE X (.Call (.Name x p) (e :: es) [] pos) (lift X.K (dCall rd wa)) := PEm (pe_callB hc hg hm hv ha hn hdb hs hpl) (lift_cb o)
theorem we_callTy (hc : CallR X (.type T) r) (o : CalD X.K r rd) (hg : Gl X x) (hm : X.mg x = none) (ha : PA X (e :: es) (liftA X.K wa)) (hv : bootBuiltins x = some (.type T) := by decide +kernel) (hn : x ≠ "__name__" := by decide) (hdb : (x == ("__debug__" : Str)) = false := by decide) (hs : starEach (e :: es) X.env = (false, eval e X.env) :: starEach es X.env := by rfl) (hpl : (backTo pos (starEach es X.env)).any (·.1) = false := by rfl) :
    PE X (.Call (.Name x p) (e :: es) [] pos) (lift X.K (dCall rd wa)) := PEm (pe_callTy hc hg hm hv ha hn hdb hs hpl) (lift_cb o)

def intsOf : List D → Option (List Int)
  | [] => some []
  | .int i :: r => (intsOf r).map (i :: ·)
  | _ => none
def blsOf : List D → Option (List Bool)
  | [] => some []
  | .bl i :: r => (blsOf r).map (i :: ·)
  | _ => none
theorem intsOf_map : ∀ ns : List Int, intsOf (ns.map D.int) = some ns
  | [] => rfl
  | n :: ns => by simp [intsOf, intsOf_map ns]
theorem blsOf_map : ∀ ns : List Bool, blsOf (ns.map D.bl) = some ns
  | [] => rfl
  | n :: ns => by simp [blsOf, blsOf_map ns]
theorem intsOf_eq : ∀ {ds : List D} {ns : List Int}, intsOf ds = some ns → ds = ns.map D.int
  | [], ns, h => by cases h; rfl
  | .int i :: r, ns, h => by
    unfold intsOf at h
    cases e : intsOf r with
    | none => rw [e] at h; cases h
    | some m => rw [e] at h; cases h; rw [intsOf_eq e]; rfl
  | .non :: r, ns, h => by cases h
  | .bl _ :: r, ns, h => by cases h
  | .str _ :: r, ns, h => by cases h
  | .tup _ :: r, ns, h => by cases h
  | .lst _ :: r, ns, h => by cases h
  | .deal :: r, ns, h => by cases h
theorem blsOf_eq : ∀ {ds : List D} {ns : List Bool}, blsOf ds = some ns → ds = ns.map D.bl
  | [], ns, h => by cases h; rfl
  | .bl i :: r, ns, h => by
    unfold blsOf at h
    cases e : blsOf r with
    | none => rw [e] at h; cases h
    | some m => rw [e] at h; cases h; rw [blsOf_eq e]; rfl
  | .non :: r, ns, h => by cases h
  | .int _ :: r, ns, h => by cases h
  | .str _ :: r, ns, h => by cases h
  | .tup _ :: r, ns, h => by cases h
  | .lst _ :: r, ns, h => by cases h
  | .deal :: r, ns, h => by cases h
def minL : List Int → Int
  | [] => 0
  | x :: xs => xs.foldl min x
def maxL : List Int → Int
  | [] => 0
  | x :: xs => xs.foldl max x
theorem minL_le_aux : ∀ (xs : List Int) (a : Int), xs.foldl min a ≤ a ∧ ∀ y ∈ xs, xs.foldl min a ≤ y
  | [], a => ⟨Int.le_refl _, fun _ h => nomatch h⟩
  | x :: xs, a => by
    obtain ⟨h1, h2⟩ := minL_le_aux xs (min a x)
    refine ⟨Int.le_trans h1 (Int.min_le_left _ _), fun y hy => ?_⟩
    rcases List.mem_cons.mp hy with rfl | hy
    · exact Int.le_trans h1 (Int.min_le_right _ _)
    · exact h2 y hy
theorem minL_mem_aux : ∀ (xs : List Int) (a : Int), xs.foldl min a = a ∨ xs.foldl min a ∈ xs
  | [], a => .inl rfl
  | x :: xs, a => by
    rcases minL_mem_aux xs (min a x) with h | h
    · have : min a x = a ∨ min a x = x := by omega
      rcases this with e | e
      · rw [e] at h; exact .inl (by show xs.foldl min (min a x) = a; rw [e]; exact h)
      · rw [e] at h; exact .inr (by show xs.foldl min (min a x) ∈ x :: xs; rw [e, h]; exact List.mem_cons_self)
    · exact .inr (List.mem_cons_of_mem _ h)
theorem maxL_le_aux : ∀ (xs : List Int) (a : Int), a ≤ xs.foldl max a ∧ ∀ y ∈ xs, y ≤ xs.foldl max a
  | [], a => ⟨Int.le_refl _, fun _ h => nomatch h⟩
  | x :: xs, a => by
    obtain ⟨h1, h2⟩ := maxL_le_aux xs (max a x)
    refine ⟨Int.le_trans (Int.le_max_left _ _) h1, fun y hy => ?_⟩
    rcases List.mem_cons.mp hy with rfl | hy
    · exact Int.le_trans (Int.le_max_right _ _) h1
    · exact h2 y hy
theorem maxL_mem_aux : ∀ (xs : List Int) (a : Int), xs.foldl max a = a ∨ xs.foldl max a ∈ xs
  | [], a => .inl rfl
  | x :: xs, a => by
    rcases maxL_mem_aux xs (max a x) with h | h
    · have : max a x = a ∨ max a x = x := by omega
      rcases this with e | e
      · rw [e] at h; exact .inl (by show xs.foldl max (max a x) = a; rw [e]; exact h)
      · rw [e] at h; exact .inr (by show xs.foldl max (max a x) ∈ x :: xs; rw [e, h]; exact List.mem_cons_self)
    · exact .inr (List.mem_cons_of_mem _ h)
theorem minL_le {xs : List Int} {y : Int} (h : y ∈ xs) : minL xs ≤ y := by
  cases xs with
  | nil => cases h
  | cons x xs =>
    obtain ⟨h1, h2⟩ := minL_le_aux xs x
    rcases List.mem_cons.mp h with rfl | h
    · exact h1
    · exact h2 y h
theorem minL_mem {xs : List Int} (h : xs ≠ []) : minL xs ∈ xs := by
  cases xs with
  | nil => exact absurd rfl h
  | cons x xs =>
    rcases minL_mem_aux xs x with e | e
    · rw [minL, e]; exact List.mem_cons_self
    · exact List.mem_cons_of_mem _ e
theorem le_maxL {xs : List Int} {y : Int} (h : y ∈ xs) : y ≤ maxL xs := by
  cases xs with
  | nil => cases h
  | cons x xs =>
    obtain ⟨h1, h2⟩ := maxL_le_aux xs x
    rcases List.mem_cons.mp h with rfl | h
    · exact h1
    · exact h2 y h
theorem maxL_mem {xs : List Int} (h : xs ≠ []) : maxL xs ∈ xs := by
  cases xs with
  | nil => exact absurd rfl h
  | cons x xs =>
    rcases maxL_mem_aux xs x with e | e
    · rw [maxL, e]; exact List.mem_cons_self
    · exact List.mem_cons_of_mem _ e
theorem minL_eq {xs : List Int} {m : Int} (h1 : m ∈ xs) (h2 : ∀ y ∈ xs, m ≤ y) : m = minL xs :=
  Int.le_antisymm (h2 _ (minL_mem (List.ne_nil_of_mem h1))) (minL_le h1)
theorem maxL_eq {xs : List Int} {m : Int} (h1 : m ∈ xs) (h2 : ∀ y ∈ xs, y ≤ m) : m = maxL xs :=
  Int.le_antisymm (le_maxL h1) (h2 _ (maxL_mem (List.ne_nil_of_mem h1)))

/-- len -/
def rdLen : RL := fun ds Φ => match ds with
  | [.tup xs] => xs.length ≤ sizeLine → Φ (.int xs.length)
  | [.lst xs] => xs.length ≤ sizeLine → Φ (.int xs.length)
  | _ => False
theorem cal_len : CalD K (fun xs H Q => ∃ p ys, xs = [.ref p] ∧ (SqL K H p ys ∨ SqT K H p ys) ∧ Q (.int ys.length) H) rdLen := by
  intro g F H vs ds Φ Q b a h k
  unfold rdLen at h
  split at h
  · rename_i xs
    obtain ⟨v, r, rfl, q, t⟩ := a.of_cons
    cases t
    unfold At at q
    obtain ⟨p, us, rfl, hs, as⟩ := q
    have hl := as.length
    refine ⟨p, us, rfl, .inr (b.sub.sqt hs), ?_⟩
    rw [← hl]
    exact k.now b (h (by rw [hl]; exact b.ln.t (b.sub.sqt hs))) rfl
  · rename_i xs
    obtain ⟨v, r, rfl, q, t⟩ := a.of_cons
    cases t
    unfold At at q
    obtain ⟨p, us, rfl, hs, as⟩ := q
    have hl := as.length
    refine ⟨p, us, rfl, .inl (SqL.of (b.sub _ _ hs)), ?_⟩
    rw [← hl]
    exact k.now b (h (by rw [hl]; exact b.ln.l (SqL.of (K := K) (b.sub _ _ hs)))) rfl
  · exact h.elim
/-- min, max: of two, of one sequence -/
def rdMin : RL := fun ds Φ => match ds with
  | [.int i, .int j] => Φ (.int (min i j))
  | [.lst xs] => match intsOf xs with
    | some ns => ns ≠ [] ∧ Φ (.int (minL ns))
    | none => False
  | [.tup xs] => match intsOf xs with
    | some ns => ns ≠ [] ∧ Φ (.int (minL ns))
    | none => False
  | _ => False
def rdMax : RL := fun ds Φ => match ds with
  | [.int i, .int j] => Φ (.int (max i j))
  | [.lst xs] => match intsOf xs with
    | some ns => ns ≠ [] ∧ Φ (.int (maxL ns))
    | none => False
  | [.tup xs] => match intsOf xs with
    | some ns => ns ≠ [] ∧ Φ (.int (maxL ns))
    | none => False
  | _ => False
def rMinA (K : PySem.W.Frag) : List V → Hp → VK → Prop := fun xs H Q => (∃ i j, xs = [.int i, .int j] ∧ Q (.int (if j < i then j else i)) H) ∨ (rMin K xs H Q ∨ rMinT K xs H Q)
def rMaxA (K : PySem.W.Frag) : List V → Hp → VK → Prop := fun xs H Q => (∃ i j, xs = [.int i, .int j] ∧ Q (.int (if j > i then j else i)) H) ∨ (rMax K xs H Q ∨ rMaxT K xs H Q)
theorem cr_minA (hc : X.calm = true) : CallR X (.builtin "min") (rMinA X.K) := CallR.or (call_min2 hc) (CallR.or (cr_min hc) (cr_minT hc))
theorem cr_maxA (hc : X.calm = true) : CallR X (.builtin "max") (rMaxA X.K) := CallR.or (call_max2 hc) (CallR.or (cr_max hc) (cr_maxT hc))
theorem pos_of_ne {ns : List Int} (h : ns ≠ []) : 0 < ns.length := List.length_pos_iff.mpr h
theorem cal_min : CalD K (rMinA K) rdMin := by
  intro g F H vs ds Φ Q b a h k
  unfold rdMin at h
  split at h
  · rename_i i j
    obtain ⟨v, r, rfl, q, t⟩ := a.of_cons
    obtain ⟨v2, r2, rfl, q2, t2⟩ := t.of_cons
    cases t2; cases q; cases q2
    refine .inl ⟨i, j, rfl, ?_⟩
    have e : (if j < i then j else i) = min i j := by split <;> omega
    rw [e]
    exact k.now b h rfl
  · rename_i xs
    obtain ⟨v, r, rfl, q, t⟩ := a.of_cons
    cases t
    unfold At at q
    obtain ⟨p, us, rfl, hs, as⟩ := q
    have hh : (match intsOf xs with
      | some ns => ns ≠ [] ∧ Φ (.int (minL ns))
      | none => False) := h
    cases e : intsOf xs with
    | none => rw [e] at hh; exact hh.elim
    | some ns =>
      rw [e] at hh
      obtain ⟨hne, hh⟩ := hh
      have e2 := intsOf_eq e
      subst e2
      have e3 := Ats.ints as
      subst e3
      refine .inr (.inl ⟨p, ns, rfl, SqL.of (b.sub _ _ hs), pos_of_ne hne, fun m h1 h2 => ?_⟩)
      rw [minL_eq h1 h2]
      exact k.now b hh rfl
  · rename_i xs
    obtain ⟨v, r, rfl, q, t⟩ := a.of_cons
    cases t
    unfold At at q
    obtain ⟨p, us, rfl, hs, as⟩ := q
    have hh : (match intsOf xs with
      | some ns => ns ≠ [] ∧ Φ (.int (minL ns))
      | none => False) := h
    cases e : intsOf xs with
    | none => rw [e] at hh; exact hh.elim
    | some ns =>
      rw [e] at hh
      obtain ⟨hne, hh⟩ := hh
      have e2 := intsOf_eq e
      subst e2
      have e3 := Ats.ints as
      subst e3
      refine .inr (.inr ⟨p, ns, rfl, b.sub.sqt hs, pos_of_ne hne, fun m h1 h2 => ?_⟩)
      rw [minL_eq h1 h2]
      exact k.now b hh rfl
  · exact h.elim
theorem cal_max : CalD K (rMaxA K) rdMax := by
  intro g F H vs ds Φ Q b a h k
  unfold rdMax at h
  split at h
  · rename_i i j
    obtain ⟨v, r, rfl, q, t⟩ := a.of_cons
    obtain ⟨v2, r2, rfl, q2, t2⟩ := t.of_cons
    cases t2; cases q; cases q2
    refine .inl ⟨i, j, rfl, ?_⟩
    have e : (if j > i then j else i) = max i j := by split <;> omega
    rw [e]
    exact k.now b h rfl
  · rename_i xs
    obtain ⟨v, r, rfl, q, t⟩ := a.of_cons
    cases t
    unfold At at q
    obtain ⟨p, us, rfl, hs, as⟩ := q
    have hh : (match intsOf xs with
      | some ns => ns ≠ [] ∧ Φ (.int (maxL ns))
      | none => False) := h
    cases e : intsOf xs with
    | none => rw [e] at hh; exact hh.elim
    | some ns =>
      rw [e] at hh
      obtain ⟨hne, hh⟩ := hh
      have e2 := intsOf_eq e
      subst e2
      have e3 := Ats.ints as
      subst e3
      refine .inr (.inl ⟨p, ns, rfl, SqL.of (b.sub _ _ hs), pos_of_ne hne, fun m h1 h2 => ?_⟩)
      rw [maxL_eq h1 h2]
      exact k.now b hh rfl
  · rename_i xs
    obtain ⟨v, r, rfl, q, t⟩ := a.of_cons
    cases t
    unfold At at q
    obtain ⟨p, us, rfl, hs, as⟩ := q
    have hh : (match intsOf xs with
      | some ns => ns ≠ [] ∧ Φ (.int (maxL ns))
      | none => False) := h
    cases e : intsOf xs with
    | none => rw [e] at hh; exact hh.elim
    | some ns =>
      rw [e] at hh
      obtain ⟨hne, hh⟩ := hh
      have e2 := intsOf_eq e
      subst e2
      have e3 := Ats.ints as
      subst e3
      refine .inr (.inr ⟨p, ns, rfl, b.sub.sqt hs, pos_of_ne hne, fun m h1 h2 => ?_⟩)
      rw [maxL_eq h1 h2]
      exact k.now b hh rfl
  · exact h.elim
/-- a list of ints, of bools at hand -/
theorem lst1_ints {xs : List D} {ns : List Int} {vs : List V} (a : Ats K g F [.lst xs] vs) (e : intsOf xs = some ns) (b : Bs g F H) : ∃ p, vs = [.ref p] ∧ SqL K H p (ns.map V.int) := by
  obtain ⟨v, r, rfl, q, t⟩ := a.of_cons
  cases t
  unfold At at q
  obtain ⟨p, us, rfl, hs, as⟩ := q
  have e2 := intsOf_eq e
  subst e2
  have e3 := Ats.ints as
  subst e3
  exact ⟨p, rfl, SqL.of (b.sub _ _ hs)⟩
theorem lst1_bls {xs : List D} {ns : List Bool} {vs : List V} (a : Ats K g F [.lst xs] vs) (e : blsOf xs = some ns) (b : Bs g F H) : ∃ p, vs = [.ref p] ∧ SqL K H p (ns.map V.bl) := by
  obtain ⟨v, r, rfl, q, t⟩ := a.of_cons
  cases t
  unfold At at q
  obtain ⟨p, us, rfl, hs, as⟩ := q
  have e2 := blsOf_eq e
  subst e2
  have e3 := Ats.bls as
  subst e3
  exact ⟨p, rfl, SqL.of (b.sub _ _ hs)⟩
def rdSum : RL := fun ds Φ => match ds with
  | [.lst xs] => match intsOf xs with
    | some ns => Φ (.int ns.sum)
    | none => False
  | _ => False
theorem cal_sum : CalD K (rSum K) rdSum := by
  intro g F H vs ds Φ Q b a h k
  unfold rdSum at h
  split at h
  · rename_i xs
    have hh : (match intsOf xs with
      | some ns => Φ (.int ns.sum)
      | none => False) := h
    cases e : intsOf xs with
    | none => rw [e] at hh; exact hh.elim
    | some ns =>
      rw [e] at hh
      obtain ⟨p, rfl, hs⟩ := lst1_ints a e b
      exact ⟨p, ns, rfl, hs, k.now b hh rfl⟩
  · exact h.elim
def rdSorted : RL := fun ds Φ => match ds with
  | [.lst xs] => match intsOf xs with
    | some ns => ns.length < 64 ∧ ∀ ns' : List Int, ns'.Perm ns → ns'.Pairwise (· ≤ ·) → Φ (.lst (ns'.map D.int))
    | none => False
  | _ => False
theorem cal_sorted : CalD K (rSorted K) rdSorted := by
  intro g F H vs ds Φ Q b a h k
  unfold rdSorted at h
  split at h
  · rename_i xs
    have hh : (match intsOf xs with
      | some ns => ns.length < 64 ∧ ∀ ns' : List Int, ns'.Perm ns → ns'.Pairwise (· ≤ ·) → Φ (.lst (ns'.map D.int))
      | none => False) := h
    cases e : intsOf xs with
    | none => rw [e] at hh; exact hh.elim
    | some ns =>
      rw [e] at hh
      obtain ⟨p, rfl, hs⟩ := lst1_ints a e b
      refine ⟨p, ns, rfl, hs, hh.1, fun ns' q hp hw hq => ?_⟩
      obtain ⟨st, at_⟩ := b.allocL (ds := ns'.map D.int) hq (by rw [List.length_map, hp.length_eq]; exact small64 hh.1) (Ats.of_ints ns')
      exact k _ _ _ _ (hh.2 ns' hp hw) st at_
  · exact h.elim
def rdAny : RL := fun ds Φ => match ds with
  | [.lst xs] => match blsOf xs with
    | some bs => Φ (.bl (bs.any _root_.id))
    | none => False
  | _ => False
def rdAll : RL := fun ds Φ => match ds with
  | [.lst xs] => match blsOf xs with
    | some bs => Φ (.bl (bs.all _root_.id))
    | none => False
  | _ => False
theorem cal_any : CalD K (rAny K) rdAny := by
  intro g F H vs ds Φ Q b a h k
  unfold rdAny at h
  split at h
  · rename_i xs
    have hh : (match blsOf xs with
      | some bs => Φ (.bl (bs.any _root_.id))
      | none => False) := h
    cases e : blsOf xs with
    | none => rw [e] at hh; exact hh.elim
    | some ns =>
      rw [e] at hh
      obtain ⟨p, rfl, hs⟩ := lst1_bls a e b
      exact ⟨p, ns, rfl, hs, k.now b hh rfl⟩
  · exact h.elim
theorem cal_all : CalD K (rAll K) rdAll := by
  intro g F H vs ds Φ Q b a h k
  unfold rdAll at h
  split at h
  · rename_i xs
    have hh : (match blsOf xs with
      | some bs => Φ (.bl (bs.all _root_.id))
      | none => False) := h
    cases e : blsOf xs with
    | none => rw [e] at hh; exact hh.elim
    | some ns =>
      rw [e] at hh
      obtain ⟨p, rfl, hs⟩ := lst1_bls a e b
      exact ⟨p, ns, rfl, hs, k.now b hh rfl⟩
  · exact h.elim
def rdTuple : RL := fun ds Φ => match ds with
  | [.lst xs] => Φ (.tup xs)
  | [.tup xs] => Φ (.tup xs)
  | _ => False
theorem cal_tuple : CalD K (fun xs H Q => ∃ p ys, xs = [.ref p] ∧ ((SqL K H p ys ∧ ∀ l, H l = none → Q (.ref l) (upd H l (.tup ys))) ∨ (SqT K H p ys ∧ Q (.ref p) H))) rdTuple := by
  intro g F H vs ds Φ Q b a h k
  unfold rdTuple at h
  split at h
  · rename_i xs
    obtain ⟨v, r, rfl, q, t⟩ := a.of_cons
    cases t
    unfold At at q
    obtain ⟨p, us, rfl, hs, as⟩ := q
    refine ⟨p, us, rfl, .inl ⟨SqL.of (b.sub _ _ hs), fun l hl => ?_⟩⟩
    obtain ⟨st, at_⟩ := b.allocT hl (b.ln.l (SqL.of (K := K) (b.sub _ _ hs))) as
    exact k _ _ _ _ h st at_
  · rename_i xs
    obtain ⟨v, r, rfl, q, t⟩ := a.of_cons
    cases t
    have q0 := q
    unfold At at q
    obtain ⟨p, us, rfl, hs, as⟩ := q
    exact ⟨p, us, rfl, .inr ⟨b.sub.sqt hs, k.now b h q0⟩⟩
  · exact h.elim
def rdList : RL := fun ds Φ => match ds with
  | [.lst xs] => Φ (.lst xs)
  | [.tup xs] => Φ (.lst xs)
  | _ => False
theorem cal_list : CalD K (fun xs H Q => ∃ p ys, xs = [.ref p] ∧ (SqL K H p ys ∨ SqT K H p ys) ∧ ∀ l, H l = none → Q (.ref l) (upd H l (.lst ys))) rdList := by
  intro g F H vs ds Φ Q b a h k
  unfold rdList at h
  split at h
  · rename_i xs
    obtain ⟨v, r, rfl, q, t⟩ := a.of_cons
    cases t
    unfold At at q
    obtain ⟨p, us, rfl, hs, as⟩ := q
    refine ⟨p, us, rfl, .inl (SqL.of (b.sub _ _ hs)), fun l hl => ?_⟩
    obtain ⟨st, at_⟩ := b.allocL hl (b.ln.l (SqL.of (K := K) (b.sub _ _ hs))) as
    exact k _ _ _ _ h st at_
  · rename_i xs
    obtain ⟨v, r, rfl, q, t⟩ := a.of_cons
    cases t
    unfold At at q
    obtain ⟨p, us, rfl, hs, as⟩ := q
    refine ⟨p, us, rfl, .inr (b.sub.sqt hs), fun l hl => ?_⟩
    obtain ⟨st, at_⟩ := b.allocL hl (b.ln.t (b.sub.sqt hs)) as
    exact k _ _ _ _ h st at_
  · exact h.elim
/-! isinstance(x, T) -/
def isTy (T : String) : D → Option Bool
  | .non => kitB "NoneType" T
  | .bl _ => kitB "bool" T
  | .int _ => kitB "int" T
  | .str _ => kitB "str" T
  | .tup _ => kitB "tuple" T
  | _ => none
def dIsi (T : String) (w : DE) : DE := fun env Φ => w env fun x => match isTy T x with
  | some b => Φ (.bl b)
  | none => False
theorem we_isi {e : Expr} {w : DE} {p2 : Pos} {y : Str} (hg : Gl X "isinstance") (hm : X.mg "isinstance" = none) (he : PE X e (lift X.K w)) (hg2 : Gl X y) (hm2 : X.mg y = none) (hv2 : bootBuiltins y = some (.type T) := by decide +kernel)
    (hn2 : y ≠ "__name__" := by decide) (hd2 : (y == ("__debug__" : Str)) = false := by decide) (hv : bootBuiltins "isinstance" = some (.builtin "isinstance") := by decide +kernel)
    (hs : starEach [e, .Name y p2] X.env = (false, eval e X.env) :: starEach [.Name y p2] X.env := by rfl) (hs2 : starEach [.Name y p2] X.env = (false, eval (.Name y p2) X.env) :: starEach [] X.env := by rfl) (hpl : (backTo pos (starEach [.Name y p2] X.env)).any (·.1) = false := by rfl) :
    PE X (.Call (.Name "isinstance" p) [e, .Name y p2] [] pos) (lift X.K (dIsi T w)) := by
  refine PEm (pe_callB call_isi hg hm hv (pa_cons he (pa_cons (pe_bltn (v := .ty T) hg2 hm2 hv2 rfl hn2 hd2) pa_nil hs2) hs) (by decide) (by decide) hs hpl) fun σ H Q ⟨g, F, env, Φ, hE, hw, k⟩ => ⟨g, F, env, _, hE, hw, fun d1 v1 F1 H1 φ1 s1 a1 => ?_⟩
  show rIsi X.K [v1, .ty T] H1 Q
  have b1 := hE.b.step s1
  have k1 := k.aft hE.b s1
  have fin : ∀ (t : String) (bb : Bool), TyX X.K H1 v1 (.type t) → kitB t T = some bb → Φ (.bl bb) → rIsi X.K [v1, .ty T] H1 Q := fun t bb ty e q =>
    ⟨v1, .ty T, .type t, .type T, bb, rfl, .ty T, ty, kit_ty e, k1.now b1 q rfl⟩
  cases d1 with
  | non =>
    have φ1 : (match kitB "NoneType" T with | some b => Φ (.bl b) | none => False) := φ1
    cases e : kitB "NoneType" T with
    | none => rw [e] at φ1; exact φ1.elim
    | some bb => rw [e] at φ1; cases a1; exact fin _ bb (.base .non) e φ1
  | bl c =>
    have φ1 : (match kitB "bool" T with | some b => Φ (.bl b) | none => False) := φ1
    cases e : kitB "bool" T with
    | none => rw [e] at φ1; exact φ1.elim
    | some bb => rw [e] at φ1; cases a1; exact fin _ bb (.base (.bl c)) e φ1
  | int c =>
    have φ1 : (match kitB "int" T with | some b => Φ (.bl b) | none => False) := φ1
    cases e : kitB "int" T with
    | none => rw [e] at φ1; exact φ1.elim
    | some bb => rw [e] at φ1; cases a1; exact fin _ bb (.base (.int c)) e φ1
  | str c =>
    have φ1 : (match kitB "str" T with | some b => Φ (.bl b) | none => False) := φ1
    cases e : kitB "str" T with
    | none => rw [e] at φ1; exact φ1.elim
    | some bb => rw [e] at φ1; cases a1; exact fin _ bb (.base (.str c)) e φ1
  | tup ds =>
    have φ1 : (match kitB "tuple" T with | some b => Φ (.bl b) | none => False) := φ1
    cases e : kitB "tuple" T with
    | none => rw [e] at φ1; exact φ1.elim
    | some bb =>
      rw [e] at φ1
      unfold At at a1
      obtain ⟨q, vs, rfl, hs, as⟩ := a1
      refine fin _ bb ?_ e φ1
      rcases b1.sub.sqt hs with (h | ⟨o, h⟩) | ⟨o, its, n, hk, hc, _⟩
      · exact .base (.tup h)
      · exact .fTuple h
      · exact .kTuple hk hc
  | lst ds => exact φ1.elim
  | deal => exact φ1.elim
/-! in -/
def strsOf : List D → Option (List Str)
  | [] => some []
  | .str i :: r => (strsOf r).map (i :: ·)
  | _ => none
theorem strsOf_map : ∀ ns : List Str, strsOf (ns.map D.str) = some ns
  | [] => rfl
  | n :: ns => by simp [strsOf, strsOf_map ns]
theorem strsOf_eq : ∀ {ds : List D} {ns : List Str}, strsOf ds = some ns → ds = ns.map D.str
  | [], ns, h => by cases h; rfl
  | .str i :: r, ns, h => by
    unfold strsOf at h
    cases e : strsOf r with
    | none => rw [e] at h; cases h
    | some m => rw [e] at h; cases h; rw [strsOf_eq e]; rfl
  | .non :: r, ns, h => by cases h
  | .int _ :: r, ns, h => by cases h
  | .bl _ :: r, ns, h => by cases h
  | .tup _ :: r, ns, h => by cases h
  | .lst _ :: r, ns, h => by cases h
  | .deal :: r, ns, h => by cases h
theorem Ats.strs : ∀ {ns : List Str} {vs : List V}, Ats K g F (ns.map D.str) vs → vs = ns.map V.str
  | [], _, h => h
  | n :: ns, vs, h => by
    obtain ⟨v, r, rfl, q, t⟩ := Ats.of_cons h
    rw [Ats.strs t]; cases q; rfl
theorem inV_strs (x : Str) : ∀ ns : List Str, inV (.str x) (ns.map V.str) = decide (x ∈ ns)
  | [] => by simp [inV]
  | n :: ns => by
    have ih := inV_strs x ns
    unfold inV at ih ⊢
    rw [List.map_cons, List.any_cons, ih]
    show (n == x || decide (x ∈ ns)) = decide (x ∈ n :: ns)
    by_cases e : x = n
    · subst e; simp
    · have e' : ¬ n = x := fun z => e z.symm
      simp [e, e']
theorem inV_ints (x : Int) : ∀ ns : List Int, inV (.int x) (ns.map V.int) = decide (x ∈ ns)
  | [] => by simp [inV]
  | n :: ns => by
    have ih := inV_ints x ns
    unfold inV at ih ⊢
    rw [List.map_cons, List.any_cons, ih]
    show (n == x || decide (x ∈ ns)) = decide (x ∈ n :: ns)
    by_cases e : x = n
    · subst e; simp
    · have e' : ¬ n = x := fun z => e z.symm
      simp [e, e']
theorem flat_strs : ∀ ns : List Str, (ns.map V.str).all flatV = true
  | [] => rfl
  | n :: ns => by rw [List.map_cons, List.all_cons, flat_strs ns]; rfl
theorem flat_ints : ∀ ns : List Int, (ns.map V.int).all flatV = true
  | [] => rfl
  | n :: ns => by rw [List.map_cons, List.all_cons, flat_ints ns]; rfl
def rdIn : RD := fun x y Φ => match x, y with
  | .str s, .tup ds => match strsOf ds with
    | some xs => Φ (.bl (decide (s ∈ xs)))
    | none => False
  | .str s, .lst ds => match strsOf ds with
    | some xs => Φ (.bl (decide (s ∈ xs)))
    | none => False
  | .int s, .tup ds => match intsOf ds with
    | some xs => Φ (.bl (decide (s ∈ xs)))
    | none => False
  | _, _ => False
theorem opd_in : OpD K (rIn K false) rdIn := by
  intro g F H x y dx dy Φ Q b ax ay h k
  unfold rdIn at h
  split at h
  · rename_i s ds
    cases ax
    unfold At at ay
    obtain ⟨p, us, rfl, hs, as⟩ := ay
    have hh : (match strsOf ds with
      | some xs => Φ (.bl (decide (s ∈ xs)))
      | none => False) := h
    cases e : strsOf ds with
    | none => rw [e] at hh; exact hh.elim
    | some xs =>
      rw [e] at hh
      have e2 := strsOf_eq e
      subst e2
      have e3 := Ats.strs as
      subst e3
      refine ⟨p, _, rfl, .inr (b.sub.sqt hs), rfl, flat_strs xs, ?_⟩
      show Q (.bl (inV (.str s) (xs.map V.str))) H
      rw [inV_strs]
      exact k.now b hh rfl
  · rename_i s ds
    cases ax
    unfold At at ay
    obtain ⟨p, us, rfl, hs, as⟩ := ay
    have hh : (match strsOf ds with
      | some xs => Φ (.bl (decide (s ∈ xs)))
      | none => False) := h
    cases e : strsOf ds with
    | none => rw [e] at hh; exact hh.elim
    | some xs =>
      rw [e] at hh
      have e2 := strsOf_eq e
      subst e2
      have e3 := Ats.strs as
      subst e3
      refine ⟨p, _, rfl, .inl (SqL.of (b.sub _ _ hs)), rfl, flat_strs xs, ?_⟩
      show Q (.bl (inV (.str s) (xs.map V.str))) H
      rw [inV_strs]
      exact k.now b hh rfl
  · rename_i s ds
    cases ax
    unfold At at ay
    obtain ⟨p, us, rfl, hs, as⟩ := ay
    have hh : (match intsOf ds with
      | some xs => Φ (.bl (decide (s ∈ xs)))
      | none => False) := h
    cases e : intsOf ds with
    | none => rw [e] at hh; exact hh.elim
    | some xs =>
      rw [e] at hh
      have e2 := intsOf_eq e
      subst e2
      have e3 := Ats.ints as
      subst e3
      refine ⟨p, _, rfl, .inr (b.sub.sqt hs), rfl, flat_ints xs, ?_⟩
      show Q (.bl (inV (.int s) (xs.map V.int))) H
      rw [inV_ints]
      exact k.now b hh rfl
  · exact h.elim
abbrev dIn := dOp rdIn
theorem we_in {a b : Expr} {wa wb : DE} (ha : PE X a (lift X.K wa)) (hb : PE X b (lift X.K wb)) (hm : behindInMarks .In b = false := by rfl) : PE X (.Compare a [.In] [b] pos) (lift X.K (dIn wa wb)) := we_cmp op_in_seq opd_in ha hb hm
theorem wt_in {a b : Expr} {wa wb : DE} (ha : PE X a (lift X.K wa)) (hb : PE X b (lift X.K wb)) (hm : behindInMarks .In b = false := by rfl) : PT X (.Compare a [.In] [b] pos) (liftT X.K (dTst (dIn wa wb))) := wt_cmp op_in_seq opd_in ha hb hm
end
end NB

/-! DL4 -/
set_option Elab.async false
set_option linter.all false
set_option maxRecDepth 100000
set_option maxHeartbeats 1000000
namespace NB
open PySem PySem.Spec PyProof.Rows L2

/-! == of nested data: ints in tuples and lists -/
mutual
def toPy : D → PyData
  | .int i => .int i
  | .tup ds => .tuple (toPys ds)
  | .lst ds => .list (toPys ds)
  | _ => .none
def toPys : List D → List PyData
  | [] => []
  | d :: ds => toPy d :: toPys ds
end
mutual
def okD : Nat → D → Bool
  | _, .int _ => true
  | n + 1, .tup ds => okDs n ds
  | n + 1, .lst ds => okDs n ds
  | _, _ => false
def okDs : Nat → List D → Bool
  | _, [] => true
  | n, d :: ds => okD n d && okDs n ds
end
mutual
theorem toPy_inj : ∀ (d e : D) (n m : Nat), okD n d = true → okD m e = true → (PyData.eqv (toPy d) (toPy e) = true ↔ d = e)
  | .int i, e, n, m, h1, h2 => by
    cases e with
    | int j => simp [toPy, PyData.eqv]
    | tup es => simp [toPy, PyData.eqv]
    | lst es => simp [toPy, PyData.eqv]
    | non => cases m <;> simp [okD] at h2
    | bl _ => cases m <;> simp [okD] at h2
    | str _ => cases m <;> simp [okD] at h2
    | deal => cases m <;> simp [okD] at h2
  | .tup ds, e, n, m, h1, h2 => by
    cases n with
    | zero => simp [okD] at h1
    | succ n =>
      cases e with
      | int j => simp [toPy, PyData.eqv]
      | lst es => simp [toPy, PyData.eqv]
      | non => cases m <;> simp [okD] at h2
      | bl _ => cases m <;> simp [okD] at h2
      | str _ => cases m <;> simp [okD] at h2
      | deal => cases m <;> simp [okD] at h2
      | tup es =>
        cases m with
        | zero => simp [okD] at h2
        | succ m =>
          have q := toPys_inj ds es n m (by simpa [okD] using h1) (by simpa [okD] using h2)
          simp only [toPy, PyData.eqv, D.tup.injEq]
          exact q
  | .lst ds, e, n, m, h1, h2 => by
    cases n with
    | zero => simp [okD] at h1
    | succ n =>
      cases e with
      | int j => simp [toPy, PyData.eqv]
      | tup es => simp [toPy, PyData.eqv]
      | non => cases m <;> simp [okD] at h2
      | bl _ => cases m <;> simp [okD] at h2
      | str _ => cases m <;> simp [okD] at h2
      | deal => cases m <;> simp [okD] at h2
      | lst es =>
        cases m with
        | zero => simp [okD] at h2
        | succ m =>
          have q := toPys_inj ds es n m (by simpa [okD] using h1) (by simpa [okD] using h2)
          simp only [toPy, PyData.eqv, D.lst.injEq]
          exact q
  | .non, e, n, m, h1, h2 => by cases n <;> simp [okD] at h1
  | .bl _, e, n, m, h1, h2 => by cases n <;> simp [okD] at h1
  | .str _, e, n, m, h1, h2 => by cases n <;> simp [okD] at h1
  | .deal, e, n, m, h1, h2 => by cases n <;> simp [okD] at h1
theorem toPys_inj : ∀ (ds es : List D) (n m : Nat), okDs n ds = true → okDs m es = true → (PyData.eqvAll (toPys ds) (toPys es) = true ↔ ds = es)
  | [], [], _, _, _, _ => by simp [toPys, PyData.eqvAll]
  | [], e :: es, _, _, _, _ => by simp [toPys, PyData.eqvAll]
  | d :: ds, [], _, _, _, _ => by simp [toPys, PyData.eqvAll]
  | d :: ds, e :: es, n, m, h1, h2 => by
    simp only [okDs, Bool.and_eq_true] at h1 h2
    have q1 := toPy_inj d e n m h1.1 h2.1
    have q2 := toPys_inj ds es n m h1.2 h2.2
    simp only [toPys, PyData.eqvAll, Bool.and_eq_true, q1, q2, List.cons.injEq]
end
mutual
theorem toPy_shape : ∀ (d : D) (n : Nat), okD n d = true → (toPy d).canLay0 = true ∧ (toPy d).depth ≤ n + 1
  | .int i, n, h => by simp [toPy, PyData.canLay0, PyData.depth]
  | .tup ds, n, h => by
    cases n with
    | zero => simp [okD] at h
    | succ n =>
      obtain ⟨q1, q2⟩ := toPys_shape ds n (by simpa [okD] using h)
      simp only [toPy, PyData.canLay0, PyData.depth, q1, true_and]
      omega
  | .lst ds, n, h => by
    cases n with
    | zero => simp [okD] at h
    | succ n =>
      obtain ⟨q1, q2⟩ := toPys_shape ds n (by simpa [okD] using h)
      simp only [toPy, PyData.canLay0, PyData.depth, q1, true_and]
      omega
  | .non, n, h => by cases n <;> simp [okD] at h
  | .bl _, n, h => by cases n <;> simp [okD] at h
  | .str _, n, h => by cases n <;> simp [okD] at h
  | .deal, n, h => by cases n <;> simp [okD] at h
theorem toPys_shape : ∀ (ds : List D) (n : Nat), okDs n ds = true → PyData.canLayAll0 (toPys ds) = true ∧ PyData.depthAll (toPys ds) ≤ n + 1
  | [], n, _ => by simp [toPys, PyData.canLayAll0, PyData.depthAll]
  | d :: ds, n, h => by
    simp only [okDs, Bool.and_eq_true] at h
    obtain ⟨q1, q2⟩ := toPy_shape d n h.1
    obtain ⟨q3, q4⟩ := toPys_shape ds n h.2
    simp only [toPys, PyData.canLayAll0, PyData.depthAll, q1, q3, Bool.and_self, true_and]
    omega
end
section
variable {X : Cx} {K : PySem.W.Frag} {g : Dl} {F H : Hp}
mutual
theorem at_dp (s : Sub F H) : ∀ (d : D) (v : V) (n : Nat), okD n d = true → At K g F d v → Dp K H v (toPy d)
  | .int i, v, n, _, h => by cases h; exact .int i
  | .tup ds, v, n, ok, h => by
    cases n with
    | zero => simp [okD] at ok
    | succ n =>
      unfold At at h
      obtain ⟨a, vs, rfl, hs, as⟩ := h
      unfold toPy
      exact .tup (s.sqt hs) (ats_dp s ds vs n (by simpa [okD] using ok) as)
  | .lst ds, v, n, ok, h => by
    cases n with
    | zero => simp [okD] at ok
    | succ n =>
      unfold At at h
      obtain ⟨a, vs, rfl, hs, as⟩ := h
      unfold toPy
      exact .lst (SqL.of (s _ _ hs)) (ats_dp s ds vs n (by simpa [okD] using ok) as)
  | .non, _, n, h, _ => by cases n <;> simp [okD] at h
  | .bl _, _, n, h, _ => by cases n <;> simp [okD] at h
  | .str _, _, n, h, _ => by cases n <;> simp [okD] at h
  | .deal, _, n, h, _ => by cases n <;> simp [okD] at h
theorem ats_dp (s : Sub F H) : ∀ (ds : List D) (vs : List V) (n : Nat), okDs n ds = true → Ats K g F ds vs → DpAll K H vs (toPys ds)
  | [], vs, n, _, h => by cases h; exact .nil
  | d :: ds, vs, n, ok, h => by
    obtain ⟨v, r, rfl, q, t⟩ := h.of_cons
    simp only [okDs, Bool.and_eq_true] at ok
    unfold toPys
    exact .cons (at_dp s d v n ok.1 q) (ats_dp s ds r n ok.2 t)
end
theorem shaped_of {d : D} (h : okD 60 d = true) : SeqAt.shaped (toPy d) = true := by
  obtain ⟨q1, q2⟩ := toPy_shape d 60 h
  unfold SeqAt.shaped
  rw [q1, decide_eq_true (by omega)]
  rfl
def rdEqD : RD := fun x y Φ => okD 60 x = true ∧ okD 60 y = true ∧ ∀ b, (b = true ↔ x = y) → Φ (.bl b)
def rdNeD : RD := fun x y Φ => okD 60 x = true ∧ okD 60 y = true ∧ ∀ b, (b = true ↔ ¬ x = y) → Φ (.bl b)
theorem opd_eqD : OpD K (rEqD K) rdEqD := by
  intro g F H x y dx dy Φ Q b ax ay h k
  obtain ⟨h1, h2, h3⟩ := h
  exact ⟨_, _, at_dp b.sub dx x 60 h1 ax, at_dp b.sub dy y 60 h2 ay, shaped_of h1, shaped_of h2, k.now b (h3 _ (toPy_inj dx dy 60 60 h1 h2)) rfl⟩
theorem opd_neD : OpD K (rNeD K) rdNeD := by
  intro g F H x y dx dy Φ Q b ax ay h k
  obtain ⟨h1, h2, h3⟩ := h
  have q := toPy_inj dx dy 60 60 h1 h2
  refine ⟨_, _, at_dp b.sub dx x 60 h1 ax, at_dp b.sub dy y 60 h2 ay, shaped_of h1, shaped_of h2, k.now b (h3 (!PyData.eqv (toPy dx) (toPy dy)) ?_) rfl⟩
  rw [← q]
  simp
abbrev dEqD := dOp rdEqD
abbrev dNeD := dOp rdNeD
theorem we_eqD {a b : Expr} {wa wb : DE} {pos : Pos} (hu : X.A.units + 64 < cLine) (ha : PE X a (lift X.K wa)) (hb : PE X b (lift X.K wb)) : PE X (.Compare a [.Eq] [b] pos) (lift X.K (dEqD wa wb)) := we_cmp (op_eqD hu) opd_eqD ha hb (nomark _)
theorem we_neD {a b : Expr} {wa wb : DE} {pos : Pos} (hu : X.A.units + 64 < cLine) (ha : PE X a (lift X.K wa)) (hb : PE X b (lift X.K wb)) : PE X (.Compare a [.NotEq] [b] pos) (lift X.K (dNeD wa wb)) := we_cmp (op_neD hu) opd_neD ha hb (nomark _)
theorem wt_eqD {a b : Expr} {wa wb : DE} {pos : Pos} (hu : X.A.units + 64 < cLine) (ha : PE X a (lift X.K wa)) (hb : PE X b (lift X.K wb)) : PT X (.Compare a [.Eq] [b] pos) (liftT X.K (dTst (dEqD wa wb))) := wt_cmp (op_eqD hu) opd_eqD ha hb (nomark _)
theorem wt_neD {a b : Expr} {wa wb : DE} {pos : Pos} (hu : X.A.units + 64 < cLine) (ha : PE X a (lift X.K wa)) (hb : PE X b (lift X.K wb)) : PT X (.Compare a [.NotEq] [b] pos) (liftT X.K (dTst (dNeD wa wb))) := wt_cmp (op_neD hu) opd_neD ha hb (nomark _)
theorem wt_eq {a b : Expr} {wa wb : DE} {pos : Pos} (ha : PE X a (lift X.K wa)) (hb : PE X b (lift X.K wb)) : PT X (.Compare a [.Eq] [b] pos) (liftT X.K (dTst (dEq wa wb))) := wt_cmp op_eq opd_eq ha hb (nomark _)
theorem wt_ne {a b : Expr} {wa wb : DE} {pos : Pos} (ha : PE X a (lift X.K wa)) (hb : PE X b (lift X.K wb)) : PT X (.Compare a [.NotEq] [b] pos) (liftT X.K (dTst (dNe wa wb))) := wt_cmp op_ne opd_ne ha hb (nomark _)
theorem wt_lt {a b : Expr} {wa wb : DE} {pos : Pos} (ha : PE X a (lift X.K wa)) (hb : PE X b (lift X.K wb)) : PT X (.Compare a [.Lt] [b] pos) (liftT X.K (dTst (dLt wa wb))) := wt_cmp op_lt opd_B0 ha hb (nomark _)
theorem wt_le {a b : Expr} {wa wb : DE} {pos : Pos} (ha : PE X a (lift X.K wa)) (hb : PE X b (lift X.K wb)) : PT X (.Compare a [.LtE] [b] pos) (liftT X.K (dTst (dLe wa wb))) := wt_cmp op_le opd_B0 ha hb (nomark _)
theorem wt_gt {a b : Expr} {wa wb : DE} {pos : Pos} (ha : PE X a (lift X.K wa)) (hb : PE X b (lift X.K wb)) : PT X (.Compare a [.Gt] [b] pos) (liftT X.K (dTst (dGt wa wb))) := wt_cmp op_gt opd_B0 ha hb (nomark _)
theorem wt_ge {a b : Expr} {wa wb : DE} {pos : Pos} (ha : PE X a (lift X.K wa)) (hb : PE X b (lift X.K wb)) : PT X (.Compare a [.GtE] [b] pos) (liftT X.K (dTst (dGe wa wb))) := wt_cmp op_ge opd_B0 ha hb (nomark _)
theorem wt_isN {a b : Expr} {wa wb : DE} {pos : Pos} (ha : PE X a (lift X.K wa)) (hb : PE X b (lift X.K wb)) : PT X (.Compare a [.Is] [b] pos) (liftT X.K (dTst (dIsN wa wb))) := wt_cmp op_isN opd_isN ha hb (nomark _)
theorem wt_notN {a b : Expr} {wa wb : DE} {pos : Pos} (ha : PE X a (lift X.K wa)) (hb : PE X b (lift X.K wb)) : PT X (.Compare a [.IsNot] [b] pos) (liftT X.K (dTst (dNotN wa wb))) := wt_cmp op_notN opd_notN ha hb (nomark _)
end

/-! ### defs -/
/-- a def's promise on data -/
def spOf (K : PySem.W.Frag) (rd : RL) : Sp := fun vs H Q _ => ∃ g F ds Φ, Bs g F H ∧ Ats K g F ds vs ∧ rd ds Φ ∧ Then K g F H Φ Q
def startE (n : Nat) (ds : List D) : List Slot := ds.map Slot.im ++ List.replicate (n - ds.length) Slot.no
section
variable {P : Program} {w : World} {K : PySem.W.Frag} {mg : Str → Option Value} {base : Heap}
theorem getS_start : ∀ (ds : List D) (n i : Nat), getS (ds.map Slot.im ++ List.replicate n Slot.no) i = match ds[i]? with | some d => .im d | none => .no
  | [], n, i => by
    induction n generalizing i with
    | zero => rfl
    | succ n ih =>
      cases i with
      | zero => rfl
      | succ i => exact ih i
  | d :: ds, n, 0 => rfl
  | d :: ds, n, i + 1 => by
    have := getS_start ds n i
    simpa [getS] using this
theorem env_start {g : Dl} {F H : Hp} {N : List Str} {ds : List D} {vs : List V} (b : Bs g F H) (a : Ats K g F ds vs) (hl : ds.length ≤ N.length) : EnvS K g F H (L2.start N vs) F H (startE N.length ds) := by
  have hv := a.length
  refine EnvS.of ⟨b, ?_, fun i => ?_, fun i j ds es p e1 => ?_⟩ fun i es e => ?_
  · unfold L2.start startE
    simp [hv]
  · unfold L2.start startE
    rw [getS_start]
    cases e : ds[i]? with
    | none => trivial
    | some d =>
      obtain ⟨v, e1, e2⟩ := a.get e
      refine ⟨v, ?_, e2⟩
      have hi : i < (vs.map some).length := by
        rw [List.length_map]
        exact (List.getElem?_eq_some_iff.mp e1).1
      rw [List.getElem?_append_left hi, List.getElem?_map, e1]
      rfl
  · unfold startE at e1
    rw [getS_start] at e1
    split at e1 <;> cases e1
  · unfold startE at e
    rw [getS_start] at e
    split at e <;> cases e
/-- THE RULE for a def -/
theorem fn_D {x qual : Str} {st : Stmt} {f : Addr} {fd : FuncData} {N ps : List Str} {k : Nat} {rd : RL} (F : L2.Fun K x qual st f fd) (S : FnScope N ps (defScope st)) (len : ∀ ds Φ, rd ds Φ → ds.length = ps.length) (hN : ps.length ≤ N.length)
    (hbody : ∀ (cdv : Value) (A : Around) (outer : List Env) (s : Shared) (H : Hp) (E : XK), Room k (A.deeper (envOfC qual (defScope st) s.heap.objs.size f cdv)) →
      ∃ w0 : DS, PSs (cxOf CX0 P w K mg base N qual (defScope st) f cdv A outer s H E).nox (defBody st) (liftS K w0) ∧ ∀ ds Φ, rd ds Φ → w0 (fun _ => Φ .non) Φ (startE N.length ds)) :
    FnOk P w K mg base CX0 (k + 1) f fd ps (spOf K rd) := by
  refine F.ok S (fun vs H Q E ⟨g, F0, ds, Φ, b, a, h, _⟩ => ?_) (fun cdv A outer s H vs Q E hr ⟨g, F0, ds, Φ, b, a, h, k⟩ => ?_)
  · rw [← a.length, len ds Φ h]
  · obtain ⟨w0, hw, hp⟩ := hbody cdv A outer s H E hr
    refine ⟨_, hw, ?_⟩
    have hl := len ds Φ h
    refine ⟨g, F0, H, F0, startE N.length ds, _, Φ, env_start b a (by rw [hl]; exact hN), hp ds Φ h, fun σ' F' H' env' n e _ => ?_, k⟩
    exact k .non .non F' H' n e.st rfl
variable {X : Cx}
/-- f(e, ..) -/
theorem we_call {x : Str} {f : Addr} {fd : FuncData} {ps : List Str} {k : Nat} {rd : RL} {e : Expr} {es : List Expr} {wa : DA} {p pos : Pos} (G : FnOk X.prog X.w X.K X.mg X.base CX0 k f fd ps (spOf X.K rd)) (hr : Room k X.A) (hg : Gl X x) (hm : X.mg x = some (.ref f)) (hk : PySem.W.keepIn X.K (.ref f) = true)
    (hb : Binds X.K fd ps []) (ha : PA X (e :: es) (liftA X.K wa)) (hs : starEach (e :: es) X.env = (false, eval e X.env) :: starEach es X.env := by rfl) (hpl : (backTo pos (starEach es X.env)).any (·.1) = false := by rfl) (hdb : (x == ("__debug__" : Str)) = false := by decide) :
    PE X (.Call (.Name x p) (e :: es) [] pos) (lift X.K (dCall rd wa)) := by
  refine PEm (pe_call G hr hg hm hk hb .nil pass0 ha (hdb := hdb) (he := hs) (hpl := hpl)) fun σ H Q ⟨g, F, env, Φ, hE, hw, k⟩ => ⟨g, F, env, _, hE, hw, fun ds vs F1 H1 φ1 s1 a1 => ?_⟩
  show spOf X.K rd (vs ++ []) H1 Q E0
  rw [List.append_nil]
  exact ⟨g, F1, ds, Φ, hE.b.step s1, a1, φ1, k.aft hE.b s1⟩
end

/-! ### targets -/
def bName (i : Nat) : DB := fun d env P => P (setS env i (.im d))
abbrev DBs := List D → List Slot → (List Slot → Prop) → Prop
def bNil : DBs := fun ds env P => match ds with
  | [] => P env
  | _ => False
def bCons (b : DB) (r : DBs) : DBs := fun ds env P => match ds with
  | d :: ds => b d env fun env' => r ds env' P
  | [] => False
def bTup (r : DBs) : DB := fun d env P => match d with
  | .tup ds => r ds env P
  | _ => False
def BindsOk (K : PySem.W.Frag) (p : Nat → Prop) (tg : TGs) (b : DBs) : Prop := ∀ g F H (I : L2.St → List Slot → Prop), Bs g F H → (∀ σ env i v d, p i → I σ env → At K g F d v → I (σ.set i (some v)) (setS env i (.im d))) →
  ∀ σ env ds vs P Q, I σ env → Ats K g F ds vs → b ds env P → (∀ σ' env', P env' → I σ' env' → Q σ' H) → tg vs σ H Q
section
variable {K : PySem.W.Frag} {p : Nat → Prop}
theorem bo_name {i : Nat} (hp : p i) : BindOk K p (gName i) (bName i) := fun g F H I b c σ env d v P Q hE a h k => k _ _ h (c _ _ _ _ _ hp hE a)
theorem bo_nil : BindsOk K p gNil bNil := fun g F H I b c σ env ds vs P Q hE a h k => by
  cases ds with
  | nil => cases a; exact ⟨rfl, k σ env h hE⟩
  | cons d ds => exact h.elim
theorem bo_cons {t : TG} {u : TGs} {b : DB} {r : DBs} (h1 : BindOk K p t b) (h2 : BindsOk K p u r) : BindsOk K p (gCons t u) (bCons b r) := fun g F H I bs c σ env ds vs P Q hE a h k => by
  cases ds with
  | nil => exact h.elim
  | cons d ds =>
    obtain ⟨v, vr, rfl, q, t⟩ := a.of_cons
    exact ⟨v, vr, rfl, h1 g F H I bs c σ env d v _ _ hE q h fun σ' env' p e => h2 g F H I bs c σ' env' ds vr P Q e t p k⟩
theorem bo_tup {n : Nat} {u : TGs} {r : DBs} (h : BindsOk K p u r) (hn : ∀ ds env P, r ds env P → ds.length = n) : BindOk K p (gTup K n u) (bTup r) := fun g F H I bs c σ env d v P Q hE a hb k => by
  cases d <;> try exact hb.elim
  rename_i ds
  unfold At at a
  obtain ⟨q, vs, rfl, hs, as⟩ := a
  exact ⟨q, vs, rfl, bs.sub.sqt hs, by rw [← as.length]; exact hn ds env P hb, h g F H I bs c σ env ds vs P Q hE as hb k⟩
theorem bl_nil : ∀ ds env P, bNil ds env P → ds.length = 0 := fun ds env P h => by cases ds with | nil => rfl | cons _ _ => exact h.elim
theorem bl_name {i n : Nat} {r : DBs} (h : ∀ ds env P, r ds env P → ds.length = n) : ∀ ds env P, bCons (bName i) r ds env P → ds.length = n + 1 := fun ds env P q => by
  cases ds with
  | nil => exact q.elim
  | cons d ds => exact congrArg (· + 1) (h ds _ P q)
theorem bl_two {i j n : Nat} {r : DBs} (h : ∀ ds env P, r ds env P → ds.length = n) : ∀ ds env P, bCons (bTup (bCons (bName i) (bCons (bName j) bNil))) r ds env P → ds.length = n + 1 := fun ds env P q => by
  cases ds with
  | nil => exact q.elim
  | cons d ds =>
    cases d <;> try exact q.elim
    rename_i es
    match es, q with
    | [a, b], q => exact congrArg (· + 1) (h ds _ P q)
end
end NB

/-! DL5 -/
set_option Elab.async false
set_option linter.all false
set_option maxRecDepth 100000
set_option maxHeartbeats 1000000
namespace NB
open PySem PySem.Spec PyProof.Rows L2

/-! ### what is walked -/
section
variable {X : Cx} {K : PySem.W.Frag} {g : Dl} {F H : Hp} {tg : Expr}
def iAny (K : PySem.W.Frag) (tl : TE) : TI := fun σ H R => tl σ H fun x H1 => ∃ a, x = .ref a ∧ (((∃ xs, SqL K H1 a xs) ∧ R (Itl K a) H1) ∨ ((∃ xs, SqT K H1 a xs) ∧ R (Itt K a) H1))
theorem pi_any {l : Expr} {tl : TE} (hl : PE X l tl) : PI X tg l (iAny X.K tl) := by
  refine ⟨fun pins s σ H R I h => ?_⟩
  refine thn (hl.run pins s σ H _ I h) fun v s1 ⟨x, H1, I1, r1, q1⟩ => ?_
  obtain ⟨a, e, q⟩ := q1
  subst e
  cases r1
  rcases q with ⟨⟨xs, hq⟩, q⟩ | ⟨⟨xs, hq⟩, q⟩
  · obtain ⟨its, rv, p, hz⟩ := I1.list hq
    refine wpAny_pyIter_list p.isList ?_
    refine ⟨s1.heap.objs.size, [s1.heap.objs.size], _, _, H1, rfl, I1.kept (t' := s1.toks) fun b o e => Heap.get?_push_of_some _ e, turn_list a _, ⟨_, Heap.get?_push_size _ rfl, rfl, rfl⟩, fun b hb => ?_, q⟩
    have e : b = s1.heap.objs.size := by simpa using hb
    subst e
    exact I1.fpOk (Nat.le_refl _) (I1.hok.fresh (Nat.le_refl _))
  · obtain ⟨its, rv, p, hz⟩ := I1.tuple hq
    refine wpAny_pyIter_tuple (show s1.heap.IsTuple a its.toArray from p) ?_
    refine ⟨s1.heap.objs.size, [s1.heap.objs.size], _, _, H1, rfl, I1.kept (t' := s1.toks) fun b o e => Heap.get?_push_of_some _ e, turn_tuple a _, ⟨_, Heap.get?_push_size _ rfl, rfl, rfl⟩, fun b hb => ?_, q⟩
    have e : b = s1.heap.objs.size := by simpa using hb
    subst e
    exact I1.fpOk (Nat.le_refl _) (I1.hok.fresh (Nat.le_refl _))
theorem walk_l {a : Addr} {vs : List V} {ds : List D} (h : F a = some (.lst vs)) (as : Ats K g F ds vs) : WalkOk K g F (Itl K a) ds := by
  have hl := as.length
  refine ⟨fun i H s hi => ⟨vs, vs[i]'(by omega), SqL.of (s _ _ h), by simp [hl ▸ hi]⟩, fun H s => ⟨vs, SqL.of (s _ _ h), by omega⟩, fun i H x H' d s hd y => .inl ?_⟩
  obtain ⟨e, hy⟩ := y
  obtain ⟨v, e1, a1⟩ := as.get hd
  have e2 := hy vs (SqL.of (s _ _ h))
  rw [e1] at e2; cases e2
  exact ⟨e, a1⟩
theorem walk_t {a : Addr} {vs : List V} {ds : List D} (h : SqT K F a vs) (as : Ats K g F ds vs) : WalkOk K g F (Itt K a) ds := by
  have hl := as.length
  refine ⟨fun i H s hi => ⟨vs, vs[i]'(by omega), s.sqt h, by simp [hl ▸ hi]⟩, fun H s => ⟨vs, s.sqt h, by omega⟩, fun i H x H' d s hd y => .inl ?_⟩
  obtain ⟨e, hy⟩ := y
  obtain ⟨v, e1, a1⟩ := as.get hd
  have e2 := hy vs (s.sqt h)
  rw [e1] at e2; cases e2
  exact ⟨e, a1⟩
def dItems (w : DE) : DA := fun env Φ => w env fun x => match x with
  | .lst ds => Φ ds
  | .tup ds => Φ ds
  | _ => False
theorem wi_any {l : Expr} {w : DE} (hl : PE X l (lift X.K w)) : PI X tg l (liftI X.K (dItems w)) := by
  refine PIm (pi_any hl) fun σ H R ⟨g, F, env, Φ, hE, hw, k⟩ => ⟨g, F, env, _, hE, hw, fun d1 v1 F1 H1 φ1 s1 a1 => ?_⟩
  have b1 := hE.b.step s1
  cases d1 <;> try exact φ1.elim
  · rename_i ds
    unfold At at a1
    obtain ⟨a, vs, rfl, hs, as⟩ := a1
    refine ⟨a, rfl, .inr ⟨⟨vs, b1.sub.sqt hs⟩, k ds _ F1 H1 φ1 s1 (walk_t hs as) (by rw [as.length]; exact b1.ln.t (b1.sub.sqt hs))⟩⟩
  · rename_i ds
    unfold At at a1
    obtain ⟨a, vs, rfl, hs, as⟩ := a1
    refine ⟨a, rfl, .inl ⟨⟨vs, SqL.of (b1.sub _ _ hs)⟩, k ds _ F1 H1 φ1 s1 (walk_l hs as) (by rw [as.length]; exact b1.ln.l (SqL.of (K := X.K) (b1.sub _ _ hs)))⟩⟩
def rangeD (lo : Int) (n : Nat) : List D := (List.range n).map fun (i : Nat) => D.int (lo + (i : Int))
theorem walk_r {lo : Int} {n : Nat} : WalkOk K g F (Itr lo n) (rangeD lo n) := by
  have hl : (rangeD lo n).length = n := by unfold rangeD; simp
  refine ⟨fun i H s hi => by rw [hl] at hi; exact hi, fun H s => by rw [hl]; exact Nat.le_refl _, fun i H x H' d s hd y => .inl ?_⟩
  obtain ⟨e1, e2⟩ := y
  refine ⟨e1, ?_⟩
  unfold rangeD at hd
  have hlt : i < n := by
    have := (List.getElem?_eq_some_iff.mp hd).1
    simpa using this
  rw [List.getElem?_map, List.getElem?_range hlt] at hd
  cases hd
  exact e2
def dRange1 (w : DE) : DA := fun env Φ => w env fun x => match x with
  | .int n => n ≤ 16777216 ∧ -1000 ≤ n ∧ Φ (rangeD 0 n.toNat)
  | _ => False
def dRange2 (wa wb : DE) : DA := fun env Φ => wa env fun x => wb env fun y => match x, y with
  | .int m, .int n => n ≤ 16777216 ∧ -1000 ≤ n ∧ 0 ≤ m ∧ m ≤ 1000 ∧ Φ (rangeD m (n - m).toNat)
  | _, _ => False
theorem line24 : (16777216 : Nat) ≤ sizeLine := by rw [sizeLine_eq]; decide
theorem rangeD_len (lo : Int) (n : Nat) : (rangeD lo n).length = n := by unfold rangeD; simp
theorem wi_range1 {a : Expr} {w : DE} {p pos : Pos} (hg : Gl X "range") (hm : X.mg "range" = none) (ha : PE X a (lift X.K w)) (hs : starEach [a] X.env = [(false, eval a X.env)] := by rfl) : PI X tg (.Call (.Name "range" p) [a] [] pos) (liftI X.K (dRange1 w)) := by
  refine PIm (pi_range1 hg hm (pa_cons ha pa_nil hs) hs) fun σ H R ⟨g, F, env, Φ, hE, hw, k⟩ => ⟨g, F, env, _, hE, hw, fun d1 v1 F1 H1 φ1 s1 a1 => ?_⟩
  cases d1 <;> try exact φ1.elim
  rename_i n
  cases a1
  obtain ⟨h1, h2, h3⟩ := φ1
  exact ⟨n, rfl, by omega, by omega, k _ _ F1 H1 h3 s1 walk_r (by rw [rangeD_len]; exact Nat.le_trans (by omega) line24)⟩
theorem wi_range2 {a b : Expr} {wa wb : DE} {p pos : Pos} (hg : Gl X "range") (hm : X.mg "range" = none) (ha : PE X a (lift X.K wa)) (hb : PE X b (lift X.K wb)) (hs : starEach [a, b] X.env = [(false, eval a X.env), (false, eval b X.env)] := by rfl)
    (hs1 : starEach [a, b] X.env = (false, eval a X.env) :: starEach [b] X.env := by rfl) (hs2 : starEach [b] X.env = [(false, eval b X.env)] := by rfl) : PI X tg (.Call (.Name "range" p) [a, b] [] pos) (liftI X.K (dRange2 wa wb)) := by
  refine PIm (pi_range2 hg hm (pa_cons ha (pa_cons hb pa_nil hs2) hs1) hs hs2) fun σ H R ⟨g, F, env, Φ, hE, hw, k⟩ => ⟨g, F, env, _, hE, hw, fun d1 v1 F1 H1 φ1 s1 a1 => ?_⟩
  refine ⟨g, F1, env, _, hE.step s1, φ1, fun d2 v2 F2 H2 φ2 s2 a2 => ?_⟩
  cases d1 <;> cases d2 <;> try exact False.elim φ2
  rename_i m n
  cases a1; cases a2
  obtain ⟨h1, h2, h3, h4, h5⟩ := φ2
  exact ⟨m, n, rfl, ⟨by omega, by omega, by omega, by omega⟩, k _ _ F2 H2 h5 (s1.trans hE.b s2) walk_r (by rw [rangeD_len]; exact Nat.le_trans (by omega) line24)⟩
/-! zip of two tuples, of two lists; enumerate of a list -/
def zipD : List D → List D → List D
  | x :: xs, y :: ys => .tup [x, y] :: zipD xs ys
  | _, _ => []
theorem zipD_get : ∀ {xs ys : List D} {i : Nat} {d : D}, (zipD xs ys)[i]? = some d → ∃ x y, xs[i]? = some x ∧ ys[i]? = some y ∧ d = .tup [x, y]
  | [], ys, i, d, h => by simp [zipD] at h
  | x :: xs, [], i, d, h => by simp [zipD] at h
  | x :: xs, y :: ys, 0, d, h => by simp [zipD] at h; exact ⟨x, y, rfl, rfl, h.symm⟩
  | x :: xs, y :: ys, i + 1, d, h => by
    obtain ⟨a, b, e1, e2, e3⟩ := zipD_get (xs := xs) (ys := ys) (i := i) (by simpa [zipD] using h)
    exact ⟨a, b, by simpa using e1, by simpa using e2, e3⟩
theorem zipD_len : ∀ (xs ys : List D), (zipD xs ys).length = min xs.length ys.length
  | [], ys => by simp [zipD]
  | x :: xs, [] => by simp [zipD]
  | x :: xs, y :: ys => by simp [zipD, zipD_len xs ys]
theorem line2 : 2 ≤ sizeLine := by rw [sizeLine_eq]; decide
theorem walk_zt {a b : Addr} {vs us : List V} {ds es : List D} (h : SqT K F a vs) (as : Ats K g F ds vs) (h2 : SqT K F b us) (bs : Ats K g F es us) : WalkOk K g F (RZ.ItzT K a b) (zipD ds es) := by
  have hl := as.length
  have hl2 := bs.length
  have hz := zipD_len ds es
  refine ⟨fun i H s hi => ⟨vs, us, vs[i]'(by omega), us[i]'(by omega), s.sqt h, s.sqt h2, by simp, by simp⟩, fun H s => ⟨vs, us, s.sqt h, s.sqt h2, by omega⟩, fun i H x H' d s hd y => .inr ?_⟩
  obtain ⟨T, x1, y1, rfl, hT, e, hx, hy⟩ := y
  obtain ⟨d1, d2, e1, e2, e3⟩ := zipD_get hd
  obtain ⟨v, q1, a1⟩ := as.get e1
  obtain ⟨u, q2, a2⟩ := bs.get e2
  have z1 := hx vs (s.sqt h)
  have z2 := hy us (s.sqt h2)
  rw [q1] at z1; cases z1
  rw [q2] at z2; cases z2
  exact ⟨T, _, _, e3, rfl, hT, e, Ats.cons a1 (Ats.cons a2 Ats.nil), line2⟩
theorem walk_zl {a b : Addr} {vs us : List V} {ds es : List D} (h : F a = some (.lst vs)) (as : Ats K g F ds vs) (h2 : F b = some (.lst us)) (bs : Ats K g F es us) : WalkOk K g F (Itz K a b) (zipD ds es) := by
  have hl := as.length
  have hl2 := bs.length
  have hz := zipD_len ds es
  refine ⟨fun i H s hi => ⟨vs, us, vs[i]'(by omega), us[i]'(by omega), SqL.of (s _ _ h), SqL.of (s _ _ h2), by simp, by simp⟩, fun H s => ⟨vs, us, SqL.of (s _ _ h), SqL.of (s _ _ h2), by omega⟩, fun i H x H' d s hd y => .inr ?_⟩
  obtain ⟨T, x1, y1, rfl, hT, e, hx, hy⟩ := y
  obtain ⟨d1, d2, e1, e2, e3⟩ := zipD_get hd
  obtain ⟨v, q1, a1⟩ := as.get e1
  obtain ⟨u, q2, a2⟩ := bs.get e2
  have z1 := hx vs (SqL.of (s _ _ h))
  have z2 := hy us (SqL.of (s _ _ h2))
  rw [q1] at z1; cases z1
  rw [q2] at z2; cases z2
  exact ⟨T, _, _, e3, rfl, hT, e, Ats.cons a1 (Ats.cons a2 Ats.nil), line2⟩
def dZip (wa wb : DE) : DA := fun env Φ => wa env fun x => wb env fun y => match x, y with
  | .tup ds, .tup es => Φ (zipD ds es)
  | .lst ds, .lst es => Φ (zipD ds es)
  | _, _ => False
theorem wi_zip {e e2 : Expr} {wa wb : DE} {p pos tpos : Pos} {elts : List Expr} {kk : Nat} (hg : Gl X "zip") (hm : X.mg "zip" = none) (ha : PE X e (lift X.K wa)) (hb : PE X e2 (lift X.K wb))
    (hs : starEach [e, e2] X.env = (false, eval e X.env) :: starEach [e2] X.env := by rfl) (hs2 : starEach [e2] X.env = (false, eval e2 X.env) :: starEach [] X.env := by rfl) (hpl : (backTo pos (starEach [e2] X.env)).any (·.1) = false := by rfl) :
    PI X (.Tuple elts kk tpos) (.Call (.Name "zip" p) [e, e2] [] pos) (liftI X.K (dZip wa wb)) := by
  refine PIm (RZ.pi_zipA hg hm (pa_cons ha (pa_cons hb pa_nil hs2) hs) hs hpl) fun σ H R ⟨g, F, env, Φ, hE, hw, k⟩ => ⟨g, F, env, _, hE, hw, fun d1 v1 F1 H1 φ1 s1 a1 => ?_⟩
  refine ⟨g, F1, env, _, hE.step s1, φ1, fun d2 v2 F2 H2 φ2 s2 a2 => ?_⟩
  have a1 := At.mono s2.up _ _ a1
  have b2 := (hE.b.step s1).step s2
  cases d1 <;> cases d2 <;> try exact False.elim φ2
  · rename_i ds es
    unfold At at a1 a2
    obtain ⟨a, vs, rfl, hs, as⟩ := a1
    obtain ⟨b, us, rfl, ht, bs⟩ := a2
    refine ⟨a, b, vs, us, rfl, .inr ⟨b2.sub.sqt hs, b2.sub.sqt ht, k _ _ F2 H2 φ2 (s1.trans hE.b s2) (walk_zt hs as ht bs) ?_⟩⟩
    have := b2.ln.t (b2.sub.sqt hs)
    rw [zipD_len, as.length]
    omega
  · rename_i ds es
    unfold At at a1 a2
    obtain ⟨a, vs, rfl, hs, as⟩ := a1
    obtain ⟨b, us, rfl, ht, bs⟩ := a2
    refine ⟨a, b, vs, us, rfl, .inl ⟨SqL.of (b2.sub _ _ hs), SqL.of (b2.sub _ _ ht), k _ _ F2 H2 φ2 (s1.trans hE.b s2) (walk_zl hs as ht bs) ?_⟩⟩
    have := b2.ln.l (SqL.of (K := X.K) (b2.sub _ _ hs))
    rw [zipD_len, as.length]
    omega
def enumD (n : Nat) : List D → List D
  | [] => []
  | x :: xs => .tup [.int (n : Int), x] :: enumD (n + 1) xs
theorem enumD_get : ∀ {xs : List D} {n i : Nat} {d : D}, (enumD n xs)[i]? = some d → ∃ x, xs[i]? = some x ∧ d = .tup [.int ((n + i : Nat) : Int), x]
  | [], n, i, d, h => by simp [enumD] at h
  | x :: xs, n, 0, d, h => by simp [enumD] at h; exact ⟨x, rfl, h.symm⟩
  | x :: xs, n, i + 1, d, h => by
    obtain ⟨a, e1, e2⟩ := enumD_get (xs := xs) (n := n + 1) (i := i) (by simpa [enumD] using h)
    refine ⟨a, by simpa using e1, ?_⟩
    rw [e2, show n + 1 + i = n + (i + 1) by omega]
theorem enumD_len : ∀ (xs : List D) (n : Nat), (enumD n xs).length = xs.length
  | [], n => rfl
  | x :: xs, n => by simp [enumD, enumD_len xs (n + 1)]
theorem walk_e {a : Addr} {vs : List V} {ds : List D} (h : F a = some (.lst vs)) (as : Ats K g F ds vs) : WalkOk K g F (Ite K a) (enumD 0 ds) := by
  have hl := as.length
  have hz := enumD_len ds 0
  refine ⟨fun i H s hi => ⟨vs, vs[i]'(by omega), SqL.of (s _ _ h), by simp⟩, fun H s => ⟨vs, SqL.of (s _ _ h), by omega⟩, fun i H x H' d s hd y => .inr ?_⟩
  obtain ⟨T, x1, rfl, hT, e, hx⟩ := y
  obtain ⟨d1, e1, e2⟩ := enumD_get hd
  obtain ⟨v, q1, a1⟩ := as.get e1
  have z1 := hx vs (SqL.of (s _ _ h))
  rw [q1] at z1; cases z1
  rw [Nat.zero_add] at e2
  exact ⟨T, _, _, e2, rfl, hT, e, Ats.cons (show At K g F (.int ((i : Nat) : Int)) (.int ((i : Nat) : Int)) from rfl) (Ats.cons a1 Ats.nil), line2⟩
def dEnum (w : DE) : DA := fun env Φ => w env fun x => match x with
  | .lst ds => Φ (enumD 0 ds)
  | _ => False
theorem wi_enum {e : Expr} {w : DE} {p pos tpos : Pos} {elts : List Expr} {kk : Nat} (hg : Gl X "enumerate") (hm : X.mg "enumerate" = none) (ha : PE X e (lift X.K w)) (hs : starEach [e] X.env = [(false, eval e X.env)] := by rfl) :
    PI X (.Tuple elts kk tpos) (.Call (.Name "enumerate" p) [e] [] pos) (liftI X.K (dEnum w)) := by
  refine PIm (pi_enum hg hm (pa_cons ha pa_nil hs) hs) fun σ H R ⟨g, F, env, Φ, hE, hw, k⟩ => ⟨g, F, env, _, hE, hw, fun d1 v1 F1 H1 φ1 s1 a1 => ?_⟩
  cases d1 <;> try exact False.elim φ1
  rename_i ds
  unfold At at a1
  obtain ⟨a, vs, rfl, hs, as⟩ := a1
  have b1 := hE.b.step s1
  refine ⟨a, vs, rfl, SqL.of (b1.sub _ _ hs), k _ _ F1 H1 φ1 s1 (walk_e hs as) ?_⟩
  rw [enumD_len, as.length]
  exact b1.ln.l (SqL.of (K := X.K) (b1.sub _ _ hs))
end

/-! ### comprehensions -/
theorem Step.stay {g : Dl} {F H F' H' : Hp} (s : Step g F H F' H') {p : Addr} {o : HO} (h1 : H p = some o) (h2 : F p = none) : F' p = none := by
  cases q : F' p with
  | none => rfl
  | some u => rcases s.new p u q with z | z
              · rw [h2] at z; cases z
              · rw [h1] at z; cases z
theorem Step.updNew {g : Dl} {F H F' H' : Hp} (s : Step g F H F' H') {p : Addr} {ys : List V} (h1 : H p = none) (h2 : F' p = none) (n : notDl g p) (hz : ys.length ≤ sizeLine) : Step g F H F' (upd H' p (.lst ys)) :=
  ⟨s.up, fun q o e => by rw [upd_ne (ne_of_none e h2)]; exact s.sub q o e, fun q o e nq => by rw [upd_ne (ne_of_none e h1)]; exact s.keep q o e nq, s.new, s.dl.upd n, s.ln.updL hz⟩
theorem Step.freeze {g : Dl} {F H F' H' : Hp} (s : Step g F H F' H') {p : Addr} {o : HO} (h1 : H p = none) (h2 : F' p = none) (h3 : H' p = some o) : Step g F H (upd F' p o) H' :=
  ⟨s.up.trans (sub_upd h2), fun q u e => by
    by_cases z : q = p
    · subst z; rw [upd_same] at e; cases e; exact h3
    · rw [upd_ne z] at e; exact s.sub q u e, s.keep, fun q u e => by
    by_cases z : q = p
    · subst z; exact .inr h1
    · rw [upd_ne z] at e; exact s.new q u e, s.dl, s.ln⟩
theorem EnvOk.updL {K : PySem.W.Frag} {g : Dl} {σ : L2.St} {F H : Hp} {env : List Slot} (h : EnvOk K g σ F H env) {p : Addr} {ys : List V} (h2 : F p = none) (n : notDl g p) (no : ∀ i ds, getS env i = .ow ds → σ[i]? ≠ some (some (.ref p))) (hz : ys.length ≤ sizeLine) : EnvOk K g σ F (upd H p (.lst ys)) env := by
  refine ⟨⟨fun q o e => by rw [upd_ne (ne_of_none e h2)]; exact h.b.sub q o e, h.b.dl.upd n, h.b.dn, h.b.ln.updL hz⟩, h.len, fun i => ?_, h.apart⟩
  have hs := h.sl i
  cases e : getS env i with
  | no => trivial
  | im d => rw [e] at hs; exact hs
  | ow ds =>
    rw [e] at hs
    obtain ⟨q, vs, e1, e2, e3, e4, e5⟩ := hs
    refine ⟨q, vs, e1, ?_, e3, e4, e5⟩
    rw [upd_ne ?_]
    · exact e2
    · rintro rfl
      exact no i ds e e1
theorem wipe_get {σ : L2.St} {j : Nat} : ∀ {vs : List Nat}, (wipe σ vs)[j]? = if j ∈ vs then (σ[j]?).map (fun _ => none) else σ[j]?
  | [] => by simp [wipe]
  | v :: vs => by
    unfold wipe
    have ih := wipe_get (σ := σ) (j := j) (vs := vs)
    by_cases e : v = j
    · subst e
      rw [List.getElem?_set]
      simp only [List.mem_cons, true_or, if_true, wipe_length]
      by_cases hl : v < σ.length
      · rw [if_pos hl, List.getElem?_eq_getElem hl]; rfl
      · rw [if_neg hl, List.getElem?_eq_none (Nat.le_of_not_lt hl)]; rfl
    · rw [List.getElem?_set_ne e, ih]
      have : (j ∈ v :: vs) ↔ j ∈ vs := by simp [Ne.symm e]
      simp [Ne.symm e]
theorem wipe_set {σ : L2.St} {i : Nat} {x : Option V} {vs : List Nat} (h : i ∈ vs) : wipe (σ.set i x) vs = wipe σ vs := by
  apply List.ext_getElem?
  intro j
  rw [wipe_get, wipe_get]
  by_cases hj : j ∈ vs
  · rw [if_pos hj, if_pos hj, List.getElem?_set]
    split
    · rename_i e
      subst e
      split
      · rename_i hl; rw [List.getElem?_eq_getElem hl]; rfl
      · rename_i hl; rw [List.getElem?_eq_none (Nat.le_of_not_lt hl)]
    · rfl
  · rw [if_neg hj, if_neg hj]
    rw [List.getElem?_set_ne]
    rintro rfl
    exact hj h
theorem wipe_wipe {σ : L2.St} {vs : List Nat} : wipe (wipe σ vs) vs = wipe σ vs := by
  apply List.ext_getElem?
  intro j
  rw [wipe_get, wipe_get]
  by_cases hj : j ∈ vs
  · rw [if_pos hj, if_pos hj]; cases σ[j]? <;> rfl
  · rw [if_neg hj, if_neg hj]
def lcGo (b : DB) (tt : DT) (te : DE) (env : List Slot) (Φ : D → Prop) : List D → List D → Prop
  | [], acc => Φ (.lst acc)
  | d :: ds, acc => b d env fun env' => tt env' fun c => match c with
    | true => te env' fun y => lcGo b tt te env Φ ds (acc ++ [y])
    | false => lcGo b tt te env Φ ds acc
def dYes : DT := fun _ Φ => Φ true
def dLc (wi : DA) (vs : List Nat) (b : DB) (tt : DT) (te : DE) : DE := fun env Φ => wi env fun ds => lcGo b tt te (wipeS env vs) Φ ds []
section
variable {X : Cx} {K : PySem.W.Frag}
theorem upd_at_same {H : Hp} {a : Addr} {o u : HO} : upd (upd H a o) a u = upd H a u := upd_upd
theorem lift_lc {wi : DA} {g : TG} {b : DB} {tt : DT} {te : DE} {vs : List Nat} (bo : BindOk K (· ∈ vs) g b) (σ : L2.St) (H : Hp) (Q : VK) (h : lift K (dLc wi vs b tt te) σ H Q) : tLc (liftI K wi) g (liftT K tt) (lift K te) vs σ H Q := by
  obtain ⟨gd, F, env, Φ, hE, hw, k⟩ := h
  refine ⟨gd, F, env, _, hE, hw, fun ds J F1 H1 φ1 s1 wk hz => ?_⟩
  intro L hL
  have hE1 := hE.step s1
  have b1 := hE1.b
  have k1 := k.aft hE.b s1
  have nl : ∀ i ds, getS env i = .ow ds → σ[i]? ≠ some (some (.ref L)) := fun i ds e z => by
    have hs := hE1.sl i
    rw [e] at hs
    obtain ⟨q, us, e1, e2, _⟩ := hs
    rw [z] at e1
    cases e1
    rw [hL] at e2; cases e2
  refine ⟨fun i m H' => m = ds.length - i ∧ i ≤ ds.length ∧ ∃ F' accD acc, EnvOk K gd σ F' H' env ∧ Step gd F1 H1 F' H' ∧ H' L = some (.lst acc) ∧ F' L = none ∧ Ats K gd F' accD acc ∧ acc.length ≤ i ∧ lcGo b tt te (wipeS env vs) Φ (ds.drop i) accD, ⟨ds.length, ?_⟩, ?_⟩
  · have hn : notDl gd L := b1.notDl hL
    have st : Step gd F1 H1 F1 (upd H1 L (.lst [])) := ⟨Sub.refl _, fun p o e => by rw [upd_ne (ne_of_none (b1.sub _ _ e) hL)]; exact b1.sub _ _ e, fun p o e _ => by rw [upd_ne (ne_of_none e hL)]; exact e, fun p o e => .inl e, b1.dl.upd hn, b1.ln.updL (Nat.zero_le _)⟩
    exact ⟨by omega, Nat.zero_le _, F1, [], [], hE1.step st, st, upd_same, b1.free hL, rfl, Nat.le_refl _, φ1⟩
  · rintro i m H' ⟨rfl, hi, F', accD, acc, hE', st, hLs, hFL, ha, hal, hgo⟩
    have hn : notDl gd L := b1.notDl hL
    have b' := hE'.b
    have sF : Sub F1 F' := st.up
    by_cases hlt : i < ds.length
    · right
      have hd : ds[i]? = some ds[i] := List.getElem?_eq_getElem hlt
      rw [List.drop_eq_getElem_cons hlt] at hgo
      refine ⟨wk.go i H' (sF.trans b'.sub) hlt, fun H' => i + 1 ≤ ds.length ∧ ∃ F' accD acc, EnvOk K gd σ F' H' env ∧ Step gd F1 H1 F' H' ∧ H' L = some (.lst acc) ∧ F' L = none ∧ Ats K gd F' accD acc ∧ acc.length ≤ i + 1 ∧ lcGo b tt te (wipeS env vs) Φ (ds.drop (i + 1)) accD,
        fun H'' q => ⟨ds.length - (i + 1), by omega, rfl, q⟩, fun x H'' y => ?_⟩
      -- the item stands
      have item : ∃ F2, Step gd F' H' F2 H'' ∧ At K gd F2 ds[i] x ∧ F2 L = none := by
        rcases wk.yld i H' x H'' ds[i] (sF.trans b'.sub) hd y with ⟨rfl, a⟩ | ⟨T, us, es, e1, rfl, hT, rfl, a, hu⟩
        · exact ⟨F', b'.refl, At.mono sF _ _ a, hFL⟩
        · obtain ⟨s2, a2⟩ := b'.allocT hT hu (Ats.mono sF _ _ a)
          rw [e1]
          exact ⟨_, s2, a2, by rw [upd_ne (ne_of_none hLs hT)]; exact hFL⟩
      obtain ⟨F2, s2, a2, hF2⟩ := item
      have hE2 := hE'.step s2
      refine bo gd F2 H'' (fun σ2 env2 => EnvOk K gd σ2 F2 H'' env2 ∧ wipe σ2 vs = wipe σ vs) hE2.b (fun σ2 env2 j v d hj e a => ⟨e.1.set a, by rw [wipe_set hj]; exact e.2⟩) (wipe σ vs) (wipeS env vs) ds[i] x _ _ ⟨hE2.wipe vs, wipe_wipe⟩ a2 hgo fun σ2 env2 htt e2 => ⟨e2.2, ?_⟩
      refine ⟨gd, F2, env2, _, e2.1, htt, fun c F3 H3 φ3 s3 => ?_⟩
      have b3 := hE2.b.step s3
      have s13 := s2.trans b' s3
      cases c with
      | true =>
        refine iteT ⟨gd, F3, env2, _, e2.1.step s3, φ3, fun d4 v4 F4 H4 φ4 s4 a4 => ?_⟩
        have s14 := s13.trans b' s4
        have hL4 : H4 L = some (.lst acc) := s14.keep L _ hLs hn
        have hF4 : F4 L = none := s14.stay hLs hFL
        have hz2 : acc.length + 1 ≤ sizeLine := by omega
        refine ⟨acc, hL4, by omega, hlt, F4, accD ++ [d4], acc ++ [v4], ?_, ?_, upd_same, hF4, (Ats.mono s14.up _ _ ha).app (Ats.cons a4 Ats.nil), by simp; omega, φ4⟩
        · exact (hE'.step s14).updL hF4 hn nl (by simp; exact hz2)
        · exact (st.trans b1 s14).updNew hL hF4 hn (by simp; exact hz2)
      | false =>
        exact iteF ⟨hlt, F3, accD, acc, hE'.step s13, st.trans b1 s13, s13.keep L _ hLs hn, s13.stay hLs hFL, Ats.mono s13.up _ _ ha, by omega, φ3⟩
    · left
      have e : i = ds.length := by omega
      subst e
      rw [List.drop_length] at hgo
      refine ⟨wk.stop H' (sF.trans b'.sub), k1 (.lst accD) (.ref L) (upd F' L (.lst acc)) H' hgo (st.freeze hL hFL hLs) ?_⟩
      unfold At
      exact ⟨L, acc, rfl, upd_same, Ats.mono (sub_upd hFL) _ _ ha⟩
theorem we_lc {elt tg iter : Expr} {ifs : List Expr} {scope : Scope} {own : List (Str × Nat)} {pos : Pos} {wi : DA} {g : TG} {b : DB} {tt : DT} {te : DE} (hi : PI X tg iter (liftI X.K wi)) (ok : BlkOk X.N X.env.scope scope own) (bo : BindOk X.K (· ∈ own.map (·.2)) g b)
    (hg : ∀ (s : Shared) (H : Hp) (C : Addr) (cl : List (Str × Addr)) (fp : List Addr), PG (X.blk s H scope (compEnvC scope cl C X.env) fp) tg g) (ht : ∀ (s : Shared) (H : Hp) (C : Addr) (cl : List (Str × Addr)) (fp : List Addr), PTs (X.blk s H scope (compEnvC scope cl C X.env) fp) ifs (liftT X.K tt))
    (he : ∀ (s : Shared) (H : Hp) (C : Addr) (cl : List (Str × Addr)) (fp : List Addr), PE (X.blk s H scope (compEnvC scope cl C X.env) fp) elt (lift X.K te)) (hN : X.N.Nodup) (hc : X.calm = true := by rfl) (hs : ∀ x, foldedSetIterable iter X.env x = pure x := by intro _; rfl) :
    PE X (.ListComp elt [⟨tg, iter, ifs, 0⟩] scope pos) (lift X.K (dLc wi (own.map (·.2)) b tt te)) := PEm (pe_lc hc hN hi ok hg ht he hs) (lift_lc bo)
theorem wts_nil : PTs X [] (liftT X.K dYes) := ⟨fun pins s σ H Q I h => pts_nil.run pins s σ H Q I (by
  obtain ⟨g, F, env, Φ, hE, hw, k⟩ := h
  exact k true F H hw hE.b.refl)⟩
theorem wts_one {c : Expr} {t : DT} (h : PT X c (liftT X.K t)) : PTs X [c] (liftT X.K t) := pts_one h
end
end NB

/-! DL6 -/
set_option Elab.async false
set_option linter.all false
set_option maxRecDepth 100000
set_option maxHeartbeats 1000000
namespace NB
open PySem PySem.Spec PyProof.Rows L2

section
variable {K : PySem.W.Frag} {g : Dl} {F0 H0 F H F' H' : Hp} {σ : L2.St} {env : List Slot}
theorem EnvS.p_none (h : EnvS K g F0 H0 σ F H env) {p : Addr} (e : H p = none) : H0 p = none := by
  cases q : H0 p with
  | none => rfl
  | some o =>
    by_cases n : notDl g p
    · rw [h.st.keep p o q n] at e; cases e
    · exfalso
      apply n
      intro x y z
      obtain ⟨h1, h2⟩ := h.e.b.dl.some_a z
      exact ⟨by rintro rfl; exact h1 e, by rintro rfl; exact h2 e⟩
theorem set_no {i j : Nat} {s : Slot} {ds : List D} (hs : ∀ ds, s ≠ .ow ds) (e : getS (setS env i s) j = .ow ds) : j ≠ i := by
  rintro rfl
  by_cases hl : j < env.length
  · rw [getS_eq _ _ _ hl] at e; exact hs _ e
  · rw [getS_out _ _ (by rw [setS_length]; exact Nat.le_of_not_lt hl)] at e; cases e
/-- a list that stands in no slot becomes one's own -/
theorem EnvS.setOw (h : EnvS K g F0 H0 σ F H env) {p : Addr} {vs : List V} {es : List D} (hp : H p = some (.lst vs)) (hF : F p = none) (hn : notDl g p) (hH0 : H0 p = none) (no : ∀ j ds, getS env j = .ow ds → σ[j]? ≠ some (some (.ref p))) (ha : Ats K g F es vs) (i : Nat) :
    EnvS K g F0 H0 (σ.set i (some (.ref p))) F H (setS env i (.ow es)) := by
  have np : ∀ j ds q, getS env j = .ow ds → σ[j]? = some (some (.ref q)) → q ≠ p := fun j ds q e1 e2 z => by
    subst z; exact no j ds e1 e2
  have key : ∀ j ds, getS (setS env i (.ow es)) j = .ow ds → ∀ q, (σ.set i (some (.ref p)))[j]? = some (some (.ref q)) → (j = i ∧ q = p) ∨ (j ≠ i ∧ getS env j = .ow ds ∧ σ[j]? = some (some (.ref q))) := fun j ds e1 q e2 => by
    by_cases z : j = i
    · subst z
      by_cases hl : j < env.length
      · rw [List.getElem?_set_self (by rw [h.e.len]; exact hl)] at e2
        cases e2
        exact .inl ⟨rfl, rfl⟩
      · rw [getS_out _ _ (by rw [setS_length]; exact Nat.le_of_not_lt hl)] at e1; cases e1
    · rw [getS_ne _ _ _ _ z] at e1
      rw [List.getElem?_set_ne (Ne.symm z)] at e2
      exact .inr ⟨z, e1, e2⟩
  refine ⟨⟨h.e.b, by rw [List.length_set, setS_length]; exact h.e.len, fun j => ?_, fun j k ds es q e1 e2 e3 e4 => ?_⟩, h.b0, h.st, fun j ds q e1 e2 => ?_⟩
  · by_cases z : j = i
    · subst z
      by_cases hl : j < env.length
      · rw [getS_eq _ _ _ hl, List.getElem?_set_self (by rw [h.e.len]; exact hl)]
        exact ⟨p, vs, rfl, hp, hF, hn, ha⟩
      · rw [getS_out _ _ (by rw [setS_length]; exact Nat.le_of_not_lt hl)]; trivial
    · rw [getS_ne _ _ _ _ z, List.getElem?_set_ne (Ne.symm z)]
      exact h.e.sl j
  · rcases key j ds e1 q e3 with ⟨z1, z2⟩ | ⟨z1, z2, z3⟩ <;> rcases key k es e2 q e4 with ⟨y1, y2⟩ | ⟨y1, y2, y3⟩
    · rw [z1, y1]
    · exact absurd z2 (np k es q y2 y3)
    · exact absurd y2 (np j ds q z2 z3)
    · exact h.e.apart j k ds es q z2 y2 z3 y3
  · rcases key j ds e1 q e2 with ⟨z1, z2⟩ | ⟨z1, z2, z3⟩
    · rw [z2]; exact hH0
    · exact h.fr j ds q z2 z3
theorem EnvS.noAt (h : EnvS K g F0 H0 σ F H env) {p : Addr} (hp : H p = none) : ∀ j ds, getS env j = .ow ds → σ[j]? ≠ some (some (.ref p)) := fun j ds e1 e2 => by
  have hs := h.e.sl j
  rw [e1] at hs
  obtain ⟨q', us, z1, z2, _⟩ := hs
  rw [e2] at z1; cases z1
  rw [hp] at z2; cases z2
/-- a new list, in no slot yet -/
theorem EnvS.addL (h : EnvS K g F0 H0 σ F H env) {p : Addr} (hp : H p = none) : EnvS K g F0 H0 σ F (upd H p (.lst [])) env :=
  ⟨h.e.updL (h.e.b.free hp) (h.e.b.notDl hp) (h.noAt hp) (Nat.zero_le _), h.b0, h.st.updNew (h.p_none hp) (h.e.b.free hp) (h.e.b.notDl hp) (Nat.zero_le _), h.fr⟩
/-- a new list of one's own -/
theorem EnvS.newOw (h : EnvS K g F0 H0 σ F H env) {p : Addr} (hp : H p = none) (i : Nat) : EnvS K g F0 H0 (σ.set i (some (.ref p))) F (upd H p (.lst [])) (setS env i (.ow [])) :=
  (h.addL hp).setOw upd_same (h.e.b.free hp) (h.e.b.notDl hp) (h.p_none hp) (h.noAt hp) Ats.nil i
/-- one's own list is changed -/
theorem EnvS.updOw (h : EnvS K g F0 H0 σ F H env) {i : Nat} {ds : List D} (e : getS env i = .ow ds) : ∃ p vs, σ[i]? = some (some (.ref p)) ∧ H p = some (.lst vs) ∧ Ats K g F ds vs ∧
    ∀ es us, Ats K g F es us → us.length ≤ sizeLine → EnvS K g F0 H0 σ F (upd H p (.lst us)) (setS env i (.ow es)) := by
  have hs := h.e.sl i
  rw [e] at hs
  obtain ⟨p, vs, e1, hp, hF, hn, ha⟩ := hs
  refine ⟨p, vs, e1, hp, ha, fun es us hu hz => ?_⟩
  have hi : i < env.length := by
    by_cases hl : i < env.length
    · exact hl
    · rw [getS_out _ _ (Nat.le_of_not_lt hl)] at e; cases e
  have hH0 := h.fr i ds p e e1
  have np : ∀ j fs q, j ≠ i → getS env j = .ow fs → σ[j]? = some (some (.ref q)) → q ≠ p := fun j fs q nj e2 e3 z => by
    subst z
    exact nj (h.e.apart j i fs ds q e2 e e3 e1)
  have key : ∀ j fs, getS (setS env i (.ow es)) j = .ow fs → ∃ gs, getS env j = .ow gs := fun j fs e2 => by
    by_cases z : j = i
    · rw [z]; exact ⟨ds, e⟩
    · rw [getS_ne _ _ _ _ z] at e2; exact ⟨fs, e2⟩
  refine ⟨⟨⟨fun q o e => by rw [upd_ne (ne_of_none e hF)]; exact h.e.b.sub q o e, h.e.b.dl.upd hn, h.e.b.dn, h.e.b.ln.updL hz⟩, by rw [setS_length]; exact h.e.len, fun j => ?_, fun j k fs gs q e2 e3 e4 e5 => ?_⟩, h.b0, h.st.updNew hH0 hF hn hz, fun j fs q e2 e3 => ?_⟩
  · by_cases z : j = i
    · subst z
      rw [getS_eq _ _ _ hi]
      exact ⟨p, us, e1, upd_same, hF, hn, hu⟩
    · rw [getS_ne _ _ _ _ z]
      have hs := h.e.sl j
      cases e2 : getS env j with
      | no => trivial
      | im d => rw [e2] at hs; exact hs
      | ow fs =>
        rw [e2] at hs
        obtain ⟨q, ws, q1, q2, q3, q4, q5⟩ := hs
        exact ⟨q, ws, q1, by rw [upd_ne (np j fs q z e2 q1)]; exact q2, q3, q4, q5⟩
  · obtain ⟨f1, z1⟩ := key j fs e2
    obtain ⟨f2, z2⟩ := key k gs e3
    exact h.e.apart j k f1 f2 q z1 z2 e4 e5
  · obtain ⟨f1, z1⟩ := key j fs e2
    exact h.fr j f1 q z1 e3
/-- one's own list stands for good -/
theorem EnvS.frOw (h : EnvS K g F0 H0 σ F H env) {i : Nat} {ds : List D} (e : getS env i = .ow ds) : ∃ F', Sub F F' ∧ EnvS K g F0 H0 σ F' H (setS env i (.im (.lst ds))) := by
  have hs := h.e.sl i
  rw [e] at hs
  obtain ⟨p, vs, e1, hp, hF, hn, ha⟩ := hs
  have hi : i < env.length := by
    by_cases hl : i < env.length
    · exact hl
    · rw [getS_out _ _ (Nat.le_of_not_lt hl)] at e; cases e
  have hH0 := h.fr i ds p e e1
  have sF : Sub F (upd F p (.lst vs)) := sub_upd hF
  refine ⟨upd F p (.lst vs), sF, ⟨⟨⟨fun q o z => ?_, h.e.b.dl, fun a b z => ?_, h.e.b.ln⟩, by rw [setS_length]; exact h.e.len, fun j => ?_, fun j k fs gs q e2 e3 e4 e5 => ?_⟩, h.b0, h.st.freeze hH0 hF hp, fun j fs q e2 e3 => ?_⟩⟩
  · by_cases zz : q = p
    · subst zz; rw [upd_same] at z; cases z; exact hp
    · rw [upd_ne zz] at z; exact h.e.b.sub q o z
  · obtain ⟨n1, n2⟩ := hn a b z
    obtain ⟨m1, m2⟩ := h.e.b.dn a b z
    exact ⟨by rw [upd_ne (Ne.symm n1)]; exact m1, by rw [upd_ne (Ne.symm n2)]; exact m2⟩
  · by_cases z : j = i
    · subst z
      rw [getS_eq _ _ _ hi]
      refine ⟨.ref p, e1, ?_⟩
      unfold At
      exact ⟨p, vs, rfl, upd_same, Ats.mono sF _ _ ha⟩
    · rw [getS_ne _ _ _ _ z]
      have hs := h.e.sl j
      cases e2 : getS env j with
      | no => trivial
      | im d =>
        rw [e2] at hs
        obtain ⟨v, q1, q2⟩ := hs
        exact ⟨v, q1, At.mono sF _ _ q2⟩
      | ow fs =>
        rw [e2] at hs
        obtain ⟨q, ws, q1, q2, q3, q4, q5⟩ := hs
        refine ⟨q, ws, q1, q2, ?_, q4, Ats.mono sF _ _ q5⟩
        rw [upd_ne]
        · exact q3
        · rintro rfl
          exact z (h.e.apart j i fs ds q e2 e q1 e1)
  · have n1 := set_no (fun _ z => by cases z) e2
    have n2 := set_no (fun _ z => by cases z) e3
    rw [getS_ne _ _ _ _ n1] at e2
    rw [getS_ne _ _ _ _ n2] at e3
    exact h.e.apart j k fs gs q e2 e3 e4 e5
  · have n1 := set_no (fun _ z => by cases z) e2
    rw [getS_ne _ _ _ _ n1] at e2
    exact h.fr j fs q e2 e3
end

/-! ### statements -/
def dNext : DS := fun N _ env => N env
def dSeq (t u : DS) : DS := fun N R env => t (u N R) R env
def dRet (w : DE) : DS := fun _ R env => w env R
def dAsg (w : DE) (b : DB) : DS := fun N _ env => w env fun d => b d env N
def dSet (i : Nat) (w : DE) : DS := fun N _ env => w env fun d => N (setS env i (.im d))
def dPar (i j : Nat) (wa wb : DE) : DS := fun N _ env => wa env fun x => wb env fun y => N (setS (setS env i (.im x)) j (.im y))
def dParO2 (i j : Nat) (wa : DE) : DS := fun N _ env => wa env fun x => N (setS (setS env i (.im x)) j (.ow []))
def dParO1 (i j : Nat) (wb : DE) : DS := fun N _ env => wb env fun y => N (setS (setS env i (.ow [])) j (.im y))
def dNew (i : Nat) : DS := fun N _ env => N (setS env i (.ow []))
def dIfS (t : DT) (a b : DS) : DS := fun N R env => t env fun c => match c with
  | true => a N R env
  | false => b N R env
def dNever : DS := fun _ _ _ => False
def dFreeze (i : Nat) (w : DS) : DS := fun N R env => match getS env i with
  | .ow ds => w N R (setS env i (.im (.lst ds)))
  | .im _ => False
  | .no => False
def dApp (i : Nat) (w : DE) : DS := fun N _ env => match getS env i with
  | .ow ds => w env fun y => ds.length < 100000 ∧ N (setS env i (.ow (ds ++ [y])))
  | .im _ => False
  | .no => False
def dExt (i : Nat) (w : DE) : DS := fun N _ env => match getS env i with
  | .ow ds => w env fun y => match y with
    | .tup es => ds.length + es.length < 100000 ∧ N (setS env i (.ow (ds ++ es)))
    | .lst es => ds.length + es.length < 100000 ∧ N (setS env i (.ow (ds ++ es)))
    | _ => False
  | .im _ => False
  | .no => False
def forGo (b : DB) (wb : DS) (N : List Slot → Prop) (R : D → Prop) : List D → List Slot → Prop
  | [], env => N env
  | d :: ds, env => b d env fun env' => wb (forGo b wb N R ds) R env'
def dFor (wi : DA) (b : DB) (wb : DS) : DS := fun N R env => wi env fun ds => forGo b wb N R ds env
def dWhile (t : DT) (wb : DS) : DS := fun N R env => ∃ (I : List Slot → Prop) (m : List Slot → Nat), I env ∧ ∀ env, I env → t env fun c => match c with
  | true => wb (fun env' => I env' ∧ m env' < m env) R env
  | false => N env
theorem line100 {n : Nat} (h : n < 100000) : n < sizeLine := by rw [sizeLine_eq]; omega
section
variable {X : Cx} {st : Stmt} {rest : List Stmt} {t u : DS} {e a b : Expr} {w wa wb : DE} {pos : Pos}
theorem ws_nil : PSs X [] (liftS X.K dNext) := PSsm pss_nil fun D σ H ⟨g, F0, H0, F, env, N, R, hE, hw, n, k⟩ => n σ F H env hw hE (Sub.refl _)
theorem ws_cons (h1 : PS X st (liftS X.K t)) (h2 : PSs X rest (liftS X.K u)) : PSs X (st :: rest) (liftS X.K (dSeq t u)) := by
  refine PSsm (pss_cons h1 h2) fun D σ H ⟨g, F0, H0, F, env, N, R, hE, hw, n, k⟩ => ⟨g, F0, H0, F, env, _, R, hE, hw, fun σ' F' H' env' q e s => ?_, k⟩
  exact ⟨g, F0, H0, F', env', N, R, e, q, fun σ'' F'' H'' env'' q' e' s' => n σ'' F'' H'' env'' q' e' (s.trans s'), k⟩
theorem ws_one (h : PS X st (liftS X.K t)) : PSs X [st] (liftS X.K (dSeq t dNext)) := ws_cons h ws_nil
theorem ws_ret (he : PE X e (lift X.K w)) : PS X (.Return (some e) pos) (liftS X.K (dRet w)) :=
  PSm (ps_ret he) fun D σ H ⟨g, F0, H0, F, env, N, R, hE, hw, n, k⟩ => ⟨g, F, env, R, hE.e, hw, fun d v F' H' φ s a => k d v F' H' φ (hE.st.trans hE.b0 s) a⟩
theorem ws_asg {tg : Expr} {tG : TG} {bd : DB} (he : PE X e (lift X.K w)) (hg : PG X tg tG) (bo : BindOk X.K (fun _ => True) tG bd) (hs : swapsWithSole [tg] e pos.line X.env = pure false := by rfl) (hw : swappedStores [tg] e X.env = pure none := by rfl)
    (h1 : (assignEach [tg] X.env).map (·.2) = [assign tg X.env] := by rfl) : PS X (.Assign [tg] e pos) (liftS X.K (dAsg w bd)) := by
  refine PSm (ps_asg he hg hs hw h1) fun D σ H ⟨g, F0, H0, F, env, N, R, hE, hw, n, k⟩ => ⟨g, F, env, _, hE.e, hw, fun d v F' H' φ s a => ?_⟩
  have hE' := hE.step s
  exact bo g F' H' (fun σ env => EnvS X.K g F0 H0 σ F' H' env) hE'.e.b (fun σ env i v d _ h a => h.set a) σ env d v _ _ hE' a φ fun σ' env' p q => n σ' F' H' env' p q s.up
theorem ws_set {i : Nat} {x : Str} {pos' : Pos} (hN : X.N.Nodup) (hi : X.N[i]? = some x) (hx : Loc X.env.scope x) (he : PE X e (lift X.K w)) (hs : swapsWith e (some (.Name x pos')) pos.line X.env = pure false := by rfl) (hf : X.fn x = true ∨ X.env.scope.names.lookup x = some .local := by first | exact .inl rfl | exact .inr rfl | assumption) :
    PS X (.Assign [.Name x pos'] e pos) (liftS X.K (dSet i w)) := by
  refine PSm (ps_set (i := i) hN hi hx he hs hf) fun D σ H ⟨g, F0, H0, F, env, N, R, hE, hw, n, k⟩ => ⟨g, F, env, _, hE.e, hw, fun d v F' H' φ s a => ?_⟩
  exact n _ F' H' _ φ ((hE.step s).set a) s.up
theorem ws_new {i : Nat} {x : Str} {pos' : Pos} {p2} (hN : X.N.Nodup) (hi : X.N[i]? = some x) (hx : Loc X.env.scope x) (hs : swapsWith (.List [] p2) (some (.Name x pos')) pos.line X.env = pure false := by rfl) (hf : X.fn x = true ∨ X.env.scope.names.lookup x = some .local := by first | exact .inl rfl | exact .inr rfl | assumption) :
    PS X (.Assign [.Name x pos'] (.List [] p2) pos) (liftS X.K (dNew i)) := by
  refine PSm (ps_set (i := i) hN hi hx (pe_lst pa_nil) hs hf) fun D σ H ⟨g, F0, H0, F, env, N, R, hE, hw, n, k⟩ => ?_
  exact ⟨Nat.zero_le _, fun p hp => n _ F _ _ hw (hE.newOw hp i) (Sub.refl _)⟩
theorem ws_par {i j : Nat} {x y : Str} {px py pt : Pos} {kt k2 : Nat} {pt2 : Pos} (hN : X.N.Nodup) (hi : X.N[i]? = some x) (hj : X.N[j]? = some y) (hij : i ≠ j)
    (hx : X.env.scope.names.lookup x = some .local) (hy : X.env.scope.names.lookup y = some .local) (ha : PE X a (lift X.K wa)) (hb : PE X b (lift X.K wb)) (hc : X.calm = true := by rfl) (hs1 : starEach [a, b] X.env = (false, eval a X.env) :: starEach [b] X.env := by rfl) (hs2 : starEach [b] X.env = (false, eval b X.env) :: starEach [] X.env := by rfl)
    (hw : swappedStores [.Tuple [.Name x px, .Name y py] kt pt] (.Tuple [a, b] k2 pt2) X.env = pure (some [x, y]) := by with_unfolding_all rfl) (hs : swapsWithSole [.Tuple [.Name x px, .Name y py] kt pt] (.Tuple [a, b] k2 pt2) pos.line X.env = pure false := by rfl) : PS X (.Assign [.Tuple [.Name x px, .Name y py] kt pt] (.Tuple [a, b] k2 pt2) pos) (liftS X.K (dPar i j wa wb)) := by
  refine PSm (ps_par (i := i) (j := j) hc hN hi hj hij hx hy (pa_cons ha (pa_cons hb pa_nil hs2) hs1) hw hs) fun D σ H ⟨g, F0, H0, F, env, N, R, hE, hw, n, k⟩ => ⟨g, F, env, _, hE.e, hw, fun d v F1 H1 φ s1 a1 => ?_⟩
  refine ⟨g, F1, env, _, (hE.step s1).e, φ, fun d2 v2 F2 H2 φ2 s2 a2 => ⟨_, _, rfl, ?_⟩⟩
  exact n _ F2 H2 _ φ2 ((((hE.step s1).step s2).set (At.mono s2.up _ _ a1)).set a2) (s1.up.trans s2.up)
theorem ws_parO2 {i j : Nat} {x y : Str} {px py pt : Pos} {kt k2 : Nat} {pt2 pb : Pos} (hN : X.N.Nodup) (hi : X.N[i]? = some x) (hj : X.N[j]? = some y) (hij : i ≠ j)
    (hx : X.env.scope.names.lookup x = some .local) (hy : X.env.scope.names.lookup y = some .local) (ha : PE X a (lift X.K wa)) (hc : X.calm = true := by rfl) (hs1 : starEach [a, .List [] pb] X.env = (false, eval a X.env) :: starEach [.List [] pb] X.env := by rfl) (hs2 : starEach [.List [] pb] X.env = (false, eval (.List [] pb) X.env) :: starEach [] X.env := by rfl)
    (hw : swappedStores [.Tuple [.Name x px, .Name y py] kt pt] (.Tuple [a, .List [] pb] k2 pt2) X.env = pure (some [x, y]) := by with_unfolding_all rfl) (hs : swapsWithSole [.Tuple [.Name x px, .Name y py] kt pt] (.Tuple [a, .List [] pb] k2 pt2) pos.line X.env = pure false := by rfl) : PS X (.Assign [.Tuple [.Name x px, .Name y py] kt pt] (.Tuple [a, .List [] pb] k2 pt2) pos) (liftS X.K (dParO2 i j wa)) := by
  refine PSm (ps_par (i := i) (j := j) hc hN hi hj hij hx hy (pa_cons ha (pa_cons (pe_lst pa_nil) pa_nil hs2) hs1) hw hs) fun D σ H ⟨g, F0, H0, F, env, N, R, hE, hw, n, k⟩ => ⟨g, F, env, _, hE.e, hw, fun d v F1 H1 φ s1 a1 => ?_⟩
  refine ⟨Nat.zero_le _, fun p hp => ⟨_, _, rfl, ?_⟩⟩
  have h1 := (hE.step s1).set (i := i) a1
  exact n _ F1 _ _ φ (h1.newOw hp j) s1.up
theorem ws_parO1 {i j : Nat} {x y : Str} {px py pt : Pos} {kt k2 : Nat} {pt2 pb : Pos} (hN : X.N.Nodup) (hi : X.N[i]? = some x) (hj : X.N[j]? = some y) (hij : i ≠ j)
    (hx : X.env.scope.names.lookup x = some .local) (hy : X.env.scope.names.lookup y = some .local) (hb : PE X b (lift X.K wb)) (hc : X.calm = true := by rfl) (hs1 : starEach [.List [] pb, b] X.env = (false, eval (.List [] pb) X.env) :: starEach [b] X.env := by rfl) (hs2 : starEach [b] X.env = (false, eval b X.env) :: starEach [] X.env := by rfl)
    (hw : swappedStores [.Tuple [.Name x px, .Name y py] kt pt] (.Tuple [.List [] pb, b] k2 pt2) X.env = pure (some [x, y]) := by with_unfolding_all rfl) (hs : swapsWithSole [.Tuple [.Name x px, .Name y py] kt pt] (.Tuple [.List [] pb, b] k2 pt2) pos.line X.env = pure false := by rfl) : PS X (.Assign [.Tuple [.Name x px, .Name y py] kt pt] (.Tuple [.List [] pb, b] k2 pt2) pos) (liftS X.K (dParO1 i j wb)) := by
  refine PSm (ps_par (i := i) (j := j) hc hN hi hj hij hx hy (pa_cons (pe_lst pa_nil) (pa_cons hb pa_nil hs2) hs1) hw hs) fun D σ H ⟨g, F0, H0, F, env, N, R, hE, hw, n, k⟩ => ?_
  refine ⟨Nat.zero_le _, fun p hp => ?_⟩
  have h1 := hE.addL hp
  have hF := hE.e.b.free hp
  have hn := hE.e.b.notDl hp
  refine ⟨g, F, env, _, h1.e, hw, fun d2 v2 F2 H2 φ2 s2 a2 => ⟨_, _, rfl, ?_⟩⟩
  have h2 := h1.step s2
  exact n _ F2 H2 _ φ2 ((h2.setOw (s2.keep p _ upd_same hn) (s2.stay upd_same hF) hn (hE.p_none hp) (hE.noAt hp) Ats.nil i).set a2) s2.up
theorem ws_if {c : Expr} {as bs : List Stmt} {tc : DT} (hc : PT X c (liftT X.K tc)) (ha : PSs X as (liftS X.K t)) (hb : PSs X bs (liftS X.K u)) : PS X (.If c as bs pos) (liftS X.K (dIfS tc t u)) := by
  refine PSm (ps_if hc ha hb) fun D σ H ⟨g, F0, H0, F, env, N, R, hE, hw, n, k⟩ => ⟨g, F, env, _, hE.e, hw, fun c F1 H1 φ s1 => ?_⟩
  cases c with
  | true => exact iteT ⟨g, F0, H0, F1, env, N, R, hE.step s1, φ, fun σ' F' H' env' q e' s => n σ' F' H' env' q e' (s1.up.trans s), k⟩
  | false => exact iteF ⟨g, F0, H0, F1, env, N, R, hE.step s1, φ, fun σ' F' H' env' q e' s => n σ' F' H' env' q e' (s1.up.trans s), k⟩
theorem ws_never : PS X st (liftS X.K dNever) := PSm ps_never fun D σ H ⟨g, F0, H0, F, env, N, R, hE, hw, n, k⟩ => hw
theorem ws_freeze (i : Nat) {sts : List Stmt} (h : PSs X sts (liftS X.K t)) : PSs X sts (liftS X.K (dFreeze i t)) := by
  refine PSsm h fun D σ H ⟨g, F0, H0, F, env, N, R, hE, hw, n, k⟩ => ?_
  unfold dFreeze at hw
  cases e : getS env i with
  | no => rw [e] at hw; exact hw.elim
  | im d => rw [e] at hw; exact hw.elim
  | ow ds =>
    rw [e] at hw
    obtain ⟨F', s, hE'⟩ := hE.frOw e
    exact ⟨g, F0, H0, F', _, N, R, hE', hw, fun σ'' F'' H'' env'' q e' s' => n σ'' F'' H'' env'' q e' (s.trans s'), k⟩
theorem ws_app {i : Nat} {x : Str} {p1 p2 p3 : Pos} (hN : X.N[i]? = some x) (hv : Vis X.env.scope x) (he : PE X e (lift X.K w)) (hd : (x == ("__debug__" : Str)) = false := by decide) (hcd : (x == ("__classdict__" : Str)) = false := by decide)
    (hbase : attributeBase (.Name x p1) "append" X.env (eval (.Name x p1) X.env) = eval (.Name x p1) X.env := by rfl)
    (hfew : ((backTo p3 (starEach [e] X.env)).all (fun x => !x.1) && (backToKw p3 (keywordEach [] X.env)).all (fun x => x.1.isSome)
      && decide ([e].length + ([] : List Keyword).length + (if ([] : List Keyword).isEmpty then 0 else 1) < 30)) = true := by rfl)
    (hline : (p2.endLine == p3.line) = true := by rfl) (hs : starEach [e] X.env = (false, eval e X.env) :: starEach [] X.env := by rfl) (hplain : (backTo p3 (starEach [] X.env)).any (·.1) = false := by rfl) :
    PS X (.Expr (.Call (.Attribute (.Name x p1) "append" p2) [e] [] p3) pos) (liftS X.K (dApp i w)) := by
  refine PSm (ps_expr (pe_bm PySem.F.plainAttrs_list PySem.F.slot_list_append PySem.F.type_list_append mt_append (pe_var (i := i) hN hv hd hcd) (pa_cons he pa_nil hs) hbase hfew hline hs hplain)) fun D σ H ⟨g, F0, H0, F, env, N, R, hE, hw, n, k⟩ => ?_
  unfold dApp at hw
  cases e1 : getS env i with
  | no => rw [e1] at hw; exact hw.elim
  | im d => rw [e1] at hw; exact hw.elim
  | ow ds =>
    rw [e1] at hw
    obtain ⟨p, vs, q1, q2, q3, q4⟩ := hE.updOw e1
    refine ⟨_, q1, .inl ⟨rfl, _, SqL.of q2⟩, ?_⟩
    refine ⟨g, F, env, _, hE.e, hw, fun d1 v1 F1 H1 φ1 s1 a1 => ?_⟩
    have hE1 := hE.step s1
    obtain ⟨p', vs', r1, r2, r3, r4⟩ := hE1.updOw e1
    rw [q1] at r1; cases r1
    have hz := r3.length
    have hz2 : vs'.length < sizeLine := by rw [← hz]; exact line100 φ1.1
    refine ⟨p, vs', v1, rfl, rfl, r2, hz2, ?_⟩
    exact n _ F1 _ _ φ1.2 (r4 _ _ (r3.app (Ats.cons a1 Ats.nil)) (by simp; omega)) s1.up
theorem ws_ext {i : Nat} {x : Str} {p1 p2 p3 : Pos} (hN : X.N[i]? = some x) (hv : Vis X.env.scope x) (he : PE X e (lift X.K w)) (hd : (x == ("__debug__" : Str)) = false := by decide) (hcd : (x == ("__classdict__" : Str)) = false := by decide)
    (hbase : attributeBase (.Name x p1) "extend" X.env (eval (.Name x p1) X.env) = eval (.Name x p1) X.env := by rfl)
    (hfew : ((backTo p3 (starEach [e] X.env)).all (fun x => !x.1) && (backToKw p3 (keywordEach [] X.env)).all (fun x => x.1.isSome)
      && decide ([e].length + ([] : List Keyword).length + (if ([] : List Keyword).isEmpty then 0 else 1) < 30)) = true := by rfl)
    (hline : (p2.endLine == p3.line) = true := by rfl) (hs : starEach [e] X.env = (false, eval e X.env) :: starEach [] X.env := by rfl) (hplain : (backTo p3 (starEach [] X.env)).any (·.1) = false := by rfl) :
    PS X (.Expr (.Call (.Attribute (.Name x p1) "extend" p2) [e] [] p3) pos) (liftS X.K (dExt i w)) := by
  refine PSm (ps_expr (pe_bm PySem.F.plainAttrs_list PySem.F.slot_list_extend PySem.F.type_list_extend (MtR.or mt_extend mt_extendT) (pe_var (i := i) hN hv hd hcd) (pa_cons he pa_nil hs) hbase hfew hline hs hplain)) fun D σ H ⟨g, F0, H0, F, env, N, R, hE, hw, n, k⟩ => ?_
  unfold dExt at hw
  cases e1 : getS env i with
  | no => rw [e1] at hw; exact hw.elim
  | im d => rw [e1] at hw; exact hw.elim
  | ow ds =>
    rw [e1] at hw
    obtain ⟨p, vs, q1, q2, q3, q4⟩ := hE.updOw e1
    refine ⟨_, q1, .inl ⟨rfl, _, SqL.of q2⟩, ?_⟩
    refine ⟨g, F, env, _, hE.e, hw, fun d1 v1 F1 H1 φ1 s1 a1 => ?_⟩
    have hE1 := hE.step s1
    obtain ⟨p', vs', r1, r2, r3, r4⟩ := hE1.updOw e1
    rw [q1] at r1; cases r1
    have hz := r3.length
    cases d1 <;> try exact φ1.elim
    · rename_i es
      unfold At at a1
      obtain ⟨q, us, rfl, hs, as⟩ := a1
      have hz1 := as.length
      have hz2 : vs'.length + us.length < sizeLine := by rw [← hz, ← hz1]; exact line100 φ1.1
      refine .inr ⟨p, q, vs', us, rfl, rfl, r2, hE1.e.b.sub.sqt hs, Nat.le_of_lt hz2, ?_⟩
      exact n _ F1 _ _ φ1.2 (r4 _ _ (r3.app as) (by simp; omega)) s1.up
    · rename_i es
      unfold At at a1
      obtain ⟨q, us, rfl, hs, as⟩ := a1
      have hz1 := as.length
      have hz2 : vs'.length + us.length < sizeLine := by rw [← hz, ← hz1]; exact line100 φ1.1
      refine .inl ⟨p, q, vs', us, rfl, rfl, r2, hE1.e.b.sub _ _ hs, Nat.le_of_lt hz2, ?_⟩
      exact n _ F1 _ _ φ1.2 (r4 _ _ (r3.app as) (by simp; omega)) s1.up
theorem ws_for {tg iter : Expr} {body : List Stmt} {wi : DA} {tG : TG} {bd : DB} {wb : DS} (hi : PI X tg iter (liftI X.K wi)) (hg : PG X tg tG) (bo : BindOk X.K (fun _ => True) tG bd) (hb : PSs X body (liftS X.K wb)) (hp : PassesOwn (model X.prog X.w) X.A X.env X.xe) (hc : X.calm = true := by rfl)
    (hs : ∀ x, foldedSetIterable iter X.env x = pure x := by intro _; rfl) : PS X (.For tg iter body [] pos) (liftS X.K (dFor wi bd wb)) := by
  refine PSm (ps_for hp hc hi hg hb hs) fun D σ H ⟨g, F0, H0, F, env, N, R, hE, hw, n, k⟩ => ⟨g, F, env, _, hE.e, hw, fun ds J F1 H1 φ1 s1 wk hz => ?_⟩
  refine ⟨fun i m σ H' => m = ds.length - i ∧ i ≤ ds.length ∧ ∃ F' env', EnvS X.K g F0 H0 σ F' H' env' ∧ Sub F1 F' ∧ forGo bd wb N R (ds.drop i) env', ⟨ds.length, by omega, Nat.zero_le _, F1, env, hE.step s1, Sub.refl _, φ1⟩, ?_⟩
  rintro i m σ' H' ⟨rfl, hi, F', env', hE', sF, hgo⟩
  have b' := hE'.e.b
  by_cases hlt : i < ds.length
  · right
    have hd : ds[i]? = some ds[i] := List.getElem?_eq_getElem hlt
    rw [List.drop_eq_getElem_cons hlt] at hgo
    refine ⟨wk.go i H' (sF.trans b'.sub) hlt, fun σ' H' => i + 1 ≤ ds.length ∧ ∃ F' env', EnvS X.K g F0 H0 σ' F' H' env' ∧ Sub F1 F' ∧ forGo bd wb N R (ds.drop (i + 1)) env', fun σ'' H'' q => ⟨ds.length - (i + 1), by omega, rfl, q⟩, fun x H'' y => ?_⟩
    have item : ∃ F2, Step g F' H' F2 H'' ∧ At X.K g F2 ds[i] x := by
      rcases wk.yld i H' x H'' ds[i] (sF.trans b'.sub) hd y with ⟨rfl, a⟩ | ⟨T, us, es, e1, rfl, hT, rfl, a, hu⟩
      · exact ⟨F', b'.refl, At.mono sF _ _ a⟩
      · obtain ⟨s2, a2⟩ := b'.allocT hT hu (Ats.mono sF _ _ a)
        rw [e1]
        exact ⟨_, s2, a2⟩
    obtain ⟨F2, s2, a2⟩ := item
    have hE2 := hE'.step s2
    refine bo g F2 H'' (fun σ env => EnvS X.K g F0 H0 σ F2 H'' env) hE2.e.b (fun σ env i v d _ h a => h.set a) σ' env' ds[i] x _ _ hE2 a2 hgo fun σ3 env3 q3 hE3 => ?_
    exact ⟨g, F0, H0, F2, env3, _, R, hE3, q3, fun σ4 F4 H4 env4 q4 hE4 s4 => ⟨hlt, F4, env4, hE4, (sF.trans s2.up).trans s4, q4⟩, k⟩
  · left
    have e : i = ds.length := by omega
    subst e
    rw [List.drop_length] at hgo
    exact ⟨wk.stop H' (sF.trans b'.sub), n σ' F' H' env' hgo hE' (s1.up.trans sF)⟩
theorem ws_while {c : Expr} {body : List Stmt} {tc : DT} {wb : DS} (hcd : PT X c (liftT X.K tc)) (hb : PSs X body (liftS X.K wb)) (hp : PassesOwn (model X.prog X.w) X.A X.env X.xe) : PS X (.While c body [] pos) (liftS X.K (dWhile tc wb)) := by
  refine PSm (ps_while hp hcd hb) fun D σ H ⟨g, F0, H0, F, env, N, R, hE, ⟨I, m, hI, turn⟩, n, k⟩ => ?_
  refine ⟨fun j σ H' => ∃ F' env', EnvS X.K g F0 H0 σ F' H' env' ∧ Sub F F' ∧ I env' ∧ m env' = j, ⟨m env, F, env, hE, Sub.refl _, hI, rfl⟩, ?_⟩
  rintro j σ' H' ⟨F', env', hE', sF, hI', rfl⟩
  refine ⟨g, F', env', _, hE'.e, turn env' hI', fun c F1 H1 φ1 s1 => ?_⟩
  have hE1 := hE'.step s1
  cases c with
  | true =>
    refine iteT ⟨fun σ'' H'' => ∃ F'' env'', EnvS X.K g F0 H0 σ'' F'' H'' env'' ∧ Sub F F'' ∧ I env'' ∧ m env'' < m env', fun σ'' H'' ⟨F'', env'', q1, q2, q3, q4⟩ => ⟨m env'', q4, F'', env'', q1, q2, q3, rfl⟩, ?_⟩
    exact ⟨g, F0, H0, F1, env', _, R, hE1, φ1, fun σ'' F'' H'' env'' q e s => ⟨F'', env'', e, (sF.trans s1.up).trans s, q.1, q.2⟩, k⟩
  | false => exact iteF (n σ' F1 H1 env' φ1 hE1 (sF.trans s1.up))
theorem ws_setLc {i : Nat} {y : Str} {py : Pos} {elt tg iter : Expr} {ifs : List Expr} {scope : Scope} {own : List (Str × Nat)} {p2 spos : Pos} {wi : DA} {tG : TG} {bd : DB} {tt : DT} {te : DE} (hN : X.N.Nodup) (hy : X.N[i]? = some y) (hyl : X.env.scope.names.lookup y = some .local)
    (hsw : swapsWith (.ListComp elt [⟨tg, iter, ifs, 0⟩] scope p2) (some (.Name y py)) spos.line X.env = pure true) (hi : PI X tg iter (liftI X.K wi)) (ok : BlkOk X.N X.env.scope scope own) (bo : BindOk X.K (· ∈ own.map (·.2)) tG bd)
    (hg : ∀ (s : Shared) (H : Hp) (C : Addr) (cl : List (Str × Addr)) (fp : List Addr), PG (X.blk s H scope (compEnvC scope cl C X.env) fp) tg tG) (ht : ∀ (s : Shared) (H : Hp) (C : Addr) (cl : List (Str × Addr)) (fp : List Addr), PTs (X.blk s H scope (compEnvC scope cl C X.env) fp) ifs (liftT X.K tt))
    (he : ∀ (s : Shared) (H : Hp) (C : Addr) (cl : List (Str × Addr)) (fp : List Addr), PE (X.blk s H scope (compEnvC scope cl C X.env) fp) elt (lift X.K te)) (hc : X.calm = true := by rfl) (hs : ∀ x, foldedSetIterable iter X.env x = pure x := by intro _; rfl) :
    PS X (.Assign [.Name y py] (.ListComp elt [⟨tg, iter, ifs, 0⟩] scope p2) spos) (liftS X.K (dSet i (dLc wi (own.map (·.2)) bd tt te))) := by
  refine PSm (ps_setLc (i := i) hc hN hy hyl hsw hi ok hg ht he hs) fun D σ H ⟨g, F0, H0, F, env, N, R, hE, hw, n, k⟩ => ?_
  refine lift_lc bo σ H _ ⟨g, F, env, _, hE.e, hw, fun d v F' H' φ s a => ?_⟩
  exact n _ F' H' _ φ ((hE.step s).set a) s.up
end
end NB

/-! DL7 -/
set_option Elab.async false
set_option linter.all false
set_option maxRecDepth 100000
set_option maxHeartbeats 1000000
namespace NB
open PySem PySem.Spec PyProof.Rows L2

/-! ### defs by name -/
/-- the def called x keeps rd, by at most level k -/
def Callee (P : Program) (w : World) (K : PySem.W.Frag) (mg : Str → Option Value) (base : Heap) (x : Str) (k : Nat) (rd : RL) : Prop :=
  ∃ (f : Addr) (fd : FuncData) (ps : List Str), FnOk P w K mg base CX0 k f fd ps (spOf K rd) ∧ mg x = some (.ref f) ∧ PySem.W.keepIn K (.ref f) = true ∧ Binds K fd ps []
/-- the def called x stands there -/
def Stands (K : PySem.W.Frag) (mg : Str → Option Value) (x : Str) (st : Stmt) (ps : List Str) : Prop :=
  ∃ (f : Addr) (fd : FuncData), L2.Fun K x x st f fd ∧ mg x = some (.ref f) ∧ Binds K fd ps []
structure Bi (mg : Str → Option Value) : Prop where
  len : mg "len" = none
  mn : mg "min" = none
  mx : mg "max" = none
  sm : mg "sum" = none
  sorted : mg "sorted" = none
  an : mg "any" = none
  al : mg "all" = none
  tuple : mg "tuple" = none
  list : mg "list" = none
  isi : mg "isinstance" = none
  int : mg "int" = none
  bool : mg "bool" = none
  str : mg "str" = none
  range : mg "range" = none
  zip : mg "zip" = none
  enumerate : mg "enumerate" = none
  abs : mg "abs" = none
section
variable {P : Program} {w : World} {K : PySem.W.Frag} {mg : Str → Option Value} {base : Heap} {X : Cx}
theorem fn_C {x : Str} {st : Stmt} {N ps : List Str} {k : Nat} {rd : RL} (F : Stands K mg x st ps) (S : FnScope N ps (defScope st)) (len : ∀ ds Φ, rd ds Φ → ds.length = ps.length) (hN : ps.length ≤ N.length)
    (w0 : DS) (hp : ∀ ds Φ, rd ds Φ → w0 (fun _ => Φ .non) Φ (startE N.length ds))
    (hbody : ∀ (f : Addr) (cdv : Value) (A : Around) (outer : List Env) (s : Shared) (H : Hp) (E : XK), Room k (A.deeper (envOfC x (defScope st) s.heap.objs.size f cdv)) →
      PSs (cxOf CX0 P w K mg base N x (defScope st) f cdv A outer s H E).nox (defBody st) (liftS K w0)) : Callee P w K mg base x (k + 1) rd := by
  obtain ⟨f, fd, F, hm, hb⟩ := F
  exact ⟨f, fd, ps, fn_D F S len hN fun cdv A outer s H E hr => ⟨w0, hbody f cdv A outer s H E hr, hp⟩, hm, F.kp, hb⟩
theorem Callee.mono {x : Str} {k j : Nat} {rd rd' : RL} (c : Callee P w K mg base x k rd) (hk : k ≤ j) (h : ∀ ds Φ, rd' ds Φ → rd ds Φ) : Callee P w K mg base x j rd' := by
  obtain ⟨f, fd, ps, G, hm, kp, hb⟩ := c
  refine ⟨f, fd, ps, (G.mono hk).imp ?_, hm, kp, hb⟩
  intro vs H Q E ⟨g, F, ds, Φ, b, a, q, t⟩
  exact ⟨g, F, ds, Φ, b, a, h ds Φ q, t⟩
theorem callee_no {x : Str} {st : Stmt} {ps : List Str} {rd : RL} (F : Stands K mg x st ps) (h : ∀ ds Φ, ¬ rd ds Φ) : Callee P w K mg base x 0 rd := by
  obtain ⟨f, fd, F, hm, hb⟩ := F
  have no : ∀ vs H Q E, ¬ spOf K rd vs H Q E := fun vs H Q E ⟨g, F, ds, Φ, b, a, q, t⟩ => h ds Φ q
  exact ⟨f, fd, ps, ⟨fun vs H Q E h => absurd h (no vs H Q E), fun A outer s H args us vs Q E _ _ _ _ h => absurd h (no vs H Q E)⟩, hm, F.kp, hb⟩
theorem we_fn {x : Str} {k j : Nat} {rd : RL} {e : Expr} {es : List Expr} {wa : DA} {p pos : Pos} (c : Callee X.prog X.w X.K X.mg X.base x k rd) (hr : Room j X.A) (hk : k ≤ j) (hg : Gl X x) (ha : PA X (e :: es) (liftA X.K wa))
    (hs : starEach (e :: es) X.env = (false, eval e X.env) :: starEach es X.env := by rfl) (hpl : (backTo pos (starEach es X.env)).any (·.1) = false := by rfl) (hdb : (x == ("__debug__" : Str)) = false := by decide) :
    PE X (.Call (.Name x p) (e :: es) [] pos) (lift X.K (dCall rd wa)) := by
  obtain ⟨f, fd, ps, G, hm, kp, hb⟩ := c
  exact we_call G (hr.mono hk) hg hm kp hb ha hs hpl hdb
theorem we_gi {x : Str} {i : Int} {pos : Pos} (hg : Gl X x) (hm : ∃ t, X.mg x = some (.int i t)) (hd : (x == ("__debug__" : Str)) = false := by decide) : PE X (.Name x pos) (lift X.K (dC (.int i))) := by
  obtain ⟨t, hm⟩ := hm
  exact we_gint hg hm hd
def dNeg (w : DE) : DE := fun env Φ => w env fun x => match x with
  | .int i => Φ (.int (-i))
  | _ => False
theorem we_neg {a : Expr} {wa : DE} {pos : Pos} (ha : PE X a (lift X.K wa)) : PE X (.UnaryOp .USub a pos) (lift X.K (dNeg wa)) := by
  refine PEm (pe_un un_neg ha) fun σ H Q ⟨g, F, env, Φ, hE, hw, k⟩ => ⟨g, F, env, _, hE, hw, fun d1 v1 F1 H1 φ1 s1 a1 => ?_⟩
  cases d1 <;> try exact φ1.elim
  cases a1
  exact ⟨_, rfl, (k.aft hE.b s1).now (hE.b.step s1) φ1 rfl⟩
/-! readings of further forms (their rules: DL8) -/
def dRev (w : DE) : DE := fun env Φ => w env fun x => match x with
  | .lst ds => Φ (.lst ds.reverse)
  | .tup ds => Φ (.tup ds.reverse)
  | _ => False
def dSNil : DA := fun _ Φ => Φ []
def dSCons (w : DE) (r : DA) : DA := fun env Φ => w env fun x => r env fun xs => Φ (x :: xs)
def dSStar (w : DE) (r : DA) : DA := fun env Φ => w env fun x => match x with
  | .tup ds => r env fun xs => Φ (ds ++ xs)
  | _ => False
def dStup (r : DA) : DE := fun env Φ => r env fun xs => xs.length ≤ 1000 ∧ Φ (.tup xs)
def dRep (wa wb : DE) : DE := fun env Φ => wa env fun x => wb env fun y => match x, y with
  | .lst [d], .int n => 0 ≤ n ∧ n ≤ 1000 ∧ Φ (.lst (List.replicate n.toNat d))
  | _, _ => False
def dRepT (wa wb : DE) : DE := fun env Φ => wa env fun x => wb env fun y => match x, y with
  | .tup [d], .int n => 1 ≤ n ∧ n ≤ 1000 ∧ Φ (.tup (List.replicate n.toNat d))
  | _, _ => False
def sizeOf (x : Str) : Option Int := if x = "wait" then some 2 else if x = "rule" then some 3 else if x = "house" then some 3 else if x = "seen" then some 4 else none
def dSizes (w : DE) : DE := fun env Φ => w env fun x => match x with
  | .str s => match sizeOf s with
    | some n => Φ (.int n)
    | none => False
  | _ => False
def wordsD : D := .tup [.str "wait", .str "rule", .str "house", .str "seen"]
/-! built-ins in short -/
section
variable {e : Expr} {es : List Expr} {wa : DA} {p pos : Pos} (T : Bi X.mg)
abbrev dLen := dCall rdLen
abbrev dMin := dCall rdMin
abbrev dMax := dCall rdMax
abbrev dSum := dCall rdSum
abbrev dSorted := dCall rdSorted
abbrev dAny := dCall rdAny
abbrev dAll := dCall rdAll
abbrev dTuple := dCall rdTuple
abbrev dList := dCall rdList
def rdInt : RL := fun ds Φ => match ds with
  | [.int i] => Φ (.int i)
  | _ => False
theorem cal_int : CalD K (fun xs H Q => (∃ i, xs = [.int i] ∧ Q (.int i) H) ∨ ∃ k, xs = [.bl k] ∧ Q (.int (if k then 1 else 0)) H) rdInt := by
  intro g F H vs ds Φ Q b a h k
  unfold rdInt at h
  split at h
  · rename_i i
    obtain ⟨v, r, rfl, q, t⟩ := a.of_cons
    cases t; cases q
    exact .inl ⟨i, rfl, k.now b h rfl⟩
  · exact h.elim
end
end
end NB

/-! DL8 -/
set_option Elab.async false
set_option linter.all false
set_option maxRecDepth 100000
set_option maxHeartbeats 2000000
namespace NB
open PySem PySem.Spec PyProof.Rows L2

section
variable {prog : Program} {w : World} {A : Around} {E : Value → Shared → Prop} {s : Shared}
theorem sliceApplied_back {sl : Addr} {vs : Value} {n : Nat} {Q : Int × Int × Nat → Shared → Prop} (hs : s.heap.IsSliceOf sl .none .none vs) (ps : IsPart vs (some (-1)))
    (h : Q ((n : Int) - 1, -1, n) s) : wpAny (model prog w) A (Builtin.Slice.sliceApplied (.ref sl) (pure (n : Int))) Q E s := by
  obtain ⟨os, hos, hcs, hds⟩ := id hs
  unfold Builtin.Slice.sliceApplied Builtin.Slice.sliceFields
  refine wpAny_bind (wpAny_bind (wpAny_field hos hds (x := .none) rfl (wpAny_bind (wpAny_field hos hds (x := .none) rfl (wpAny_bind (wpAny_field hos hds (x := vs) rfl (wpAny_pure ?_)))))))
  refine wpAny_bind (HT.slicePart_ ps ?_)
  show wpAny _ _ (if ((-1 : Int) == 0) = true then _ else _) _ _ s
  rw [if_neg (by decide)]
  refine wpAny_bind (slicePart_none (wpAny_bind (slicePart_none (wpAny_bind (wpAny_pure ?_)))))
  show wpAny _ _ (match Builtin.Slice.sliceAdjust none none (-1) (n : Int) with | (lo, hi) => pure (lo, (-1 : Int), Builtin.Slice.slicePlaces lo hi (-1))) _ _ s
  have e : Builtin.Slice.sliceAdjust none none (-1) (n : Int) = ((n : Int) - 1, -1) := by
    unfold Builtin.Slice.sliceAdjust
    simp
  rw [e]
  show wpAny _ _ (pure ((n : Int) - 1, (-1 : Int), Builtin.Slice.slicePlaces ((n : Int) - 1) (-1) (-1))) _ _ s
  have e2 : Builtin.Slice.slicePlaces ((n : Int) - 1) (-1) (-1) = n := by
    unfold Builtin.Slice.slicePlaces
    have h1 : ¬ (-1 : Int) > 0 := by omega
    rw [if_neg h1]
    have h2 : ((n : Int) - 1 - -1 - 1) / -(-1) = (n : Int) - 1 := by
      have : (-(-1) : Int) = 1 := by omega
      rw [this, Int.ediv_one]; omega
    split <;> omega
  rw [e2]
  exact wpAny_pure h
theorem fm_some {α β : Type} (f : α → Option β) (g : α → β) : ∀ (l : List α), (∀ m ∈ l, f m = some (g m)) → l.filterMap f = l.map g
  | [], _ => rfl
  | x :: l, h => by
    rw [List.filterMap_cons, h x List.mem_cons_self, List.map_cons, fm_some f g l fun m hm => h m (List.mem_cons_of_mem _ hm)]
theorem pick_back (xs : Array Value) : ((List.range xs.size).filterMap fun (m : Nat) => xs[(((xs.size : Nat) : Int) - 1 + (m : Int) * (-1)).toNat]?).toArray = xs.toList.reverse.toArray := by
  congr 1
  apply List.ext_getElem?
  intro i
  have key : ((List.range xs.size).filterMap fun (m : Nat) => xs[(((xs.size : Nat) : Int) - 1 + (m : Int) * (-1)).toNat]?) = (List.range xs.size).map fun m => xs.toList.getD (xs.size - 1 - m) default := by
    refine fm_some _ _ _ fun m hm => ?_
    have hm := List.mem_range.mp hm
    have e : (((xs.size : Nat) : Int) - 1 + (m : Int) * (-1)).toNat = xs.size - 1 - m := by omega
    have hlt : xs.size - 1 - m < xs.size := by omega
    rw [e, Array.getElem?_eq_getElem hlt]
    simp [List.getD, hlt]
  rw [key]
  by_cases hi : i < xs.size
  · rw [List.getElem?_map, List.getElem?_range hi, List.getElem?_reverse (by simpa using hi)]
    have hlt : xs.size - 1 - i < xs.size := by omega
    simp [List.getD, hlt]
  · rw [List.getElem?_eq_none (by simp; omega), List.getElem?_eq_none (by simp; omega)]
theorem getItem_tuple_back {t sl : Addr} {items : Array Value} {vs : Value} {Q : Value → Shared → Prop} (ht : IsTup s.heap t items) (hs : s.heap.IsSliceOf sl .none .none vs) (ps : IsPart vs (some (-1)))
    (h : Q (.ref s.heap.objs.size) { s with heap := s.heap.push { cls := .type "tuple", data := .seq items.toList.reverse.toArray } })
    (hsz : items.size ≤ sizeLine) : wpAny (model prog w) A (getItem (.ref t) (.ref sl)) Q E s := by
  have htake : sizeOk (.seq items.toList.reverse.toArray) := by
    show items.toList.reverse.toArray.size ≤ sizeLine
    rw [List.size_toArray, List.length_reverse, Array.length_toList]
    omega
  obtain ⟨os, hos, hcs, hds⟩ := id hs
  have hTs : s.TypeIs (.ref sl) "slice" := ⟨os, hos, hcs⟩
  unfold getItem
  try with_reducible refine wpAny_holding ?_
  first | refine wpAny_bind (wpAny_pure ?_) | skip
  refine wpAny_bind (wpAny_sequenceKey ht.typeIs (by decide) ?_)
  refine wpAny_bind (wpAny_callSpecial?_slot (name := Str.ofString "__getitem__") ht.typeIs PyProof.Rows.slot_tuple_getitem
    (wpAny_call_entry PyProof.Rows.slot_tuple_getitem ht.typeIs entry_tuple_getitem ?_ (args_tuple_getitem _ _)))
  show wpAny _ _ (Builtin.Tuple.tupleItemsOf (.ref t) >>= _) _ _ s
  refine wpAny_bind (tupleItemsOf_ ht ?_)
  refine wpAny_bind (wpAny_typeOf hTs ?_)
  rw [if_pos (by decide)]
  refine wpAny_bind (sliceApplied_back hs ps ?_)
  have hno : ¬ ((((items.size : Nat) : Int) - 1 == 0 && (-1 : Int) == 1 && items.size == items.size) = true) := by
    intro q
    rw [Bool.and_eq_true, Bool.and_eq_true] at q
    exact absurd q.1.2 (by decide)
  show wpAny _ _ (if (((items.size : Nat) : Int) - 1 == 0 && (-1 : Int) == 1 && items.size == items.size) = true then _ else _) _ _ s
  rw [if_neg hno, pick_back]
  first
    | exact wpAny_bind (m := Builtin.Tuple.tupleExact _) (wpAny_newObj_type (wpAny_pure ⟨_, rfl, wpAny_pure h⟩) htake)
    | exact wpAny_bind (m := Builtin.Tuple.tupleExact _) (wpAny_newObj_type (wpAny_bind (wpAny_pure (wpAny_pure ⟨_, rfl, wpAny_pure h⟩))) htake)
    | exact wpAny_bind (wpAny_bind (m := Builtin.Tuple.tupleExact _) (wpAny_newObj_type (wpAny_pure (wpAny_pure ⟨_, rfl, wpAny_pure h⟩)) htake))
    | exact wpAny_bind (wpAny_bind (m := Builtin.Tuple.tupleExact _) (wpAny_newObj_type (wpAny_pure ⟨_, rfl, wpAny_pure h⟩) htake))
end
section
variable {X : Cx}
def tRevA (K : PySem.W.Frag) (te : TE) : TE := fun σ H Q => te σ H fun x H1 => ∃ a xs, x = .ref a ∧ ((SqL K H1 a xs ∧ ∀ p, H1 p = none → Q (.ref p) (upd H1 p (.lst xs.reverse))) ∨ (SqT K H1 a xs ∧ ∀ p, H1 p = none → Q (.ref p) (upd H1 p (.tup xs.reverse))))
theorem pe_revA {e : Expr} {te : TE} {k : Nat} {p1 p2 p3 pos : Pos} (he : PE X e te) : PE X (.Subscript e (.Slice none none (some (.UnaryOp .USub (.Constant (.int 1) k p1) p2)) p3) pos) (tRevA X.K te) := by
  refine ⟨fun pins s σ H Q I h => ?_⟩
  refine Subscript_ (thn (he.run pins s σ H _ I h) fun v s1 ⟨x, H1, I1, r1, q1⟩ => ?_)
  obtain ⟨a, xs, ex, q⟩ := q1
  subst ex
  cases r1
  have hst : PO X (some (.UnaryOp .USub (.Constant (.int 1) k p1) p2)) (tPart (tUn (rU fun i => .int (-i)) (tC (.int 1)))) := po_some (pe_un un_neg pe_int)
  refine wpAny_Slice (thn (po_none.run pins s1 σ H1 (fun o H2 => o = none ∧ H2 = H1) I1 ⟨rfl, rfl⟩) fun vl s2 ⟨l, H2, I2, pl, el, e2⟩ => ?_)
  subst el e2
  refine thn (po_none.run pins s2 σ H2 (fun o H3 => o = none ∧ H3 = H2) I2 ⟨rfl, rfl⟩) fun vu s3 ⟨u, H3, I3, pu, eu, e3⟩ => ?_
  subst eu e3
  refine thn (hst.run pins s3 σ H3 (fun o H4 => o = some (-1) ∧ H4 = H3) I3 ⟨1, rfl, -1, rfl, rfl, rfl⟩) fun vs s4 ⟨o, H4, I4, ps, eo, e4⟩ => ?_
  subst eo e4
  have I5 : Inv X pins σ H4 { s4 with heap := s4.heap.push { cls := .type "slice", data := .fields #[vl, vu, vs] } } := I4.kept (t' := s4.toks) fun b ob q => Heap.get?_push_of_some _ q
  show wpAny (model X.prog X.w) X.A (subscriptTail e (.Slice none none (some (.UnaryOp .USub (.Constant (.int 1) k p1) p2)) p3) (.ref a) (.ref s4.heap.objs.size)) (EP X pins σ Q) X.xe { s4 with heap := s4.heap.push { cls := .type "slice", data := .fields #[vl, vu, vs] } }
  rcases q with ⟨hx, q⟩ | ⟨hx, q⟩
  · obtain ⟨its, r, ht, hz⟩ := I5.list hx
    have hlen := r.length
    refine tail_any (ops := [.ref a, .ref s4.heap.objs.size]) ht.isList.typeIs (PySem.slot_list_getitem.lookup) ?_ (by with_unfolding_all rfl)
    refine wpAny_getItem_list_slice ht.isList (Heap.IsSliceOf.new _ vl vu vs) pl pu ps (by decide) ?_ (by rw [List.size_toArray]; omega)
    rw [PySem.W.krv_pick]
    refine ⟨.ref _, _, I5.laid (t' := s4.toks) (o := .lst xs.reverse) (fun b ob q => Heap.get?_push_of_some _ q) (Nat.le_refl _) ?_, rfl, q _ (I5.hok.fresh (Nat.le_refl _))⟩
    exact ⟨by rw [List.length_reverse]; exact hz, _, 0, r.reverse, Heap.get?_push_size _ rfl⟩
  · obtain ⟨its, r, ht, hz⟩ := I5.tuple hx
    have hlen := r.length
    cases pl
    cases pu
    refine tail_any (ops := [.ref a, .ref s4.heap.objs.size]) ht.typeIs (PyProof.Rows.slot_tuple_getitem.lookup) ?_ (by with_unfolding_all rfl)
    refine getItem_tuple_back ht (Heap.IsSliceOf.new _ .none .none vs) ps ?_ (by rw [List.size_toArray]; omega)
    refine ⟨.ref _, _, I5.laid (t' := s4.toks) (o := .tup xs.reverse) (fun b ob q => Heap.get?_push_of_some _ q) (Nat.le_refl _) ?_, rfl, q _ (I5.hok.fresh (Nat.le_refl _))⟩
    exact ⟨by rw [List.length_reverse]; exact hz, _, r.reverse, IsTup.new _ _⟩
theorem we_rev {e : Expr} {we : DE} {k : Nat} {p1 p2 p3 pos : Pos} (he : PE X e (lift X.K we)) : PE X (.Subscript e (.Slice none none (some (.UnaryOp .USub (.Constant (.int 1) k p1) p2)) p3) pos) (lift X.K (dRev we)) := by
  refine PEm (pe_revA he) fun σ H Q ⟨g, F, env, Φ, hE, hw, k⟩ => ⟨g, F, env, _, hE, hw, fun d1 v1 F1 H1 φ1 s1 a1 => ?_⟩
  have b1 := hE.b.step s1
  have k1 := k.aft hE.b s1
  cases d1 <;> try exact φ1.elim
  · rename_i ds
    unfold At at a1
    obtain ⟨a, vs, rfl, hs, as⟩ := a1
    refine ⟨a, vs, rfl, .inr ⟨b1.sub.sqt hs, fun p hp => ?_⟩⟩
    obtain ⟨st, at_⟩ := b1.allocT hp (by rw [List.length_reverse]; exact b1.ln.t (b1.sub.sqt hs)) as.rev
    exact k1 _ _ _ _ φ1 st at_
  · rename_i ds
    unfold At at a1
    obtain ⟨a, vs, rfl, hs, as⟩ := a1
    refine ⟨a, vs, rfl, .inl ⟨SqL.of (b1.sub _ _ hs), fun p hp => ?_⟩⟩
    obtain ⟨st, at_⟩ := b1.allocL hp (by rw [List.length_reverse]; exact b1.ln.l (SqL.of (K := X.K) (b1.sub _ _ hs))) as.rev
    exact k1 _ _ _ _ φ1 st at_
/-! displays with stars -/
theorem wsa_nil : PA X [] (liftA X.K dSNil) := wa_nil
theorem wsa_cons {e : Expr} {es : List Expr} {w : DE} {r : DA} (ha : PE X e (lift X.K w)) (hr : PA X es (liftA X.K r)) (hs : starEach (e :: es) X.env = (false, eval e X.env) :: starEach es X.env := by rfl) : PA X (e :: es) (liftA X.K (dSCons w r)) := wa_cons ha hr hs
theorem wsa_star {e : Expr} {es : List Expr} {w : DE} {r : DA} {p : Pos} (ha : PE X e (lift X.K w)) (hr : PA X es (liftA X.K r)) (hs : starEach (.Starred e p :: es) X.env = (true, eval e X.env) :: starEach es X.env := by rfl) : PA X (.Starred e p :: es) (liftA X.K (dSStar w r)) := by
  refine PAm (StX.pa_star ha hr hs) fun σ H Q ⟨g, F, env, Φ, hE, hw, k⟩ => ⟨g, F, env, _, hE, hw, fun d1 v1 F1 H1 φ1 s1 a1 => ?_⟩
  cases d1 <;> try exact φ1.elim
  rename_i ds
  unfold At at a1
  obtain ⟨a, vs, rfl, hs, as⟩ := a1
  have b1 := hE.b.step s1
  refine ⟨a, vs, rfl, .inl (b1.sub.sqt hs), ?_⟩
  refine ⟨g, F1, env, _, hE.step s1, φ1, fun es us F2 H2 φ2 s2 a2 => ?_⟩
  exact k _ _ F2 H2 φ2 (s1.trans hE.b s2) ((Ats.mono s2.up _ _ as).app a2)
theorem we_stup {es : List Expr} {r : DA} {x1} {pos : Pos} (h : PA X es (liftA X.K r)) : PE X (.Tuple es x1 pos) (lift X.K (dStup r)) := we_tup h
/-! repetition -/
theorem Ats.rep {K : PySem.W.Frag} {g : Dl} {F : Hp} {d : D} {v : V} (h : At K g F d v) : ∀ n : Nat, Ats K g F (List.replicate n d) (List.replicate n v)
  | 0 => rfl
  | n + 1 => Ats.cons h (Ats.rep h n)
theorem flat1 {α : Type} (v : α) : ∀ n : Nat, (List.replicate n [v]).flatten = List.replicate n v
  | 0 => rfl
  | n + 1 => by rw [List.replicate_succ, List.flatten_cons, flat1 v n]; rfl
theorem opd_rep {K : PySem.W.Frag} : OpD K rRep (fun x y Φ => match x, y with
  | .lst [d], .int n => 0 ≤ n ∧ n ≤ 1000 ∧ Φ (.lst (List.replicate n.toNat d))
  | _, _ => False) := by
  intro g F H x y dx dy Φ Q b ax ay h k
  split at h
  · rename_i d n
    obtain ⟨h0, h1, h2⟩ := h
    unfold At at ax
    obtain ⟨a, vs, rfl, hs, as⟩ := ax
    cases ay
    obtain ⟨v, r, rfl, q, t⟩ := as.of_cons
    cases t
    have hz : ([v] : List V).length * n.toNat ≤ sizeLine := by
      rw [List.length_singleton, Nat.one_mul]
      exact le_line (by omega)
    refine ⟨a, n, [v], rfl, rfl, b.sub _ _ hs, by omega, by omega, hz, fun p hp => ?_⟩
    rw [flat1]
    obtain ⟨st, at_⟩ := b.allocL (vs := List.replicate n.toNat v) hp (by rw [List.length_replicate]; exact le_line (by omega)) (Ats.rep q n.toNat)
    exact k _ _ _ _ h2 st at_
  · exact h.elim
theorem we_rep {a b : Expr} {wa wb : DE} {pos : Pos} (ha : PE X a (lift X.K wa)) (hb : PE X b (lift X.K wb)) : PE X (.BinOp a .Mult b pos) (lift X.K (dRep wa wb)) := we_bin op_rep opd_rep ha hb
theorem tuple_mul1 (l : Addr) (items : Array Value) (n : Nat) (dd : Option Addr) (sl : Array (Option Value)) (u : Tok) :
    Meets (Builtin.«tuple.__mul__» ⟨[.ref l, .int 1 u], []⟩) (fun _ R s => s.heap.get? l = some { cls := .type "tuple", dict := dd, data := .seq items n, slots := sl } ∧
      R (.ok (.ret (Value.ref l))) s) :=
  .of_wp fun prog w A R s h => by
    obtain ⟨hp, g, d, tk, os⟩ := s
    obtain ⟨hl, h⟩ := h
    have f1 := AutoSeq1.idx_int
    wp_walk using AutoSeq1.wpAny_loadPart' hl
    repeat (first
      | exact ⟨_, rfl, h⟩
      | (refine wpAny_ite_false (decide_eq_false (by decide)) ?_; wp_walk using AutoSeq1.wpAny_loadPart' hl)
      | (refine wpAny_ite_true (decide_eq_true (by simp)) ?_; wp_walk using AutoSeq1.wpAny_loadPart' hl))


def rRep1 (K : PySem.W.Frag) : R2 := fun x y H Q => ∃ l xs, x = .ref l ∧ y = .int 1 ∧ SqT K H l xs ∧ Q (.ref l) H
theorem op_rep1 : OpR X (binaryOp .Mult) (rRep1 X.K) := by
  intro pins s σ H x y v u Q I rx ry h
  obtain ⟨l, xs, rfl, rfl, hT, q⟩ := h
  cases rx
  obtain ⟨t, rfl⟩ := ry
  obtain ⟨its, r, ⟨⟨cls, dd, data, sl⟩, ho, hc, n, hd⟩, hs⟩ := I.tuple hT
  simp only at hc hd
  subst hc hd
  refine wpAny_binaryOp_repeat_ref (T := "tuple") (U := "int") (by decide) ⟨_, ho, rfl⟩ (fun s' => typeIs_int s' 1 t) noFill_tuple_mul F.fills_int_mul F.slot_int_rmul repeat_tuple F.slot_int_index.lookup
    (call_meets F.slot_int_rmul (typeIs_int s 1 t) F.entry_int_rmul (F.args_int_rmul_2 _ _) (int_rmul_tuple 1 t l its.toArray n dd sl)
      ⟨ho, rfl, ⟨_, ho, rfl⟩, call_meets F.slot_tuple_mul ⟨_, ho, rfl⟩ F.entry_tuple_mul (F.args_tuple_mul_2 _ _) (tuple_mul1 l its.toArray n dd sl t) ⟨ho, ?_⟩⟩)
  exact ⟨.ref l, H, I, rfl, q⟩
theorem opd_repT {K : PySem.W.Frag} : OpD K (fun x y H Q => rRep1 K x y H Q ∨ rRepT K x y H Q) (fun x y Φ => match x, y with
  | .tup [d], .int n => 1 ≤ n ∧ n ≤ 1000 ∧ Φ (.tup (List.replicate n.toNat d))
  | _, _ => False) := by
  intro g F H x y dx dy Φ Q b ax ay h k
  split at h
  · rename_i d n
    obtain ⟨h0, h1, h2⟩ := h
    have ax0 := ax
    unfold At at ax
    obtain ⟨a, vs, rfl, hs, as⟩ := ax
    cases ay
    obtain ⟨v, r, rfl, q, t⟩ := as.of_cons
    cases t
    by_cases e : n = 1
    · subst e
      exact .inl ⟨a, [v], rfl, rfl, b.sub.sqt hs, k.now b h2 ax0⟩
    · refine .inr ⟨a, n, [v], rfl, rfl, b.sub.sqt hs, (by simp), by omega, by omega, (by simp), fun p hp => ?_⟩
      rw [flat1]
      obtain ⟨st, at_⟩ := b.allocT (vs := List.replicate n.toNat v) hp (by rw [List.length_replicate]; exact le_line (by omega)) (Ats.rep q n.toNat)
      exact k _ _ _ _ h2 st at_
  · exact h.elim
theorem we_repT {a b : Expr} {wa wb : DE} {pos : Pos} (ha : PE X a (lift X.K wa)) (hb : PE X b (lift X.K wb)) : PE X (.BinOp a .Mult b pos) (lift X.K (dRepT wa wb)) := we_bin (OpR.or op_rep1 op_repT) opd_repT ha hb
def dPar3 (i j l : Nat) (wa wb wc : DE) : DS := fun N _ env => wa env fun x => wb env fun y => wc env fun z => N (setS (setS (setS env i (.im x)) j (.im y)) l (.im z))
theorem ws_par3 {i j l : Nat} {x y z : Str} {a b c : Expr} {wa wb wc : DE} {px py pz pt : Pos} {kt k2 : Nat} {pt2 pos : Pos} (hN : X.N.Nodup) (hi : X.N[i]? = some x) (hj : X.N[j]? = some y) (hl : X.N[l]? = some z) (hij : i ≠ j) (hil : i ≠ l) (hjl : j ≠ l)
    (hx : X.env.scope.names.lookup x = some .local) (hy : X.env.scope.names.lookup y = some .local) (hz : X.env.scope.names.lookup z = some .local) (ha : PE X a (lift X.K wa)) (hb : PE X b (lift X.K wb)) (hcc : PE X c (lift X.K wc)) (hc : X.calm = true := by rfl)
    (hs1 : starEach [a, b, c] X.env = (false, eval a X.env) :: starEach [b, c] X.env := by rfl) (hs2 : starEach [b, c] X.env = (false, eval b X.env) :: starEach [c] X.env := by rfl) (hs3 : starEach [c] X.env = (false, eval c X.env) :: starEach [] X.env := by rfl)
    (hw : swappedStores [.Tuple [.Name x px, .Name y py, .Name z pz] kt pt] (.Tuple [a, b, c] k2 pt2) X.env = pure (some [x, y, z]) := by with_unfolding_all rfl) (hs : swapsWithSole [.Tuple [.Name x px, .Name y py, .Name z pz] kt pt] (.Tuple [a, b, c] k2 pt2) pos.line X.env = pure false := by rfl) :
    PS X (.Assign [.Tuple [.Name x px, .Name y py, .Name z pz] kt pt] (.Tuple [a, b, c] k2 pt2) pos) (liftS X.K (dPar3 i j l wa wb wc)) := by
  refine PSm (ps_par3 (i := i) (j := j) (l := l) hc hN hi hj hl hij hil hjl hx hy hz (pa_cons ha (pa_cons hb (pa_cons hcc pa_nil hs3) hs2) hs1) hw hs) fun D σ H ⟨g, F0, H0, F, env, N, R, hE, hw, n, k⟩ => ⟨g, F, env, _, hE.e, hw, fun d v F1 H1 φ s1 a1 => ?_⟩
  refine ⟨g, F1, env, _, (hE.step s1).e, φ, fun d2 v2 F2 H2 φ2 s2 a2 => ⟨g, F2, env, _, ((hE.step s1).step s2).e, φ2, fun d3 v3 F3 H3 φ3 s3 a3 => ⟨_, _, _, rfl, ?_⟩⟩⟩
  exact n _ F3 H3 _ φ3 ((((((hE.step s1).step s2).step s3).set (At.mono (s2.up.trans s3.up) _ _ a1)).set (At.mono s3.up _ _ a2)).set a3) ((s1.up.trans s2.up).trans s3.up)
/-! the module's tables -/
def WordsOk (K : PySem.W.Frag) (mg : Str → Option Value) : Prop := ∃ (a : Addr) (o : Obj) (its : Array Value) (n : Nat), mg "WORDS" = some (.ref a) ∧ K.lookup a = some o ∧ o.cls = .type "tuple" ∧ o.data = .seq its n ∧ its.size ≤ sizeLine ∧ Vals [.str "wait", .str "rule", .str "house", .str "seen"] its.toList
theorem we_words {pos : Pos} (hg : Gl X "WORDS") (h : WordsOk X.K X.mg) : PE X (.Name "WORDS" pos) (lift X.K (dC wordsD)) := by
  obtain ⟨a, o, its, n, hm, hk, hc, hd, hz, hv⟩ := h
  refine we_gref hg hm fun g F => ?_
  unfold wordsD At
  exact ⟨a, _, rfl, .inr ⟨o, its, n, hk, hc, hd, hz, hv⟩, Ats.cons rfl (Ats.cons rfl (Ats.cons rfl (Ats.cons rfl Ats.nil)))⟩
def SizesOk (K : PySem.W.Frag) (w : World) (mg : Str → Option Value) : Prop := ∃ p : Addr, mg "SIZES" = some (.ref p) ∧ ∀ x n, sizeOf x = some n → KDct K w p x (.int n)
theorem we_sizes {b : Expr} {wb : DE} {p2 pos : Pos} (hg : Gl X "SIZES") (h : SizesOk X.K X.w X.mg) (hb : PE X b (lift X.K wb)) (hs : PlainIx b := by exact fun _ _ => rfl) : PE X (.Subscript (.Name "SIZES" p2) b pos) (lift X.K (dSizes wb)) := by
  obtain ⟨p, hm, hk⟩ := h
  refine PEm (pe_ix ix_kdict (pe_glob (v := .ref p) hg hm rfl) hb hs) fun σ H Q ⟨g, F, env, Φ, hE, hw, k⟩ => ⟨g, F, env, _, hE, hw, fun d1 v1 F1 H1 φ1 s1 a1 => ?_⟩
  cases d1 <;> try exact φ1.elim
  rename_i x
  cases a1
  have φ1 : (match sizeOf x with | some n => Φ (.int n) | none => False) := φ1
  cases e : sizeOf x with
  | none => rw [e] at φ1; exact φ1.elim
  | some n =>
    rw [e] at φ1
    exact ⟨p, x, .int n, rfl, rfl, hk x n e, (k.aft hE.b s1).now (hE.b.step s1) φ1 rfl⟩
end
end NB

/-! DL9 -/
set_option Elab.async false
set_option linter.all false
set_option maxRecDepth 100000
namespace NB
open PySem PySem.Spec PyProof.Rows L2
theorem Bs.besideT {g : Dl} {F H : Hp} (b : Bs g F H) {p : Addr} {vs : List V} (h : H p = none) (hz : vs.length ≤ sizeLine) : Step g F H F (upd H p (.tup vs)) :=
  ⟨Sub.refl F, b.sub.trans (sub_upd h), fun q u e _ => by rw [upd_ne (ne_of_none e h)]; exact e, fun q u e => .inl e, b.dl.upd (b.notDl h), b.ln.updT hz⟩
section
variable {X : Cx} {a : Expr} {wa : DE} {pos : Pos}
theorem ws_asgO2 {i j : Nat} {x y : Str} {px py pt : Pos} {kt k2 : Nat} {pt2 pb : Pos} (hN : X.N.Nodup) (hi : X.N[i]? = some x) (hj : X.N[j]? = some y) (hij : i ≠ j)
    (hx : Loc X.env.scope x) (hy : Loc X.env.scope y) (ha : PE X a (lift X.K wa)) (hfx : X.fn x = true ∨ X.env.scope.names.lookup x = some .local := by first | exact .inl rfl | exact .inr rfl) (hfy : X.fn y = true ∨ X.env.scope.names.lookup y = some .local := by first | exact .inl rfl | exact .inr rfl) (hc : X.calm = true := by rfl)
    (hs1 : starEach [a, .List [] pb] X.env = (false, eval a X.env) :: starEach [.List [] pb] X.env := by rfl) (hs2 : starEach [.List [] pb] X.env = (false, eval (.List [] pb) X.env) :: starEach [] X.env := by rfl)
    (hs : swapsWithSole [.Tuple [.Name x px, .Name y py] kt pt] (.Tuple [a, .List [] pb] k2 pt2) pos.line X.env = pure false := by rfl) (hw : swappedStores [.Tuple [.Name x px, .Name y py] kt pt] (.Tuple [a, .List [] pb] k2 pt2) X.env = pure none := by rfl)
    (h1 : (assignEach [.Tuple [.Name x px, .Name y py] kt pt] X.env).map (·.2) = [assign (.Tuple [.Name x px, .Name y py] kt pt) X.env] := by rfl)
    (hs3 : (assignEach [.Name x px, .Name y py] X.env).map (·.2) = assign (.Name x px) X.env :: (assignEach [.Name y py] X.env).map (·.2) := by rfl) (hs4 : (assignEach [.Name y py] X.env).map (·.2) = assign (.Name y py) X.env :: (assignEach [] X.env).map (·.2) := by rfl)
    (hn : (assignEach [.Name x px, .Name y py] X.env).length = 2 := by rfl) (hst : (assignEach [.Name x px, .Name y py] X.env).findIdx? (·.1) = none := by rfl) :
    PS X (.Assign [.Tuple [.Name x px, .Name y py] kt pt] (.Tuple [a, .List [] pb] k2 pt2) pos) (liftS X.K (dParO2 i j wa)) := by
  refine PSm (ps_asg (pe_tup (pa_cons ha (pa_cons (pe_lst pa_nil) pa_nil hs2) hs1)) (pg_tup hc (pgs_cons (pg_name (i := i) hN hi hx hfx) (pgs_cons (pg_name (i := j) hN hj hy hfy) pgs_nil hs4) hs3) hn hst) hs hw h1) fun D σ H ⟨g, F0, H0, F, env, N, R, hE, hw, n, k⟩ => ⟨g, F, env, _, hE.e, hw, fun d v F1 H1 φ s1 a1 => ?_⟩
  refine ⟨Nat.zero_le _, fun p hp => ⟨by rw [sizeLine_eq]; show (2 : Nat) ≤ _; omega, fun T hT => ?_⟩⟩
  have hE1 := hE.step s1
  have hE2 := (hE1.set (i := i) a1).newOw hp j
  have st := hE2.e.b.besideT (vs := [v, .ref p]) hT (by rw [sizeLine_eq]; show (2 : Nat) ≤ _; omega)
  exact ⟨T, _, rfl, SqT.of upd_same, rfl, v, _, rfl, .ref p, _, rfl, rfl, n _ F1 _ _ φ (hE2.step st) s1.up⟩
end
end NB

/-! WP -/
set_option Elab.async false
set_option linter.all false
set_option maxRecDepth 100000
namespace NB
open PySem PySem.Spec PyProof.Rows L2
/- is_integer: slots ['value'] -/
def w_is_integer  : DS :=
  (dSeq (dRet (dAndV (dIsi "int" (dVar 0)) (dNotV (dIsi "bool" (dVar 0))))) dNext)

/- is_number: slots ['value'] -/
def w_is_number (r_is_integer : RL) : DS :=
  (dSeq (dRet (dAndV (dCall r_is_integer (dCons (dVar 0) dNil)) (dGe (dVar 0) (dC (.int 0))))) dNext)

/- is_index: slots ['value', 'many'] -/
def w_is_index (r_is_number : RL) : DS :=
  (dSeq (dRet (dAndV (dCall r_is_number (dCons (dVar 0) dNil)) (dLt (dVar 0) (dVar 1)))) dNext)

/- is_row_of: slots ['value', 'sizes'] -/
def w_is_row_of  : DS :=
  (dSeq (dRet (dAndV (dIsi "tuple" (dVar 0)) (dIn (dLen (dCons (dVar 0) dNil)) (dVar 1)))) dNext)

/- is_word_of: slots ['value', 'words'] -/
def w_is_word_of  : DS :=
  (dSeq (dRet (dAndV (dIsi "str" (dVar 0)) (dIn (dVar 0) (dVar 1)))) dNext)

/- is_worth: slots ['value'] -/
def w_is_worth (r_is_index : RL) : DS :=
  (dSeq (dRet (dCall r_is_index (dCons (dVar 0) (dCons (dC (.int 1001)) dNil)))) dNext)

/- is_head: slots ['value', 'one'] -/
def w_is_head (r_is_worth : RL) : DS :=
  (dSeq (dIfS (dTst (dEq (dIx (dVar 0) (dC (.int 0))) (dC (.str "times")))) (dSeq (dRet (dAndV (dEq (dLen (dCons (dVar 0) dNil)) (dC (.int 3))) (dCall r_is_worth (dCons (dIx (dVar 0) (dC (.int 1))) dNil)))) dNext) dNext) (dSeq (dIfS (dTst (dEq (dIx (dVar 0) (dC (.int 0))) (dC (.str "part")))) (dSeq (dRet (dAndV (dEq (dLen (dCons (dVar 0) dNil)) (dC (.int 3))) (dAndV (dCall r_is_worth (dCons (dIx (dVar 0) (dC (.int 1))) dNil)) (dGt (dIx (dVar 0) (dC (.int 1))) (dC (.int 0)))))) dNext) dNext) (dSeq (dIfS (dTst (dEq (dIx (dVar 0) (dC (.int 0))) (dC (.str "clip")))) (dSeq (dRet (dAndV (dEq (dLen (dCons (dVar 0) dNil)) (dC (.int 4))) (dAndV (dCall r_is_worth (dCons (dIx (dVar 0) (dC (.int 1))) dNil)) (dAndV (dCall r_is_worth (dCons (dIx (dVar 0) (dC (.int 2))) dNil)) (dLe (dIx (dVar 0) (dC (.int 1))) (dIx (dVar 0) (dC (.int 2)))))))) dNext) dNext) (dSeq (dIfS (dTst (dEq (dIx (dVar 0) (dC (.int 0))) (dC (.str "from")))) (dSeq (dRet (dAndV (dEq (dLen (dCons (dVar 0) dNil)) (dC (.int 3))) (dCall r_is_worth (dCons (dIx (dVar 0) (dC (.int 1))) dNil)))) dNext) dNext) (dSeq (dIfS (dTst (dEq (dIx (dVar 0) (dC (.int 0))) (dC (.str "bar")))) (dSeq (dRet (dAndV (dEq (dLen (dCons (dVar 0) dNil)) (dC (.int 5))) (dAndV (dCall r_is_worth (dCons (dIx (dVar 0) (dC (.int 1))) dNil)) (dAndV (dCall r_is_worth (dCons (dIx (dVar 0) (dC (.int 2))) dNil)) (dCall r_is_worth (dCons (dIx (dVar 0) (dC (.int 3))) dNil)))))) dNext) dNext) (dSeq (dIfS (dTOr (dTst (dNe (dIx (dVar 0) (dC (.int 0))) (dC (.str "row")))) (dTOr (dTst (dNe (dLen (dCons (dVar 0) dNil)) (dC (.int 3)))) (dTNot (dTst (dIsi "tuple" (dIx (dVar 0) (dC (.int 1)))))))) (dSeq (dRet (dC (.bl false))) dNext) dNext) (dSeq (dRet (dAndV (dChain (rdB0 fun i j => decide (i ≤ j)) (rdB0 fun i j => decide (i ≤ j)) (dC (.int 1)) (dLen (dCons (dIx (dVar 0) (dC (.int 1))) dNil)) (dC (.int 64))) (dAll (dCons (dLc (dItems (dIx (dVar 0) (dC (.int 1)))) [1] (bName 1) dYes (dCall r_is_worth (dCons (dVar 1) dNil))) dNil)))) dNext)))))))

/- parts_of: slots ['value'] -/
def w_parts_of (r_is_worth : RL) (r_is_head : RL) : DS :=
  (dSeq (dIfS (dTOr (dTNot (dTst (dIsi "tuple" (dVar 0)))) (dTOr (dTst (dLt (dLen (dCons (dVar 0) dNil)) (dC (.int 2)))) (dTNot (dTst (dIsi "str" (dIx (dVar 0) (dC (.int 0)))))))) (dSeq (dRet (dC .non)) dNext) dNext) (dSeq (dIfS (dTst (dEq (dIx (dVar 0) (dC (.int 0))) (dC (.str "is")))) (dSeq (dRet (dIf (dTAnd (dTst (dEq (dLen (dCons (dVar 0) dNil)) (dC (.int 2)))) (dTst (dCall r_is_worth (dCons (dIx (dVar 0) (dC (.int 1))) dNil)))) (dTup dNil) (dC .non))) dNext) dNext) (dSeq (dIfS (dTst (dEq (dIx (dVar 0) (dC (.int 0))) (dC (.str "hear")))) (dSeq (dRet (dIf (dTAnd (dTst (dEq (dLen (dCons (dVar 0) dNil)) (dC (.int 2)))) (dTst (dCall r_is_worth (dCons (dIx (dVar 0) (dC (.int 1))) dNil)))) (dTup dNil) (dC .non))) dNext) dNext) (dSeq (dIfS (dTst (dIn (dIx (dVar 0) (dC (.int 0))) (dTup (dCons (dC (.str "least")) (dCons (dC (.str "most")) (dCons (dC (.str "add")) dNil)))))) (dSeq (dRet (dIf (dTAnd (dTst (dEq (dLen (dCons (dVar 0) dNil)) (dC (.int 2)))) (dTAnd (dTst (dIsi "tuple" (dIx (dVar 0) (dC (.int 1))))) (dTst (dGt (dLen (dCons (dIx (dVar 0) (dC (.int 1))) dNil)) (dC (.int 0)))))) (dIx (dVar 0) (dC (.int 1))) (dC .non))) dNext) dNext) (dSeq (dIfS (dTst (dEq (dIx (dVar 0) (dC (.int 0))) (dC (.str "middle")))) (dSeq (dRet (dIf (dTst (dEq (dLen (dCons (dVar 0) dNil)) (dC (.int 4)))) (dSl (dVar 0) (dPart (dC (.int 1))) dNoPart) (dC .non))) dNext) dNext) (dSeq (dRet (dIf (dTst (dCall r_is_head (dCons (dVar 0) dNil))) (dSl (dVar 0) (dPart (dNeg (dC (.int 1)))) dNoPart) (dC .non))) dNext))))))

/- counted: slots ['value', 'deep', 'parts', 'part', 'many', 'heard', 'told_part'] -/
def w_counted (r_parts_of : RL) (r_counted : RL) : DS :=
  (dSeq (dSet 2 (dCall r_parts_of (dCons (dVar 0) dNil))) (dSeq (dIfS (dTOr (dTst (dIsN (dVar 2) (dC .non))) (dTOr (dTst (dEq (dVar 1) (dC (.int 0)))) (dTst (dGt (dLen (dCons (dVar 2) dNil)) (dC (.int 60)))))) (dSeq (dRet (dC .non)) dNext) dNext) (dSeq (dPar 4 5 (dC (.int 1)) (dIf (dTst (dEq (dIx (dVar 0) (dC (.int 0))) (dC (.str "hear")))) (dC (.int 1)) (dC (.int 0)))) (dSeq (dFor (dItems (dVar 2)) (bName 3) (dSeq (dSet 6 (dCall r_counted (dCons (dVar 3) (dCons (dSub (dVar 1) (dC (.int 1))) dNil)))) (dSeq (dIfS (dTst (dIsN (dVar 6) (dC .non))) (dSeq (dRet (dC .non)) dNext) dNext) (dSeq (dPar 4 5 (dAdd (dVar 4) (dIx (dVar 6) (dC (.int 0)))) (dAdd (dVar 5) (dIx (dVar 6) (dC (.int 1))))) dNext)))) (dSeq (dRet (dTup (dCons (dVar 4) (dCons (dVar 5) dNil)))) dNext)))))

/- is_rule: slots ['value', 'count'] -/
def w_is_rule (r_counted : RL) : DS :=
  (dSeq (dSet 1 (dCall r_counted (dCons (dVar 0) (dCons (dC (.int 8)) dNil)))) (dSeq (dRet (dAndV (dNotN (dVar 1) (dC .non)) (dAndV (dLe (dIx (dVar 1) (dC (.int 0))) (dC (.int 60))) (dLe (dIx (dVar 1) (dC (.int 1))) (dC (.int 12)))))) dNext))

/- branches: slots ['rule', 'found', 'part'] -/
def w_branches (r_parts_of : RL) (r_branches : RL) : DS :=
  (dSeq (dIfS (dTst (dEq (dIx (dVar 0) (dC (.int 0))) (dC (.str "hear")))) (dSeq (dRet (dTup (dCons (dIx (dVar 0) (dC (.int 1))) dNil))) dNext) dNext) (dSeq (dNew 1) (dSeq (dFor (dItems (dCall r_parts_of (dCons (dVar 0) dNil))) (bName 2) (dSeq (dExt 1 (dCall r_branches (dCons (dVar 2) dNil))) dNext)) (dFreeze 1 (dSeq (dRet (dTuple (dCons (dVar 1) dNil))) dNext)))))

/- made: slots ['rule', 'values'] -/
def w_made  : DS :=
  (dSeq (dIfS (dTst (dEq (dIx (dVar 0) (dC (.int 0))) (dC (.str "least")))) (dSeq (dRet (dMin (dCons (dVar 1) dNil))) dNext) dNext) (dSeq (dIfS (dTst (dEq (dIx (dVar 0) (dC (.int 0))) (dC (.str "most")))) (dSeq (dRet (dMax (dCons (dVar 1) dNil))) dNext) dNext) (dSeq (dIfS (dTst (dEq (dIx (dVar 0) (dC (.int 0))) (dC (.str "middle")))) (dSeq (dRet (dIx (dSorted (dCons (dVar 1) dNil)) (dC (.int 1)))) dNext) dNext) (dSeq (dIfS (dTst (dEq (dIx (dVar 0) (dC (.int 0))) (dC (.str "add")))) (dSeq (dRet (dSum (dCons (dVar 1) dNil))) dNext) dNext) (dSeq (dIfS (dTst (dEq (dIx (dVar 0) (dC (.int 0))) (dC (.str "times")))) (dSeq (dRet (dMul (dIx (dVar 0) (dC (.int 1))) (dIx (dVar 1) (dC (.int 0))))) dNext) dNext) (dSeq (dIfS (dTst (dEq (dIx (dVar 0) (dC (.int 0))) (dC (.str "part")))) (dSeq (dRet (dDiv (dIx (dVar 1) (dC (.int 0))) (dIx (dVar 0) (dC (.int 1))))) dNext) dNext) (dSeq (dIfS (dTst (dEq (dIx (dVar 0) (dC (.int 0))) (dC (.str "clip")))) (dSeq (dRet (dMin (dCons (dMax (dCons (dIx (dVar 1) (dC (.int 0))) (dCons (dIx (dVar 0) (dC (.int 1))) dNil))) (dCons (dIx (dVar 0) (dC (.int 2))) dNil)))) dNext) dNext) (dSeq (dIfS (dTst (dEq (dIx (dVar 0) (dC (.int 0))) (dC (.str "from")))) (dSeq (dRet (dMax (dCons (dC (.int 0)) (dCons (dSub (dIx (dVar 0) (dC (.int 1))) (dIx (dVar 1) (dC (.int 0)))) dNil)))) dNext) dNext) (dSeq (dIfS (dTst (dEq (dIx (dVar 0) (dC (.int 0))) (dC (.str "bar")))) (dSeq (dRet (dIf (dTst (dGe (dIx (dVar 1) (dC (.int 0))) (dIx (dVar 0) (dC (.int 1))))) (dIx (dVar 0) (dC (.int 3))) (dIx (dVar 0) (dC (.int 2))))) dNext) dNext) (dSeq (dRet (dIx (dIx (dVar 0) (dC (.int 1))) (dMin (dCons (dIx (dVar 1) (dC (.int 0))) (dCons (dSub (dLen (dCons (dIx (dVar 0) (dC (.int 1))) dNil)) (dC (.int 1))) dNil))))) dNext))))))))))

/- told_by: slots ['rule', 'heard', 'at', 'values', 'part', 'value'] -/
def w_told_by (r_parts_of : RL) (r_told_by : RL) (r_made : RL) : DS :=
  (dSeq (dIfS (dTst (dEq (dIx (dVar 0) (dC (.int 0))) (dC (.str "is")))) (dSeq (dRet (dTup (dCons (dIx (dVar 0) (dC (.int 1))) (dCons (dVar 2) dNil)))) dNext) dNext) (dSeq (dIfS (dTst (dEq (dIx (dVar 0) (dC (.int 0))) (dC (.str "hear")))) (dSeq (dRet (dTup (dCons (dIx (dVar 1) (dVar 2)) (dCons (dAdd (dVar 2) (dC (.int 1))) dNil)))) dNext) dNext) (dSeq (dNew 3) (dSeq (dFor (dItems (dCall r_parts_of (dCons (dVar 0) dNil))) (bName 4) (dSeq (dAsg (dCall r_told_by (dCons (dVar 4) (dCons (dVar 1) (dCons (dVar 2) dNil)))) (bTup (bCons (bName 5) (bCons (bName 2) bNil)))) (dSeq (dApp 3 (dVar 5)) dNext))) (dFreeze 3 (dSeq (dRet (dTup (dCons (dCall r_made (dCons (dVar 0) (dCons (dVar 3) dNil))) (dCons (dVar 2) dNil)))) dNext))))))

/- told: slots ['rule', 'heard'] -/
def w_told (r_told_by : RL) : DS :=
  (dSeq (dRet (dIx (dCall r_told_by (dCons (dVar 0) (dCons (dVar 1) (dCons (dC (.int 0)) dNil)))) (dC (.int 0)))) dNext)

/- are_tops: slots ['value', 'one'] -/
def w_are_tops (r_is_worth : RL) : DS :=
  (dSeq (dRet (dAndV (dIsi "tuple" (dVar 0)) (dAndV (dChain (rdB0 fun i j => decide (i ≤ j)) (rdB0 fun i j => decide (i ≤ j)) (dC (.int 1)) (dLen (dCons (dVar 0) dNil)) (dC (.int 20))) (dAll (dCons (dLc (dItems (dVar 0)) [1] (bName 1) dYes (dCall r_is_worth (dCons (dVar 1) dNil))) dNil))))) dNext)

/- are_rules: slots ['value', 'many', 'one', 'house'] -/
def w_are_rules (r_is_rule : RL) (r_branches : RL) : DS :=
  (dSeq (dIfS (dTOr (dTNot (dTst (dIsi "tuple" (dVar 0)))) (dTOr (dTst (dNe (dLen (dCons (dVar 0) dNil)) (dVar 1))) (dTNot (dTst (dAll (dCons (dLc (dItems (dVar 0)) [2] (bName 2) dYes (dCall r_is_rule (dCons (dVar 2) dNil))) dNil)))))) (dSeq (dRet (dC (.bl false))) dNext) dNext) (dSeq (dRet (dAll (dCons (dLc (dItems (dVar 0)) [2] (bName 2) dYes (dAll (dCons (dLc (dItems (dCall r_branches (dCons (dVar 2) dNil))) [3] (bName 3) dYes (dLt (dVar 3) (dVar 1))) dNil))) dNil))) dNext))

/- is_net: slots ['value'] -/
def w_is_net (r_are_tops : RL) (r_are_rules : RL) : DS :=
  (dSeq (dIfS (dTOr (dTNot (dTst (dIsi "tuple" (dVar 0)))) (dTOr (dTst (dNe (dLen (dCons (dVar 0) dNil)) (dC (.int 2)))) (dTNot (dTst (dCall r_are_tops (dCons (dIx (dVar 0) (dC (.int 0))) dNil)))))) (dSeq (dRet (dC (.bl false))) dNext) dNext) (dSeq (dRet (dCall r_are_rules (dCons (dIx (dVar 0) (dC (.int 1))) (dCons (dLen (dCons (dIx (dVar 0) (dC (.int 0))) dNil)) dNil)))) dNext))

/- wanted: slots ['net', 'house', 'heard'] -/
def w_wanted (r_told : RL) : DS :=
  (dSeq (dRet (dMin (dCons (dIx (dIx (dVar 0) (dC (.int 0))) (dVar 1)) (dCons (dCall r_told (dCons (dIx (dIx (dVar 0) (dC (.int 1))) (dVar 1)) (dCons (dVar 2) dNil))) dNil)))) dNext)

/- with_rule: slots ['net', 'house', 'rule'] -/
def w_with_rule  : DS :=
  (dSeq (dRet (dTup (dCons (dIx (dVar 0) (dC (.int 0))) (dCons (dStup (dSStar (dSl (dIx (dVar 0) (dC (.int 1))) dNoPart (dPart (dVar 1))) (dSCons (dVar 2) (dSStar (dSl (dIx (dVar 0) (dC (.int 1))) (dPart (dAdd (dVar 1) (dC (.int 1)))) dNoPart) dSNil)))) dNil)))) dNext)

/- entries_for: slots ['worths', 'low', 'high'] -/
def w_entries_for  : DS :=
  (dSeq (dRet (dSl (dVar 0) (dPart (dMin (dCons (dVar 1) (dCons (dSub (dLen (dCons (dVar 0) dNil)) (dC (.int 1))) dNil)))) (dPart (dAdd (dVar 2) (dC (.int 1)))))) dNext)

/- range_of: slots ['net', 'rule', 'inner', 'ends', 'some', 'part', 'low', 'high'] -/
def w_range_of (r_parts_of : RL) (r_range_of : RL) (r_entries_for : RL) (r_made : RL) : DS :=
  (dSeq (dIfS (dTst (dEq (dIx (dVar 1) (dC (.int 0))) (dC (.str "is")))) (dSeq (dRet (dTup (dCons (dIx (dVar 1) (dC (.int 1))) (dCons (dIx (dVar 1) (dC (.int 1))) dNil)))) dNext) dNext) (dSeq (dIfS (dTst (dEq (dIx (dVar 1) (dC (.int 0))) (dC (.str "hear")))) (dSeq (dRet (dTup (dCons (dC (.int 0)) (dCons (dIx (dIx (dVar 0) (dC (.int 0))) (dIx (dVar 1) (dC (.int 1)))) dNil)))) dNext) dNext) (dSeq (dSet 2 (dLc (dItems (dCall r_parts_of (dCons (dVar 1) dNil))) [5] (bName 5) dYes (dCall r_range_of (dCons (dVar 0) (dCons (dVar 5) dNil))))) (dSeq (dIfS (dTst (dEq (dIx (dVar 1) (dC (.int 0))) (dC (.str "row")))) (dSeq (dSet 4 (dCall r_entries_for (dCons (dIx (dVar 1) (dC (.int 1))) (dCons (dIx (dIx (dVar 2) (dC (.int 0))) (dC (.int 0))) (dCons (dIx (dIx (dVar 2) (dC (.int 0))) (dC (.int 1))) dNil))))) (dSeq (dRet (dTup (dCons (dMin (dCons (dVar 4) dNil)) (dCons (dMax (dCons (dVar 4) dNil)) dNil)))) dNext)) dNext) (dSeq (dSet 3 (dTup (dCons (dCall r_made (dCons (dVar 1) (dCons (dLc (dItems (dVar 2)) [6, 7] (bTup (bCons (bName 6) (bCons (bName 7) bNil))) dYes (dVar 6)) dNil))) (dCons (dCall r_made (dCons (dVar 1) (dCons (dLc (dItems (dVar 2)) [6, 7] (bTup (bCons (bName 6) (bCons (bName 7) bNil))) dYes (dVar 7)) dNil))) dNil)))) (dSeq (dRet (dTup (dCons (dMin (dCons (dVar 3) dNil)) (dCons (dMax (dCons (dVar 3) dNil)) dNil)))) dNext))))))

/- house_range: slots ['net', 'house', 'low', 'high'] -/
def w_house_range (r_range_of : RL) : DS :=
  (dSeq (dAsg (dCall r_range_of (dCons (dVar 0) (dCons (dIx (dIx (dVar 0) (dC (.int 1))) (dVar 1)) dNil))) (bTup (bCons (bName 2) (bCons (bName 3) bNil)))) (dSeq (dRet (dTup (dCons (dMin (dCons (dVar 2) (dCons (dIx (dIx (dVar 0) (dC (.int 0))) (dVar 1)) dNil))) (dCons (dMin (dCons (dVar 3) (dCons (dIx (dIx (dVar 0) (dC (.int 0))) (dVar 1)) dNil))) dNil)))) dNext))

/- is_rising_row: slots ['row', 'at'] -/
def w_is_rising_row  : DS :=
  (dSeq (dRet (dAll (dCons (dLc (dRange2 (dC (.int 1)) (dLen (dCons (dVar 0) dNil))) [1] (bName 1) dYes (dLe (dIx (dVar 0) (dSub (dVar 1) (dC (.int 1)))) (dIx (dVar 0) (dVar 1)))) dNil))) dNext)

/- turn_of: slots ['net', 'rule', 'some', 'low', 'high'] -/
def w_turn_of (r_range_of : RL) (r_entries_for : RL) (r_is_rising_row : RL) : DS :=
  (dSeq (dIfS (dTst (dEq (dIx (dVar 1) (dC (.int 0))) (dC (.str "row")))) (dSeq (dAsg (dCall r_range_of (dCons (dVar 0) (dCons (dIx (dVar 1) (dC (.int 2))) dNil))) (bTup (bCons (bName 3) (bCons (bName 4) bNil)))) (dSeq (dSet 2 (dCall r_entries_for (dCons (dIx (dVar 1) (dC (.int 1))) (dCons (dVar 3) (dCons (dVar 4) dNil))))) (dSeq (dIfS (dTst (dCall r_is_rising_row (dCons (dVar 2) dNil))) (dSeq (dRet (dC (.bl false))) dNext) dNext) (dSeq (dRet (dIf (dTst (dCall r_is_rising_row (dCons (dRev (dVar 2)) dNil))) (dC (.bl true)) (dC .non))) dNext)))) dNext) (dSeq (dRet (dOrV (dEq (dIx (dVar 1) (dC (.int 0))) (dC (.str "from"))) (dAndV (dEq (dIx (dVar 1) (dC (.int 0))) (dC (.str "bar"))) (dGt (dIx (dVar 1) (dC (.int 2))) (dIx (dVar 1) (dC (.int 3))))))) dNext))

/- words_within: slots ['net', 'rule', 'is_still', 'is_both', 'falls', 'still', 'part', 'low', 'high', 'turn', 'found'] -/
def w_words_within (r_range_of : RL) (r_turn_of : RL) (r_parts_of : RL) (r_words_within : RL) : DS :=
  (dSeq (dAsg (dCall r_range_of (dCons (dVar 0) (dCons (dVar 1) dNil))) (bTup (bCons (bName 7) (bCons (bName 8) bNil)))) (dSeq (dSet 5 (dOrV (dVar 2) (dEq (dVar 7) (dVar 8)))) (dSeq (dIfS (dTst (dEq (dIx (dVar 1) (dC (.int 0))) (dC (.str "hear")))) (dSeq (dRet (dLst (dCons (dIf (dTst (dVar 5)) (dC (.str "none")) (dIf (dTst (dVar 3)) (dC (.str "both")) (dIf (dTst (dVar 4)) (dC (.str "falls")) (dC (.str "rises"))))) dNil))) dNext) dNext) (dSeq (dParO2 9 10 (dCall r_turn_of (dCons (dVar 0) (dCons (dVar 1) dNil)))) (dSeq (dFor (dItems (dCall r_parts_of (dCons (dVar 1) dNil))) (bName 6) (dSeq (dExt 10 (dCall r_words_within (dCons (dVar 0) (dCons (dVar 6) (dCons (dVar 5) (dCons (dOrV (dVar 3) (dIsN (dVar 9) (dC .non))) (dCons (dNe (dVar 4) (dIsT (dVar 9) (dC (.bl true)))) dNil))))))) dNext)) (dFreeze 10 (dSeq (dRet (dVar 10)) dNext)))))))

/- ways: slots ['net', 'house', 'low', 'high'] -/
def w_ways (r_house_range : RL) (r_words_within : RL) : DS :=
  (dSeq (dAsg (dCall r_house_range (dCons (dVar 0) (dCons (dVar 1) dNil))) (bTup (bCons (bName 2) (bCons (bName 3) bNil)))) (dSeq (dRet (dTuple (dCons (dCall r_words_within (dCons (dVar 0) (dCons (dIx (dIx (dVar 0) (dC (.int 1))) (dVar 1)) (dCons (dEq (dVar 2) (dVar 3)) (dCons (dC (.bl false)) (dCons (dC (.bl false)) dNil)))))) dNil))) dNext))

/- are_one_way: slots ['net', 'house'] -/
def w_are_one_way (r_ways : RL) : DS :=
  (dSeq (dRet (dNotV (dAny (dCons (dLc (dRange1 (dLen (dCons (dIx (dVar 0) (dC (.int 0))) dNil))) [1] (bName 1) dYes (dIn (dC (.str "both")) (dCall r_ways (dCons (dVar 0) (dCons (dVar 1) dNil))))) dNil)))) dNext)

/- one_way: slots ['net', 'found', 'house', 'words'] -/
def w_one_way (r_ways : RL) : DS :=
  (dSeq (dSet 1 (dLc (dRange1 (dLen (dCons (dIx (dVar 0) (dC (.int 1))) dNil))) [2] (bName 2) dYes (dCall r_ways (dCons (dVar 0) (dCons (dVar 2) dNil))))) (dSeq (dFor (dEnum (dVar 1)) (bTup (bCons (bName 2) (bCons (bName 3) bNil))) (dSeq (dIfS (dTst (dIn (dC (.str "both")) (dVar 3))) (dSeq dNever dNext) dNext) dNext)) (dSeq (dRet (dVar 1)) dNext)))

/- stepped: slots ['net', 'found', 'ends', 'low', 'high', 'lows', 'highs', 'house', 'words'] -/
def w_stepped (r_heard_ends : RL) (r_wanted : RL) : DS :=
  (dSeq (dAsg (dVar 2) (bTup (bCons (bName 5) (bCons (bName 6) bNil)))) (dSeq (dSet 3 (dLc (dEnum (dVar 1)) [7, 8] (bTup (bCons (bName 7) (bCons (bName 8) bNil))) dYes (dCall r_wanted (dCons (dVar 0) (dCons (dVar 7) (dCons (dCall r_heard_ends (dCons (dVar 0) (dCons (dVar 7) (dCons (dVar 8) (dCons (dVar 5) (dCons (dVar 6) dNil)))))) dNil)))))) (dSeq (dSet 4 (dLc (dEnum (dVar 1)) [7, 8] (bTup (bCons (bName 7) (bCons (bName 8) bNil))) dYes (dCall r_wanted (dCons (dVar 0) (dCons (dVar 7) (dCons (dCall r_heard_ends (dCons (dVar 0) (dCons (dVar 7) (dCons (dVar 8) (dCons (dVar 6) (dCons (dVar 5) dNil)))))) dNil)))))) (dSeq (dRet (dTup (dCons (dTuple (dCons (dVar 3) dNil)) (dCons (dTuple (dCons (dVar 4) dNil)) dNil)))) dNext))))

/- next_ends: slots ['net', 'ends'] -/
def w_next_ends (r_one_way : RL) (r_stepped : RL) : DS :=
  (dSeq (dRet (dCall r_stepped (dCons (dVar 0) (dCons (dCall r_one_way (dCons (dVar 0) dNil)) (dCons (dVar 1) dNil))))) dNext)

/- hull: slots ['ends', 'others', 'lows', 'one', 'other'] -/
def w_hull  : DS :=
  (dSeq (dSet 2 (dTuple (dCons (dLc (dZip (dIx (dVar 0) (dC (.int 0))) (dIx (dVar 1) (dC (.int 0)))) [3, 4] (bTup (bCons (bName 3) (bCons (bName 4) bNil))) dYes (dMin (dCons (dVar 3) (dCons (dVar 4) dNil)))) dNil))) (dSeq (dRet (dTup (dCons (dVar 2) (dCons (dTuple (dCons (dLc (dZip (dIx (dVar 0) (dC (.int 1))) (dIx (dVar 1) (dC (.int 1)))) [3, 4] (bTup (bCons (bName 3) (bCons (bName 4) bNil))) dYes (dMax (dCons (dVar 3) (dCons (dVar 4) dNil)))) dNil)) dNil)))) dNext))

/- closed: slots ['net', 'ends', 'later'] -/
def w_closed (r_next_ends : RL) (r_hull : RL) : DS :=
  (dSeq (dSet 2 (dCall r_hull (dCons (dVar 1) (dCons (dCall r_next_ends (dCons (dVar 0) (dCons (dVar 1) dNil))) dNil)))) (dSeq (dWhile (dTst (dNeD (dVar 2) (dVar 1))) (dSeq (dSet 1 (dVar 2)) (dSeq (dSet 2 (dCall r_hull (dCons (dVar 1) (dCons (dCall r_next_ends (dCons (dVar 0) (dCons (dVar 1) dNil))) dNil)))) dNext))) (dSeq (dRet (dVar 1)) dNext)))

/- led: slots ['net', 'ends', 'rounds', 'found', 'later'] -/
def w_led (r_next_ends : RL) : DS :=
  (dSeq (dSet 3 (dC (.int 0))) (dSeq (dWhile (dTOr (dTst (dIsN (dVar 2) (dC .non))) (dTst (dLt (dVar 3) (dVar 2)))) (dSeq (dSet 4 (dCall r_next_ends (dCons (dVar 0) (dCons (dVar 1) dNil)))) (dSeq (dIfS (dTst (dEqD (dVar 4) (dVar 1))) (dSeq (dRet (dTup (dCons (dVar 1) (dCons (dVar 3) dNil)))) dNext) dNext) (dSeq (dPar 1 3 (dVar 4) (dAdd (dVar 3) (dC (.int 1)))) dNext)))) (dSeq (dRet (dTup (dCons (dVar 1) (dCons (dVar 3) dNil)))) dNext)))

/- known: slots ['life', 'net', 'd', 'ends', 'age'] -/
def w_known (r_led : RL) : DS :=
  (dSeq (dAsg (dVar 0) (bTup (bCons (bName 1) (bCons (bName 2) (bCons (bName 3) (bCons (bName 4) bNil)))))) (dSeq (dRet (dIx (dCall r_led (dCons (dVar 1) (dCons (dVar 3) (dCons (dDiv (dVar 4) (dVar 2)) dNil)))) (dC (.int 0)))) dNext))

/- rests_in: slots ['life', 'net', 'd', 'ends', 'age', 'last', 'rounds'] -/
def w_rests_in (r_led : RL) : DS :=
  (dSeq (dAsg (dVar 0) (bTup (bCons (bName 1) (bCons (bName 2) (bCons (bName 3) (bCons (bName 4) bNil)))))) (dSeq (dAsg (dCall r_led (dCons (dVar 1) (dCons (dVar 3) (dCons (dC .non) dNil)))) (bTup (bCons (bName 5) (bCons (bName 6) bNil)))) (dSeq (dRet (dIf (dTst (dEqD (dIx (dVar 5) (dC (.int 0))) (dIx (dVar 5) (dC (.int 1))))) (dMax (dCons (dC (.int 0)) (dCons (dSub (dMul (dVar 2) (dVar 6)) (dVar 4)) dNil))) (dC .non))) dNext)))

/- net_behind: slots ['net', 'change'] -/
def w_net_behind (r_with_rule : RL) : DS :=
  (dSeq (dIfS (dTst (dEq (dIx (dVar 1) (dC (.int 0))) (dC (.str "rule")))) (dSeq (dRet (dCall r_with_rule (dCons (dVar 0) (dCons (dIx (dVar 1) (dC (.int 1))) (dCons (dIx (dVar 1) (dC (.int 2))) dNil))))) dNext) dNext) (dSeq (dIfS (dTst (dEq (dIx (dVar 1) (dC (.int 0))) (dC (.str "house")))) (dSeq (dRet (dTup (dCons (dStup (dSStar (dIx (dVar 0) (dC (.int 0))) (dSCons (dIx (dVar 1) (dC (.int 1))) dSNil))) (dCons (dStup (dSStar (dIx (dVar 0) (dC (.int 1))) (dSCons (dIx (dVar 1) (dC (.int 2))) dSNil))) dNil)))) dNext) dNext) (dSeq (dRet (dVar 0)) dNext)))

/- is_sight: slots ['life', 'value', 'lows', 'highs'] -/
def w_is_sight (r_known : RL) (r_is_index : RL) (r_is_number : RL) : DS :=
  (dSeq (dAsg (dCall r_known (dCons (dVar 0) dNil)) (bTup (bCons (bName 2) (bCons (bName 3) bNil)))) (dSeq (dIfS (dTOr (dTNot (dTst (dCall r_is_index (dCons (dIx (dVar 1) (dC (.int 1))) (dCons (dLen (dCons (dVar 2) dNil)) dNil))))) (dTOr (dTNot (dTst (dCall r_is_number (dCons (dIx (dVar 1) (dC (.int 2))) dNil)))) (dTNot (dTst (dCall r_is_number (dCons (dIx (dVar 1) (dC (.int 3))) dNil)))))) (dSeq (dRet (dC (.bl false))) dNext) dNext) (dSeq (dRet (dLe (dMax (dCons (dIx (dVar 2) (dIx (dVar 1) (dC (.int 1)))) (dCons (dIx (dVar 1) (dC (.int 2))) dNil))) (dMin (dCons (dIx (dVar 3) (dIx (dVar 1) (dC (.int 1)))) (dCons (dIx (dVar 1) (dC (.int 3))) dNil))))) dNext)))

/- is_change: slots ['life', 'value', 'net'] -/
def w_is_change (r_is_word_of : RL) (r_is_row_of : RL) (r_is_index : RL) (r_is_sight : RL) (r_net_behind : RL) (r_is_net : RL) (r_are_one_way : RL) : DS :=
  (dSeq (dIfS (dTOr (dTNot (dTst (dIsi "tuple" (dVar 1)))) (dTOr (dTst (dEq (dLen (dCons (dVar 1) dNil)) (dC (.int 0)))) (dTNot (dTst (dCall r_is_word_of (dCons (dIx (dVar 1) (dC (.int 0))) (dCons (dC wordsD) dNil))))))) (dSeq (dRet (dC (.bl false))) dNext) dNext) (dSeq (dIfS (dTNot (dTst (dCall r_is_row_of (dCons (dVar 1) (dCons (dTup (dCons (dSizes (dIx (dVar 1) (dC (.int 0)))) dNil)) dNil))))) (dSeq (dRet (dC (.bl false))) dNext) dNext) (dSeq (dIfS (dTst (dEq (dIx (dVar 1) (dC (.int 0))) (dC (.str "wait")))) (dSeq (dRet (dCall r_is_index (dCons (dIx (dVar 1) (dC (.int 1))) (dCons (dAdd (dC (.int 10000)) (dC (.int 1))) dNil)))) dNext) dNext) (dSeq (dIfS (dTst (dEq (dIx (dVar 1) (dC (.int 0))) (dC (.str "seen")))) (dSeq (dRet (dCall r_is_sight (dCons (dVar 0) (dCons (dVar 1) dNil)))) dNext) dNext) (dSeq (dIfS (dTAnd (dTst (dEq (dIx (dVar 1) (dC (.int 0))) (dC (.str "rule")))) (dTNot (dTst (dCall r_is_index (dCons (dIx (dVar 1) (dC (.int 1))) (dCons (dLen (dCons (dIx (dIx (dVar 0) (dC (.int 0))) (dC (.int 0))) dNil)) dNil)))))) (dSeq (dRet (dC (.bl false))) dNext) dNext) (dSeq (dSet 2 (dCall r_net_behind (dCons (dIx (dVar 0) (dC (.int 0))) (dCons (dVar 1) dNil)))) (dSeq (dRet (dAndV (dCall r_is_net (dCons (dVar 2) dNil)) (dCall r_are_one_way (dCons (dVar 2) dNil)))) dNext)))))))

/- placed: slots ['row', 'at', 'value'] -/
def w_placed  : DS :=
  (dSeq (dRet (dStup (dSStar (dSl (dVar 0) dNoPart (dPart (dVar 1))) (dSCons (dVar 2) (dSStar (dSl (dVar 0) (dPart (dAdd (dVar 1) (dC (.int 1)))) dNoPart) dSNil))))) dNext)

/- changed: slots ['life', 'change', 'net', 'lows', 'highs', 'house', 'low', 'high'] -/
def w_changed (r_is_change : RL) (r_known : RL) (r_net_behind : RL) (r_placed : RL) (r_closed : RL) : DS :=
  (dSeq (dIfS (dTNot (dTst (dCall r_is_change (dCons (dVar 0) (dCons (dVar 1) dNil))))) (dSeq dNever dNext) dNext) (dSeq (dIfS (dTst (dEq (dIx (dVar 1) (dC (.int 0))) (dC (.str "wait")))) (dSeq (dRet (dStup (dSStar (dSl (dVar 0) dNoPart (dPart (dC (.int 3)))) (dSCons (dAdd (dIx (dVar 0) (dC (.int 3))) (dIx (dVar 1) (dC (.int 1)))) dSNil)))) dNext) dNext) (dSeq (dAsg (dTup (dCons (dCall r_net_behind (dCons (dIx (dVar 0) (dC (.int 0))) (dCons (dVar 1) dNil))) (dCons (dCall r_known (dCons (dVar 0) dNil)) dNil))) (bTup (bCons (bName 2) (bCons (bTup (bCons (bName 3) (bCons (bName 4) bNil))) bNil)))) (dSeq (dIfS (dTst (dEq (dIx (dVar 1) (dC (.int 0))) (dC (.str "house")))) (dSeq (dPar 3 4 (dStup (dSStar (dVar 3) (dSCons (dC (.int 0)) dSNil))) (dStup (dSStar (dVar 4) (dSCons (dIx (dVar 1) (dC (.int 1))) dSNil)))) dNext) dNext) (dSeq (dIfS (dTst (dEq (dIx (dVar 1) (dC (.int 0))) (dC (.str "seen")))) (dSeq (dAsg (dSl (dVar 1) (dPart (dC (.int 1))) dNoPart) (bTup (bCons (bName 5) (bCons (bName 6) (bCons (bName 7) bNil))))) (dSeq (dPar 3 4 (dCall r_placed (dCons (dVar 3) (dCons (dVar 5) (dCons (dMax (dCons (dIx (dVar 3) (dVar 5)) (dCons (dVar 6) dNil))) dNil)))) (dCall r_placed (dCons (dVar 4) (dCons (dVar 5) (dCons (dMin (dCons (dIx (dVar 4) (dVar 5)) (dCons (dVar 7) dNil))) dNil))))) dNext)) dNext) (dSeq (dRet (dTup (dCons (dVar 2) (dCons (dIx (dVar 0) (dC (.int 1))) (dCons (dCall r_closed (dCons (dVar 2) (dCons (dTup (dCons (dVar 3) (dCons (dVar 4) dNil))) dNil))) (dCons (dC (.int 0)) dNil)))))) dNext))))))

end NB

/-! WL -/
set_option Elab.async false
set_option linter.all false
set_option maxRecDepth 100000
namespace NB
open PySem PySem.Spec PyProof.Rows L2
/- _law_of: slots ['_law_deal', '_law_some'] -/
def w_law_of (r_law_any : RL) : DS :=
  (dSeq (dRet (dIx (dVar 1) (dCall r_law_any (dCons (dVar 0) (dCons (dLen (dCons (dVar 1) dNil)) dNil))))) dNext)

/- _law_rule: slots ['_law_deal', '_law_n', '_law_top', '_law_deep', '_law_any_row', '_law_form', '_law_inner', '_law_parts_here', '_law_low', '_law_row', '_law_turn_here'] -/
def w_law_rule (r_law_any : RL) (r_law_rule : RL) (r_law_of : RL) : DS :=
  (dSeq (dSet 5 (dIf (dTst (dGt (dVar 3) (dC (.int 0)))) (dCall r_law_any (dCons (dVar 0) (dCons (dC (.int 14)) dNil))) (dCall r_law_any (dCons (dVar 0) (dCons (dC (.int 4)) dNil))))) (dSeq (dIfS (dTst (dEq (dVar 5) (dC (.int 0)))) (dSeq (dRet (dTup (dCons (dC (.str "is")) (dCons (dCall r_law_any (dCons (dVar 0) (dCons (dAdd (dVar 2) (dC (.int 1))) dNil))) dNil)))) dNext) dNext) (dSeq (dIfS (dTst (dLt (dVar 5) (dC (.int 4)))) (dSeq (dRet (dTup (dCons (dC (.str "hear")) (dCons (dCall r_law_any (dCons (dVar 0) (dCons (dVar 1) dNil))) dNil)))) dNext) dNext) (dSeq (dIfS (dTst (dLt (dVar 5) (dC (.int 8)))) (dSeq (dSet 7 (dTuple (dCons (dLc (dRange1 (dAdd (dC (.int 1)) (dCall r_law_any (dCons (dVar 0) (dCons (dC (.int 2)) dNil))))) [10] (bName 10) dYes (dCall r_law_rule (dCons (dVar 0) (dCons (dVar 1) (dCons (dVar 2) (dCons (dSub (dVar 3) (dC (.int 1))) (dCons (dVar 4) dNil))))))) dNil))) (dSeq (dRet (dTup (dCons (dCall r_law_of (dCons (dVar 0) (dCons (dLst (dCons (dC (.str "least")) (dCons (dC (.str "most")) (dCons (dC (.str "add")) dNil)))) dNil))) (dCons (dVar 7) dNil)))) dNext)) dNext) (dSeq (dIfS (dTAnd (dTst (dEq (dVar 5) (dC (.int 8)))) (dTst (dEq (dVar 3) (dC (.int 1))))) (dSeq (dRet (dCat (dTup (dCons (dC (.str "middle")) dNil)) (dTuple (dCons (dLc (dRange1 (dC (.int 3))) [10] (bName 10) dYes (dCall r_law_rule (dCons (dVar 0) (dCons (dVar 1) (dCons (dVar 2) (dCons (dC (.int 0)) (dCons (dVar 4) dNil))))))) dNil)))) dNext) dNext) (dSeq (dSet 6 (dCall r_law_rule (dCons (dVar 0) (dCons (dVar 1) (dCons (dVar 2) (dCons (dSub (dVar 3) (dC (.int 1))) (dCons (dVar 4) dNil))))))) (dSeq (dIfS (dTst (dEq (dVar 5) (dC (.int 9)))) (dSeq (dRet (dTup (dCons (dC (.str "times")) (dCons (dCall r_law_any (dCons (dVar 0) (dCons (dC (.int 3)) dNil))) (dCons (dVar 6) dNil))))) dNext) dNext) (dSeq (dIfS (dTst (dEq (dVar 5) (dC (.int 10)))) (dSeq (dRet (dTup (dCons (dC (.str "part")) (dCons (dAdd (dC (.int 1)) (dCall r_law_any (dCons (dVar 0) (dCons (dC (.int 3)) dNil)))) (dCons (dVar 6) dNil))))) dNext) dNext) (dSeq (dIfS (dTst (dEq (dVar 5) (dC (.int 11)))) (dSeq (dSet 8 (dCall r_law_any (dCons (dVar 0) (dCons (dAdd (dVar 2) (dC (.int 1))) dNil)))) (dSeq (dRet (dTup (dCons (dC (.str "clip")) (dCons (dVar 8) (dCons (dAdd (dVar 8) (dCall r_law_any (dCons (dVar 0) (dCons (dC (.int 3)) dNil)))) (dCons (dVar 6) dNil)))))) dNext)) dNext) (dSeq (dIfS (dTst (dEq (dVar 5) (dC (.int 12)))) (dSeq (dRet (dTup (dCons (dC (.str "bar")) (dCons (dCall r_law_any (dCons (dVar 0) (dCons (dAdd (dVar 2) (dC (.int 2))) dNil))) (dCons (dCall r_law_any (dCons (dVar 0) (dCons (dAdd (dVar 2) (dC (.int 1))) dNil))) (dCons (dCall r_law_any (dCons (dVar 0) (dCons (dAdd (dVar 2) (dC (.int 1))) dNil))) (dCons (dVar 6) dNil))))))) dNext) dNext) (dSeq (dIfS (dTst (dEq (dVar 5) (dC (.int 13)))) (dSeq (dSet 9 (dLc (dRange1 (dAdd (dC (.int 1)) (dCall r_law_any (dCons (dVar 0) (dCons (dAdd (dVar 2) (dC (.int 1))) dNil))))) [10] (bName 10) dYes (dCall r_law_any (dCons (dVar 0) (dCons (dAdd (dVar 2) (dC (.int 1))) dNil))))) (dSeq (dRet (dTup (dCons (dC (.str "row")) (dCons (dTuple (dCons (dIf (dTst (dVar 4)) (dVar 9) (dSorted (dCons (dVar 9) dNil))) dNil)) (dCons (dVar 6) dNil))))) dNext)) dNext) (dSeq (dRet (dTup (dCons (dC (.str "from")) (dCons (dCall r_law_any (dCons (dVar 0) (dCons (dAdd (dVar 2) (dC (.int 2))) dNil))) (dCons (dVar 6) dNil))))) dNext))))))))))))

/- _law_net: slots ['_law_deal', '_law_most', '_law_top', '_law_any_row', '_law_n', '_law_tops', '_law_house'] -/
def w_law_net (r_law_any : RL) (r_law_rule : RL) : DS :=
  (dSeq (dSet 4 (dAdd (dC (.int 1)) (dCall r_law_any (dCons (dVar 0) (dCons (dVar 1) dNil))))) (dSeq (dSet 5 (dTuple (dCons (dLc (dRange1 (dVar 4)) [6] (bName 6) dYes (dAdd (dC (.int 1)) (dCall r_law_any (dCons (dVar 0) (dCons (dVar 2) dNil))))) dNil))) (dSeq (dRet (dTup (dCons (dVar 5) (dCons (dTuple (dCons (dLc (dRange1 (dVar 4)) [6] (bName 6) dYes (dCall r_law_rule (dCons (dVar 0) (dCons (dVar 4) (dCons (dVar 2) (dCons (dCall r_law_any (dCons (dVar 0) (dCons (dC (.int 4)) dNil))) (dCons (dVar 3) dNil))))))) dNil)) dNil)))) dNext)))

/- _law_parts: slots ['_law_rule_here'] -/
def w_law_parts  : DS :=
  (dSeq (dIfS (dTst (dIn (dIx (dVar 0) (dC (.int 0))) (dLst (dCons (dC (.str "is")) (dCons (dC (.str "hear")) dNil))))) (dSeq (dRet (dLst dNil)) dNext) dNext) (dSeq (dIfS (dTst (dIn (dIx (dVar 0) (dC (.int 0))) (dLst (dCons (dC (.str "least")) (dCons (dC (.str "most")) (dCons (dC (.str "add")) dNil)))))) (dSeq (dRet (dList (dCons (dIx (dVar 0) (dC (.int 1))) dNil))) dNext) dNext) (dSeq (dRet (dIf (dTst (dEq (dIx (dVar 0) (dC (.int 0))) (dC (.str "middle")))) (dList (dCons (dSl (dVar 0) (dPart (dC (.int 1))) dNoPart) dNil)) (dLst (dCons (dIx (dVar 0) (dNeg (dC (.int 1)))) dNil)))) dNext)))

/- _law_branches: slots ['_law_rule_here', '_law_found', '_law_part'] -/
def w_law_branches (r_law_parts : RL) (r_law_branches : RL) : DS :=
  (dSeq (dSet 1 (dIf (dTst (dEq (dIx (dVar 0) (dC (.int 0))) (dC (.str "hear")))) (dLst (dCons (dIx (dVar 0) (dC (.int 1))) dNil)) (dLst dNil))) (dSeq (dFor (dItems (dCall r_law_parts (dCons (dVar 0) dNil))) (bName 2) (dSeq (dSet 1 (dCat (dVar 1) (dCall r_law_branches (dCons (dVar 2) dNil)))) dNext)) (dSeq (dRet (dVar 1)) dNext)))

/- _law_made: slots ['_law_rule_here', '_law_some', '_law_word', '_law_a'] -/
def w_law_made  : DS :=
  (dSeq (dPar 2 3 (dIx (dVar 0) (dC (.int 0))) (dIx (dVar 1) (dC (.int 0)))) (dSeq (dIfS (dTst (dIn (dVar 2) (dLst (dCons (dC (.str "least")) (dCons (dC (.str "most")) (dCons (dC (.str "add")) (dCons (dC (.str "middle")) dNil))))))) (dSeq (dRet (dIf (dTst (dEq (dVar 2) (dC (.str "least")))) (dMin (dCons (dVar 1) dNil)) (dIf (dTst (dEq (dVar 2) (dC (.str "most")))) (dMax (dCons (dVar 1) dNil)) (dIf (dTst (dEq (dVar 2) (dC (.str "add")))) (dSum (dCons (dVar 1) dNil)) (dIx (dSorted (dCons (dVar 1) dNil)) (dC (.int 1))))))) dNext) dNext) (dSeq (dIfS (dTst (dIn (dVar 2) (dLst (dCons (dC (.str "times")) (dCons (dC (.str "part")) dNil))))) (dSeq (dRet (dIf (dTst (dEq (dVar 2) (dC (.str "times")))) (dMul (dIx (dVar 0) (dC (.int 1))) (dVar 3)) (dDiv (dVar 3) (dIx (dVar 0) (dC (.int 1)))))) dNext) dNext) (dSeq (dIfS (dTst (dEq (dVar 2) (dC (.str "clip")))) (dSeq (dRet (dIf (dTst (dLt (dVar 3) (dIx (dVar 0) (dC (.int 1))))) (dIx (dVar 0) (dC (.int 1))) (dIf (dTst (dGt (dVar 3) (dIx (dVar 0) (dC (.int 2))))) (dIx (dVar 0) (dC (.int 2))) (dVar 3)))) dNext) dNext) (dSeq (dIfS (dTst (dEq (dVar 2) (dC (.str "from")))) (dSeq (dRet (dIf (dTst (dLt (dVar 3) (dIx (dVar 0) (dC (.int 1))))) (dSub (dIx (dVar 0) (dC (.int 1))) (dVar 3)) (dC (.int 0)))) dNext) dNext) (dSeq (dIfS (dTst (dEq (dVar 2) (dC (.str "bar")))) (dSeq (dRet (dIf (dTst (dGe (dVar 3) (dIx (dVar 0) (dC (.int 1))))) (dIx (dVar 0) (dC (.int 3))) (dIx (dVar 0) (dC (.int 2))))) dNext) dNext) (dSeq (dRet (dIf (dTst (dLt (dVar 3) (dLen (dCons (dIx (dVar 0) (dC (.int 1))) dNil)))) (dIx (dIx (dVar 0) (dC (.int 1))) (dVar 3)) (dIx (dIx (dVar 0) (dC (.int 1))) (dNeg (dC (.int 1)))))) dNext)))))))

/- _law_told: slots ['_law_rule_here', '_law_heard', '_law_part', '_law_some', '_law_at', '_law_many'] -/
def w_law_told (r_law_parts : RL) (r_law_branches : RL) (r_law_told : RL) (r_law_made : RL) : DS :=
  (dSeq (dIfS (dTst (dIn (dIx (dVar 0) (dC (.int 0))) (dLst (dCons (dC (.str "is")) (dCons (dC (.str "hear")) dNil))))) (dSeq (dRet (dIf (dTst (dEq (dIx (dVar 0) (dC (.int 0))) (dC (.str "is")))) (dIx (dVar 0) (dC (.int 1))) (dIx (dVar 1) (dC (.int 0))))) dNext) dNext) (dSeq (dParO1 3 4 (dC (.int 0))) (dSeq (dFor (dItems (dCall r_law_parts (dCons (dVar 0) dNil))) (bName 2) (dSeq (dSet 5 (dLen (dCons (dCall r_law_branches (dCons (dVar 2) dNil)) dNil))) (dSeq (dApp 3 (dCall r_law_told (dCons (dVar 2) (dCons (dSl (dVar 1) (dPart (dVar 4)) (dPart (dAdd (dVar 4) (dVar 5)))) dNil)))) (dSeq (dSet 4 (dAdd (dVar 4) (dVar 5))) dNext)))) (dFreeze 3 (dSeq (dRet (dCall r_law_made (dCons (dVar 0) (dCons (dVar 3) dNil)))) dNext)))))

/- _law_wants: slots ['_law_net_here', '_law_house', '_law_heard'] -/
def w_law_wants (r_law_told : RL) : DS :=
  (dSeq (dRet (dMin (dCons (dIx (dIx (dVar 0) (dC (.int 0))) (dVar 1)) (dCons (dCall r_law_told (dCons (dIx (dIx (dVar 0) (dC (.int 1))) (dVar 1)) (dCons (dList (dCons (dVar 2) dNil)) dNil))) dNil)))) dNext)

/- _law_entries: slots ['_law_worths', '_law_low', '_law_high', '_law_at'] -/
def w_law_entries  : DS :=
  (dSeq (dRet (dLc (dRange1 (dLen (dCons (dVar 0) dNil))) [3] (bName 3) (dTOr (dTst (dChain (rdB0 fun i j => decide (i ≤ j)) (rdB0 fun i j => decide (i ≤ j)) (dVar 1) (dVar 3) (dVar 2))) (dTAnd (dTst (dEq (dVar 3) (dSub (dLen (dCons (dVar 0) dNil)) (dC (.int 1))))) (dTst (dGt (dVar 1) (dVar 3))))) (dIx (dVar 0) (dVar 3)))) dNext)

/- _law_range: slots ['_law_net_here', '_law_rule_here', '_law_inner', '_law_some', '_law_part', '_law_end', '_law_one'] -/
def w_law_range (r_law_parts : RL) (r_law_range : RL) (r_law_entries : RL) (r_law_made : RL) : DS :=
  (dSeq (dIfS (dTst (dEq (dIx (dVar 1) (dC (.int 0))) (dC (.str "is")))) (dSeq (dRet (dTup (dCons (dIx (dVar 1) (dC (.int 1))) (dCons (dIx (dVar 1) (dC (.int 1))) dNil)))) dNext) dNext) (dSeq (dIfS (dTst (dEq (dIx (dVar 1) (dC (.int 0))) (dC (.str "hear")))) (dSeq (dRet (dTup (dCons (dC (.int 0)) (dCons (dIx (dIx (dVar 0) (dC (.int 0))) (dIx (dVar 1) (dC (.int 1)))) dNil)))) dNext) dNext) (dSeq (dSet 2 (dLc (dItems (dCall r_law_parts (dCons (dVar 1) dNil))) [4] (bName 4) dYes (dCall r_law_range (dCons (dVar 0) (dCons (dVar 4) dNil))))) (dSeq (dIfS (dTst (dEq (dIx (dVar 1) (dC (.int 0))) (dC (.str "row")))) (dSeq (dSet 3 (dCall r_law_entries (dCons (dIx (dVar 1) (dC (.int 1))) (dCons (dIx (dIx (dVar 2) (dC (.int 0))) (dC (.int 0))) (dCons (dIx (dIx (dVar 2) (dC (.int 0))) (dC (.int 1))) dNil))))) dNext) (dSeq (dSet 3 (dLc (dItems (dLst (dCons (dC (.int 0)) (dCons (dC (.int 1)) dNil)))) [5] (bName 5) dYes (dCall r_law_made (dCons (dVar 1) (dCons (dLc (dItems (dVar 2)) [6] (bName 6) dYes (dIx (dVar 6) (dVar 5))) dNil))))) dNext)) (dSeq (dRet (dTup (dCons (dMin (dCons (dVar 3) dNil)) (dCons (dMax (dCons (dVar 3) dNil)) dNil)))) dNext)))))

/- _law_turn: slots ['_law_net_here', '_law_rule_here', '_law_some', '_law_steps', '_law_low', '_law_high', '_law_up', '_law_down', '_law_at', '_law_step'] -/
def w_law_turn (r_law_range : RL) (r_law_entries : RL) : DS :=
  (dSeq (dIfS (dTOr (dTst (dEq (dIx (dVar 1) (dC (.int 0))) (dC (.str "from")))) (dTAnd (dTst (dEq (dIx (dVar 1) (dC (.int 0))) (dC (.str "bar")))) (dTst (dGt (dIx (dVar 1) (dC (.int 2))) (dIx (dVar 1) (dC (.int 3))))))) (dSeq (dRet (dNeg (dC (.int 1)))) dNext) dNext) (dSeq (dIfS (dTst (dNe (dIx (dVar 1) (dC (.int 0))) (dC (.str "row")))) (dSeq (dRet (dC (.int 1))) dNext) dNext) (dSeq (dAsg (dCall r_law_range (dCons (dVar 0) (dCons (dIx (dVar 1) (dC (.int 2))) dNil))) (bTup (bCons (bName 4) (bCons (bName 5) bNil)))) (dSeq (dSet 2 (dCall r_law_entries (dCons (dIx (dVar 1) (dC (.int 1))) (dCons (dVar 4) (dCons (dVar 5) dNil))))) (dSeq (dSet 3 (dLc (dRange2 (dC (.int 1)) (dLen (dCons (dVar 2) dNil))) [8] (bName 8) dYes (dSub (dIx (dVar 2) (dVar 8)) (dIx (dVar 2) (dSub (dVar 8) (dC (.int 1))))))) (dSeq (dPar 6 7 (dNeD (dLc (dItems (dVar 3)) [9] (bName 9) (dTst (dGt (dVar 9) (dC (.int 0)))) (dVar 9)) (dLst dNil)) (dNeD (dLc (dItems (dVar 3)) [9] (bName 9) (dTst (dLt (dVar 9) (dC (.int 0)))) (dVar 9)) (dLst dNil))) (dSeq (dRet (dIf (dTAnd (dTst (dVar 6)) (dTst (dVar 7))) (dC (.int 0)) (dIf (dTst (dVar 7)) (dNeg (dC (.int 1))) (dC (.int 1))))) dNext)))))))

/- _law_words: slots ['_law_net_here', '_law_rule_here', '_law_still', '_law_sign', '_law_found', '_law_part', '_law_low', '_law_high'] -/
def w_law_words (r_law_range : RL) (r_law_parts : RL) (r_law_turn : RL) (r_law_words : RL) : DS :=
  (dSeq (dAsg (dCall r_law_range (dCons (dVar 0) (dCons (dVar 1) dNil))) (bTup (bCons (bName 6) (bCons (bName 7) bNil)))) (dSeq (dSet 2 (dOrV (dVar 2) (dEq (dVar 6) (dVar 7)))) (dSeq (dIfS (dTst (dEq (dIx (dVar 1) (dC (.int 0))) (dC (.str "hear")))) (dSeq (dRet (dLst (dCons (dIf (dTst (dVar 2)) (dC (.str "none")) (dIf (dTst (dEq (dVar 3) (dC (.int 0)))) (dC (.str "both")) (dIf (dTst (dLt (dVar 3) (dC (.int 0)))) (dC (.str "falls")) (dC (.str "rises"))))) dNil))) dNext) dNext) (dSeq (dNew 4) (dFreeze 4 (dSeq (dFor (dItems (dCall r_law_parts (dCons (dVar 1) dNil))) (bName 5) (dSeq (dSet 4 (dCat (dVar 4) (dCall r_law_words (dCons (dVar 0) (dCons (dVar 5) (dCons (dVar 2) (dCons (dMul (dVar 3) (dCall r_law_turn (dCons (dVar 0) (dCons (dVar 1) dNil)))) dNil))))))) dNext)) (dSeq (dRet (dVar 4)) dNext)))))))

/- _law_ways: slots ['_law_net_here', '_law_house', '_law_low', '_law_high'] -/
def w_law_ways (r_law_range : RL) (r_law_words : RL) : DS :=
  (dSeq (dAsg (dCall r_law_range (dCons (dVar 0) (dCons (dIx (dIx (dVar 0) (dC (.int 1))) (dVar 1)) dNil))) (bTup (bCons (bName 2) (bCons (bName 3) bNil)))) (dSeq (dRet (dCall r_law_words (dCons (dVar 0) (dCons (dIx (dIx (dVar 0) (dC (.int 1))) (dVar 1)) (dCons (dEq (dMin (dCons (dVar 2) (dCons (dIx (dIx (dVar 0) (dC (.int 0))) (dVar 1)) dNil))) (dMin (dCons (dVar 3) (dCons (dIx (dIx (dVar 0) (dC (.int 0))) (dVar 1)) dNil)))) (dCons (dC (.int 1)) dNil)))))) dNext))

/- _law_all_words: slots ['_law_net_here', '_law_house'] -/
def w_law_all_words (r_law_ways : RL) : DS :=
  (dSeq (dRet (dLc (dRange1 (dLen (dCons (dIx (dVar 0) (dC (.int 1))) dNil))) [1] (bName 1) dYes (dCall r_law_ways (dCons (dVar 0) (dCons (dVar 1) dNil))))) dNext)

/- _law_next_ends: slots ['_law_net_here', '_law_words_here', '_law_ends', '_law_found', '_law_near', '_law_far', '_law_row', '_law_house', '_law_heard', '_law_pairs', '_law_at', '_law_one', '_law_word'] -/
def w_law_next_ends (r_law_branches : RL) (r_law_wants : RL) : DS :=
  (dSeq (dNew 3) (dSeq (dFor (dItems (dLst (dCons (dVar 2) (dCons (dRev (dVar 2)) dNil)))) (bTup (bCons (bName 4) (bCons (bName 5) bNil))) (dSeq (dNew 6) (dSeq (dFor (dRange1 (dLen (dCons (dIx (dVar 0) (dC (.int 1))) dNil))) (bName 7) (dSeq (dSet 8 (dCall r_law_branches (dCons (dIx (dIx (dVar 0) (dC (.int 1))) (dVar 7)) dNil))) (dSeq (dSet 9 (dLc (dRange1 (dLen (dCons (dVar 8) dNil))) [10] (bName 10) dYes (dTup (dCons (dIx (dVar 8) (dVar 10)) (dCons (dIx (dIx (dVar 1) (dVar 7)) (dVar 10)) dNil))))) (dSeq (dApp 6 (dCall r_law_wants (dCons (dVar 0) (dCons (dVar 7) (dCons (dLc (dItems (dVar 9)) [11, 12] (bTup (bCons (bName 11) (bCons (bName 12) bNil))) dYes (dIf (dTst (dEq (dVar 12) (dC (.str "falls")))) (dIx (dVar 5) (dVar 11)) (dIx (dVar 4) (dVar 11)))) dNil))))) dNext)))) (dFreeze 6 (dSeq (dApp 3 (dTuple (dCons (dVar 6) dNil))) dNext))))) (dFreeze 3 (dSeq (dRet (dTuple (dCons (dVar 3) dNil))) dNext))))

/- _law_led: slots ['_law_net_here', '_law_words_here', '_law_ends', '_law_rounds_here', '_law_found', '_law_fresh', '_law_later'] -/
def w_law_led (r_law_next_ends : RL) : DS :=
  (dSeq (dAsg (dTup (dCons (dC (.int 0)) (dCons (dC (.bl true)) dNil))) (bTup (bCons (bName 4) (bCons (bName 5) bNil)))) (dSeq (dWhile (dTAnd (dTst (dVar 5)) (dTOr (dTst (dIsN (dVar 3) (dC .non))) (dTst (dLt (dVar 4) (dVar 3))))) (dSeq (dSet 6 (dCall r_law_next_ends (dCons (dVar 0) (dCons (dVar 1) (dCons (dVar 2) dNil))))) (dSeq (dSet 5 (dNeD (dVar 6) (dVar 2))) (dSeq (dPar 2 4 (dVar 6) (dAdd (dVar 4) (dIf (dTst (dVar 5)) (dC (.int 1)) (dC (.int 0))))) dNext)))) (dSeq (dRet (dTup (dCons (dVar 2) (dCons (dVar 4) dNil)))) dNext)))

/- _law_closed: slots ['_law_net_here', '_law_words_here', '_law_ends', '_law_fresh', '_law_later', '_law_lows', '_law_wide', '_law_one', '_law_other'] -/
def w_law_closed (r_law_next_ends : RL) : DS :=
  (dSeq (dSet 3 (dC (.bl true))) (dSeq (dWhile (dTst (dVar 3)) (dSeq (dSet 4 (dCall r_law_next_ends (dCons (dVar 0) (dCons (dVar 1) (dCons (dVar 2) dNil))))) (dSeq (dSet 5 (dTuple (dCons (dLc (dZip (dIx (dVar 2) (dC (.int 0))) (dIx (dVar 4) (dC (.int 0)))) [7, 8] (bTup (bCons (bName 7) (bCons (bName 8) bNil))) dYes (dMin (dCons (dVar 7) (dCons (dVar 8) dNil)))) dNil))) (dSeq (dSet 6 (dTup (dCons (dVar 5) (dCons (dTuple (dCons (dLc (dZip (dIx (dVar 2) (dC (.int 1))) (dIx (dVar 4) (dC (.int 1)))) [7, 8] (bTup (bCons (bName 7) (bCons (bName 8) bNil))) dYes (dMax (dCons (dVar 7) (dCons (dVar 8) dNil)))) dNil)) dNil)))) (dSeq (dSet 3 (dNeD (dVar 6) (dVar 2))) (dSeq (dSet 2 (dVar 6)) dNext)))))) (dSeq (dRet (dVar 2)) dNext)))

/- _law_life: slots ['_law_deal', '_law_most', '_law_top', '_law_highs', '_law_wide', '_law_net_here', '_law_d', '_law_words_here', '_law_lows', '_law_one', '_law_low'] -/
def w_law_life (r_law_net : RL) (r_law_any : RL) (r_law_all_words : RL) (r_law_closed : RL) : DS :=
  (dSeq (dPar 5 6 (dCall r_law_net (dCons (dVar 0) (dCons (dVar 1) (dCons (dVar 2) (dCons (dC (.bl false)) dNil))))) (dAdd (dC (.int 2)) (dCall r_law_any (dCons (dVar 0) (dCons (dC (.int 8)) dNil))))) (dSeq (dPar 7 8 (dCall r_law_all_words (dCons (dVar 5) dNil)) (dTuple (dCons (dLc (dItems (dIx (dVar 5) (dC (.int 0)))) [9] (bName 9) dYes (dCall r_law_any (dCons (dVar 0) (dCons (dAdd (dVar 9) (dC (.int 1))) dNil)))) dNil))) (dSeq (dSet 3 (dTuple (dCons (dLc (dZip (dVar 8) (dIx (dVar 5) (dC (.int 0)))) [10, 9] (bTup (bCons (bName 10) (bCons (bName 9) bNil))) dYes (dAdd (dVar 10) (dCall r_law_any (dCons (dVar 0) (dCons (dAdd (dSub (dVar 9) (dVar 10)) (dC (.int 1))) dNil))))) dNil))) (dSeq (dSet 4 (dIf (dTst (dEq (dCall r_law_any (dCons (dVar 0) (dCons (dC (.int 3)) dNil))) (dC (.int 0)))) (dTup (dCons (dRepT (dTup (dCons (dC (.int 0)) dNil)) (dLen (dCons (dVar 8) dNil))) (dCons (dIx (dVar 5) (dC (.int 0))) dNil))) (dTup (dCons (dVar 8) (dCons (dVar 3) dNil))))) (dSeq (dRet (dTup (dCons (dVar 5) (dCons (dVar 6) (dCons (dCall r_law_closed (dCons (dVar 5) (dCons (dVar 7) (dCons (dVar 4) dNil)))) (dCons (dCall r_law_any (dCons (dVar 0) (dCons (dMul (dC (.int 3)) (dVar 6)) dNil))) dNil)))))) dNext)))))

/- _law_some_change: slots ['_law_deal', '_law_life_here', '_law_rule_here', '_law_low', '_law_net_here', '_law_n', '_law_form'] -/
def w_law_some_change (r_law_any : RL) (r_law_rule : RL) : DS :=
  (dSeq (dPar3 4 5 6 (dIx (dVar 1) (dC (.int 0))) (dLen (dCons (dIx (dIx (dVar 1) (dC (.int 0))) (dC (.int 0))) dNil)) (dCall r_law_any (dCons (dVar 0) (dCons (dC (.int 7)) dNil)))) (dSeq (dIfS (dTst (dLt (dVar 6) (dC (.int 2)))) (dSeq (dRet (dTup (dCons (dC (.str "wait")) (dCons (dCall r_law_any (dCons (dVar 0) (dCons (dMul (dC (.int 3)) (dIx (dVar 1) (dC (.int 1)))) dNil))) dNil)))) dNext) dNext) (dSeq (dSet 2 (dCall r_law_rule (dCons (dVar 0) (dCons (dIf (dTst (dLt (dVar 6) (dC (.int 5)))) (dVar 5) (dAdd (dVar 5) (dC (.int 1)))) (dCons (dC (.int 4)) (dCons (dCall r_law_any (dCons (dVar 0) (dCons (dC (.int 3)) dNil))) (dCons (dEq (dCall r_law_any (dCons (dVar 0) (dCons (dC (.int 4)) dNil))) (dC (.int 0))) dNil))))))) (dSeq (dIfS (dTst (dLt (dVar 6) (dC (.int 4)))) (dSeq (dRet (dTup (dCons (dC (.str "rule")) (dCons (dCall r_law_any (dCons (dVar 0) (dCons (dAdd (dVar 5) (dIf (dTst (dEq (dVar 6) (dC (.int 3)))) (dC (.int 1)) (dC (.int 0)))) dNil))) (dCons (dVar 2) dNil))))) dNext) dNext) (dSeq (dIfS (dTst (dEq (dVar 6) (dC (.int 5)))) (dSeq (dRet (dTup (dCons (dC (.str "house")) (dCons (dAdd (dC (.int 1)) (dCall r_law_any (dCons (dVar 0) (dCons (dC (.int 4)) dNil)))) (dCons (dVar 2) dNil))))) dNext) dNext) (dSeq (dSet 3 (dCall r_law_any (dCons (dVar 0) (dCons (dC (.int 4)) dNil)))) (dSeq (dRet (dTup (dCons (dC (.str "seen")) (dCons (dCall r_law_any (dCons (dVar 0) (dCons (dVar 5) dNil))) (dCons (dVar 3) (dCons (dAdd (dVar 3) (dCall r_law_any (dCons (dVar 0) (dCons (dC (.int 4)) dNil)))) dNil)))))) dNext)))))))

/- _law_lateness: slots ['_law_deal', '_law_net_here', '_law_d', '_law_last', '_law_found', '_law_house', '_law_row', '_law_at'] -/
def w_law_lateness (r_law_branches : RL) (r_law_any : RL) : DS :=
  (dSeq (dNew 4) (dSeq (dFor (dRange1 (dLen (dCons (dIx (dVar 1) (dC (.int 1))) dNil))) (bName 5) (dSeq (dNew 6) (dSeq (dFor (dRange1 (dLen (dCons (dCall r_law_branches (dCons (dIx (dIx (dVar 1) (dC (.int 1))) (dVar 5)) dNil)) dNil))) (bName 7) (dSeq (dApp 6 (dAdd (dC (.int 1)) (dCall r_law_any (dCons (dVar 0) (dCons (dIf (dTst (dIsN (dVar 3) (dC .non))) (dVar 2) (dMin (dCons (dVar 2) (dCons (dAdd (dIx (dIx (dVar 3) (dVar 5)) (dVar 7)) (dC (.int 1))) dNil)))) dNil))))) dNext)) (dFreeze 6 (dSeq (dApp 4 (dTuple (dCons (dVar 6) dNil))) dNext))))) (dFreeze 4 (dSeq (dRet (dTuple (dCons (dVar 4) dNil))) dNext))))

/- _law_beat: slots ['_law_deal', '_law_net_here', '_law_d', '_law_states', '_law_last', '_law_house', '_law_lateness_here', '_law_found', '_law_heard', '_law_at'] -/
def w_law_beat (r_law_lateness : RL) (r_law_branches : RL) (r_law_wants : RL) : DS :=
  (dSeq (dParO2 6 7 (dCall r_law_lateness (dCons (dVar 0) (dCons (dVar 1) (dCons (dVar 2) (dCons (dVar 4) dNil)))))) (dSeq (dFor (dRange1 (dLen (dCons (dIx (dVar 1) (dC (.int 1))) dNil))) (bName 5) (dSeq (dSet 8 (dCall r_law_branches (dCons (dIx (dIx (dVar 1) (dC (.int 1))) (dVar 5)) dNil))) (dSeq (dApp 7 (dCall r_law_wants (dCons (dVar 1) (dCons (dVar 5) (dCons (dLc (dRange1 (dLen (dCons (dVar 8) dNil))) [9] (bName 9) dYes (dIx (dIx (dVar 3) (dSub (dLen (dCons (dVar 3) dNil)) (dIx (dIx (dVar 6) (dVar 5)) (dVar 9)))) (dIx (dVar 8) (dVar 9)))) dNil))))) dNext))) (dFreeze 7 (dSeq (dRet (dTup (dCons (dCat (dVar 3) (dLst (dCons (dTuple (dCons (dVar 7) dNil)) dNil))) (dCons (dVar 6) dNil)))) dNext))))

/- _law_holds: slots ['_law_life_here', '_law_states', '_law_state', '_law_lows', '_law_highs', '_law_at'] -/
def w_law_holds (r_known : RL) : DS :=
  (dSeq (dAsg (dCall r_known (dCons (dVar 0) dNil)) (bTup (bCons (bName 3) (bCons (bName 4) bNil)))) (dSeq (dFor (dItems (dSl (dVar 1) (dPart (dSub (dLen (dCons (dVar 1) dNil)) (dIx (dVar 0) (dC (.int 1))))) dNoPart)) (bName 2) (dSeq (dIfS (dTst (dNeD (dLc (dRange1 (dLen (dCons (dVar 3) dNil))) [5] (bName 5) (dTNot (dTst (dChain (rdB0 fun i j => decide (i ≤ j)) (rdB0 fun i j => decide (i ≤ j)) (dIx (dVar 3) (dVar 5)) (dIx (dVar 2) (dVar 5)) (dIx (dVar 4) (dVar 5))))) (dVar 5)) (dLst dNil))) (dSeq (dRet (dC (.bl false))) dNext) dNext) dNext)) (dSeq (dRet (dC (.bl true))) dNext)))

/- law: slots ['_law_script', '_law_deal', '_law_life_here', '_law_states', '_law_turn_here', '_law_net_here', '_law_d', '_law_ends', '_law_age', '_law_again', '_law_change', '_law_beats', '_law_last', '_law_words_here', '_law_shown', '_law_lows', '_law_highs', '_law_state', '_law_low', '_law_high'] -/
def w_law (r_law_draw : RL) (r_law_life : RL) (r_law_any : RL) (r_law_beat : RL) (r_changed : RL) (r_law_holds : RL) (r_law_some_change : RL) (r_is_change : RL) (r_rests_in : RL) (r_law_all_words : RL) (r_law_led : RL) (r_law_next_ends : RL) (r_known : RL) : DS :=
  (dSeq (dSet 1 (dCall r_law_draw (dCons (dVar 0) (dCons (dC (.int 58)) dNil)))) (dSeq (dSet 2 (dCall r_law_life (dCons (dVar 1) (dCons (dC (.int 3)) (dCons (dC (.int 4)) dNil))))) (dSeq (dSet 2 (dCat (dSl (dVar 2) dNoPart (dPart (dC (.int 3)))) (dTup (dCons (dC (.int 0)) dNil)))) (dSeq (dAsg (dVar 2) (bTup (bCons (bName 5) (bCons (bName 6) (bCons (bName 7) (bCons (bName 8) bNil)))))) (dSeq (dNew 3) (dSeq (dFor (dRange1 (dVar 6)) (bName 4) (dSeq (dApp 3 (dTuple (dCons (dLc (dZip (dIx (dVar 7) (dC (.int 0))) (dIx (dVar 7) (dC (.int 1)))) [18, 19] (bTup (bCons (bName 18) (bCons (bName 19) bNil))) dYes (dAdd (dVar 18) (dCall r_law_any (dCons (dVar 1) (dCons (dAdd (dSub (dVar 19) (dVar 18)) (dC (.int 1))) dNil))))) dNil))) dNext)) (dFreeze 3 (dSeq (dFor (dRange1 (dC (.int 5))) (bName 4) (dSeq (dPar 11 12 (dCall r_law_any (dCons (dVar 1) (dCons (dAdd (dMul (dC (.int 2)) (dVar 6)) (dC (.int 1))) dNil))) (dC .non)) (dSeq (dFor (dRange1 (dVar 11)) (bName 9) (dSeq (dAsg (dCall r_law_beat (dCons (dVar 1) (dCons (dIx (dVar 2) (dC (.int 0))) (dCons (dVar 6) (dCons (dVar 3) (dCons (dVar 12) dNil)))))) (bTup (bCons (bName 3) (bCons (bName 12) bNil)))) dNext)) (dSeq (dSet 2 (dCall r_changed (dCons (dVar 2) (dCons (dTup (dCons (dC (.str "wait")) (dCons (dVar 11) dNil))) dNil)))) (dSeq (dIfS (dTNot (dTst (dCall r_law_holds (dCons (dVar 2) (dCons (dVar 3) dNil))))) (dSeq (dRet (dC (.bl false))) dNext) dNext) (dSeq (dSet 10 (dCall r_law_some_change (dCons (dVar 1) (dCons (dVar 2) dNil)))) (dSeq (dIfS (dTst (dEq (dIx (dVar 10) (dC (.int 0))) (dC (.str "seen")))) (dSeq (dSet 14 (dLc (dItems (dSl (dVar 3) (dPart (dSub (dLen (dCons (dVar 3) dNil)) (dVar 6))) dNoPart)) [17] (bName 17) dYes (dIx (dVar 17) (dIx (dVar 10) (dC (.int 1)))))) (dSeq (dSet 10 (dTup (dCons (dC (.str "seen")) (dCons (dIx (dVar 10) (dC (.int 1))) (dCons (dMin (dCons (dVar 14) dNil)) (dCons (dMax (dCons (dVar 14) dNil)) dNil)))))) dNext)) dNext) (dSeq (dIfS (dTAnd (dTst (dNe (dIx (dVar 10) (dC (.int 0))) (dC (.str "wait")))) (dTAnd (dTst (dLt (dLen (dCons (dIx (dIx (dVar 2) (dC (.int 0))) (dC (.int 0))) dNil)) (dC (.int 5)))) (dTst (dCall r_is_change (dCons (dVar 2) (dCons (dVar 10) dNil)))))) (dSeq (dIfS (dTst (dEq (dIx (dVar 10) (dC (.int 0))) (dC (.str "house")))) (dSeq (dSet 3 (dLc (dItems (dVar 3)) [17] (bName 17) dYes (dCat (dVar 17) (dTup (dCons (dCall r_law_any (dCons (dVar 1) (dCons (dAdd (dIx (dVar 10) (dC (.int 1))) (dC (.int 1))) dNil))) dNil))))) dNext) dNext) (dSeq (dSet 2 (dCall r_changed (dCons (dVar 2) (dCons (dVar 10) dNil)))) (dSeq (dIfS (dTNot (dTst (dCall r_law_holds (dCons (dVar 2) (dCons (dVar 3) dNil))))) (dSeq (dRet (dC (.bl false))) dNext) dNext) dNext))) dNext) dNext)))))))) (dSeq (dPar 11 12 (dCall r_rests_in (dCons (dVar 2) dNil)) (dC .non)) (dSeq (dIfS (dTst (dIsN (dVar 11) (dC .non))) (dSeq (dSet 13 (dCall r_law_all_words (dCons (dIx (dVar 2) (dC (.int 0))) dNil))) (dSeq (dAsg (dIx (dCall r_law_led (dCons (dIx (dVar 2) (dC (.int 0))) (dCons (dVar 13) (dCons (dIx (dVar 2) (dC (.int 2))) (dCons (dC .non) dNil))))) (dC (.int 0))) (bTup (bCons (bName 15) (bCons (bName 16) bNil)))) (dSeq (dRet (dAndV (dNeD (dVar 15) (dVar 16)) (dEqD (dCall r_law_next_ends (dCons (dIx (dVar 2) (dC (.int 0))) (dCons (dVar 13) (dCons (dTup (dCons (dVar 15) (dCons (dVar 16) dNil))) dNil)))) (dTup (dCons (dVar 15) (dCons (dVar 16) dNil)))))) dNext))) dNext) (dSeq (dFor (dRange1 (dMin (dCons (dVar 11) (dCons (dC (.int 60)) dNil)))) (bName 4) (dSeq (dAsg (dCall r_law_beat (dCons (dVar 1) (dCons (dIx (dVar 2) (dC (.int 0))) (dCons (dVar 6) (dCons (dVar 3) (dCons (dVar 12) dNil)))))) (bTup (bCons (bName 3) (bCons (bName 12) bNil)))) dNext)) (dSeq (dRet (dOrV (dGt (dVar 11) (dC (.int 60))) (dEqD (dSl (dVar 3) (dPart (dSub (dLen (dCons (dVar 3) dNil)) (dVar 6))) dNoPart) (dRep (dLst (dCons (dIx (dCall r_known (dCons (dCall r_changed (dCons (dVar 2) (dCons (dTup (dCons (dC (.str "wait")) (dCons (dVar 11) dNil))) dNil))) dNil)) (dC (.int 0))) dNil)) (dVar 6))))) dNext))))))))))))

end NB

/-! WLT -/
set_option Elab.async false
set_option linter.all false
set_option maxRecDepth 100000
namespace NB
open PySem PySem.Spec PyProof.Rows L2
/- law: slots ['_law_script', '_law_deal', '_law_life_here', '_law_states', '_law_turn_here', '_law_net_here', '_law_d', '_law_ends', '_law_age', '_law_again', '_law_change', '_law_beats', '_law_last', '_law_words_here', '_law_shown', '_law_lows', '_law_highs', '_law_state', '_law_low', '_law_high'] -/
def w_law_tail (r_law_life : RL) (r_law_any : RL) (r_law_beat : RL) (r_changed : RL) (r_law_holds : RL) (r_law_some_change : RL) (r_is_change : RL) (r_rests_in : RL) (r_law_all_words : RL) (r_law_led : RL) (r_law_next_ends : RL) (r_known : RL) : DS :=
  (dSeq (dSet 2 (dCall r_law_life (dCons (dVar 1) (dCons (dC (.int 3)) (dCons (dC (.int 4)) dNil))))) (dSeq (dSet 2 (dCat (dSl (dVar 2) dNoPart (dPart (dC (.int 3)))) (dTup (dCons (dC (.int 0)) dNil)))) (dSeq (dAsg (dVar 2) (bTup (bCons (bName 5) (bCons (bName 6) (bCons (bName 7) (bCons (bName 8) bNil)))))) (dSeq (dNew 3) (dSeq (dFor (dRange1 (dVar 6)) (bName 4) (dSeq (dApp 3 (dTuple (dCons (dLc (dZip (dIx (dVar 7) (dC (.int 0))) (dIx (dVar 7) (dC (.int 1)))) [18, 19] (bTup (bCons (bName 18) (bCons (bName 19) bNil))) dYes (dAdd (dVar 18) (dCall r_law_any (dCons (dVar 1) (dCons (dAdd (dSub (dVar 19) (dVar 18)) (dC (.int 1))) dNil))))) dNil))) dNext)) (dFreeze 3 (dSeq (dFor (dRange1 (dC (.int 5))) (bName 4) (dSeq (dPar 11 12 (dCall r_law_any (dCons (dVar 1) (dCons (dAdd (dMul (dC (.int 2)) (dVar 6)) (dC (.int 1))) dNil))) (dC .non)) (dSeq (dFor (dRange1 (dVar 11)) (bName 9) (dSeq (dAsg (dCall r_law_beat (dCons (dVar 1) (dCons (dIx (dVar 2) (dC (.int 0))) (dCons (dVar 6) (dCons (dVar 3) (dCons (dVar 12) dNil)))))) (bTup (bCons (bName 3) (bCons (bName 12) bNil)))) dNext)) (dSeq (dSet 2 (dCall r_changed (dCons (dVar 2) (dCons (dTup (dCons (dC (.str "wait")) (dCons (dVar 11) dNil))) dNil)))) (dSeq (dIfS (dTNot (dTst (dCall r_law_holds (dCons (dVar 2) (dCons (dVar 3) dNil))))) (dSeq (dRet (dC (.bl false))) dNext) dNext) (dSeq (dSet 10 (dCall r_law_some_change (dCons (dVar 1) (dCons (dVar 2) dNil)))) (dSeq (dIfS (dTst (dEq (dIx (dVar 10) (dC (.int 0))) (dC (.str "seen")))) (dSeq (dSet 14 (dLc (dItems (dSl (dVar 3) (dPart (dSub (dLen (dCons (dVar 3) dNil)) (dVar 6))) dNoPart)) [17] (bName 17) dYes (dIx (dVar 17) (dIx (dVar 10) (dC (.int 1)))))) (dSeq (dSet 10 (dTup (dCons (dC (.str "seen")) (dCons (dIx (dVar 10) (dC (.int 1))) (dCons (dMin (dCons (dVar 14) dNil)) (dCons (dMax (dCons (dVar 14) dNil)) dNil)))))) dNext)) dNext) (dSeq (dIfS (dTAnd (dTst (dNe (dIx (dVar 10) (dC (.int 0))) (dC (.str "wait")))) (dTAnd (dTst (dLt (dLen (dCons (dIx (dIx (dVar 2) (dC (.int 0))) (dC (.int 0))) dNil)) (dC (.int 5)))) (dTst (dCall r_is_change (dCons (dVar 2) (dCons (dVar 10) dNil)))))) (dSeq (dIfS (dTst (dEq (dIx (dVar 10) (dC (.int 0))) (dC (.str "house")))) (dSeq (dSet 3 (dLc (dItems (dVar 3)) [17] (bName 17) dYes (dCat (dVar 17) (dTup (dCons (dCall r_law_any (dCons (dVar 1) (dCons (dAdd (dIx (dVar 10) (dC (.int 1))) (dC (.int 1))) dNil))) dNil))))) dNext) dNext) (dSeq (dSet 2 (dCall r_changed (dCons (dVar 2) (dCons (dVar 10) dNil)))) (dSeq (dIfS (dTNot (dTst (dCall r_law_holds (dCons (dVar 2) (dCons (dVar 3) dNil))))) (dSeq (dRet (dC (.bl false))) dNext) dNext) dNext))) dNext) dNext)))))))) (dSeq (dPar 11 12 (dCall r_rests_in (dCons (dVar 2) dNil)) (dC .non)) (dSeq (dIfS (dTst (dIsN (dVar 11) (dC .non))) (dSeq (dSet 13 (dCall r_law_all_words (dCons (dIx (dVar 2) (dC (.int 0))) dNil))) (dSeq (dAsg (dIx (dCall r_law_led (dCons (dIx (dVar 2) (dC (.int 0))) (dCons (dVar 13) (dCons (dIx (dVar 2) (dC (.int 2))) (dCons (dC .non) dNil))))) (dC (.int 0))) (bTup (bCons (bName 15) (bCons (bName 16) bNil)))) (dSeq (dRet (dAndV (dNeD (dVar 15) (dVar 16)) (dEqD (dCall r_law_next_ends (dCons (dIx (dVar 2) (dC (.int 0))) (dCons (dVar 13) (dCons (dTup (dCons (dVar 15) (dCons (dVar 16) dNil))) dNil)))) (dTup (dCons (dVar 15) (dCons (dVar 16) dNil)))))) dNext))) dNext) (dSeq (dFor (dRange1 (dMin (dCons (dVar 11) (dCons (dC (.int 60)) dNil)))) (bName 4) (dSeq (dAsg (dCall r_law_beat (dCons (dVar 1) (dCons (dIx (dVar 2) (dC (.int 0))) (dCons (dVar 6) (dCons (dVar 3) (dCons (dVar 12) dNil)))))) (bTup (bCons (bName 3) (bCons (bName 12) bNil)))) dNext)) (dSeq (dRet (dOrV (dGt (dVar 11) (dC (.int 60))) (dEqD (dSl (dVar 3) (dPart (dSub (dLen (dCons (dVar 3) dNil)) (dVar 6))) dNoPart) (dRep (dLst (dCons (dIx (dCall r_known (dCons (dCall r_changed (dCons (dVar 2) (dCons (dTup (dCons (dC (.str "wait")) (dCons (dVar 11) dNil))) dNil))) dNil)) (dC (.int 0))) dNil)) (dVar 6))))) dNext)))))))))))

end NB

/-! M1 -/
set_option Elab.async false
set_option linter.all false
set_option maxRecDepth 100000
namespace NB

inductive Head where
  | is (w : Int)
  | hear (j : Nat)
  | least
  | most
  | add
  | middle
  | times (m : Int)
  | part (d : Int)
  | clip (lo hi : Int)
  | sub (w : Int)
  | bar (k lo hi : Int)
  | row (ws : List Int)
inductive Rule where
  | node (h : Head) (ps : List Rule)

def ownB : Head → List Nat
  | .hear j => [j]
  | _ => []
mutual
def br : Rule → List Nat
  | .node h ps => ownB h ++ brs ps
def brs : List Rule → List Nat
  | [] => []
  | p :: ps => br p ++ brs ps
end
mutual
def dep : Rule → Nat
  | .node _ ps => deps ps + 1
def deps : List Rule → Nat
  | [] => 0
  | p :: ps => max (dep p) (deps ps)
end
def med (a b c : Int) : Int := max (min a b) (min (max a b) c)
def rowAt (ws : List Int) (v : Int) : Int := ws.getD (min v (ws.length - 1)).toNat 0
/-- what a head makes of what its parts tell -/
def made (h : Head) (vs : List Int) : Int := match h with
  | .least => minL vs
  | .most => maxL vs
  | .add => vs.sum
  | .middle => med (vs.getD 0 0) (vs.getD 1 0) (vs.getD 2 0)
  | .times m => m * vs.getD 0 0
  | .part d => vs.getD 0 0 / d
  | .clip lo hi => min (max (vs.getD 0 0) lo) hi
  | .sub w => max 0 (w - vs.getD 0 0)
  | .bar k lo hi => if k ≤ vs.getD 0 0 then hi else lo
  | .row ws => rowAt ws (vs.getD 0 0)
  | .is w => w
  | .hear _ => 0
def val (h : Head) (f : Nat → Int) (vs : List Int) : Int := match h with
  | .hear _ => f 0
  | _ => made h vs
mutual
def tv : Rule → (Nat → Int) → Int
  | .node h ps, f => val h f (tvs ps f)
def tvs : List Rule → (Nat → Int) → List Int
  | [], _ => []
  | p :: ps, f => tv p f :: tvs ps (fun k => f ((br p).length + k))
end
/-- the numbers of a head, the count of its parts -/
def okH (n : Nat) (h : Head) (len : Nat) : Prop := match h with
  | .is w => len = 0 ∧ 0 ≤ w ∧ w ≤ 1000
  | .hear j => len = 0 ∧ j < n
  | .least => 1 ≤ len ∧ len ≤ 60
  | .most => 1 ≤ len ∧ len ≤ 60
  | .add => 1 ≤ len ∧ len ≤ 60
  | .middle => len = 3
  | .times m => len = 1 ∧ 0 ≤ m ∧ m ≤ 1000
  | .part d => len = 1 ∧ 1 ≤ d ∧ d ≤ 1000
  | .clip lo hi => len = 1 ∧ 0 ≤ lo ∧ lo ≤ hi ∧ hi ≤ 1000
  | .sub w => len = 1 ∧ 0 ≤ w ∧ w ≤ 1000
  | .bar k lo hi => len = 1 ∧ 0 ≤ k ∧ k ≤ 1000 ∧ 0 ≤ lo ∧ lo ≤ 1000 ∧ 0 ≤ hi ∧ hi ≤ 1000
  | .row ws => len = 1 ∧ 1 ≤ ws.length ∧ ws.length ≤ 64 ∧ ∀ x ∈ ws, 0 ≤ x ∧ x ≤ 1000
mutual
def wf (n : Nat) : Rule → Prop
  | .node h ps => okH n h ps.length ∧ wfs n ps
def wfs (n : Nat) : List Rule → Prop
  | [] => True
  | p :: ps => wf n p ∧ wfs n ps
end
def entries (ws : List Int) (lo hi : Int) : List Int :=
  (ws.drop (min lo.toNat (ws.length - 1))).take (min (hi + 1).toNat ws.length - min lo.toNat (ws.length - 1))
def rng (T : Nat → Int) (h : Head) (ir : List (Int × Int)) : Int × Int := match h with
  | .is w => (w, w)
  | .hear j => (0, T j)
  | .row ws => (minL (entries ws (ir.getD 0 (0, 0)).1 (ir.getD 0 (0, 0)).2), maxL (entries ws (ir.getD 0 (0, 0)).1 (ir.getD 0 (0, 0)).2))
  | h => (min (made h (ir.map (·.1))) (made h (ir.map (·.2))), max (made h (ir.map (·.1))) (made h (ir.map (·.2))))
mutual
def range (T : Nat → Int) : Rule → Int × Int
  | .node h ps => rng T h (ranges T ps)
def ranges (T : Nat → Int) : List Rule → List (Int × Int)
  | [] => []
  | p :: ps => range T p :: ranges T ps
end
def rising : List Int → Bool
  | a :: b :: r => decide (a ≤ b) && rising (b :: r)
  | _ => true
def trn (h : Head) (ir : List (Int × Int)) : Int := match h with
  | .sub _ => -1
  | .bar _ lo hi => if hi < lo then -1 else 1
  | .row ws => if rising (entries ws (ir.getD 0 (0, 0)).1 (ir.getD 0 (0, 0)).2) then 1 else if rising (entries ws (ir.getD 0 (0, 0)).1 (ir.getD 0 (0, 0)).2).reverse then -1 else 0
  | _ => 1
inductive Way where
  | none | both | falls | rises
  deriving DecidableEq
def ownW (h : Head) (still : Bool) (sign : Int) : List Way := match h with
  | .hear _ => [if still then .none else if sign = 0 then .both else if sign < 0 then .falls else .rises]
  | _ => []
mutual
def words (T : Nat → Int) : Rule → Bool → Int → List Way
  | .node h ps, still, sign =>
    ownW h (still || (rng T h (ranges T ps)).1 == (rng T h (ranges T ps)).2) sign ++ wordss T ps (still || (rng T h (ranges T ps)).1 == (rng T h (ranges T ps)).2) (sign * trn h (ranges T ps))
def wordss (T : Nat → Int) : List Rule → Bool → Int → List Way
  | [], _, _ => []
  | p :: ps, still, sign => words T p still sign ++ wordss T ps still sign
end

/-! ### lists, head by head -/
def LeL : List Int → List Int → Prop
  | [], [] => True
  | a :: as, b :: bs => a ≤ b ∧ LeL as bs
  | _, _ => False
theorem LeL.len : ∀ {as bs : List Int}, LeL as bs → as.length = bs.length
  | [], [], _ => rfl
  | a :: as, b :: bs, h => by simp [LeL.len h.2]
  | [], _ :: _, h => h.elim
  | _ :: _, [], h => h.elim
theorem LeL.refl : ∀ as : List Int, LeL as as
  | [] => trivial
  | a :: as => ⟨Int.le_refl a, LeL.refl as⟩
theorem LeL.getD : ∀ {as bs : List Int}, LeL as bs → ∀ i, as.getD i 0 ≤ bs.getD i 0
  | [], [], _, i => by simp
  | a :: as, b :: bs, h, 0 => h.1
  | a :: as, b :: bs, h, i + 1 => by
    have := LeL.getD h.2 i
    simpa using this
  | [], _ :: _, h, _ => h.elim
  | _ :: _, [], h, _ => h.elim
theorem LeL.sum : ∀ {as bs : List Int}, LeL as bs → as.sum ≤ bs.sum
  | [], [], _ => by simp
  | a :: as, b :: bs, h => by
    have := LeL.sum h.2
    have := h.1
    simp only [List.sum_cons]; omega
  | [], _ :: _, h => h.elim
  | _ :: _, [], h => h.elim
theorem LeL.mem_r : ∀ {as bs : List Int}, LeL as bs → ∀ b ∈ bs, ∃ a ∈ as, a ≤ b
  | [], [], _, b, h => nomatch h
  | a :: as, b' :: bs, h, b, hb => by
    rcases List.mem_cons.mp hb with rfl | hb
    · exact ⟨a, List.mem_cons_self, h.1⟩
    · obtain ⟨c, h1, h2⟩ := LeL.mem_r h.2 b hb
      exact ⟨c, List.mem_cons_of_mem _ h1, h2⟩
  | [], _ :: _, h, _, _ => h.elim
  | _ :: _, [], h, _, _ => h.elim
theorem LeL.mem_l : ∀ {as bs : List Int}, LeL as bs → ∀ a ∈ as, ∃ b ∈ bs, a ≤ b
  | [], [], _, b, h => nomatch h
  | a' :: as, b' :: bs, h, b, hb => by
    rcases List.mem_cons.mp hb with rfl | hb
    · exact ⟨b', List.mem_cons_self, h.1⟩
    · obtain ⟨c, h1, h2⟩ := LeL.mem_l h.2 b hb
      exact ⟨c, List.mem_cons_of_mem _ h1, h2⟩
  | [], _ :: _, h, _, _ => h.elim
  | _ :: _, [], h, _, _ => h.elim
theorem minL_mono {as bs : List Int} (h : LeL as bs) (hne : as ≠ []) : minL as ≤ minL bs := by
  have hb : bs ≠ [] := by
    intro e
    have := h.len
    rw [e] at this
    exact hne (List.eq_nil_of_length_eq_zero this)
  obtain ⟨a, h1, h2⟩ := h.mem_r _ (minL_mem hb)
  exact Int.le_trans (minL_le h1) h2
theorem maxL_mono {as bs : List Int} (h : LeL as bs) (hne : as ≠ []) : maxL as ≤ maxL bs := by
  obtain ⟨b, h1, h2⟩ := h.mem_l _ (maxL_mem hne)
  exact Int.le_trans h2 (le_maxL h1)
theorem med_mono {a b c a' b' c' : Int} (h1 : a ≤ a') (h2 : b ≤ b') (h3 : c ≤ c') : med a b c ≤ med a' b' c' := by
  unfold med; omega
theorem div_mono {a b d : Int} (h : a ≤ b) (hd : 1 ≤ d) : a / d ≤ b / d := Int.ediv_le_ediv (by omega) h
/-- heads that keep the way of their parts -/
def upH (h : Head) : Prop := match h with
  | .least => True | .most => True | .add => True | .middle => True | .times _ => True | .part _ => True | .clip _ _ => True
  | .bar _ lo hi => lo ≤ hi
  | _ => False
theorem made_up {n : Nat} {h : Head} {as bs : List Int} (u : upH h) (ok : okH n h as.length) (l : LeL as bs) : made h as ≤ made h bs := by
  have g0 := l.getD 0
  cases h with
  | least => exact minL_mono l (by intro e; rw [e] at ok; exact absurd ok.1 (by simp))
  | most => exact maxL_mono l (by intro e; rw [e] at ok; exact absurd ok.1 (by simp))
  | add => exact l.sum
  | middle => exact med_mono g0 (l.getD 1) (l.getD 2)
  | times m => exact Int.mul_le_mul_of_nonneg_left g0 ok.2.1
  | part d => exact div_mono g0 ok.2.1
  | clip lo hi => show min (max _ lo) hi ≤ min (max _ lo) hi; omega
  | bar k lo hi =>
    have u : lo ≤ hi := u
    show (if k ≤ as.getD 0 0 then hi else lo) ≤ (if k ≤ bs.getD 0 0 then hi else lo)
    split <;> split <;> omega
  | _ => exact u.elim
/-- heads that turn it -/
def dnH (h : Head) : Prop := match h with
  | .sub _ => True
  | .bar _ lo hi => hi ≤ lo
  | _ => False
theorem made_dn {h : Head} {as bs : List Int} (u : dnH h) (l : LeL as bs) : made h bs ≤ made h as := by
  have g0 := l.getD 0
  cases h with
  | sub w => show max 0 (w - _) ≤ max 0 (w - _); omega
  | bar k lo hi =>
    have u : hi ≤ lo := u
    show (if k ≤ bs.getD 0 0 then hi else lo) ≤ (if k ≤ as.getD 0 0 then hi else lo)
    split <;> split <;> omega
  | _ => exact u.elim

/-! ### rows -/
theorem rising_at : ∀ {xs : List Int}, rising xs = true → ∀ i j, i ≤ j → j < xs.length → xs.getD i 0 ≤ xs.getD j 0
  | [], _, i, j, _, h => by simp at h
  | [a], _, i, j, hij, h => by
    simp at h
    have : i = 0 := by omega
    subst h this; exact Int.le_refl _
  | a :: b :: r, h, 0, 0, _, _ => Int.le_refl _
  | a :: b :: r, h, 0, j + 1, _, hj => by
    simp only [rising, Bool.and_eq_true, decide_eq_true_eq] at h
    have := rising_at (xs := b :: r) h.2 0 j (Nat.zero_le _) (by simpa using hj)
    simp only [List.getD_cons_zero, List.getD_cons_succ] at this ⊢
    omega
  | a :: b :: r, h, i + 1, 0, hij, _ => by omega
  | a :: b :: r, h, i + 1, j + 1, hij, hj => by
    simp only [rising, Bool.and_eq_true, decide_eq_true_eq] at h
    have := rising_at (xs := b :: r) h.2 i j (by omega) (by simpa using hj)
    simpa using this
theorem rev_getD {xs : List Int} {i : Nat} (h : i < xs.length) : xs.reverse.getD (xs.length - 1 - i) 0 = xs.getD i 0 := by
  rw [List.getD_eq_getElem?_getD, List.getD_eq_getElem?_getD, List.getElem?_reverse (by omega)]
  have : xs.length - 1 - (xs.length - 1 - i) = i := by omega
  rw [this]
theorem falling_at {xs : List Int} (h : rising xs.reverse = true) {i j : Nat} (hij : i ≤ j) (hj : j < xs.length) : xs.getD j 0 ≤ xs.getD i 0 := by
  have := rising_at h (xs.length - 1 - j) (xs.length - 1 - i) (by omega) (by rw [List.length_reverse]; omega)
  rw [rev_getD hj, rev_getD (by omega)] at this
  exact this
/-- the entry told for v stands among those for the range -/
theorem row_entry {ws : List Int} {lo hi v : Int} (h0 : 0 ≤ lo) (h1 : lo ≤ v) (h2 : v ≤ hi) (hw : 1 ≤ ws.length) :
    let a := min lo.toNat (ws.length - 1)
    let e := entries ws lo hi
    (min v.toNat (ws.length - 1)) - a < e.length ∧ a ≤ min v.toNat (ws.length - 1) ∧ rowAt ws v = e.getD ((min v.toNat (ws.length - 1)) - a) 0 := by
  intro a e
  have hl : e.length = min (hi + 1).toNat ws.length - a := by
    show (entries ws lo hi).length = _
    unfold entries
    rw [List.length_take, List.length_drop]
    omega
  have ha : a ≤ min v.toNat (ws.length - 1) := by omega
  have hlt : (min v.toNat (ws.length - 1)) - a < e.length := by omega
  refine ⟨hlt, ha, ?_⟩
  unfold rowAt
  have e1 : (min v (ws.length - 1)).toNat = min v.toNat (ws.length - 1) := by omega
  rw [e1]
  show _ = (entries ws lo hi).getD _ 0
  unfold entries
  rw [List.getD_eq_getElem?_getD, List.getD_eq_getElem?_getD, List.getElem?_take_of_lt (by omega), List.getElem?_drop]
  have : min lo.toNat (ws.length - 1) + (min v.toNat (ws.length - 1) - a) = min v.toNat (ws.length - 1) := by omega
  rw [this]
theorem getD_mem' {xs : List Int} {i : Nat} (h : i < xs.length) : xs.getD i 0 ∈ xs := by
  rw [List.getD_eq_getElem?_getD, List.getElem?_eq_getElem h]
  exact List.getElem_mem h
theorem entries_ne {ws : List Int} {lo hi : Int} (h0 : 0 ≤ lo) (h1 : lo ≤ hi) (hw : 1 ≤ ws.length) : entries ws lo hi ≠ [] := by
  intro e
  have := (row_entry (v := lo) h0 (Int.le_refl _) h1 hw).1
  rw [e] at this
  exact absurd this (Nat.not_lt_zero _)
theorem entries_mem {ws : List Int} {lo hi x : Int} (h : x ∈ entries ws lo hi) : x ∈ ws := List.mem_of_mem_drop (List.mem_of_mem_take h)

/-! ### ranges hold -/
def Fit (T : Nat → Int) (bs : List Nat) (f : Nat → Int) : Prop := ∀ k j, bs[k]? = some j → 0 ≤ f k ∧ f k ≤ T j
theorem Fit.left {T : Nat → Int} {as bs : List Nat} {f : Nat → Int} (h : Fit T (as ++ bs) f) : Fit T as f := fun k j e => by
  have hk : k < as.length := (List.getElem?_eq_some_iff.mp e).1
  exact h k j (by rw [List.getElem?_append_left hk]; exact e)
theorem Fit.right {T : Nat → Int} {as bs : List Nat} {f : Nat → Int} (h : Fit T (as ++ bs) f) : Fit T bs (fun k => f (as.length + k)) := fun k j e =>
  h (as.length + k) j (by rw [List.getElem?_append_right (by omega)]; simpa using e)
/-- within, one by one -/
def InL : List (Int × Int) → List Int → Prop
  | [], [] => True
  | r :: rs, v :: vs => (0 ≤ r.1 ∧ r.1 ≤ v ∧ v ≤ r.2) ∧ InL rs vs
  | _, _ => False
def OkRs : List (Int × Int) → Prop
  | [] => True
  | r :: rs => (0 ≤ r.1 ∧ r.1 ≤ r.2) ∧ OkRs rs
theorem InL.len : ∀ {rs : List (Int × Int)} {vs : List Int}, InL rs vs → rs.length = vs.length
  | [], [], _ => rfl
  | a :: as, b :: bs, h => by simp [InL.len h.2]
  | [], _ :: _, h => h.elim
  | _ :: _, [], h => h.elim
theorem InL.lo : ∀ {rs : List (Int × Int)} {vs : List Int}, InL rs vs → LeL (rs.map (·.1)) vs
  | [], [], _ => trivial
  | a :: as, b :: bs, h => ⟨h.1.2.1, InL.lo h.2⟩
  | [], _ :: _, h => h.elim
  | _ :: _, [], h => h.elim
theorem InL.hi : ∀ {rs : List (Int × Int)} {vs : List Int}, InL rs vs → LeL vs (rs.map (·.2))
  | [], [], _ => trivial
  | a :: as, b :: bs, h => ⟨h.1.2.2, InL.hi h.2⟩
  | [], _ :: _, h => h.elim
  | _ :: _, [], h => h.elim
theorem OkRs.le : ∀ {rs : List (Int × Int)}, OkRs rs → LeL (rs.map (·.1)) (rs.map (·.2))
  | [], _ => trivial
  | a :: as, h => ⟨h.1.2, OkRs.le h.2⟩
theorem OkRs.nn : ∀ {rs : List (Int × Int)}, OkRs rs → ∀ v ∈ rs.map (·.1), 0 ≤ v
  | [], _, v, h => nomatch h
  | a :: as, h, v, hv => by
    rcases List.mem_cons.mp hv with rfl | hv
    · exact h.1.1
    · exact OkRs.nn h.2 v hv
theorem sum_nn : ∀ {vs : List Int}, (∀ v ∈ vs, 0 ≤ v) → 0 ≤ vs.sum
  | [], _ => by simp
  | v :: vs, h => by
    have h1 := h v List.mem_cons_self
    have h2 := sum_nn (vs := vs) fun x hx => h x (List.mem_cons_of_mem _ hx)
    rw [List.sum_cons]; omega
theorem getD_nn {vs : List Int} (h : ∀ v ∈ vs, 0 ≤ v) (i : Nat) : 0 ≤ vs.getD i 0 := by
  by_cases hi : i < vs.length
  · exact h _ (getD_mem' hi)
  · rw [List.getD_eq_getElem?_getD, List.getElem?_eq_none (by omega)]; exact Int.le_refl 0
theorem made_nn {n : Nat} {h : Head} {vs : List Int} (ok : okH n h vs.length) (hv : ∀ v ∈ vs, 0 ≤ v) : 0 ≤ made h vs := by
  have g0 := getD_nn hv 0
  have g1 := getD_nn hv 1
  have g2 := getD_nn hv 2
  cases h with
  | least => exact hv _ (minL_mem (by intro e; rw [e] at ok; exact absurd ok.1 (by simp)))
  | most => exact hv _ (maxL_mem (by intro e; rw [e] at ok; exact absurd ok.1 (by simp)))
  | add => exact sum_nn hv
  | middle => show 0 ≤ med _ _ _; unfold med; omega
  | times m => exact Int.mul_nonneg ok.2.1 g0
  | part d => exact Int.ediv_nonneg g0 (by have := ok.2.1; omega)
  | clip lo hi => show 0 ≤ min (max _ lo) hi; have := ok.2; omega
  | sub w => show 0 ≤ max 0 _; omega
  | bar k lo hi => show 0 ≤ if _ then hi else lo; have := ok.2; split <;> omega
  | row ws =>
    show 0 ≤ rowAt ws _
    unfold rowAt
    exact getD_nn (fun v hv => (ok.2.2.2 v hv).1) _
  | is w => exact ok.2.1
  | hear j => exact Int.le_refl 0
theorem up_or_dn (h : Head) : (∃ w, h = .is w) ∨ (∃ j, h = .hear j) ∨ (∃ ws, h = .row ws) ∨ upH h ∨ dnH h := by
  cases h with
  | is w => exact .inl ⟨w, rfl⟩
  | hear j => exact .inr (.inl ⟨j, rfl⟩)
  | row ws => exact .inr (.inr (.inl ⟨ws, rfl⟩))
  | sub w => exact .inr (.inr (.inr (.inr trivial)))
  | bar k lo hi =>
    by_cases e : lo ≤ hi
    · exact .inr (.inr (.inr (.inl e)))
    · exact .inr (.inr (.inr (.inr (by show hi ≤ lo; omega))))
  | _ => exact .inr (.inr (.inr (.inl trivial)))
theorem rng_up {T : Nat → Int} {h : Head} (u : upH h ∨ dnH h) (ir : List (Int × Int)) : rng T h ir = (min (made h (ir.map (·.1))) (made h (ir.map (·.2))), max (made h (ir.map (·.1))) (made h (ir.map (·.2)))) := by
  cases h <;> first | rfl | (rcases u with u | u <;> exact u.elim)
theorem rng_ok {T : Nat → Int} {n : Nat} {h : Head} {ir : List (Int × Int)} (hT : ∀ j, 0 ≤ T j) (ok : okH n h ir.length) (hi : OkRs ir) : 0 ≤ (rng T h ir).1 ∧ (rng T h ir).1 ≤ (rng T h ir).2 := by
  rcases up_or_dn h with ⟨w, rfl⟩ | ⟨j, rfl⟩ | ⟨ws, rfl⟩ | u
  · exact ⟨ok.2.1, Int.le_refl _⟩
  · exact ⟨Int.le_refl _, hT j⟩
  · obtain ⟨h1, h2, h3, h4⟩ := ok
    cases ir with
    | nil => simp at h1
    | cons r rs =>
      have hne := entries_ne hi.1.1 hi.1.2 h2
      refine ⟨?_, ?_⟩
      · show 0 ≤ minL (entries ws r.1 r.2)
        exact (h4 _ (entries_mem (minL_mem hne))).1
      · show minL (entries ws r.1 r.2) ≤ maxL (entries ws r.1 r.2)
        exact minL_le (maxL_mem hne)
  · rw [rng_up u]
    have q1 := made_nn (h := h) (vs := ir.map (·.1)) (by rw [List.length_map]; exact ok) hi.nn
    have q2 := made_nn (h := h) (vs := ir.map (·.2)) (by rw [List.length_map]; exact ok) (fun v hv => by
      obtain ⟨a, h1, h2⟩ := hi.le.mem_r v hv
      have := hi.nn a h1
      omega)
    show 0 ≤ min _ _ ∧ min _ _ ≤ max _ _
    omega
theorem val_in {T : Nat → Int} {n : Nat} {h : Head} {ir : List (Int × Int)} {vs : List Int} {f : Nat → Int} (ok : okH n h ir.length) (hi : InL ir vs) (hf : Fit T (ownB h) f) : (rng T h ir).1 ≤ val h f vs ∧ val h f vs ≤ (rng T h ir).2 := by
  rcases up_or_dn h with ⟨w, rfl⟩ | ⟨j, rfl⟩ | ⟨ws, rfl⟩ | u
  · exact ⟨Int.le_refl _, Int.le_refl _⟩
  · exact hf 0 j rfl
  · obtain ⟨h1, h2, h3, h4⟩ := ok
    cases ir with
    | nil => simp at h1
    | cons r rs =>
      cases vs with
      | nil => exact hi.elim
      | cons v vs =>
        obtain ⟨q1, q2, q3⟩ := row_entry hi.1.1 hi.1.2.1 hi.1.2.2 h2
        show minL (entries ws r.1 r.2) ≤ rowAt ws v ∧ rowAt ws v ≤ maxL (entries ws r.1 r.2)
        rw [q3]
        exact ⟨minL_le (getD_mem' q1), le_maxL (getD_mem' q1)⟩
  · have e : val h f vs = made h vs := by cases h <;> first | rfl | (rcases u with u | u <;> exact u.elim)
    rw [e, rng_up u]
    have hl := hi.len
    rcases u with u | u
    · have q1 := made_up (n := n) u (by rw [List.length_map]; exact ok) hi.lo
      have q2 := made_up (n := n) u (by rw [← hl]; exact ok) hi.hi
      show min _ _ ≤ _ ∧ _ ≤ max _ _
      omega
    · have q1 := made_dn u hi.lo
      have q2 := made_dn u hi.hi
      show min _ _ ≤ _ ∧ _ ≤ max _ _
      omega
theorem ranges_len (T : Nat → Int) : ∀ ps : List Rule, (ranges T ps).length = ps.length
  | [] => rfl
  | p :: ps => by simp [ranges, ranges_len T ps]
theorem tvs_len : ∀ (ps : List Rule) (f : Nat → Int), (tvs ps f).length = ps.length
  | [], _ => rfl
  | p :: ps, f => by simp [tvs, tvs_len ps]
mutual
theorem range_in (T : Nat → Int) (hT : ∀ j, 0 ≤ T j) (n : Nat) : ∀ (r : Rule) (f : Nat → Int), wf n r → Fit T (br r) f → 0 ≤ (range T r).1 ∧ (range T r).1 ≤ tv r f ∧ tv r f ≤ (range T r).2
  | .node h ps, f, hw, hf => by
    unfold wf at hw
    unfold br at hf
    have ho : Fit T (ownB h) f := hf.left
    have hp : InL (ranges T ps) (tvs ps f) ∧ OkRs (ranges T ps) := by
      cases h with
      | hear j =>
        have e : ps = [] := List.eq_nil_of_length_eq_zero hw.1.1
        subst e
        exact ⟨trivial, trivial⟩
      | _ => exact ranges_in T hT n ps f hw.2 hf
    have q := val_in (T := T) (n := n) (h := h) (f := f) (by rw [ranges_len]; exact hw.1) hp.1 ho
    have q2 := rng_ok (T := T) (n := n) (h := h) hT (by rw [ranges_len]; exact hw.1) hp.2
    unfold range tv
    exact ⟨q2.1, q.1, q.2⟩
theorem ranges_in (T : Nat → Int) (hT : ∀ j, 0 ≤ T j) (n : Nat) : ∀ (ps : List Rule) (f : Nat → Int), wfs n ps → Fit T (brs ps) f → InL (ranges T ps) (tvs ps f) ∧ OkRs (ranges T ps)
  | [], _, _, _ => ⟨trivial, trivial⟩
  | p :: ps, f, hw, hf => by
    unfold wfs at hw
    unfold brs at hf
    have q1 := range_in T hT n p f hw.1 hf.left
    have q2 := ranges_in T hT n ps _ hw.2 hf.right
    unfold ranges tvs
    exact ⟨⟨q1, q2.1⟩, ⟨⟨q1.1, by omega⟩, q2.2⟩⟩
end

/-! ### ways hold -/
def Dir (s a b : Int) : Prop := (s = 1 → a ≤ b) ∧ (s = -1 → b ≤ a) ∧ (s = 0 → a = b)
def DirL (s : Int) : List Int → List Int → Prop
  | [], [] => True
  | a :: as, b :: bs => Dir s a b ∧ DirL s as bs
  | _, _ => False
theorem DirL.up : ∀ {as bs : List Int}, DirL 1 as bs → LeL as bs
  | [], [], _ => trivial
  | a :: as, b :: bs, h => ⟨h.1.1 rfl, DirL.up h.2⟩
  | [], _ :: _, h => h.elim
  | _ :: _, [], h => h.elim
theorem DirL.dn : ∀ {as bs : List Int}, DirL (-1) as bs → LeL bs as
  | [], [], _ => trivial
  | a :: as, b :: bs, h => ⟨h.1.2.1 rfl, DirL.dn h.2⟩
  | [], _ :: _, h => h.elim
  | _ :: _, [], h => h.elim
theorem DirL.eq : ∀ {as bs : List Int}, DirL 0 as bs → as = bs
  | [], [], _ => rfl
  | a :: as, b :: bs, h => by rw [h.1.2.2 rfl, DirL.eq h.2]
  | [], _ :: _, h => h.elim
  | _ :: _, [], h => h.elim
/-- one more at a part's end: by the head's turn -/
theorem made_turn {n : Nat} {h : Head} {ir : List (Int × Int)} {as bs : List Int} (ok : okH n h ir.length) (ha : InL ir as) (hb : InL ir bs) (l : LeL as bs) (nh : ∀ j, h ≠ .hear j) :
    (trn h ir = 1 → made h as ≤ made h bs) ∧ (trn h ir = -1 → made h bs ≤ made h as) := by
  rcases up_or_dn h with ⟨w, rfl⟩ | ⟨j, rfl⟩ | ⟨ws, rfl⟩ | u
  · exact ⟨fun _ => Int.le_refl _, fun _ => Int.le_refl _⟩
  · exact absurd rfl (nh j)
  · obtain ⟨h1, h2, h3, h4⟩ := ok
    cases ir with
    | nil => simp at h1
    | cons r rs =>
      cases as with
      | nil => exact ha.elim
      | cons v vs =>
        cases bs with
        | nil => exact hb.elim
        | cons u us =>
          obtain ⟨p1, p2, p3⟩ := row_entry ha.1.1 ha.1.2.1 ha.1.2.2 h2
          obtain ⟨q1, q2, q3⟩ := row_entry hb.1.1 hb.1.2.1 hb.1.2.2 h2
          have hvu : v ≤ u := l.1
          show (trn (.row ws) (r :: rs) = 1 → rowAt ws v ≤ rowAt ws u) ∧ (trn (.row ws) (r :: rs) = -1 → rowAt ws u ≤ rowAt ws v)
          have et : trn (.row ws) (r :: rs) = if rising (entries ws r.1 r.2) then 1 else if rising (entries ws r.1 r.2).reverse then -1 else 0 := rfl
          rw [et, p3, q3]
          constructor
          · intro e
            split at e
            · rename_i hr
              exact rising_at hr _ _ (by omega) q1
            · split at e <;> omega
          · intro e
            split at e
            · omega
            · split at e
              · rename_i hr
                exact falling_at hr (by omega) q1
              · omega
  · have hl := ha.len
    rcases u with u | u
    · refine ⟨fun _ => made_up (n := n) u (by rw [← hl]; exact ok) l, fun e => ?_⟩
      cases h <;> first | exact u.elim | (simp [trn] at e; done) | skip
      rename_i k lo hi
      have u : lo ≤ hi := u
      have e : (if hi < lo then (-1 : Int) else 1) = -1 := e
      rw [if_neg (by omega)] at e
      omega
    · refine ⟨fun e => ?_, fun _ => made_dn u l⟩
      cases h <;> first | exact u.elim | (simp [trn] at e; done) | skip
      rename_i k lo hi
      have u : hi ≤ lo := u
      have e : (if hi < lo then (-1 : Int) else 1) = 1 := e
      by_cases z : hi < lo
      · rw [if_pos z] at e; omega
      · have : hi = lo := by omega
        subst this
        show (if k ≤ as.getD 0 0 then hi else hi) ≤ (if k ≤ bs.getD 0 0 then hi else hi)
        simp
theorem trn_cases (h : Head) (ir : List (Int × Int)) : trn h ir = 1 ∨ trn h ir = -1 ∨ trn h ir = 0 := by
  cases h with
  | sub w => exact .inr (.inl rfl)
  | bar k lo hi =>
    show (if hi < lo then (-1 : Int) else 1) = 1 ∨ (if hi < lo then (-1 : Int) else 1) = -1 ∨ (if hi < lo then (-1 : Int) else 1) = 0
    split
    · exact .inr (.inl rfl)
    · exact .inl rfl
  | row ws =>
    have e : trn (.row ws) ir = if rising (entries ws (ir.getD 0 (0, 0)).1 (ir.getD 0 (0, 0)).2) then 1 else if rising (entries ws (ir.getD 0 (0, 0)).1 (ir.getD 0 (0, 0)).2).reverse then -1 else 0 := rfl
    rw [e]
    split
    · exact .inl rfl
    · split
      · exact .inr (.inl rfl)
      · exact .inr (.inr rfl)
  | _ => exact .inl rfl
/-- what is heard goes with the words -/
def With (ws : List Way) (f f' : Nat → Int) : Prop := ∀ k w, ws[k]? = some w → w ≠ .both ∧ (w = .rises → f k ≤ f' k) ∧ (w = .falls → f' k ≤ f k)
theorem With.left {as bs : List Way} {f f' : Nat → Int} (h : With (as ++ bs) f f') : With as f f' := fun k j e => by
  have hk : k < as.length := (List.getElem?_eq_some_iff.mp e).1
  exact h k j (by rw [List.getElem?_append_left hk]; exact e)
theorem With.right {as bs : List Way} {f f' : Nat → Int} (h : With (as ++ bs) f f') : With bs (fun k => f (as.length + k)) (fun k => f' (as.length + k)) := fun k j e =>
  h (as.length + k) j (by rw [List.getElem?_append_right (by omega)]; simpa using e)
theorem ownW_len (h : Head) (s : Bool) (g : Int) : (ownW h s g).length = (ownB h).length := by cases h <;> rfl
mutual
theorem words_len (T : Nat → Int) : ∀ (r : Rule) (s : Bool) (g : Int), (words T r s g).length = (br r).length
  | .node h ps, s, g => by
    unfold words br
    rw [List.length_append, List.length_append, ownW_len, wordss_len T ps]
theorem wordss_len (T : Nat → Int) : ∀ (ps : List Rule) (s : Bool) (g : Int), (wordss T ps s g).length = (brs ps).length
  | [], _, _ => rfl
  | p :: ps, s, g => by
    unfold wordss brs
    rw [List.length_append, List.length_append, words_len T p, wordss_len T ps]
end
theorem Dir.of_eq {s a b : Int} (h : a = b) : Dir s a b := ⟨fun _ => by omega, fun _ => by omega, fun _ => h⟩
theorem made_dir {n : Nat} {h : Head} {ir : List (Int × Int)} {as bs : List Int} {g : Int} (hg : g = 1 ∨ g = -1 ∨ g = 0) (ok : okH n h ir.length) (ha : InL ir as) (hb : InL ir bs) (l : DirL (g * trn h ir) as bs) (nh : ∀ j, h ≠ .hear j) : Dir g (made h as) (made h bs) := by
  have zero : g * trn h ir = 0 → made h as = made h bs := fun e => by rw [e] at l; rw [l.eq]
  rcases trn_cases h ir with t | t | t
  · rcases hg with e | e | e
    · subst e
      rw [t] at l
      exact ⟨fun _ => (made_turn ok ha hb l.up nh).1 t, fun z => by omega, fun z => by omega⟩
    · subst e
      rw [t] at l
      exact ⟨fun z => by omega, fun _ => (made_turn ok hb ha l.dn nh).1 t, fun z => by omega⟩
    · exact Dir.of_eq (zero (by rw [e]; simp))
  · rcases hg with e | e | e
    · subst e
      rw [t] at l
      exact ⟨fun _ => (made_turn ok hb ha l.dn nh).2 t, fun z => by omega, fun z => by omega⟩
    · subst e
      rw [t] at l
      exact ⟨fun z => by omega, fun _ => (made_turn ok ha hb l.up nh).2 t, fun z => by omega⟩
    · exact Dir.of_eq (zero (by rw [e]; simp))
  · exact Dir.of_eq (zero (by rw [t]; simp))
mutual
theorem mono_r (T : Nat → Int) (hT : ∀ j, 0 ≤ T j) (n : Nat) : ∀ (r : Rule) (g : Int) (f f' : Nat → Int), (g = 1 ∨ g = -1 ∨ g = 0) → wf n r → Fit T (br r) f → Fit T (br r) f' → With (words T r false g) f f' → Dir g (tv r f) (tv r f')
  | .node h ps, g, f, f', hg, hw, hf, hf', hws => by
    have q1 := range_in T hT n (.node h ps) f hw hf
    have q2 := range_in T hT n (.node h ps) f' hw hf'
    by_cases e : (rng T h (ranges T ps)).1 = (rng T h (ranges T ps)).2
    · unfold range at q1 q2
      exact Dir.of_eq (by omega)
    · have e2 : (false || (rng T h (ranges T ps)).1 == (rng T h (ranges T ps)).2) = false := by simpa using e
      unfold words at hws
      rw [e2] at hws
      unfold wf at hw
      unfold br at hf hf'
      unfold tv
      cases h with
      | hear j =>
        have z := hws.left 0 _ rfl
        have e3 : ownW (.hear j) false g = [if g = 0 then .both else if g < 0 then .falls else .rises] := rfl
        rcases hg with rfl | rfl | rfl
        · exact ⟨fun _ => z.2.1 rfl, fun y => by omega, fun y => by omega⟩
        · exact ⟨fun y => by omega, fun _ => z.2.2 rfl, fun y => by omega⟩
        · exact absurd rfl z.1
      | _ =>
        all_goals
          have hr1 := ranges_in T hT n ps f hw.2 hf
          have hr2 := ranges_in T hT n ps f' hw.2 hf'
          refine made_dir (n := n) hg (by rw [ranges_len]; exact hw.1) hr1.1 hr2.1 ?_ (fun j z => by cases z)
          refine mono_rs T hT n ps _ f f' ?_ hw.2 hf hf' hws
          rcases hg with rfl | rfl | rfl <;> rcases trn_cases _ (ranges T ps) with t | t | t <;> rw [t] <;> simp
theorem mono_rs (T : Nat → Int) (hT : ∀ j, 0 ≤ T j) (n : Nat) : ∀ (ps : List Rule) (g : Int) (f f' : Nat → Int), (g = 1 ∨ g = -1 ∨ g = 0) → wfs n ps → Fit T (brs ps) f → Fit T (brs ps) f' → With (wordss T ps false g) f f' → DirL g (tvs ps f) (tvs ps f')
  | [], _, _, _, _, _, _, _, _ => trivial
  | p :: ps, g, f, f', hg, hw, hf, hf', hws => by
    unfold wfs at hw
    unfold brs at hf hf'
    unfold wordss at hws
    unfold tvs
    have e := words_len T p false g
    have w2 := hws.right
    rw [e] at w2
    exact ⟨mono_r T hT n p g f f' hg hw.1 hf.left hf'.left hws.left, mono_rs T hT n ps g _ _ hg hw.2 hf.right hf'.right w2⟩
end
end NB

/-! M2 -/
set_option Elab.async false
set_option linter.all false
set_option maxRecDepth 100000
namespace NB

abbrev g0 (xs : List Int) (j : Nat) : Int := xs.getD j 0
/-- ends: lows, highs -/
abbrev En := List Int × List Int
def waysR (T : Nat → Int) (t : Int) (r : Rule) : List Way := words T r (min (range T r).1 t == min (range T r).2 t) 1
def heardL : List Nat → List Way → List Int → List Int → List Int
  | j :: bs, w :: ws, near, far => (if w = .falls then g0 far j else g0 near j) :: heardL bs ws near far
  | _, _, _, _ => []
def step1 (T : Nat → Int) (t : Int) (r : Rule) (near far : List Int) : Int := min t (tv r (g0 (heardL (br r) (waysR T t r) near far)))
def stepN (T : Nat → Int) : List Int → List Rule → List Int → List Int → List Int
  | t :: ts, r :: rs, near, far => step1 T t r near far :: stepN T ts rs near far
  | _, _, _, _ => []
/-- a net: tops, rules -/
abbrev Nt := List Int × List Rule
def topOf (N : Nt) : Nat → Int := g0 N.1
def next (N : Nt) (E : En) : En := (stepN (topOf N) N.1 N.2 E.1 E.2, stepN (topOf N) N.1 N.2 E.2 E.1)
def wfN (N : Nt) : Prop := N.1.length = N.2.length ∧ 1 ≤ N.1.length ∧ N.1.length ≤ 20 ∧ (∀ t ∈ N.1, 0 ≤ t ∧ t ≤ 1000) ∧ wfs N.1.length N.2 ∧ (∀ r ∈ N.2, dep r ≤ 4)
def oneWay (N : Nt) : Prop := ∀ (i : Nat) (t : Int) (r : Rule), N.1[i]? = some t → N.2[i]? = some r → Way.both ∉ waysR (topOf N) t r
def okE (N : Nt) (E : En) : Prop := E.1.length = N.1.length ∧ E.2.length = N.1.length ∧ ∀ j, 0 ≤ g0 E.1 j ∧ g0 E.1 j ≤ g0 E.2 j ∧ g0 E.2 j ≤ g0 N.1 j
def Within (E E' : En) : Prop := ∀ j, g0 E'.1 j ≤ g0 E.1 j ∧ g0 E.2 j ≤ g0 E'.2 j
def InE (E : En) (s : List Int) : Prop := ∀ j, g0 E.1 j ≤ g0 s j ∧ g0 s j ≤ g0 E.2 j
theorem top_nn {N : Nt} (h : wfN N) : ∀ j, 0 ≤ topOf N j := fun j => by
  unfold topOf g0
  by_cases hj : j < N.1.length
  · exact (h.2.2.2.1 _ (getD_mem' hj)).1
  · rw [List.getD_eq_getElem?_getD, List.getElem?_eq_none (by omega)]; exact Int.le_refl 0
theorem heardL_get : ∀ {bs : List Nat} {ws : List Way} {near far : List Int} {k : Nat} {j : Nat} {w : Way}, bs[k]? = some j → ws[k]? = some w → g0 (heardL bs ws near far) k = if w = .falls then g0 far j else g0 near j
  | j :: bs, w :: ws, near, far, 0, j', w', h1, h2 => by
    simp at h1 h2; subst h1 h2; rfl
  | j :: bs, w :: ws, near, far, k + 1, j', w', h1, h2 => by
    have := heardL_get (near := near) (far := far) (k := k) (j := j') (w := w') (bs := bs) (ws := ws) (by simpa using h1) (by simpa using h2)
    simpa [heardL, g0] using this
  | [], _, _, _, _, _, _, h1, _ => by simp at h1
  | _ :: _, [], _, _, _, _, _, _, h2 => by simp at h2
theorem waysR_len (T : Nat → Int) (t : Int) (r : Rule) : (waysR T t r).length = (br r).length := words_len T r _ _
theorem heardL_len : ∀ (bs : List Nat) (ws : List Way) (near far : List Int), bs.length = ws.length → (heardL bs ws near far).length = bs.length
  | [], [], _, _, _ => rfl
  | [], _ :: _, _, _, h => by simp at h
  | _ :: _, [], _, _, h => by simp at h
  | b :: bs, w :: ws, near, far, h => by simp [heardL, heardL_len bs ws near far (by simpa using h)]
theorem min_const {t lo hi a b : Int} (h : min lo t = min hi t) (h1 : lo ≤ a) (h2 : a ≤ hi) (h3 : lo ≤ b) (h4 : b ≤ hi) : min t a = min t b := by omega
/-- what a house wants lies between what it wants at both ends -/
theorem bracket {T : Nat → Int} (hT : ∀ j, 0 ≤ T j) {n : Nat} {t : Int} {r : Rule} (hw : wf n r) (nb : Way.both ∉ waysR T t r) {L H : List Int} (hE : ∀ j, 0 ≤ g0 L j ∧ g0 L j ≤ g0 H j ∧ g0 H j ≤ T j)
    {f : Nat → Int} (hf : ∀ k j, (br r)[k]? = some j → g0 L j ≤ f k ∧ f k ≤ g0 H j) : step1 T t r L H ≤ min t (tv r f) ∧ min t (tv r f) ≤ step1 T t r H L := by
  have way : ∀ {k j : Nat}, (br r)[k]? = some j → ∃ w, (waysR T t r)[k]? = some w := fun {k j} e => by
    have h1 := (List.getElem?_eq_some_iff.mp e).1
    have h2 := waysR_len T t r
    exact ⟨_, List.getElem?_eq_getElem (by omega)⟩
  have fit : Fit T (br r) f := fun k j e => by
    have := hf k j e
    have := hE j
    omega
  have fitL : Fit T (br r) (g0 (heardL (br r) (waysR T t r) L H)) := fun k j e => by
    obtain ⟨w, hw⟩ := way e
    rw [heardL_get e hw]
    have := hE j
    split <;> omega
  have fitH : Fit T (br r) (g0 (heardL (br r) (waysR T t r) H L)) := fun k j e => by
    obtain ⟨w, hw⟩ := way e
    rw [heardL_get e hw]
    have := hE j
    split <;> omega
  have q0 := range_in T hT n r f hw fit
  have q1 := range_in T hT n r _ hw fitL
  have q2 := range_in T hT n r _ hw fitH
  unfold step1
  by_cases e : min (range T r).1 t = min (range T r).2 t
  · have z1 := min_const e q1.2.1 q1.2.2 q0.2.1 q0.2.2
    have z2 := min_const e q0.2.1 q0.2.2 q2.2.1 q2.2.2
    exact ⟨Int.le_of_eq z1, Int.le_of_eq z2⟩
  · have e2 : (min (range T r).1 t == min (range T r).2 t) = false := by simpa using e
    have eW : waysR T t r = words T r false 1 := by unfold waysR; rw [e2]
    have w1 : With (words T r false 1) (g0 (heardL (br r) (waysR T t r) L H)) f := fun k w hk => by
      rw [← eW] at hk
      have hk2 := (List.getElem?_eq_some_iff.mp hk).1
      rw [waysR_len] at hk2
      have ej : (br r)[k]? = some (br r)[k] := List.getElem?_eq_getElem hk2
      rw [heardL_get ej hk]
      have := hf k _ ej
      refine ⟨fun z => nb (z ▸ List.mem_of_getElem? hk), fun z => ?_, fun z => ?_⟩
      · rw [if_neg (by rw [z]; exact fun y => nomatch y)]; exact this.1
      · rw [if_pos z]; exact this.2
    have w2 : With (words T r false 1) f (g0 (heardL (br r) (waysR T t r) H L)) := fun k w hk => by
      rw [← eW] at hk
      have hk2 := (List.getElem?_eq_some_iff.mp hk).1
      rw [waysR_len] at hk2
      have ej : (br r)[k]? = some (br r)[k] := List.getElem?_eq_getElem hk2
      rw [heardL_get ej hk]
      have := hf k _ ej
      refine ⟨fun z => nb (z ▸ List.mem_of_getElem? hk), fun z => ?_, fun z => ?_⟩
      · rw [if_neg (by rw [z]; exact fun y => nomatch y)]; exact this.2
      · rw [if_pos z]; exact this.1
    have z1 := (mono_r T hT n r 1 _ _ (.inl rfl) hw fitL fit w1).1 rfl
    have z2 := (mono_r T hT n r 1 _ _ (.inl rfl) hw fit fitH w2).1 rfl
    omega
theorem stepN_get {T : Nat → Int} {near far : List Int} : ∀ {ts : List Int} {rs : List Rule} {i : Nat} {t : Int} {r : Rule}, ts[i]? = some t → rs[i]? = some r → g0 (stepN T ts rs near far) i = step1 T t r near far
  | t :: ts, r :: rs, 0, t', r', h1, h2 => by simp at h1 h2; subst h1 h2; rfl
  | t :: ts, r :: rs, i + 1, t', r', h1, h2 => by
    have := stepN_get (T := T) (near := near) (far := far) (ts := ts) (rs := rs) (i := i) (t := t') (r := r') (by simpa using h1) (by simpa using h2)
    simpa [stepN, g0] using this
  | [], _, _, _, _, h1, _ => by simp at h1
  | _ :: _, [], _, _, _, _, h2 => by simp at h2
theorem stepN_len {T : Nat → Int} {near far : List Int} : ∀ {ts : List Int} {rs : List Rule}, ts.length = rs.length → (stepN T ts rs near far).length = ts.length
  | [], [], _ => rfl
  | t :: ts, r :: rs, h => by simp [stepN, stepN_len (T := T) (near := near) (far := far) (ts := ts) (rs := rs) (by simpa using h)]
  | [], _ :: _, h => by simp at h
  | _ :: _, [], h => by simp at h
theorem g0_out {xs : List Int} {j : Nat} (h : xs.length ≤ j) : g0 xs j = 0 := by
  unfold g0; rw [List.getD_eq_getElem?_getD, List.getElem?_eq_none h]; rfl
theorem wfs_get {n : Nat} : ∀ {rs : List Rule} {i : Nat} {r : Rule}, wfs n rs → rs[i]? = some r → wf n r
  | r :: rs, 0, r', h, e => by
    simp at e; subst e
    unfold wfs at h; exact h.1
  | r :: rs, i + 1, r', h, e => by
    unfold wfs at h
    exact wfs_get h.2 (by simpa using e)
  | [], _, _, _, e => by simp at e
theorem at_house {N : Nt} (h : wfN N) {j : Nat} (hj : j < N.1.length) : ∃ t r, N.1[j]? = some t ∧ N.2[j]? = some r ∧ wf N.1.length r ∧ 0 ≤ t ∧ t = g0 N.1 j := by
  have h2 : j < N.2.length := by rw [← h.1]; exact hj
  refine ⟨_, _, List.getElem?_eq_getElem hj, List.getElem?_eq_getElem h2, wfs_get h.2.2.2.2.1 (List.getElem?_eq_getElem h2), (h.2.2.2.1 _ (List.getElem_mem hj)).1, ?_⟩
  unfold g0
  rw [List.getD_eq_getElem?_getD, List.getElem?_eq_getElem hj]; rfl
/-- a state each house of which shows what it wants of things heard within ends lies within the next ones -/
theorem next_in {N : Nt} (h : wfN N) (ow : oneWay N) {E : En} (hE : okE N E) {s : List Int} (hl : s.length = N.1.length)
    (hs : ∀ (i : Nat) (t : Int) (r : Rule), N.1[i]? = some t → N.2[i]? = some r → ∃ f : Nat → Int, g0 s i = min t (tv r f) ∧ ∀ k j, (br r)[k]? = some j → g0 E.1 j ≤ f k ∧ f k ≤ g0 E.2 j) : InE (next N E) s := fun j => by
  by_cases hj : j < N.1.length
  · obtain ⟨t, r, e1, e2, hw, _⟩ := at_house h hj
    obtain ⟨f, e3, hf⟩ := hs j t r e1 e2
    have q := bracket (T := topOf N) (top_nn h) hw (ow j t r e1 e2) hE.2.2 hf
    show g0 (stepN _ _ _ _ _) j ≤ _ ∧ _ ≤ g0 (stepN _ _ _ _ _) j
    rw [stepN_get e1 e2, stepN_get e1 e2, e3]
    exact q
  · have hr := h.1
    show g0 (stepN _ _ _ _ _) j ≤ _ ∧ _ ≤ g0 (stepN _ _ _ _ _) j
    rw [g0_out (xs := stepN (topOf N) N.1 N.2 E.1 E.2) (by rw [stepN_len hr]; omega), g0_out (xs := stepN (topOf N) N.1 N.2 E.2 E.1) (by rw [stepN_len hr]; omega), g0_out (xs := s) (by omega)]
    exact ⟨Int.le_refl _, Int.le_refl _⟩
theorem step1_nn {T : Nat → Int} (hT : ∀ j, 0 ≤ T j) {n : Nat} {t : Int} (ht : 0 ≤ t) {r : Rule} (hw : wf n r) {L H : List Int} (hE : ∀ j, 0 ≤ g0 L j ∧ g0 L j ≤ T j ∧ 0 ≤ g0 H j ∧ g0 H j ≤ T j) : 0 ≤ step1 T t r L H ∧ step1 T t r L H ≤ t := by
  have fitL : Fit T (br r) (g0 (heardL (br r) (waysR T t r) L H)) := fun k j e => by
    have h1 := (List.getElem?_eq_some_iff.mp e).1
    have h2 := waysR_len T t r
    have hw : (waysR T t r)[k]? = some (waysR T t r)[k] := List.getElem?_eq_getElem (by omega)
    rw [heardL_get e hw]
    have := hE j
    split <;> omega
  have q1 := range_in T hT n r _ hw fitL
  unfold step1
  omega
theorem next_ok {N : Nt} (h : wfN N) (ow : oneWay N) {E : En} (hE : okE N E) : okE N (next N E) := by
  have hr := h.1
  refine ⟨stepN_len hr, stepN_len hr, fun j => ?_⟩
  by_cases hj : j < N.1.length
  · obtain ⟨t, r, e1, e2, hw, ht, et⟩ := at_house h hj
    show 0 ≤ g0 (stepN _ _ _ _ _) j ∧ g0 (stepN _ _ _ _ _) j ≤ g0 (stepN _ _ _ _ _) j ∧ g0 (stepN _ _ _ _ _) j ≤ _
    rw [stepN_get e1 e2, stepN_get e1 e2, ← et]
    have q1 := step1_nn (T := topOf N) (top_nn h) ht hw (L := E.1) (H := E.2) fun j => by have := hE.2.2 j; have e : topOf N j = g0 N.1 j := rfl; omega
    have q2 := step1_nn (T := topOf N) (top_nn h) ht hw (L := E.2) (H := E.1) fun j => by have := hE.2.2 j; have e : topOf N j = g0 N.1 j := rfl; omega
    have fit : ∀ k j, (br r)[k]? = some j → g0 E.1 j ≤ g0 (heardL (br r) (waysR (topOf N) t r) E.1 E.2) k ∧ g0 (heardL (br r) (waysR (topOf N) t r) E.1 E.2) k ≤ g0 E.2 j := fun k j e => by
      have h1 := (List.getElem?_eq_some_iff.mp e).1
      have h2 := waysR_len (topOf N) t r
      have hw : (waysR (topOf N) t r)[k]? = some (waysR (topOf N) t r)[k] := List.getElem?_eq_getElem (by omega)
      rw [heardL_get e hw]
      have := hE.2.2 j
      split <;> omega
    have q := bracket (T := topOf N) (top_nn h) hw (ow j t r e1 e2) hE.2.2 fit
    exact ⟨q1.1, q.2, q2.2⟩
  · show 0 ≤ g0 (stepN _ _ _ _ _) j ∧ g0 (stepN _ _ _ _ _) j ≤ g0 (stepN _ _ _ _ _) j ∧ g0 (stepN _ _ _ _ _) j ≤ _
    rw [g0_out (by rw [stepN_len hr]; omega), g0_out (by rw [stepN_len hr]; omega), g0_out (by omega)]
    exact ⟨Int.le_refl _, Int.le_refl _, Int.le_refl _⟩
theorem next_mono {N : Nt} (h : wfN N) (ow : oneWay N) {E E' : En} (hE : okE N E) (hE' : okE N E') (w : Within E E') : Within (next N E) (next N E') := fun j => by
  have hr := h.1
  by_cases hj : j < N.1.length
  · obtain ⟨t, r, e1, e2, hw, ht, et⟩ := at_house h hj
    have fit : ∀ {A B : List Int}, (A = E.1 ∧ B = E.2 ∨ A = E.2 ∧ B = E.1) → ∀ k j, (br r)[k]? = some j → g0 E'.1 j ≤ g0 (heardL (br r) (waysR (topOf N) t r) A B) k ∧ g0 (heardL (br r) (waysR (topOf N) t r) A B) k ≤ g0 E'.2 j := fun {A B} hAB k j e => by
      have h1 := (List.getElem?_eq_some_iff.mp e).1
      have h2 := waysR_len (topOf N) t r
      have hw : (waysR (topOf N) t r)[k]? = some (waysR (topOf N) t r)[k] := List.getElem?_eq_getElem (by omega)
      rw [heardL_get e hw]
      have := hE.2.2 j
      have := w j
      rcases hAB with ⟨rfl, rfl⟩ | ⟨rfl, rfl⟩ <;> split <;> omega
    have q1 := bracket (T := topOf N) (top_nn h) hw (ow j t r e1 e2) hE'.2.2 (fit (.inl ⟨rfl, rfl⟩))
    have q2 := bracket (T := topOf N) (top_nn h) hw (ow j t r e1 e2) hE'.2.2 (fit (.inr ⟨rfl, rfl⟩))
    show g0 (stepN _ _ _ _ _) j ≤ g0 (stepN _ _ _ _ _) j ∧ g0 (stepN _ _ _ _ _) j ≤ g0 (stepN _ _ _ _ _) j
    rw [stepN_get e1 e2, stepN_get e1 e2, stepN_get e1 e2, stepN_get e1 e2]
    exact ⟨q1.1, q2.2⟩
  · show g0 (stepN _ _ _ _ _) j ≤ g0 (stepN _ _ _ _ _) j ∧ g0 (stepN _ _ _ _ _) j ≤ g0 (stepN _ _ _ _ _) j
    rw [g0_out (by rw [stepN_len hr]; omega), g0_out (by rw [stepN_len hr]; omega), g0_out (by rw [stepN_len hr]; omega), g0_out (by rw [stepN_len hr]; omega)]
    exact ⟨Int.le_refl _, Int.le_refl _⟩

/-! ### rounds -/
def it (N : Nt) : Nat → En → En
  | 0, E => E
  | n + 1, E => next N (it N n E)
def Cl (N : Nt) (E : En) : Prop := Within (next N E) E
theorem Within.trans {A B C : En} (h : Within A B) (k : Within B C) : Within A C := fun j => by have := h j; have := k j; omega
theorem Within.refl (A : En) : Within A A := fun j => ⟨Int.le_refl _, Int.le_refl _⟩
theorem it_ok {N : Nt} (h : wfN N) (ow : oneWay N) {E : En} (hE : okE N E) : ∀ n, okE N (it N n E)
  | 0 => hE
  | n + 1 => next_ok h ow (it_ok h ow hE n)
theorem it_cl {N : Nt} (h : wfN N) (ow : oneWay N) {E : En} (hE : okE N E) (c : Cl N E) : ∀ n, Cl N (it N n E)
  | 0 => c
  | n + 1 => next_mono h ow (next_ok h ow (it_ok h ow hE n)) (it_ok h ow hE n) (it_cl h ow hE c n)
theorem it_dec {N : Nt} (h : wfN N) (ow : oneWay N) {E : En} (hE : okE N E) (c : Cl N E) {m : Nat} : ∀ {n : Nat}, m ≤ n → Within (it N n E) (it N m E)
  | 0, hm => by
    have : m = 0 := by omega
    subst this; exact Within.refl _
  | n + 1, hm => by
    by_cases e : m = n + 1
    · subst e; exact Within.refl _
    · exact (it_cl h ow hE c n).trans (it_dec h ow hE c (by omega))
theorem it_fix {N : Nt} {E : En} {m : Nat} (h : next N (it N m E) = it N m E) : ∀ {n : Nat}, m ≤ n → it N n E = it N m E
  | 0, hm => by
    have : m = 0 := by omega
    subst this; rfl
  | n + 1, hm => by
    by_cases e : m = n + 1
    · subst e; rfl
    · show next N (it N n E) = _
      rw [it_fix h (by omega)]; exact h
/-- sums fall -/
def gap : List Int → List Int → Int
  | a :: as, b :: bs => (b - a) + gap as bs
  | _, _ => 0
theorem gap_le : ∀ {A B A' B' : List Int}, A.length = B.length → A'.length = A.length → B'.length = B.length → (∀ j, g0 A j ≤ g0 A' j ∧ g0 B' j ≤ g0 B j) → gap A' B' ≤ gap A B ∧ (gap A' B' = gap A B → A' = A ∧ B' = B)
  | [], [], A', B', _, h2, h3, _ => by
    have e1 : A' = [] := List.eq_nil_of_length_eq_zero h2
    have e2 : B' = [] := List.eq_nil_of_length_eq_zero h3
    subst e1 e2
    exact ⟨Int.le_refl _, fun _ => ⟨rfl, rfl⟩⟩
  | a :: A, b :: B, [], B', _, h2, _, _ => by simp at h2
  | a :: A, b :: B, a' :: A', [], _, _, h3, _ => by simp at h3
  | a :: A, b :: B, a' :: A', b' :: B', h1, h2, h3, h => by
    obtain ⟨q1, q2⟩ := gap_le (A := A) (B := B) (A' := A') (B' := B') (by simpa using h1) (by simpa using h2) (by simpa using h3) (fun j => by simpa [g0] using h (j + 1))
    have h0 := h 0
    simp only [g0, List.getD_cons_zero] at h0
    show (b' - a') + gap A' B' ≤ (b - a) + gap A B ∧ ((b' - a') + gap A' B' = (b - a) + gap A B → _)
    refine ⟨by omega, fun e => ?_⟩
    have e1 : gap A' B' = gap A B := by omega
    obtain ⟨z1, z2⟩ := q2 e1
    have e2 : a' = a := by omega
    have e3 : b' = b := by omega
    rw [z1, z2, e2, e3]
    exact ⟨rfl, rfl⟩
  | [], _ :: _, _, _, h1, _, _, _ => by simp at h1
  | _ :: _, [], _, _, h1, _, _, _ => by simp at h1
theorem gap_nn : ∀ {A B : List Int}, (∀ j, g0 A j ≤ g0 B j) → 0 ≤ gap A B
  | a :: A, b :: B, h => by
    have h0 := h 0
    simp only [g0, List.getD_cons_zero] at h0
    have := gap_nn (A := A) (B := B) fun j => by simpa [g0] using h (j + 1)
    show 0 ≤ (b - a) + gap A B
    omega
  | [], _, _ => Int.le_refl 0
  | _ :: _, [], _ => Int.le_refl 0
/-- the measure of led -/
def mGap (E : En) : Nat := (gap E.1 E.2).toNat
theorem gap_fall {N : Nt} {E E' : En} (hE : okE N E) (hE' : okE N E') (w : Within E' E) (ne : E' ≠ E) : mGap E' < mGap E := by
  obtain ⟨q1, q2⟩ := gap_le (A := E.1) (B := E.2) (A' := E'.1) (B' := E'.2) (by rw [hE.1, hE.2.1]) (by rw [hE.1, hE'.1]) (by rw [hE.2.1, hE'.2.1]) fun j => ⟨(w j).1, (w j).2⟩
  have h1 := gap_nn (A := E'.1) (B := E'.2) fun j => (hE'.2.2 j).2.1
  have : gap E'.1 E'.2 ≠ gap E.1 E.2 := fun z => ne (Prod.ext (q2 z).1 (q2 z).2)
  unfold mGap
  omega
/-- the measure of closed -/
def mHull (N : Nt) (E : En) : Nat := (gap N.1 N.1 - gap E.1 E.2 + gap (N.1.map fun _ => 0) N.1).toNat
theorem gap_zero : ∀ A : List Int, gap A A = 0
  | [] => rfl
  | a :: A => by show (a - a) + gap A A = 0; rw [gap_zero A]; omega
theorem g0_map0 : ∀ (A : List Int) (j : Nat), g0 (A.map fun _ => (0 : Int)) j = 0
  | [], j => by simp [g0]
  | a :: A, 0 => rfl
  | a :: A, j + 1 => by
    have := g0_map0 A j
    simpa [g0] using this
theorem hull_fall {N : Nt} {E E' : En} (hE : okE N E) (hE' : okE N E') (w : Within E E') (ne : E' ≠ E) : mHull N E' < mHull N E := by
  obtain ⟨q1, q2⟩ := gap_le (A := E'.1) (B := E'.2) (A' := E.1) (B' := E.2) (by rw [hE'.1, hE'.2.1]) (by rw [hE.1, hE'.1]) (by rw [hE.2.1, hE'.2.1]) fun j => ⟨(w j).1, (w j).2⟩
  have z1 : gap E.1 E.2 ≠ gap E'.1 E'.2 := fun z => ne (Prod.ext (q2 z).1.symm (q2 z).2.symm)
  obtain ⟨q3, _⟩ := gap_le (A := N.1.map fun _ => 0) (B := N.1) (A' := E'.1) (B' := E'.2) (by simp) (by simp [hE'.1]) (by rw [hE'.2.1]) fun j => ⟨by rw [g0_map0]; exact (hE'.2.2 j).1, (hE'.2.2 j).2.2⟩
  unfold mHull
  rw [gap_zero]
  omega
/-- the hull of two ends -/
def zipMin : List Int → List Int → List Int
  | a :: as, b :: bs => min a b :: zipMin as bs
  | _, _ => []
def zipMax : List Int → List Int → List Int
  | a :: as, b :: bs => max a b :: zipMax as bs
  | _, _ => []
def hull2 (A B : En) : En := (zipMin A.1 B.1, zipMax A.2 B.2)
theorem zipMin_len : ∀ {A B : List Int}, A.length = B.length → (zipMin A B).length = A.length
  | [], [], _ => rfl
  | a :: A, b :: B, h => by simp [zipMin, zipMin_len (A := A) (B := B) (by simpa using h)]
  | [], _ :: _, h => by simp at h
  | _ :: _, [], h => by simp at h
theorem zipMax_len : ∀ {A B : List Int}, A.length = B.length → (zipMax A B).length = A.length
  | [], [], _ => rfl
  | a :: A, b :: B, h => by simp [zipMax, zipMax_len (A := A) (B := B) (by simpa using h)]
  | [], _ :: _, h => by simp at h
  | _ :: _, [], h => by simp at h
theorem zipMin_get : ∀ {A B : List Int}, A.length = B.length → ∀ j, g0 (zipMin A B) j = min (g0 A j) (g0 B j)
  | [], [], _, j => by simp [zipMin, g0]
  | a :: A, b :: B, h, 0 => rfl
  | a :: A, b :: B, h, j + 1 => by
    have := zipMin_get (A := A) (B := B) (by simpa using h) j
    simpa [zipMin, g0] using this
  | [], _ :: _, h, _ => by simp at h
  | _ :: _, [], h, _ => by simp at h
theorem zipMax_get : ∀ {A B : List Int}, A.length = B.length → ∀ j, g0 (zipMax A B) j = max (g0 A j) (g0 B j)
  | [], [], _, j => by simp [zipMax, g0]
  | a :: A, b :: B, h, 0 => rfl
  | a :: A, b :: B, h, j + 1 => by
    have := zipMax_get (A := A) (B := B) (by simpa using h) j
    simpa [zipMax, g0] using this
  | [], _ :: _, h, _ => by simp at h
  | _ :: _, [], h, _ => by simp at h
theorem hull_ok {N : Nt} {A B : En} (hA : okE N A) (hB : okE N B) : okE N (hull2 A B) ∧ Within A (hull2 A B) ∧ Within B (hull2 A B) := by
  have e1 : A.1.length = B.1.length := by rw [hA.1, hB.1]
  have e2 : A.2.length = B.2.length := by rw [hA.2.1, hB.2.1]
  refine ⟨⟨by show (zipMin _ _).length = _; rw [zipMin_len e1, hA.1], by show (zipMax _ _).length = _; rw [zipMax_len e2, hA.2.1], fun j => ?_⟩, fun j => ?_, fun j => ?_⟩
  · show 0 ≤ g0 (zipMin _ _) j ∧ g0 (zipMin _ _) j ≤ g0 (zipMax _ _) j ∧ g0 (zipMax _ _) j ≤ _
    rw [zipMin_get e1, zipMax_get e2]
    have := hA.2.2 j; have := hB.2.2 j
    omega
  · show g0 (zipMin _ _) j ≤ _ ∧ _ ≤ g0 (zipMax _ _) j
    rw [zipMin_get e1, zipMax_get e2]; omega
  · show g0 (zipMin _ _) j ≤ _ ∧ _ ≤ g0 (zipMax _ _) j
    rw [zipMin_get e1, zipMax_get e2]; omega
end NB

/-! EN -/
set_option Elab.async false
set_option linter.all false
set_option maxRecDepth 100000
namespace NB
open PySem PySem.Spec PyProof.Rows L2

theorem dq_is_hear : decide (("is" : Str) = ("hear" : Str)) = false := by decide
theorem dq_is_least : decide (("is" : Str) = ("least" : Str)) = false := by decide
theorem dq_is_most : decide (("is" : Str) = ("most" : Str)) = false := by decide
theorem dq_is_add : decide (("is" : Str) = ("add" : Str)) = false := by decide
theorem dq_is_middle : decide (("is" : Str) = ("middle" : Str)) = false := by decide
theorem dq_is_times : decide (("is" : Str) = ("times" : Str)) = false := by decide
theorem dq_is_part : decide (("is" : Str) = ("part" : Str)) = false := by decide
theorem dq_is_clip : decide (("is" : Str) = ("clip" : Str)) = false := by decide
theorem dq_is_from : decide (("is" : Str) = ("from" : Str)) = false := by decide
theorem dq_is_bar : decide (("is" : Str) = ("bar" : Str)) = false := by decide
theorem dq_is_row : decide (("is" : Str) = ("row" : Str)) = false := by decide
theorem dq_hear_is : decide (("hear" : Str) = ("is" : Str)) = false := by decide
theorem dq_hear_least : decide (("hear" : Str) = ("least" : Str)) = false := by decide
theorem dq_hear_most : decide (("hear" : Str) = ("most" : Str)) = false := by decide
theorem dq_hear_add : decide (("hear" : Str) = ("add" : Str)) = false := by decide
theorem dq_hear_middle : decide (("hear" : Str) = ("middle" : Str)) = false := by decide
theorem dq_hear_times : decide (("hear" : Str) = ("times" : Str)) = false := by decide
theorem dq_hear_part : decide (("hear" : Str) = ("part" : Str)) = false := by decide
theorem dq_hear_clip : decide (("hear" : Str) = ("clip" : Str)) = false := by decide
theorem dq_hear_from : decide (("hear" : Str) = ("from" : Str)) = false := by decide
theorem dq_hear_bar : decide (("hear" : Str) = ("bar" : Str)) = false := by decide
theorem dq_hear_row : decide (("hear" : Str) = ("row" : Str)) = false := by decide
theorem dq_least_is : decide (("least" : Str) = ("is" : Str)) = false := by decide
theorem dq_least_hear : decide (("least" : Str) = ("hear" : Str)) = false := by decide
theorem dq_least_most : decide (("least" : Str) = ("most" : Str)) = false := by decide
theorem dq_least_add : decide (("least" : Str) = ("add" : Str)) = false := by decide
theorem dq_least_middle : decide (("least" : Str) = ("middle" : Str)) = false := by decide
theorem dq_least_times : decide (("least" : Str) = ("times" : Str)) = false := by decide
theorem dq_least_part : decide (("least" : Str) = ("part" : Str)) = false := by decide
theorem dq_least_clip : decide (("least" : Str) = ("clip" : Str)) = false := by decide
theorem dq_least_from : decide (("least" : Str) = ("from" : Str)) = false := by decide
theorem dq_least_bar : decide (("least" : Str) = ("bar" : Str)) = false := by decide
theorem dq_least_row : decide (("least" : Str) = ("row" : Str)) = false := by decide
theorem dq_most_is : decide (("most" : Str) = ("is" : Str)) = false := by decide
theorem dq_most_hear : decide (("most" : Str) = ("hear" : Str)) = false := by decide
theorem dq_most_least : decide (("most" : Str) = ("least" : Str)) = false := by decide
theorem dq_most_add : decide (("most" : Str) = ("add" : Str)) = false := by decide
theorem dq_most_middle : decide (("most" : Str) = ("middle" : Str)) = false := by decide
theorem dq_most_times : decide (("most" : Str) = ("times" : Str)) = false := by decide
theorem dq_most_part : decide (("most" : Str) = ("part" : Str)) = false := by decide
theorem dq_most_clip : decide (("most" : Str) = ("clip" : Str)) = false := by decide
theorem dq_most_from : decide (("most" : Str) = ("from" : Str)) = false := by decide
theorem dq_most_bar : decide (("most" : Str) = ("bar" : Str)) = false := by decide
theorem dq_most_row : decide (("most" : Str) = ("row" : Str)) = false := by decide
theorem dq_add_is : decide (("add" : Str) = ("is" : Str)) = false := by decide
theorem dq_add_hear : decide (("add" : Str) = ("hear" : Str)) = false := by decide
theorem dq_add_least : decide (("add" : Str) = ("least" : Str)) = false := by decide
theorem dq_add_most : decide (("add" : Str) = ("most" : Str)) = false := by decide
theorem dq_add_middle : decide (("add" : Str) = ("middle" : Str)) = false := by decide
theorem dq_add_times : decide (("add" : Str) = ("times" : Str)) = false := by decide
theorem dq_add_part : decide (("add" : Str) = ("part" : Str)) = false := by decide
theorem dq_add_clip : decide (("add" : Str) = ("clip" : Str)) = false := by decide
theorem dq_add_from : decide (("add" : Str) = ("from" : Str)) = false := by decide
theorem dq_add_bar : decide (("add" : Str) = ("bar" : Str)) = false := by decide
theorem dq_add_row : decide (("add" : Str) = ("row" : Str)) = false := by decide
theorem dq_middle_is : decide (("middle" : Str) = ("is" : Str)) = false := by decide
theorem dq_middle_hear : decide (("middle" : Str) = ("hear" : Str)) = false := by decide
theorem dq_middle_least : decide (("middle" : Str) = ("least" : Str)) = false := by decide
theorem dq_middle_most : decide (("middle" : Str) = ("most" : Str)) = false := by decide
theorem dq_middle_add : decide (("middle" : Str) = ("add" : Str)) = false := by decide
theorem dq_middle_times : decide (("middle" : Str) = ("times" : Str)) = false := by decide
theorem dq_middle_part : decide (("middle" : Str) = ("part" : Str)) = false := by decide
theorem dq_middle_clip : decide (("middle" : Str) = ("clip" : Str)) = false := by decide
theorem dq_middle_from : decide (("middle" : Str) = ("from" : Str)) = false := by decide
theorem dq_middle_bar : decide (("middle" : Str) = ("bar" : Str)) = false := by decide
theorem dq_middle_row : decide (("middle" : Str) = ("row" : Str)) = false := by decide
theorem dq_times_is : decide (("times" : Str) = ("is" : Str)) = false := by decide
theorem dq_times_hear : decide (("times" : Str) = ("hear" : Str)) = false := by decide
theorem dq_times_least : decide (("times" : Str) = ("least" : Str)) = false := by decide
theorem dq_times_most : decide (("times" : Str) = ("most" : Str)) = false := by decide
theorem dq_times_add : decide (("times" : Str) = ("add" : Str)) = false := by decide
theorem dq_times_middle : decide (("times" : Str) = ("middle" : Str)) = false := by decide
theorem dq_times_part : decide (("times" : Str) = ("part" : Str)) = false := by decide
theorem dq_times_clip : decide (("times" : Str) = ("clip" : Str)) = false := by decide
theorem dq_times_from : decide (("times" : Str) = ("from" : Str)) = false := by decide
theorem dq_times_bar : decide (("times" : Str) = ("bar" : Str)) = false := by decide
theorem dq_times_row : decide (("times" : Str) = ("row" : Str)) = false := by decide
theorem dq_part_is : decide (("part" : Str) = ("is" : Str)) = false := by decide
theorem dq_part_hear : decide (("part" : Str) = ("hear" : Str)) = false := by decide
theorem dq_part_least : decide (("part" : Str) = ("least" : Str)) = false := by decide
theorem dq_part_most : decide (("part" : Str) = ("most" : Str)) = false := by decide
theorem dq_part_add : decide (("part" : Str) = ("add" : Str)) = false := by decide
theorem dq_part_middle : decide (("part" : Str) = ("middle" : Str)) = false := by decide
theorem dq_part_times : decide (("part" : Str) = ("times" : Str)) = false := by decide
theorem dq_part_clip : decide (("part" : Str) = ("clip" : Str)) = false := by decide
theorem dq_part_from : decide (("part" : Str) = ("from" : Str)) = false := by decide
theorem dq_part_bar : decide (("part" : Str) = ("bar" : Str)) = false := by decide
theorem dq_part_row : decide (("part" : Str) = ("row" : Str)) = false := by decide
theorem dq_clip_is : decide (("clip" : Str) = ("is" : Str)) = false := by decide
theorem dq_clip_hear : decide (("clip" : Str) = ("hear" : Str)) = false := by decide
theorem dq_clip_least : decide (("clip" : Str) = ("least" : Str)) = false := by decide
theorem dq_clip_most : decide (("clip" : Str) = ("most" : Str)) = false := by decide
theorem dq_clip_add : decide (("clip" : Str) = ("add" : Str)) = false := by decide
theorem dq_clip_middle : decide (("clip" : Str) = ("middle" : Str)) = false := by decide
theorem dq_clip_times : decide (("clip" : Str) = ("times" : Str)) = false := by decide
theorem dq_clip_part : decide (("clip" : Str) = ("part" : Str)) = false := by decide
theorem dq_clip_from : decide (("clip" : Str) = ("from" : Str)) = false := by decide
theorem dq_clip_bar : decide (("clip" : Str) = ("bar" : Str)) = false := by decide
theorem dq_clip_row : decide (("clip" : Str) = ("row" : Str)) = false := by decide
theorem dq_from_is : decide (("from" : Str) = ("is" : Str)) = false := by decide
theorem dq_from_hear : decide (("from" : Str) = ("hear" : Str)) = false := by decide
theorem dq_from_least : decide (("from" : Str) = ("least" : Str)) = false := by decide
theorem dq_from_most : decide (("from" : Str) = ("most" : Str)) = false := by decide
theorem dq_from_add : decide (("from" : Str) = ("add" : Str)) = false := by decide
theorem dq_from_middle : decide (("from" : Str) = ("middle" : Str)) = false := by decide
theorem dq_from_times : decide (("from" : Str) = ("times" : Str)) = false := by decide
theorem dq_from_part : decide (("from" : Str) = ("part" : Str)) = false := by decide
theorem dq_from_clip : decide (("from" : Str) = ("clip" : Str)) = false := by decide
theorem dq_from_bar : decide (("from" : Str) = ("bar" : Str)) = false := by decide
theorem dq_from_row : decide (("from" : Str) = ("row" : Str)) = false := by decide
theorem dq_bar_is : decide (("bar" : Str) = ("is" : Str)) = false := by decide
theorem dq_bar_hear : decide (("bar" : Str) = ("hear" : Str)) = false := by decide
theorem dq_bar_least : decide (("bar" : Str) = ("least" : Str)) = false := by decide
theorem dq_bar_most : decide (("bar" : Str) = ("most" : Str)) = false := by decide
theorem dq_bar_add : decide (("bar" : Str) = ("add" : Str)) = false := by decide
theorem dq_bar_middle : decide (("bar" : Str) = ("middle" : Str)) = false := by decide
theorem dq_bar_times : decide (("bar" : Str) = ("times" : Str)) = false := by decide
theorem dq_bar_part : decide (("bar" : Str) = ("part" : Str)) = false := by decide
theorem dq_bar_clip : decide (("bar" : Str) = ("clip" : Str)) = false := by decide
theorem dq_bar_from : decide (("bar" : Str) = ("from" : Str)) = false := by decide
theorem dq_bar_row : decide (("bar" : Str) = ("row" : Str)) = false := by decide
theorem dq_row_is : decide (("row" : Str) = ("is" : Str)) = false := by decide
theorem dq_row_hear : decide (("row" : Str) = ("hear" : Str)) = false := by decide
theorem dq_row_least : decide (("row" : Str) = ("least" : Str)) = false := by decide
theorem dq_row_most : decide (("row" : Str) = ("most" : Str)) = false := by decide
theorem dq_row_add : decide (("row" : Str) = ("add" : Str)) = false := by decide
theorem dq_row_middle : decide (("row" : Str) = ("middle" : Str)) = false := by decide
theorem dq_row_times : decide (("row" : Str) = ("times" : Str)) = false := by decide
theorem dq_row_part : decide (("row" : Str) = ("part" : Str)) = false := by decide
theorem dq_row_clip : decide (("row" : Str) = ("clip" : Str)) = false := by decide
theorem dq_row_from : decide (("row" : Str) = ("from" : Str)) = false := by decide
theorem dq_row_bar : decide (("row" : Str) = ("bar" : Str)) = false := by decide
theorem dq_none_both : decide (("none" : Str) = ("both" : Str)) = false := by decide
theorem dq_none_falls : decide (("none" : Str) = ("falls" : Str)) = false := by decide
theorem dq_none_rises : decide (("none" : Str) = ("rises" : Str)) = false := by decide
theorem dq_both_none : decide (("both" : Str) = ("none" : Str)) = false := by decide
theorem dq_both_falls : decide (("both" : Str) = ("falls" : Str)) = false := by decide
theorem dq_both_rises : decide (("both" : Str) = ("rises" : Str)) = false := by decide
theorem dq_falls_none : decide (("falls" : Str) = ("none" : Str)) = false := by decide
theorem dq_falls_both : decide (("falls" : Str) = ("both" : Str)) = false := by decide
theorem dq_falls_rises : decide (("falls" : Str) = ("rises" : Str)) = false := by decide
theorem dq_rises_none : decide (("rises" : Str) = ("none" : Str)) = false := by decide
theorem dq_rises_both : decide (("rises" : Str) = ("both" : Str)) = false := by decide
theorem dq_rises_falls : decide (("rises" : Str) = ("falls" : Str)) = false := by decide
theorem dq_wait_rule : decide (("wait" : Str) = ("rule" : Str)) = false := by decide
theorem dq_wait_house : decide (("wait" : Str) = ("house" : Str)) = false := by decide
theorem dq_wait_seen : decide (("wait" : Str) = ("seen" : Str)) = false := by decide
theorem dq_rule_wait : decide (("rule" : Str) = ("wait" : Str)) = false := by decide
theorem dq_rule_house : decide (("rule" : Str) = ("house" : Str)) = false := by decide
theorem dq_rule_seen : decide (("rule" : Str) = ("seen" : Str)) = false := by decide
theorem dq_house_wait : decide (("house" : Str) = ("wait" : Str)) = false := by decide
theorem dq_house_rule : decide (("house" : Str) = ("rule" : Str)) = false := by decide
theorem dq_house_seen : decide (("house" : Str) = ("seen" : Str)) = false := by decide
theorem dq_seen_wait : decide (("seen" : Str) = ("wait" : Str)) = false := by decide
theorem dq_seen_rule : decide (("seen" : Str) = ("rule" : Str)) = false := by decide
theorem dq_seen_house : decide (("seen" : Str) = ("house" : Str)) = false := by decide
theorem dq_same (x : Str) : decide (x = x) = true := decide_eq_true rfl
theorem di_is : decide (("is" : Str) ∈ (["least", "most", "add"] : List Str)) = false := by decide
theorem dj_is : decide (("is" : Str) ∈ (["is", "hear"] : List Str)) = true := by decide
theorem dk_is : decide (("is" : Str) ∈ (["least", "most", "add", "middle"] : List Str)) = false := by decide
theorem dl_is : decide (("is" : Str) ∈ (["times", "part"] : List Str)) = false := by decide
theorem di_hear : decide (("hear" : Str) ∈ (["least", "most", "add"] : List Str)) = false := by decide
theorem dj_hear : decide (("hear" : Str) ∈ (["is", "hear"] : List Str)) = true := by decide
theorem dk_hear : decide (("hear" : Str) ∈ (["least", "most", "add", "middle"] : List Str)) = false := by decide
theorem dl_hear : decide (("hear" : Str) ∈ (["times", "part"] : List Str)) = false := by decide
theorem di_least : decide (("least" : Str) ∈ (["least", "most", "add"] : List Str)) = true := by decide
theorem dj_least : decide (("least" : Str) ∈ (["is", "hear"] : List Str)) = false := by decide
theorem dk_least : decide (("least" : Str) ∈ (["least", "most", "add", "middle"] : List Str)) = true := by decide
theorem dl_least : decide (("least" : Str) ∈ (["times", "part"] : List Str)) = false := by decide
theorem di_most : decide (("most" : Str) ∈ (["least", "most", "add"] : List Str)) = true := by decide
theorem dj_most : decide (("most" : Str) ∈ (["is", "hear"] : List Str)) = false := by decide
theorem dk_most : decide (("most" : Str) ∈ (["least", "most", "add", "middle"] : List Str)) = true := by decide
theorem dl_most : decide (("most" : Str) ∈ (["times", "part"] : List Str)) = false := by decide
theorem di_add : decide (("add" : Str) ∈ (["least", "most", "add"] : List Str)) = true := by decide
theorem dj_add : decide (("add" : Str) ∈ (["is", "hear"] : List Str)) = false := by decide
theorem dk_add : decide (("add" : Str) ∈ (["least", "most", "add", "middle"] : List Str)) = true := by decide
theorem dl_add : decide (("add" : Str) ∈ (["times", "part"] : List Str)) = false := by decide
theorem di_middle : decide (("middle" : Str) ∈ (["least", "most", "add"] : List Str)) = false := by decide
theorem dj_middle : decide (("middle" : Str) ∈ (["is", "hear"] : List Str)) = false := by decide
theorem dk_middle : decide (("middle" : Str) ∈ (["least", "most", "add", "middle"] : List Str)) = true := by decide
theorem dl_middle : decide (("middle" : Str) ∈ (["times", "part"] : List Str)) = false := by decide
theorem di_times : decide (("times" : Str) ∈ (["least", "most", "add"] : List Str)) = false := by decide
theorem dj_times : decide (("times" : Str) ∈ (["is", "hear"] : List Str)) = false := by decide
theorem dk_times : decide (("times" : Str) ∈ (["least", "most", "add", "middle"] : List Str)) = false := by decide
theorem dl_times : decide (("times" : Str) ∈ (["times", "part"] : List Str)) = true := by decide
theorem di_part : decide (("part" : Str) ∈ (["least", "most", "add"] : List Str)) = false := by decide
theorem dj_part : decide (("part" : Str) ∈ (["is", "hear"] : List Str)) = false := by decide
theorem dk_part : decide (("part" : Str) ∈ (["least", "most", "add", "middle"] : List Str)) = false := by decide
theorem dl_part : decide (("part" : Str) ∈ (["times", "part"] : List Str)) = true := by decide
theorem di_clip : decide (("clip" : Str) ∈ (["least", "most", "add"] : List Str)) = false := by decide
theorem dj_clip : decide (("clip" : Str) ∈ (["is", "hear"] : List Str)) = false := by decide
theorem dk_clip : decide (("clip" : Str) ∈ (["least", "most", "add", "middle"] : List Str)) = false := by decide
theorem dl_clip : decide (("clip" : Str) ∈ (["times", "part"] : List Str)) = false := by decide
theorem di_from : decide (("from" : Str) ∈ (["least", "most", "add"] : List Str)) = false := by decide
theorem dj_from : decide (("from" : Str) ∈ (["is", "hear"] : List Str)) = false := by decide
theorem dk_from : decide (("from" : Str) ∈ (["least", "most", "add", "middle"] : List Str)) = false := by decide
theorem dl_from : decide (("from" : Str) ∈ (["times", "part"] : List Str)) = false := by decide
theorem di_bar : decide (("bar" : Str) ∈ (["least", "most", "add"] : List Str)) = false := by decide
theorem dj_bar : decide (("bar" : Str) ∈ (["is", "hear"] : List Str)) = false := by decide
theorem dk_bar : decide (("bar" : Str) ∈ (["least", "most", "add", "middle"] : List Str)) = false := by decide
theorem dl_bar : decide (("bar" : Str) ∈ (["times", "part"] : List Str)) = false := by decide
theorem di_row : decide (("row" : Str) ∈ (["least", "most", "add"] : List Str)) = false := by decide
theorem dj_row : decide (("row" : Str) ∈ (["is", "hear"] : List Str)) = false := by decide
theorem dk_row : decide (("row" : Str) ∈ (["least", "most", "add", "middle"] : List Str)) = false := by decide
theorem dl_row : decide (("row" : Str) ∈ (["times", "part"] : List Str)) = false := by decide
theorem kt_int_int : kitB "int" "int" = some true := by decide +kernel
theorem kt_int_bool : kitB "int" "bool" = some false := by decide +kernel
theorem kt_bool_int : kitB "bool" "int" = some true := by decide +kernel
theorem kt_bool_bool : kitB "bool" "bool" = some true := by decide +kernel
theorem kt_tuple_tuple : kitB "tuple" "tuple" = some true := by decide +kernel
theorem kt_str_str : kitB "str" "str" = some true := by decide +kernel
theorem kt_int_tuple : kitB "int" "tuple" = some false := by decide +kernel
theorem kt_str_tuple : kitB "str" "tuple" = some false := by decide +kernel
theorem kt_tuple_int : kitB "tuple" "int" = some false := by decide +kernel
theorem kt_tuple_str : kitB "tuple" "str" = some false := by decide +kernel
theorem kt_NoneType_tuple : kitB "NoneType" "tuple" = some false := by decide +kernel
theorem kt_str_int : kitB "str" "int" = some false := by decide +kernel

def iD (xs : List Int) : List D := xs.map D.int
def encH (h : Head) (es : List D) : D := match h with
  | .is w => .tup [.str "is", .int w]
  | .hear j => .tup [.str "hear", .int j]
  | .least => .tup [.str "least", .tup es]
  | .most => .tup [.str "most", .tup es]
  | .add => .tup [.str "add", .tup es]
  | .middle => .tup (.str "middle" :: es)
  | .times m => .tup (.str "times" :: .int m :: es)
  | .part d => .tup (.str "part" :: .int d :: es)
  | .clip lo hi => .tup (.str "clip" :: .int lo :: .int hi :: es)
  | .sub w => .tup (.str "from" :: .int w :: es)
  | .bar k lo hi => .tup (.str "bar" :: .int k :: .int lo :: .int hi :: es)
  | .row ws => .tup (.str "row" :: .tup (iD ws) :: es)
mutual
def enc : Rule → D
  | .node h ps => encH h (encs ps)
def encs : List Rule → List D
  | [] => []
  | p :: ps => enc p :: encs ps
end
theorem encs_len : ∀ ps : List Rule, (encs ps).length = ps.length
  | [] => rfl
  | p :: ps => by simp [encs, encs_len ps]
theorem encs_map : ∀ ps : List Rule, encs ps = ps.map enc
  | [] => rfl
  | p :: ps => by simp [encs, encs_map ps]
def encN (N : Nt) : D := .tup [.tup (iD N.1), .tup (encs N.2)]
def encE (E : En) : D := .tup [.tup (iD E.1), .tup (iD E.2)]
def encW : Way → D
  | .none => .str "none"
  | .both => .str "both"
  | .falls => .str "falls"
  | .rises => .str "rises"
/-- unary heads -/
theorem one_of {ps : List Rule} (h : ps.length = 1) : ∃ p, ps = [p] := by
  match ps, h with
  | [p], _ => exact ⟨p, rfl⟩
theorem three_of {ps : List Rule} (h : ps.length = 3) : ∃ p q r, ps = [p, q, r] := by
  match ps, h with
  | [p, q, r], _ => exact ⟨p, q, r, rfl⟩
theorem none_of {ps : List Rule} (h : ps.length = 0) : ps = [] := List.eq_nil_of_length_eq_zero h
end NB

/-! SP -/
set_option Elab.async false
set_option linter.all false
set_option maxRecDepth 100000
namespace NB
open PySem PySem.Spec PyProof.Rows L2

def natD (js : List Nat) : List D := js.map fun (j : Nat) => D.int (j : Int)
def r_is_integer : RL := fun ds Φ => ∃ i : Int, ds = [.int i] ∧ Φ (.bl true)
def r_is_number : RL := fun ds Φ => ∃ i : Int, ds = [.int i] ∧ Φ (.bl (decide (0 ≤ i)))
def r_is_index : RL := fun ds Φ => ∃ i m : Int, ds = [.int i, .int m] ∧ Φ (.bl (decide (0 ≤ i) && decide (i < m)))
def r_is_row_of : RL := fun ds Φ => ∃ (xs : List D) (n : Int), ds = [.tup xs, .tup [.int n]] ∧ Φ (.bl (decide ((xs.length : Int) = n)))
def r_is_word_of : RL := fun ds Φ => ∃ s : Str, ds = [.str s, wordsD] ∧ Φ (.bl (decide (s ∈ (["wait", "rule", "house", "seen"] : List Str))))
def r_is_worth : RL := fun ds Φ => ∃ i : Int, ds = [.int i] ∧ Φ (.bl (decide (0 ≤ i) && decide (i < 1001)))
def unary (h : Head) : Prop := match h with
  | .times _ => True | .part _ => True | .clip _ _ => True | .sub _ => True | .bar _ _ _ => True | .row _ => True
  | _ => False
def r_is_head : RL := fun ds Φ => ∃ (n : Nat) (h : Head) (ps : List Rule), ds = [encH h (encs ps)] ∧ okH n h ps.length ∧ unary h ∧ Φ (.bl true)
def r_parts_of : RL := fun ds Φ => ∃ (n : Nat) (h : Head) (ps : List Rule), ds = [encH h (encs ps)] ∧ okH n h ps.length ∧ n ≤ 1000 ∧ Φ (.tup (encs ps))
def hearB : Head → Bool
  | .hear _ => true
  | _ => false
def isB : Head → Bool
  | .is _ => true
  | _ => false
mutual
def countR : Rule → Int → Option (Int × Int)
  | .node h ps, deep => if deep = 0 ∨ ps.length > 60 then none else countRs ps (deep - 1) (1, if hearB h = true then 1 else 0)
def countRs : List Rule → Int → Int × Int → Option (Int × Int)
  | [], _, acc => some acc
  | p :: ps, deep, acc => match countR p deep with
    | none => none
    | some ab => countRs ps deep (acc.1 + ab.1, acc.2 + ab.2)
end
def cntD : Option (Int × Int) → D
  | none => .non
  | some ab => .tup [.int ab.1, .int ab.2]
def r_counted (k : Nat) : RL := fun ds Φ => ∃ (n : Nat) (r : Rule) (deep : Int), ds = [enc r, .int deep] ∧ wf n r ∧ n ≤ 1000 ∧ dep r ≤ k ∧ Φ (cntD (countR r deep))
def isRule (r : Rule) : Bool := match countR r 8 with
  | some ab => decide (ab.1 ≤ 60) && decide (ab.2 ≤ 12)
  | none => false
def r_is_rule : RL := fun ds Φ => ∃ (n : Nat) (r : Rule), ds = [enc r] ∧ wf n r ∧ n ≤ 1000 ∧ dep r ≤ 4 ∧ Φ (.bl (isRule r))
def r_branches (k : Nat) : RL := fun ds Φ => ∃ (n : Nat) (r : Rule), ds = [enc r] ∧ wf n r ∧ n ≤ 1000 ∧ dep r ≤ k ∧ (br r).length ≤ 1000 ∧ Φ (.tup (natD (br r)))
def inner (h : Head) : Prop := match h with
  | .is _ => False | .hear _ => False
  | _ => True
def r_made : RL := fun ds Φ => ∃ (n : Nat) (h : Head) (ps : List Rule) (vs : List Int), ds = [encH h (encs ps), .lst (iD vs)] ∧ okH n h ps.length ∧ vs.length = ps.length ∧ (∀ v ∈ vs, 0 ≤ v) ∧ inner h ∧ Φ (.int (made h vs))
def r_told_by (k : Nat) : RL := fun ds Φ => ∃ (n : Nat) (r : Rule) (hd : List Int) (at_ : Nat), ds = [enc r, .tup (iD hd), .int (at_ : Int)] ∧ wf n r ∧ n ≤ 1000 ∧ dep r ≤ k ∧ (∀ v ∈ hd, 0 ≤ v) ∧ at_ + (br r).length ≤ hd.length ∧
  Φ (.tup [.int (tv r (fun k => g0 hd (at_ + k))), .int ((at_ + (br r).length : Nat) : Int)])
def r_told : RL := fun ds Φ => ∃ (n : Nat) (r : Rule) (hd : List Int), ds = [enc r, .tup (iD hd)] ∧ wf n r ∧ n ≤ 1000 ∧ dep r ≤ 4 ∧ (∀ v ∈ hd, 0 ≤ v) ∧ (br r).length ≤ hd.length ∧ Φ (.int (tv r (g0 hd)))
def worthB (i : Int) : Bool := decide (0 ≤ i) && decide (i < 1001)
def areTops (ts : List Int) : Bool := (decide (1 ≤ (ts.length : Int)) && decide ((ts.length : Int) ≤ 20)) && (ts.map worthB).all id
def r_are_tops : RL := fun ds Φ => ∃ ts : List Int, ds = [.tup (iD ts)] ∧ Φ (.bl (areTops ts))
def wfsD (n : Nat) (rs : List Rule) : Prop := wfs n rs ∧ (∀ r ∈ rs, dep r ≤ 4 ∧ (br r).length ≤ 1000) ∧ n ≤ 1000
def brsOk (m : Int) (r : Rule) : Bool := ((br r).map fun (j : Nat) => decide ((j : Int) < m)).all id
def areRules (rs : List Rule) (m : Int) : Bool := if (rs.length : Int) = m ∧ (rs.map isRule).all id = true then (rs.map (brsOk m)).all id else false
def r_are_rules : RL := fun ds Φ => ∃ (n : Nat) (rs : List Rule) (m : Int), ds = [.tup (encs rs), .int m] ∧ wfsD n rs ∧ Φ (.bl (areRules rs m))
def isNet (N : Nt) : Bool := areTops N.1 && areRules N.2 N.1.length
def r_is_net : RL := fun ds Φ => ∃ (n : Nat) (N : Nt), ds = [encN N] ∧ wfsD n N.2 ∧ Φ (.bl (isNet N))
def r_wanted : RL := fun ds Φ => ∃ (n : Nat) (N : Nt) (i : Nat) (t : Int) (r : Rule) (hd : List Int), ds = [encN N, .int (i : Int), .tup (iD hd)] ∧ N.1[i]? = some t ∧ N.2[i]? = some r ∧ wf n r ∧ n ≤ 1000 ∧ dep r ≤ 4 ∧ (∀ v ∈ hd, 0 ≤ v) ∧ (br r).length ≤ hd.length ∧
  Φ (.int (min t (tv r (g0 hd))))
def r_with_rule : RL := fun ds Φ => ∃ (N : Nt) (h : Nat) (r : Rule), ds = [encN N, .int (h : Int), enc r] ∧ h < N.2.length ∧ N.2.length ≤ 100 ∧ Φ (encN (N.1, N.2.set h r))
def r_entries_for : RL := fun ds Φ => ∃ (ws : List Int) (lo hi : Int), ds = [.tup (iD ws), .int lo, .int hi] ∧ 0 ≤ lo ∧ 0 ≤ hi ∧ 1 ≤ ws.length ∧ Φ (.tup (iD (entries ws lo hi)))
/-- what a net's readers ask -/
def okN (N : Nt) : Prop := wfN N ∧ ∀ r ∈ N.2, (br r).length ≤ 1000
def pairD (p : Int × Int) : D := .tup [.int p.1, .int p.2]
def r_range_of (k : Nat) : RL := fun ds Φ => ∃ (N : Nt) (r : Rule), ds = [encN N, enc r] ∧ okN N ∧ wf N.1.length r ∧ dep r ≤ k ∧ Φ (pairD (range (topOf N) r))
def r_house_range : RL := fun ds Φ => ∃ (N : Nt) (i : Nat) (t : Int) (r : Rule), ds = [encN N, .int (i : Int)] ∧ okN N ∧ N.1[i]? = some t ∧ N.2[i]? = some r ∧ Φ (pairD (min (range (topOf N) r).1 t, min (range (topOf N) r).2 t))
def r_is_rising_row : RL := fun ds Φ => ∃ xs : List Int, ds = [.tup (iD xs)] ∧ xs.length ≤ 1000 ∧ Φ (.bl (rising xs))
def turnD (t : Int) : D := if t = 0 then .non else .bl (decide (t = -1))
def r_turn_of : RL := fun ds Φ => ∃ (N : Nt) (h : Head) (ps : List Rule), ds = [encN N, encH h (encs ps)] ∧ okN N ∧ okH N.1.length h ps.length ∧ wfs N.1.length ps ∧ deps ps ≤ 4 ∧ Φ (turnD (trn h (ranges (topOf N) ps)))
def sg (b f : Bool) : Int := if b then 0 else if f then -1 else 1
def r_words_within (k : Nat) : RL := fun ds Φ => ∃ (N : Nt) (r : Rule) (s b f : Bool), ds = [encN N, enc r, .bl s, .bl b, .bl f] ∧ okN N ∧ wf N.1.length r ∧ dep r ≤ k ∧ k ≤ 4 ∧ (br r).length ≤ 1000 ∧ Φ (.lst ((words (topOf N) r s (sg b f)).map encW))
def r_ways : RL := fun ds Φ => ∃ (N : Nt) (i : Nat) (t : Int) (r : Rule), ds = [encN N, .int (i : Int)] ∧ okN N ∧ N.1[i]? = some t ∧ N.2[i]? = some r ∧ Φ (.tup ((waysR (topOf N) t r).map encW))
def allWays (T : Nat → Int) : List Int → List Rule → List (List Way)
  | t :: ts, r :: rs => waysR T t r :: allWays T ts rs
  | _, _ => []
def waysN (N : Nt) : List (List Way) := allWays (topOf N) N.1 N.2
def waysD (N : Nt) : D := .lst ((waysN N).map fun ws => .tup (ws.map encW))
def oneWayB (N : Nt) : Bool := !((waysN N).map fun ws => decide (Way.both ∈ ws)).any id
def r_are_one_way : RL := fun ds Φ => ∃ N : Nt, ds = [encN N] ∧ okN N ∧ Φ (.bl (oneWayB N))
def r_one_way : RL := fun ds Φ => ∃ N : Nt, ds = [encN N] ∧ okN N ∧ oneWayB N = true ∧ Φ (waysD N)
def r_heard_ends : RL := fun ds Φ => ∃ (N : Nt) (i : Nat) (r : Rule) (ws : List Way) (near far : List Int), ds = [encN N, .int (i : Int), .tup (ws.map encW), .tup (iD near), .tup (iD far)] ∧ okN N ∧ N.2[i]? = some r ∧ ws.length = (br r).length ∧ near.length = N.1.length ∧ far.length = N.1.length ∧
  Φ (.tup (iD (heardL (br r) ws near far)))
def r_stepped : RL := fun ds Φ => ∃ (N : Nt) (E : En), ds = [encN N, waysD N, encE E] ∧ okN N ∧ okE N E ∧ Φ (encE (next N E))
def r_next_ends : RL := fun ds Φ => ∃ (N : Nt) (E : En), ds = [encN N, encE E] ∧ okN N ∧ oneWayB N = true ∧ okE N E ∧ Φ (encE (next N E))
def r_hull : RL := fun ds Φ => ∃ (A B : En), ds = [encE A, encE B] ∧ A.1.length = B.1.length ∧ A.2.length = B.2.length ∧ Φ (encE (hull2 A B))
def r_closed : RL := fun ds Φ => ∃ (N : Nt) (E : En), ds = [encN N, encE E] ∧ okN N ∧ oneWayB N = true ∧ okE N E ∧ ∀ E', okE N E' → Within E E' → Cl N E' → Φ (encE E')
/-- the round in which ends stay -/
def Stays (N : Nt) (E : En) (m : Nat) : Prop := next N (it N m E) = it N m E ∧ ∀ j < m, it N (j + 1) E ≠ it N j E
def r_led : RL := fun ds Φ => ∃ (N : Nt) (E : En), okN N ∧ oneWayB N = true ∧ okE N E ∧ Cl N E ∧
  ((ds = [encN N, encE E, .non] ∧ ∀ m, Stays N E m → Φ (.tup [encE (it N m E), .int (m : Int)])) ∨ (∃ R : Nat, ds = [encN N, encE E, .int (R : Int)] ∧ ∀ m : Int, Φ (.tup [encE (it N R E), .int m])))
/-- a life -/
structure Life where
  N : Nt
  d : Nat
  E : En
  age : Nat
def encL (l : Life) : D := .tup [encN l.N, .int (l.d : Int), encE l.E, .int (l.age : Int)]
def okL (l : Life) : Prop := okN l.N ∧ oneWayB l.N = true ∧ okE l.N l.E ∧ Cl l.N l.E ∧ 2 ≤ l.d ∧ l.d ≤ 9
def knownL (l : Life) : En := it l.N (l.age / l.d) l.E
def r_known : RL := fun ds Φ => ∃ l : Life, ds = [encL l] ∧ okL l ∧ Φ (encE (knownL l))
def r_rests_in : RL := fun ds Φ => ∃ l : Life, ds = [encL l] ∧ okL l ∧ ∀ m, Stays l.N l.E m → Φ (if (it l.N m l.E).1 = (it l.N m l.E).2 then .int (max 0 ((l.d : Int) * m - l.age)) else .non)
inductive Ch where
  | wait (n : Int)
  | rule (h : Int) (r : Rule)
  | house (t : Int) (r : Rule)
  | seen (h lo hi : Int)
def encC : Ch → D
  | .wait n => .tup [.str "wait", .int n]
  | .rule h r => .tup [.str "rule", .int h, enc r]
  | .house t r => .tup [.str "house", .int t, enc r]
  | .seen h lo hi => .tup [.str "seen", .int h, .int lo, .int hi]
def netBehind (N : Nt) : Ch → Nt
  | .rule h r => (N.1, N.2.set h.toNat r)
  | .house t r => (N.1 ++ [t], N.2 ++ [r])
  | _ => N
/-- what is asked of a change that may be asked about -/
def okC (l : Life) : Ch → Prop
  | .wait _ => True
  | .rule h r => wf l.N.1.length r ∧ dep r ≤ 4 ∧ (br r).length ≤ 1000
  | .house t r => wf (l.N.1.length + 1) r ∧ dep r ≤ 4 ∧ (br r).length ≤ 1000 ∧ 0 ≤ t ∧ t ≤ 1000 ∧ l.N.1.length ≤ 19
  | .seen _ _ _ => True
def r_net_behind : RL := fun ds Φ => ∃ (l : Life) (c : Ch), ds = [encN l.N, encC c] ∧ okL l ∧ (∀ h r, c = .rule h r → 0 ≤ h ∧ h < l.N.1.length) ∧ Φ (encN (netBehind l.N c))
def sightB (l : Life) (h lo hi : Int) : Bool := if (0 ≤ h ∧ h < l.N.1.length) ∧ 0 ≤ lo ∧ 0 ≤ hi then decide (max (g0 (knownL l).1 h.toNat) lo ≤ min (g0 (knownL l).2 h.toNat) hi) else false
def r_is_sight : RL := fun ds Φ => ∃ (l : Life) (h lo hi : Int), ds = [encL l, encC (.seen h lo hi)] ∧ okL l ∧ Φ (.bl (sightB l h lo hi))
def isCh (l : Life) : Ch → Bool
  | .wait n => decide (0 ≤ n) && decide (n < 10001)
  | .seen h lo hi => sightB l h lo hi
  | .rule h r => if 0 ≤ h ∧ h < l.N.1.length then isNet (netBehind l.N (.rule h r)) && oneWayB (netBehind l.N (.rule h r)) else false
  | .house t r => isNet (netBehind l.N (.house t r)) && oneWayB (netBehind l.N (.house t r))
def r_is_change : RL := fun ds Φ => ∃ (l : Life) (c : Ch), ds = [encL l, encC c] ∧ okL l ∧ okC l c ∧ Φ (.bl (isCh l c))
def r_placed : RL := fun ds Φ => ∃ (xs : List D) (i : Nat) (v : D), ds = [.tup xs, .int (i : Int), v] ∧ i < xs.length ∧ xs.length ≤ 100 ∧ Φ (.tup (xs.set i v))
/-- the ends around what is known, as a change asks -/
def endsBehind (l : Life) : Ch → En
  | .house t _ => ((knownL l).1 ++ [0], (knownL l).2 ++ [t])
  | .seen h lo hi => ((knownL l).1.set h.toNat (max (g0 (knownL l).1 h.toNat) lo), (knownL l).2.set h.toNat (min (g0 (knownL l).2 h.toNat) hi))
  | _ => knownL l
def r_changed : RL := fun ds Φ => ∃ (l : Life) (c : Ch), ds = [encL l, encC c] ∧ okL l ∧ okC l c ∧ isCh l c = true ∧
  ((∃ n : Int, c = .wait n ∧ Φ (encL ⟨l.N, l.d, l.E, l.age + n.toNat⟩)) ∨ ((∀ n, c ≠ .wait n) ∧ ∀ E', okL ⟨netBehind l.N c, l.d, E', 0⟩ → Within (endsBehind l c) E' → Φ (encL ⟨netBehind l.N c, l.d, E', 0⟩)))
theorem atI0 (x : D) (xs : List D) : L2.atI (x :: xs) 0 = some x := L2.atI_nat (j := 0) rfl
theorem atI1 (x y : D) (xs : List D) : L2.atI (x :: y :: xs) 1 = some y := L2.atI_nat (j := 1) rfl
theorem atI2 (x y z : D) (xs : List D) : L2.atI (x :: y :: z :: xs) 2 = some z := L2.atI_nat (j := 2) rfl
theorem atI3 (x y z u : D) (xs : List D) : L2.atI (x :: y :: z :: u :: xs) 3 = some u := L2.atI_nat (j := 3) rfl
theorem atIn {xs : List D} {i : Nat} {x : D} (h : xs[i]? = some x) : L2.atI xs (i : Int) = some x := L2.atI_nat h
theorem blsOf_iD (f : Int → Bool) (xs : List Int) : blsOf (xs.map fun x => D.bl (f x)) = some (xs.map f) := by
  have := blsOf_map (xs.map f)
  rw [List.map_map] at this
  exact this
theorem intsOf_iD (xs : List Int) : intsOf (iD xs) = some xs := intsOf_map xs
theorem iD_len (xs : List Int) : (iD xs).length = xs.length := by unfold iD; simp
theorem iD_get {xs : List Int} {i : Nat} {x : Int} (h : xs[i]? = some x) : (iD xs)[i]? = some (.int x) := by unfold iD; rw [List.getElem?_map, h]; rfl
/-- a comprehension without a test whose element is a function of the item -/
theorem lc_map {b : DB} {te : DE} {env : List Slot} {Φ : D → Prop} (f : D → D) : ∀ (ds : List D) (acc : List D), (∀ d ∈ ds, ∀ Ψ : D → Prop, Ψ (f d) → b d env fun env' => te env' Ψ) → Φ (.lst (acc ++ ds.map f)) → lcGo b dYes te env Φ ds acc
  | [], acc, _, h => by simpa [lcGo] using h
  | d :: ds, acc, hs, h => by
    unfold lcGo dYes
    refine hs d List.mem_cons_self _ ?_
    refine lc_map f ds _ (fun x hx => hs x (List.mem_cons_of_mem _ hx)) ?_
    simpa using h
/-- .. where what is made is only known by a property -/
theorem lc_all {b : DB} {te : DE} {env : List Slot} {Φ : D → Prop} (R : D → D → Prop) : ∀ (ds : List D) (acc : List D), (∀ d ∈ ds, ∀ Ψ : D → Prop, (∀ y, R d y → Ψ y) → b d env fun env' => te env' Ψ) →
    (∀ ys : List D, ys.length = ds.length → (∀ (i : Nat) (d y : D), ds[i]? = some d → ys[i]? = some y → R d y) → Φ (.lst (acc ++ ys))) → lcGo b dYes te env Φ ds acc
  | [], acc, _, h => by simpa [lcGo] using h [] rfl (fun i d y e _ => by simp at e)
  | d :: ds, acc, hs, h => by
    unfold lcGo dYes
    refine hs d List.mem_cons_self _ fun y hy => ?_
    refine lc_all R ds _ (fun x hx => hs x (List.mem_cons_of_mem _ hx)) fun ys hl hR => ?_
    rw [List.append_assoc]
    refine h (y :: ys) (by simp [hl]) fun i d' y' e1 e2 => ?_
    cases i with
    | zero => simp at e1 e2; subst e1 e2; exact hy
    | succ i => exact hR i d' y' (by simpa using e1) (by simpa using e2)
theorem lc_over {α : Type} {b : DB} {te : DE} {env : List Slot} {Φ : D → Prop} (e : α → D) (F : α → D) : ∀ (xs : List α) (acc : List D), (∀ x ∈ xs, ∀ Ψ : D → Prop, Ψ (F x) → b (e x) env fun env' => te env' Ψ) → Φ (.lst (acc ++ xs.map F)) → lcGo b dYes te env Φ (xs.map e) acc
  | [], acc, _, h => by simpa [lcGo] using h
  | x :: xs, acc, hs, h => by
    rw [List.map_cons]
    unfold lcGo dYes
    refine hs x List.mem_cons_self _ ?_
    refine lc_over e F xs _ (fun y hy => hs y (List.mem_cons_of_mem _ hy)) ?_
    simpa using h
theorem lc_over_all {α : Type} {b : DB} {te : DE} {env : List Slot} {Φ : D → Prop} (e : α → D) (R : α → D → Prop) : ∀ (xs : List α) (acc : List D), (∀ x ∈ xs, ∀ Ψ : D → Prop, (∀ y, R x y → Ψ y) → b (e x) env fun env' => te env' Ψ) →
    (∀ ys : List D, ys.length = xs.length → (∀ (i : Nat) (x : α) (y : D), xs[i]? = some x → ys[i]? = some y → R x y) → Φ (.lst (acc ++ ys))) → lcGo b dYes te env Φ (xs.map e) acc
  | [], acc, _, h => by simpa [lcGo] using h [] rfl (fun i d y e _ => by simp at e)
  | d :: ds, acc, hs, h => by
    rw [List.map_cons]
    unfold lcGo dYes
    refine hs d List.mem_cons_self _ fun y hy => ?_
    refine lc_over_all e R ds _ (fun x hx => hs x (List.mem_cons_of_mem _ hx)) fun ys hl hR => ?_
    rw [List.append_assoc]
    refine h (y :: ys) (by simp [hl]) fun i d' y' e1 e2 => ?_
    cases i with
    | zero => simp at e1 e2; subst e1 e2; exact hy
    | succ i => exact hR i d' y' (by simpa using e1) (by simpa using e2)
/-- with a test -/
theorem lc_filter {α : Type} {b : DB} {tt : DT} {te : DE} {env : List Slot} {Φ : D → Prop} (e : α → D) (p : α → Bool) (F : α → D) : ∀ (xs : List α) (acc : List D), (∀ x ∈ xs, ∀ (A B : Prop) (Ψ : D → Prop), (p x = true → Ψ (F x)) → (p x = false → B) → b (e x) env fun env' => tt env' fun c => match c with | true => te env' Ψ | false => B) →
    Φ (.lst (acc ++ (xs.filter p).map F)) → lcGo b tt te env Φ (xs.map e) acc
  | [], acc, _, h => by simpa [lcGo] using h
  | x :: xs, acc, hs, h => by
    rw [List.map_cons]
    unfold lcGo
    refine hs x List.mem_cons_self True _ _ (fun hp => ?_) (fun hp => ?_)
    · refine lc_filter e p F xs _ (fun y hy => hs y (List.mem_cons_of_mem _ hy)) ?_
      simpa [List.filter_cons, hp] using h
    · refine lc_filter e p F xs _ (fun y hy => hs y (List.mem_cons_of_mem _ hy)) ?_
      simpa [List.filter_cons, hp] using h
theorem for_over {α : Type} {b : DB} {wb : DS} {N : List Slot → Prop} {R : D → Prop} (e : α → D) (P : List α → List Slot → Prop) (all : List α) (env : List Slot) (h0 : P [] env)
    (hs : ∀ (done : List α) (x : α) (rest : List α) (env : List Slot) (C : List Slot → Prop), all = done ++ x :: rest → P done env → (∀ env', P (done ++ [x]) env' → C env') → b (e x) env (fun env' => wb C R env'))
    (hd : ∀ env, P all env → N env) : forGo b wb N R (all.map e) env := by
  have go : ∀ (rest done : List α) (env : List Slot), all = done ++ rest → P done env → forGo b wb N R (rest.map e) env := by
    intro rest
    induction rest with
    | nil =>
      intro done env ha hp
      rw [List.append_nil] at ha
      subst ha
      exact hd env hp
    | cons x rest ih =>
      intro done env ha hp
      rw [List.map_cons]
      unfold forGo
      refine hs done x rest env _ ha hp fun env' hp' => ?_
      exact ih (done ++ [x]) env' (by rw [ha]; simp) hp'
  exact go all [] env rfl h0
theorem enc_node (h : Head) (ps : List Rule) : enc (.node h ps) = encH h (encs ps) := rfl
theorem word_of (h : Head) (es : List D) : ∃ (x : Str) (r : List D), encH h es = .tup (.str x :: r) ∧ decide (x = "hear") = hearB h ∧ decide (x = "is") = isB h := by
  cases h <;> refine ⟨_, _, rfl, ?_, ?_⟩ <;> first | exact dq_same _ | (show decide _ = false; decide)
theorem wfs_mem {n : Nat} : ∀ {rs : List Rule} {r : Rule}, wfs n rs → r ∈ rs → wf n r
  | r :: rs, r', h, e => by
    unfold wfs at h
    rcases List.mem_cons.mp e with rfl | e
    · exact h.1
    · exact wfs_mem h.2 e
  | [], _, _, e => nomatch e
theorem deps_mem : ∀ {rs : List Rule} {r : Rule}, r ∈ rs → dep r ≤ deps rs
  | r :: rs, r', e => by
    unfold deps
    rcases List.mem_cons.mp e with rfl | e
    · omega
    · have := deps_mem e; omega
  | [], _, e => nomatch e
end NB

/-! SH -/
set_option Elab.async false
set_option linter.all false
set_option maxRecDepth 100000
namespace NB
open PySem PySem.Spec PyProof.Rows L2
theorem allWays_len (T : Nat → Int) : ∀ {ts : List Int} {rs : List Rule}, ts.length = rs.length → (allWays T ts rs).length = ts.length
  | [], [], _ => rfl
  | t :: ts, r :: rs, h => by simp [allWays, allWays_len T (ts := ts) (rs := rs) (by simpa using h)]
  | [], _ :: _, h => by simp at h
  | _ :: _, [], h => by simp at h
theorem allWays_get (T : Nat → Int) : ∀ {ts : List Int} {rs : List Rule} {i : Nat} {t : Int} {r : Rule}, ts[i]? = some t → rs[i]? = some r → (allWays T ts rs)[i]? = some (waysR T t r)
  | t :: ts, r :: rs, 0, t', r', h1, h2 => by simp at h1 h2; subst h1 h2; rfl
  | t :: ts, r :: rs, i + 1, t', r', h1, h2 => by
    have := allWays_get T (ts := ts) (rs := rs) (i := i) (t := t') (r := r') (by simpa using h1) (by simpa using h2)
    simpa [allWays] using this
  | [], _, _, _, _, h1, _ => by simp at h1
  | _ :: _, [], _, _, _, _, h2 => by simp at h2
theorem ways_len {N : Nt} (h : wfN N) : (waysN N).length = N.1.length := allWays_len _ h.1
theorem ways_at {N : Nt} (h : wfN N) {i : Nat} (hi : i < N.1.length) : ∃ t r, N.1[i]? = some t ∧ N.2[i]? = some r ∧ (waysN N)[i]? = some (waysR (topOf N) t r) := by
  obtain ⟨t, r, e1, e2, _⟩ := at_house h hi
  exact ⟨t, r, e1, e2, allWays_get _ e1 e2⟩
theorem map_range {α β : Type} (f : α → β) (d : α) : ∀ xs : List α, xs.map f = (List.range xs.length).map fun i => f (xs.getD i d)
  | [] => rfl
  | x :: xs => by
    rw [List.map_cons, List.length_cons, List.range_succ_eq_map, List.map_cons, List.map_map, map_range f d xs]
    rfl
theorem encW_both (w : Way) : (encW w = .str "both") ↔ w = .both := by
  cases w <;> simp [encW] <;> decide
theorem strsOf_encW : ∀ ws : List Way, strsOf (ws.map encW) = some (ws.map fun w => match w with | .none => ("none" : Str) | .both => "both" | .falls => "falls" | .rises => "rises")
  | [] => rfl
  | w :: ws => by
    rw [List.map_cons]
    cases w <;> (show (strsOf (ws.map encW)).map _ = _; rw [strsOf_encW ws]; rfl)
theorem in_enc {ws : List Way} {Ψ : D → Prop} (h : Ψ (.bl (decide (Way.both ∈ ws)))) : (match D.tup (ws.map encW) with | .tup ds => (match strsOf ds with | some ss => Ψ (.bl (decide (("both" : Str) ∈ ss))) | none => False) | _ => False) := by
  have e := strsOf_encW ws
  have e2 : decide (("both" : Str) ∈ (ws.map fun w => match w with | .none => ("none" : Str) | .both => "both" | .falls => "falls" | .rises => "rises")) = decide (Way.both ∈ ws) := by
    refine decide_eq_decide.mpr ?_
    rw [List.mem_map]
    refine ⟨fun ⟨w, hw, e⟩ => ?_, fun h => ⟨_, h, rfl⟩⟩
    cases w with
    | both => exact hw
    | none => exact absurd e (by decide)
    | falls => exact absurd e (by decide)
    | rises => exact absurd e (by decide)
  show (match strsOf (ws.map encW) with | some ss => Ψ (.bl (decide (("both" : Str) ∈ ss))) | none => False)
  rw [e]
  show Ψ (.bl (decide _))
  rw [e2]; exact h
theorem all_lc {α : Type} (f : α → Bool) (xs : List α) {X : List Bool → Prop} {Y : Prop} (h : X (xs.map f)) : (match blsOf ([] ++ xs.map fun x => D.bl (f x)) with | some bs => X bs | none => Y) := by
  have e : blsOf ([] ++ xs.map fun x => D.bl (f x)) = some (xs.map f) := by
    have := blsOf_map (xs.map f)
    rw [List.map_map] at this
    exact this
  rw [e]; exact h
theorem brs_append : ∀ (a b : List Rule), brs (a ++ b) = brs a ++ brs b
  | [], b => rfl
  | x :: a, b => by
    show br x ++ brs (a ++ b) = (br x ++ brs a) ++ brs b
    rw [brs_append a b, List.append_assoc]
theorem natD_append (a b : List Nat) : natD (a ++ b) = natD a ++ natD b := List.map_append
theorem natD_len (a : List Nat) : (natD a).length = a.length := List.length_map ..

def idx {α : Type} (n : Nat) : List α → List (Nat × α)
  | [] => []
  | x :: xs => (n, x) :: idx (n + 1) xs
theorem enum_idx {α : Type} (e : α → D) : ∀ (n : Nat) (xs : List α), enumD n (xs.map e) = (idx n xs).map fun p => .tup [.int (p.1 : Int), e p.2]
  | n, [] => rfl
  | n, x :: xs => by
    rw [List.map_cons]
    show _ :: enumD (n + 1) (xs.map e) = _
    rw [enum_idx e (n + 1) xs]; rfl
theorem idx_mem {α : Type} : ∀ {n : Nat} {xs : List α} {p : Nat × α}, p ∈ idx n xs → n ≤ p.1 ∧ xs[p.1 - n]? = some p.2
  | n, x :: xs, p, h => by
    rcases List.mem_cons.mp h with rfl | h
    · exact ⟨Nat.le_refl _, by simp⟩
    · have := idx_mem h
      refine ⟨by omega, ?_⟩
      rw [show p.1 - n = (p.1 - (n + 1)) + 1 by omega]
      simpa using this.2
  | _, [], _, h => nomatch h
theorem idx_mem0 {α : Type} {xs : List α} {p : Nat × α} (h : p ∈ idx 0 xs) : xs[p.1]? = some p.2 := by simpa using (idx_mem h).2
theorem idx_fst {α : Type} : ∀ (n : Nat) (xs : List α), (idx n xs).map (·.1) = (List.range xs.length).map (n + ·)
  | n, [] => rfl
  | n, x :: xs => by
    show n :: (idx (n + 1) xs).map (·.1) = _
    rw [idx_fst (n + 1) xs, List.length_cons, List.range_succ_eq_map, List.map_cons, List.map_map]
    simp only [List.cons.injEq]
    refine ⟨by simp, List.map_congr_left fun i _ => by simp; omega⟩
theorem idx_g0 {α : Type} {xs : List α} {L : List Int} (h : L.length = xs.length) : (idx 0 xs).map (fun p => D.int (g0 L p.1)) = iD L := by
  have e1 : (idx 0 xs).map (fun p => D.int (g0 L p.1)) = ((idx 0 xs).map (·.1)).map fun i => D.int (g0 L i) := by rw [List.map_map]; rfl
  have e2 := map_range D.int 0 L
  rw [e1, idx_fst]
  unfold iD
  rw [e2, h, List.map_map]
  exact List.map_congr_left fun i _ => by show D.int (g0 L (0 + i)) = _; rw [Nat.zero_add]
theorem okDs_iD : ∀ (n : Nat) (xs : List Int), okDs n (iD xs) = true
  | n, [] => rfl
  | n, x :: xs => by
    show (okD n (.int x) && okDs n (iD xs)) = true
    rw [okDs_iD n xs]
    cases n <;> rfl
theorem okD_encE (E : En) : okD 60 (encE E) = true := by
  show (okDs 58 (iD E.1) && (okDs 58 (iD E.2) && true)) = true
  rw [okDs_iD, okDs_iD]; rfl
theorem okD_iD (xs : List Int) : okD 60 (.tup (iD xs)) = true := okDs_iD 59 xs
theorem iD_inj {xs ys : List Int} : iD xs = iD ys ↔ xs = ys := by
  constructor
  · intro h
    have h1 := intsOf_iD xs
    rw [h, intsOf_iD] at h1
    exact (Option.some.inj h1).symm
  · rintro rfl; rfl
theorem encE_inj {A B : En} : encE A = encE B ↔ A = B := by
  constructor
  · intro h
    unfold encE at h
    simp only [D.tup.injEq, List.cons.injEq, and_true, iD_inj] at h
    exact Prod.ext h.1 h.2
  · rintro rfl; rfl
theorem tup_inj {xs ys : List Int} : D.tup (iD xs) = D.tup (iD ys) ↔ xs = ys := by
  rw [D.tup.injEq, iD_inj]
theorem in_encB {ws : List Way} {X : Bool → Prop} (h : X (decide (Way.both ∈ ws))) : (match strsOf (ws.map encW) with | some ss => X (decide (("both" : Str) ∈ ss)) | none => False) := by
  have := in_enc (ws := ws) (Ψ := fun d => match d with | .bl b => X b | _ => False) h
  exact this
theorem ranges_map (T : Nat → Int) : ∀ ps : List Rule, ranges T ps = ps.map (range T)
  | [] => rfl
  | p :: ps => by
    unfold ranges
    rw [ranges_map T ps]; rfl
theorem rng_def {T : Nat → Int} {h : Head} {ir : List (Int × Int)} (h1 : isB h = false) (h2 : hearB h = false) (h3 : ∀ ws, h ≠ .row ws) :
    rng T h ir = (min (made h (ir.map (·.1))) (made h (ir.map (·.2))), max (made h (ir.map (·.1))) (made h (ir.map (·.2)))) := by
  cases h <;> first | rfl | exact Bool.noConfusion (show true = false from h1) | exact Bool.noConfusion (show true = false from h2) | exact absurd rfl (h3 _)
theorem word_row {h : Head} {es r : List D} {x : Str} (e : encH h es = .tup (.str x :: r)) (hr : ∀ ws, h ≠ .row ws) : decide (x = "row") = false := by
  cases h <;> (simp only [encH, D.tup.injEq, List.cons.injEq, D.str.injEq] at e; first | (rw [← e.1]; decide) | exact absurd rfl (hr _))
theorem inner_of {h : Head} (h1 : isB h = false) (h2 : hearB h = false) : inner h := by
  cases h <;> first | trivial | exact Bool.noConfusion (show true = false from h1) | exact Bool.noConfusion (show true = false from h2)
theorem zero_fit {T : Nat → Int} (hT : ∀ j, 0 ≤ T j) (bs : List Nat) : Fit T bs (fun _ => 0) := fun k j _ => ⟨Int.le_refl _, hT j⟩
theorem OkRs.nn2 : ∀ {rs : List (Int × Int)}, OkRs rs → ∀ v ∈ rs.map (·.2), 0 ≤ v
  | [], _, v, h => by simp at h
  | r :: rs, h, v, hv => by
    unfold OkRs at h
    rcases List.mem_cons.mp hv with e | hv
    · have e : v = r.2 := e
      have := h.1
      omega
    · exact OkRs.nn2 h.2 v hv
theorem ranges_ok {N : Nt} (hN : wfN N) {ps : List Rule} (hw : wfs N.1.length ps) : OkRs (ranges (topOf N) ps) := (ranges_in _ (top_nn hN) _ ps _ hw (zero_fit (top_nn hN) _)).2
theorem range_ok {N : Nt} (hN : wfN N) {r : Rule} (hw : wf N.1.length r) : 0 ≤ (range (topOf N) r).1 ∧ (range (topOf N) r).1 ≤ (range (topOf N) r).2 := by
  have := range_in _ (top_nn hN) _ r _ hw (zero_fit (top_nn hN) _)
  omega
theorem oneWay_of {N : Nt} (h : wfN N) (ow : oneWayB N = true) : oneWay N := by
  intro i t r e1 e2 hb
  have e3 := allWays_get (topOf N) e1 e2
  unfold oneWayB at ow
  have h1 : ((waysN N).map fun ws => decide (Way.both ∈ ws)).any id = false := by simpa using ow
  rw [List.any_eq_false] at h1
  have := h1 _ (List.mem_map_of_mem (f := fun ws => decide (Way.both ∈ ws)) (List.mem_of_getElem? e3))
  rw [decide_eq_true hb] at this
  exact this rfl
theorem sg_step (b f : Bool) {t : Int} (h : t = 1 ∨ t = -1 ∨ t = 0) : sg (b || isNon (turnD t)) (!decide (f = decide (t = -1))) = sg b f * t := by
  rcases h with rfl | rfl | rfl <;> cases b <;> cases f <;> decide
theorem dSet_or {i : Nat} {wa wb : DE} {N : List Slot → Prop} {R : D → Prop} {env : List Slot} {s c : Bool} (ha : ∀ Ψ : D → Prop, Ψ (.bl s) → wa env Ψ) (hb : ∀ Ψ : D → Prop, Ψ (.bl c) → wb env Ψ) (h : N (setS env i (.im (.bl (s || c))))) : dSet i (dOrV wa wb) N R env := by
  unfold dSet dOrV
  refine ha _ ?_
  cases s with
  | true => exact h
  | false => exact hb _ h
mutual
theorem tv_nn {n : Nat} : ∀ (r : Rule) (f : Nat → Int), wf n r → (∀ k, 0 ≤ f k) → 0 ≤ tv r f
  | .node h ps, f, hw, hf => by
    unfold wf at hw
    unfold tv
    have q := tvs_nn (n := n) ps f hw.2 hf
    cases h <;> first | exact hf 0 | exact made_nn (n := n) (by rw [tvs_len]; exact hw.1) q
theorem tvs_nn {n : Nat} : ∀ (ps : List Rule) (f : Nat → Int), wfs n ps → (∀ k, 0 ≤ f k) → ∀ v ∈ tvs ps f, 0 ≤ v
  | [], _, _, _, v, hv => by unfold tvs at hv; nomatch hv
  | p :: ps, f, hw, hf, v, hv => by
    unfold wfs at hw
    unfold tvs at hv
    rcases List.mem_cons.mp hv with rfl | hv
    · exact tv_nn p f hw.1 hf
    · exact tvs_nn ps _ hw.2 (fun k => hf _) v hv
end
theorem tvs_append : ∀ (a b : List Rule) (f : Nat → Int), tvs (a ++ b) f = tvs a f ++ tvs b (fun k => f ((brs a).length + k))
  | [], b, f => by
    show tvs b f = [] ++ tvs b fun k => f (0 + k)
    rw [show (fun k => f (0 + k)) = f from funext fun k => by rw [Nat.zero_add]]; rfl
  | x :: a, b, f => by
    show tv x f :: tvs (a ++ b) _ = _
    rw [tvs_append a b]
    show _ = tv x f :: (tvs a _ ++ tvs b fun k => f ((br x ++ brs a).length + k))
    rw [show (fun k => f ((br x ++ brs a).length + k)) = (fun k => f ((br x).length + ((brs a).length + k))) from funext fun k => by rw [List.length_append, Nat.add_assoc]]
theorem wordss_append (T : Nat → Int) : ∀ (a b : List Rule) (s : Bool) (g : Int), wordss T (a ++ b) s g = wordss T a s g ++ wordss T b s g
  | [], b, s, g => rfl
  | x :: a, b, s, g => by
    show words T x s g ++ wordss T (a ++ b) s g = (words T x s g ++ wordss T a s g) ++ wordss T b s g
    rw [wordss_append T a b, List.append_assoc]
theorem iD_append (a b : List Int) : iD (a ++ b) = iD a ++ iD b := List.map_append
theorem zip_iD : ∀ (a b : List Int), zipD (iD a) (iD b) = (List.zip a b).map pairD
  | [], b => rfl
  | x :: a, [] => rfl
  | x :: a, y :: b => by
    show D.tup [.int x, .int y] :: zipD (iD a) (iD b) = _
    rw [zip_iD a b]; rfl
theorem zip_min : ∀ (a b : List Int), (List.zip a b).map (fun p => D.int (min p.1 p.2)) = iD (zipMin a b)
  | [], b => rfl
  | x :: a, [] => rfl
  | x :: a, y :: b => by
    show D.int (min x y) :: (List.zip a b).map _ = _
    rw [zip_min a b]; rfl
theorem zip_max : ∀ (a b : List Int), (List.zip a b).map (fun p => D.int (max p.1 p.2)) = iD (zipMax a b)
  | [], b => rfl
  | x :: a, [] => rfl
  | x :: a, y :: b => by
    show D.int (max x y) :: (List.zip a b).map _ = _
    rw [zip_max a b]; rfl
/-- a measure of ends, read from data -/
def ofE (m : En → Nat) : D → Nat
  | .tup [.tup a, .tup b] => match intsOf a, intsOf b with
    | some x, some y => m (x, y)
    | _, _ => 0
  | _ => 0
theorem ofE_enc (m : En → Nat) (E : En) : ofE m (encE E) = m E := by
  unfold encE
  show (match intsOf (iD E.1), intsOf (iD E.2) with | some x, some y => m (x, y) | _, _ => 0) = _
  rw [intsOf_iD, intsOf_iD]
theorem cut_lo (xs : List D) (i : Nat) : cutD xs none (some (i : Int)) = xs.take i := by
  unfold cutD
  rw [HT.sIx_none, HT.sIx_nat]
  simp
theorem cut_hi (xs : List D) (i : Nat) : cutD xs (some ((i : Int) + 1)) none = xs.drop (i + 1) := by
  unfold cutD
  rw [HT.sIx_none, show ((i : Int) + 1) = ((i + 1 : Nat) : Int) from rfl, HT.sIx_nat]
  by_cases h : i + 1 ≤ xs.length
  · rw [Nat.min_eq_left h, List.take_of_length_le (by simp)]
  · rw [Nat.min_eq_right (by omega), List.drop_eq_nil_of_le (Nat.le_refl _), List.drop_eq_nil_of_le (by omega)]
    simp
theorem range0 (n : Nat) : rangeD 0 n = (List.range n).map fun (i : Nat) => D.int (i : Int) := by
  unfold rangeD
  exact List.map_congr_left fun i _ => by simp
theorem g0_some {xs : List Int} {i : Nat} (h : i < xs.length) : xs[i]? = some (g0 xs i) := by
  unfold g0
  rw [List.getD_eq_getElem?_getD, List.getElem?_eq_getElem h]
  rfl
theorem rising_all : ∀ xs : List Int, rising xs = ((List.range (xs.length - 1)).map fun i => decide (g0 xs i ≤ g0 xs (i + 1))).all id
  | [] => rfl
  | [_] => rfl
  | a :: b :: r => by
    have ih := rising_all (b :: r)
    show (decide (a ≤ b) && rising (b :: r)) = _
    rw [ih]
    show _ = ((List.range (r.length + 1)).map fun i => decide (g0 (a :: b :: r) i ≤ g0 (a :: b :: r) (i + 1))).all id
    rw [List.range_succ_eq_map, List.map_cons, List.all_cons, List.map_map]
    rfl
theorem okH_up {n m : Nat} (hm : n ≤ m) {h : Head} {k : Nat} (ok : okH n h k) : okH m h k := by
  cases h <;> first | exact ok | exact ⟨ok.1, Nat.lt_of_lt_of_le ok.2 hm⟩
mutual
theorem wf_up {n m : Nat} (hm : n ≤ m) : ∀ r : Rule, wf n r → wf m r
  | .node h ps, hw => by
    unfold wf at hw ⊢
    exact ⟨okH_up hm hw.1, wfs_up hm ps hw.2⟩
theorem wfs_up {n m : Nat} (hm : n ≤ m) : ∀ ps : List Rule, wfs n ps → wfs m ps
  | [], _ => by unfold wfs; trivial
  | p :: ps, hw => by
    unfold wfs at hw ⊢
    exact ⟨wf_up hm p hw.1, wfs_up hm ps hw.2⟩
end
theorem wfs_all {n : Nat} : ∀ {rs : List Rule}, (∀ r ∈ rs, wf n r) → wfs n rs
  | [], _ => by unfold wfs; trivial
  | r :: rs, h => by
    unfold wfs
    exact ⟨h r List.mem_cons_self, wfs_all fun x hx => h x (List.mem_cons_of_mem _ hx)⟩
theorem mem_set_or {α : Type} {xs : List α} {i : Nat} {v x : α} (h : x ∈ xs.set i v) : x ∈ xs ∨ x = v := by
  rcases List.mem_or_eq_of_mem_set h with h | h
  · exact .inl h
  · exact .inr h
theorem okN_behind {l : Life} (hN : okN l.N) {c : Ch} (hc : okC l c) : okN (netBehind l.N c) := by
  have w := hN.1
  cases c with
  | wait n => exact hN
  | seen a b c => exact hN
  | rule h r =>
    refine ⟨⟨?_, w.2.1, w.2.2.1, w.2.2.2.1, ?_, ?_⟩, ?_⟩
    · show l.N.1.length = (l.N.2.set h.toNat r).length
      rw [List.length_set]; exact w.1
    · refine wfs_all fun x hx => ?_
      rcases mem_set_or hx with hx | rfl
      · exact wfs_mem w.2.2.2.2.1 hx
      · exact hc.1
    · intro x hx
      rcases mem_set_or hx with hx | rfl
      · exact w.2.2.2.2.2 x hx
      · exact hc.2.1
    · intro x hx
      rcases mem_set_or hx with hx | rfl
      · exact hN.2 x hx
      · exact hc.2.2
  | house t r =>
    have hlen : (l.N.1 ++ [t]).length = l.N.1.length + 1 := by simp
    refine ⟨⟨?_, ?_, ?_, ?_, ?_, ?_⟩, ?_⟩
    · show (l.N.1 ++ [t]).length = (l.N.2 ++ [r]).length
      have := w.1
      simp; omega
    · show 1 ≤ (l.N.1 ++ [t]).length
      omega
    · show (l.N.1 ++ [t]).length ≤ 20
      have := hc.2.2.2.2.2
      omega
    · intro x hx
      rcases List.mem_append.mp hx with hx | hx
      · exact w.2.2.2.1 x hx
      · have e : x = t := by simpa using hx
        subst e; exact ⟨hc.2.2.2.1, hc.2.2.2.2.1⟩
    · show wfs (l.N.1 ++ [t]).length (l.N.2 ++ [r])
      rw [hlen]
      refine wfs_all fun x hx => ?_
      rcases List.mem_append.mp hx with hx | hx
      · exact wf_up (Nat.le_succ _) x (wfs_mem w.2.2.2.2.1 hx)
      · have e : x = r := by simpa using hx
        subst e; exact hc.1
    · intro x hx
      rcases List.mem_append.mp hx with hx | hx
      · exact w.2.2.2.2.2 x hx
      · have e : x = r := by simpa using hx
        subst e; exact hc.2.1
    · intro x hx
      rcases List.mem_append.mp hx with hx | hx
      · exact hN.2 x hx
      · have e : x = r := by simpa using hx
        subst e; exact hc.2.2.1
theorem known_ok {l : Life} (hl : okL l) : okE l.N (knownL l) := it_ok hl.1.1 (oneWay_of hl.1.1 hl.2.1) hl.2.2.1 _
theorem g0_set {xs : List Int} {i : Nat} {v : Int} (h : i < xs.length) (j : Nat) : g0 (xs.set i v) j = if j = i then v else g0 xs j := by
  unfold g0
  rw [List.getD_eq_getElem?_getD, List.getD_eq_getElem?_getD, List.getElem?_set]
  by_cases e : j = i
  · subst e; rw [if_pos rfl, if_pos h, if_pos rfl]; rfl
  · rw [if_neg (fun z => e z.symm), if_neg e]
theorem g0_snoc {xs : List Int} {v : Int} (j : Nat) : g0 (xs ++ [v]) j = if j = xs.length then v else g0 xs j := by
  unfold g0
  rw [List.getD_eq_getElem?_getD, List.getD_eq_getElem?_getD, List.getElem?_append]
  by_cases e : j < xs.length
  · rw [if_pos e, if_neg (by omega)]
  · rw [if_neg e]
    by_cases e2 : j = xs.length
    · subst e2; rw [if_pos rfl]; simp
    · rw [if_neg e2, List.getElem?_eq_none (by simp; omega), List.getElem?_eq_none (by omega)]
/-- what is seen, is seen within bounds -/
theorem sight_of {l : Life} {h lo hi : Int} (e : sightB l h lo hi = true) : (0 ≤ h ∧ h < l.N.1.length) ∧ 0 ≤ lo ∧ 0 ≤ hi ∧ max (g0 (knownL l).1 h.toNat) lo ≤ min (g0 (knownL l).2 h.toNat) hi := by
  unfold sightB at e
  by_cases c : (0 ≤ h ∧ h < l.N.1.length) ∧ 0 ≤ lo ∧ 0 ≤ hi
  · rw [if_pos c] at e
    exact ⟨c.1, c.2.1, c.2.2, of_decide_eq_true e⟩
  · rw [if_neg c] at e
    exact Bool.noConfusion e
theorem okE_behind {l : Life} (hl : okL l) {c : Ch} (hc : okC l c) (hi : isCh l c = true) : okE (netBehind l.N c) (endsBehind l c) := by
  have k := known_ok hl
  cases c with
  | wait n => exact k
  | rule h r => exact k
  | house t r =>
    refine ⟨?_, ?_, fun j => ?_⟩
    · show ((knownL l).1 ++ [0]).length = (l.N.1 ++ [t]).length
      have := k.1
      simp; omega
    · show ((knownL l).2 ++ [t]).length = (l.N.1 ++ [t]).length
      have := k.2.1
      simp; omega
    · show 0 ≤ g0 ((knownL l).1 ++ [0]) j ∧ g0 ((knownL l).1 ++ [0]) j ≤ g0 ((knownL l).2 ++ [t]) j ∧ g0 ((knownL l).2 ++ [t]) j ≤ g0 (l.N.1 ++ [t]) j
      rw [g0_snoc, g0_snoc, g0_snoc, k.1, k.2.1]
      have := k.2.2 j
      have ht := hc.2.2.2.1
      split <;> omega
  | seen h lo up =>
    obtain ⟨c1, c2, c3, c4⟩ := sight_of (l := l) (h := h) (lo := lo) (hi := up) hi
    refine ⟨?_, ?_, fun j => ?_⟩
    · show ((knownL l).1.set _ _).length = l.N.1.length
      rw [List.length_set]; exact k.1
    · show ((knownL l).2.set _ _).length = l.N.1.length
      rw [List.length_set]; exact k.2.1
    · show 0 ≤ g0 ((knownL l).1.set _ _) j ∧ g0 ((knownL l).1.set _ _) j ≤ g0 ((knownL l).2.set _ _) j ∧ g0 ((knownL l).2.set _ _) j ≤ g0 l.N.1 j
      have h1 := k.1
      have h2 := k.2.1
      rw [g0_set (by omega), g0_set (by omega)]
      have := k.2.2 j
      have := k.2.2 h.toNat
      split
      · rename_i e
        subst e
        omega
      · omega
theorem sum_perm {xs ys : List Int} (h : xs.Perm ys) : xs.sum = ys.sum := by
  induction h with
  | nil => rfl
  | cons x _ ih => simp [ih]
  | swap x y l => simp; omega
  | trans _ _ i1 i2 => rw [i1, i2]
theorem sorted_mid {a b c x y z : Int} (hp : [x, y, z].Perm [a, b, c]) (hs : List.Pairwise (fun x1 x2 => x1 ≤ x2) [x, y, z]) : y = med a b c := by
  have h1 : x ≤ y := by simp at hs; omega
  have h2 : y ≤ z := by simp at hs; omega
  have s1 : x + y + z = a + b + c := by
    have := sum_perm hp
    simp at this
    omega
  have m1 : a ∈ [x, y, z] := hp.mem_iff.mpr (by simp)
  have m2 : b ∈ [x, y, z] := hp.mem_iff.mpr (by simp)
  have m3 : c ∈ [x, y, z] := hp.mem_iff.mpr (by simp)
  have m4 : x ∈ [a, b, c] := hp.mem_iff.mp (by simp)
  have m5 : y ∈ [a, b, c] := hp.mem_iff.mp (by simp)
  have m6 : z ∈ [a, b, c] := hp.mem_iff.mp (by simp)
  simp at m1 m2 m3 m4 m5 m6
  unfold med
  omega
theorem okH_len {n : Nat} {h : Head} {k : Nat} (ok : okH n h k) : k ≤ 60 := by
  cases h <;> (unfold okH at ok; simp only at ok; omega)
end NB

/-! M3 -/
set_option Elab.async false
set_option linter.all false
set_option maxRecDepth 100000
namespace NB

/-! ### rows that rise -/
mutual
def upR : Rule → Prop
  | .node h ps => (∀ ws, h = .row ws → rising ws = true) ∧ upRs ps
def upRs : List Rule → Prop
  | [] => True
  | p :: ps => upR p ∧ upRs ps
end
theorem rising_tail {a : Int} {xs : List Int} (h : rising (a :: xs) = true) : rising xs = true := by
  match xs, h with
  | [], _ => rfl
  | b :: r, h =>
    have h : (decide (a ≤ b) && rising (b :: r)) = true := h
    rw [Bool.and_eq_true] at h
    exact h.2
theorem rising_drop : ∀ (n : Nat) {xs : List Int}, rising xs = true → rising (xs.drop n) = true
  | 0, xs, h => h
  | n + 1, [], h => rfl
  | n + 1, x :: xs, h => rising_drop n (rising_tail h)
theorem rising_take : ∀ (n : Nat) {xs : List Int}, rising xs = true → rising (xs.take n) = true
  | 0, xs, h => rfl
  | n + 1, [], h => rfl
  | n + 1, [x], h => by simp [rising]
  | 0 + 1, x :: y :: r, h => rfl
  | n + 1 + 1, x :: y :: r, h => by
    have h' : (decide (x ≤ y) && rising (y :: r)) = true := h
    rw [Bool.and_eq_true] at h'
    have ih := rising_take (n + 1) h'.2
    show (decide (x ≤ y) && rising (y :: r.take n)) = true
    rw [Bool.and_eq_true]
    exact ⟨h'.1, ih⟩
theorem rising_entries {ws : List Int} (h : rising ws = true) (lo hi : Int) : rising (entries ws lo hi) = true := by
  unfold entries
  exact rising_take _ (rising_drop _ h)
theorem trn_up {h : Head} {ir : List (Int × Int)} (u : ∀ ws, h = .row ws → rising ws = true) : trn h ir = 1 ∨ trn h ir = -1 := by
  cases h with
  | row ws =>
    refine .inl ?_
    show (if rising (entries ws _ _) then _ else _) = _
    rw [if_pos (rising_entries (u ws rfl) _ _)]
  | bar k lo hi =>
    show (if hi < lo then (-1 : Int) else 1) = 1 ∨ (if hi < lo then (-1 : Int) else 1) = -1
    split
    · exact .inr rfl
    · exact .inl rfl
  | sub w => exact .inr rfl
  | _ => exact .inl rfl
mutual
theorem words_nb (T : Nat → Int) : ∀ (r : Rule) (s : Bool) (g : Int), upR r → (g = 1 ∨ g = -1) → Way.both ∉ words T r s g
  | .node h ps, s, g, u, hg => by
    unfold upR at u
    unfold words
    intro hm
    rcases List.mem_append.mp hm with hm | hm
    · cases h <;> simp only [ownW, List.not_mem_nil] at hm
      rename_i j
      rw [List.mem_singleton] at hm
      rw [if_neg (show ¬ g = 0 by omega)] at hm
      split at hm
      · exact Way.noConfusion hm
      · split at hm <;> exact Way.noConfusion hm
    · refine wordss_nb T ps _ _ u.2 ?_ hm
      rcases trn_up (ir := ranges T ps) u.1 with e | e <;> rw [e] <;> rcases hg with e2 | e2 <;> rw [e2] <;> decide
theorem wordss_nb (T : Nat → Int) : ∀ (ps : List Rule) (s : Bool) (g : Int), upRs ps → (g = 1 ∨ g = -1) → Way.both ∉ wordss T ps s g
  | [], s, g, u, hg => by
    unfold wordss
    exact fun hm => nomatch hm
  | p :: ps, s, g, u, hg => by
    unfold upRs at u
    unfold wordss
    intro hm
    rcases List.mem_append.mp hm with hm | hm
    · exact words_nb T p s g u.1 hg hm
    · exact wordss_nb T ps s g u.2 hg hm
end
theorem allWays_mem (T : Nat → Int) : ∀ {ts : List Int} {rs : List Rule} {ws : List Way}, ws ∈ allWays T ts rs → ∃ t r, r ∈ rs ∧ ws = waysR T t r
  | t :: ts, r :: rs, ws, h => by
    unfold allWays at h
    rcases List.mem_cons.mp h with rfl | h
    · exact ⟨t, r, List.mem_cons_self, rfl⟩
    · obtain ⟨t', r', h1, h2⟩ := allWays_mem T h
      exact ⟨t', r', List.mem_cons_of_mem _ h1, h2⟩
  | [], _, _, h => by unfold allWays at h; nomatch h
  | _ :: _, [], _, h => by unfold allWays at h; nomatch h
theorem oneWayB_up {N : Nt} (u : ∀ r ∈ N.2, upR r) : oneWayB N = true := by
  unfold oneWayB
  have : ((waysN N).map fun ws => decide (Way.both ∈ ws)).any id = false := by
    rw [List.any_eq_false]
    intro b hb
    obtain ⟨ws, hw, rfl⟩ := List.mem_map.mp hb
    obtain ⟨t, r, hr, rfl⟩ := allWays_mem _ hw
    have := words_nb (topOf N) r (min (range (topOf N) r).1 t == min (range (topOf N) r).2 t) 1 (u r hr) (.inl rfl)
    have e : decide (Way.both ∈ waysR (topOf N) t r) = false := decide_eq_false this
    rw [e]; exact fun z => Bool.noConfusion z
  rw [this]; rfl

/-! ### runs -/
/-- the state shown i beats ago -/
def ago (S : List (List Int)) (i : Nat) : Option (List Int) := S[S.length - 1 - i]?
structure Run (l : Life) (S : List (List Int)) : Prop where
  ok : okL l
  many : l.d ≤ S.length
  last : ∀ i < l.d, ∃ s, ago S i = some s ∧ s.length = l.N.1.length ∧ InE (it l.N (l.age / l.d) l.E) s ∧ (i < l.age % l.d → InE (it l.N (l.age / l.d + 1) l.E) s)
theorem ago_snoc0 (S : List (List Int)) (s : List Int) : ago (S ++ [s]) 0 = some s := by
  unfold ago
  rw [List.length_append]
  simp
theorem ago_snoc (S : List (List Int)) (s : List Int) (i : Nat) (h : i < S.length) : ago (S ++ [s]) (i + 1) = ago S i := by
  unfold ago
  rw [List.length_append, List.getElem?_append]
  have e : S.length + [s].length - 1 - (i + 1) = S.length - 1 - i := by simp; omega
  rw [e, if_pos (by omega)]
theorem InE.within {E E' : En} {s : List Int} (h : InE E s) (w : Within E E') : InE E' s := fun j => by
  have := h j; have := w j; omega
/-- what a beat may show: each house what it wants of things shown in the last d beats -/
def Beat (N : Nt) (d : Nat) (S : List (List Int)) (s : List Int) : Prop := s.length = N.1.length ∧ ∀ (i : Nat) (t : Int) (r : Rule), N.1[i]? = some t → N.2[i]? = some r →
  ∃ f : Nat → Int, g0 s i = min t (tv r f) ∧ ∀ k j, (br r)[k]? = some j → ∃ (b : Nat) (z : List Int), b < d ∧ ago S b = some z ∧ f k = g0 z j
theorem Run.beat {l : Life} {S : List (List Int)} (R : Run l S) {s : List Int} (b : Beat l.N l.d S s) : Run ⟨l.N, l.d, l.E, l.age + 1⟩ (S ++ [s]) := by
  obtain ⟨ok, many, last⟩ := R
  have okk := ok
  obtain ⟨hN, ow, hE, hC, d1, d2⟩ := ok
  have owp := oneWay_of hN.1 ow
  have new : InE (it l.N (l.age / l.d + 1) l.E) s := by
    refine next_in hN.1 owp (it_ok hN.1 owp hE _) b.1 fun i t r e1 e2 => ?_
    obtain ⟨f, h1, h2⟩ := b.2 i t r e1 e2
    refine ⟨f, h1, fun k j e => ?_⟩
    obtain ⟨q, z, hq, hz, hf⟩ := h2 k j e
    obtain ⟨z', e1, _, e3, _⟩ := last q hq
    rw [hz] at e1
    cases e1
    rw [hf]
    exact e3 j
  have wi : Within (it l.N (l.age / l.d + 1) l.E) (it l.N (l.age / l.d) l.E) := it_dec hN.1 owp hE hC (Nat.le_succ _)
  refine ⟨okk, by rw [List.length_append]; show l.d ≤ _; omega, fun i hi => ?_⟩
  have hi : i < l.d := hi
  show ∃ s', ago (S ++ [s]) i = some s' ∧ s'.length = l.N.1.length ∧ InE (it l.N ((l.age + 1) / l.d) l.E) s' ∧ (i < (l.age + 1) % l.d → InE (it l.N ((l.age + 1) / l.d + 1) l.E) s')
  have dm := Nat.div_add_mod l.age l.d
  have ml : l.age % l.d < l.d := Nat.mod_lt _ (by omega)
  by_cases wrap : l.age % l.d + 1 < l.d
  · have e1 : (l.age + 1) / l.d = l.age / l.d := by
      rw [show l.age + 1 = (l.age % l.d + 1) + l.d * (l.age / l.d) by omega, Nat.add_mul_div_left _ _ (by omega), Nat.div_eq_of_lt wrap, Nat.zero_add]
    have e2 : (l.age + 1) % l.d = l.age % l.d + 1 := by
      rw [show l.age + 1 = (l.age % l.d + 1) + l.d * (l.age / l.d) by omega, Nat.add_mul_mod_self_left, Nat.mod_eq_of_lt wrap]
    rw [e1, e2]
    cases i with
    | zero => exact ⟨s, ago_snoc0 S s, b.1, new.within wi, fun _ => new⟩
    | succ i =>
      obtain ⟨z, h1, h2, h3, h4⟩ := last i (by omega)
      exact ⟨z, by rw [ago_snoc S s i (by omega)]; exact h1, h2, h3, fun hlt => h4 (by omega)⟩
  · have e0 : l.age + 1 = l.d * (l.age / l.d + 1) := by rw [Nat.mul_add]; omega
    have e1 : (l.age + 1) / l.d = l.age / l.d + 1 := by rw [e0, Nat.mul_div_cancel_left _ (by omega)]
    have e2 : (l.age + 1) % l.d = 0 := by rw [e0, Nat.mul_mod_right]
    rw [e1, e2]
    cases i with
    | zero => exact ⟨s, ago_snoc0 S s, b.1, new, fun h => absurd h (by omega)⟩
    | succ i =>
      obtain ⟨z, h1, h2, h3, h4⟩ := last i (by omega)
      exact ⟨z, by rw [ago_snoc S s i (by omega)]; exact h1, h2, h4 (by omega), fun h => absurd h (by omega)⟩
/-- a life at a change -/
theorem Run.fresh {l : Life} {S : List (List Int)} (ok : okL l) (age : l.age = 0) (many : l.d ≤ S.length) (last : ∀ i < l.d, ∃ s, ago S i = some s ∧ s.length = l.N.1.length ∧ InE l.E s) : Run l S := by
  refine ⟨ok, many, fun i hi => ?_⟩
  obtain ⟨s, h1, h2, h3⟩ := last i hi
  rw [age]
  refine ⟨s, h1, h2, by rw [Nat.zero_div]; exact h3, fun h => ?_⟩
  rw [Nat.zero_mod] at h
  exact absurd h (by omega)
end NB

/-! SL -/
set_option Elab.async false
set_option linter.all false
set_option maxRecDepth 100000
namespace NB
open PySem PySem.Spec PyProof.Rows L2

def r_law_draw : RL := fun ds Φ => ∃ ns : List Int, ds = [.lst (iD ns), .int 58] ∧ ns.length ≤ 63 ∧ Φ .deal
def r_law_any : RL := fun ds Φ => ∃ b : Int, ds = [.deal, .int b] ∧ 1 ≤ b ∧ b ≤ 100000 ∧ ∀ x : Int, 0 ≤ x → x < b → Φ (.int x)
def r_law_of : RL := fun ds Φ => ∃ xs : List D, ds = [.deal, .lst xs] ∧ 1 ≤ xs.length ∧ xs.length ≤ 1000 ∧ ∀ x ∈ xs, Φ x
def r_law_rule (k : Nat) : RL := fun ds Φ => ∃ (n deep : Nat) (a : Bool), ds = [.deal, .int (n : Int), .int 4, .int (deep : Int), .bl a] ∧ 1 ≤ n ∧ n ≤ 1000 ∧ deep + 1 ≤ k ∧ deep ≤ 3 ∧
  ∀ r : Rule, wf n r → dep r ≤ deep + 1 → (br r).length ≤ 3 ^ deep → (a = false → upR r) → Φ (enc r)
def r_law_net : RL := fun ds Φ => ds = [.deal, .int 3, .int 4, .bl false] ∧ ∀ N : Nt, okN N → N.1.length ≤ 3 → (∀ r ∈ N.2, upR r) → Φ (encN N)
def r_law_parts : RL := fun ds Φ => ∃ (n : Nat) (h : Head) (ps : List Rule), ds = [encH h (encs ps)] ∧ okH n h ps.length ∧ Φ (.lst (encs ps))
def r_law_branches (k : Nat) : RL := fun ds Φ => ∃ (n : Nat) (r : Rule), ds = [enc r] ∧ wf n r ∧ dep r ≤ k ∧ (br r).length ≤ 1000 ∧ Φ (.lst (natD (br r)))
def r_law_made : RL := r_made
def r_law_told (k : Nat) : RL := fun ds Φ => ∃ (n : Nat) (r : Rule) (hd : List Int), ds = [enc r, .lst (iD hd)] ∧ wf n r ∧ dep r ≤ k ∧ k ≤ 4 ∧ (∀ v ∈ hd, 0 ≤ v) ∧ hd.length = (br r).length ∧ (br r).length ≤ 1000 ∧ Φ (.int (tv r (g0 hd)))
def r_law_wants : RL := fun ds Φ => ∃ (n : Nat) (N : Nt) (i : Nat) (t : Int) (r : Rule) (hd : List Int), ds = [encN N, .int (i : Int), .lst (iD hd)] ∧ N.1[i]? = some t ∧ N.2[i]? = some r ∧ wf n r ∧ dep r ≤ 4 ∧ (∀ v ∈ hd, 0 ≤ v) ∧ hd.length = (br r).length ∧ (br r).length ≤ 1000 ∧
  Φ (.int (min t (tv r (g0 hd))))
def r_law_entries : RL := fun ds Φ => ∃ (ws : List Int) (lo hi : Int), ds = [.tup (iD ws), .int lo, .int hi] ∧ 0 ≤ lo ∧ lo ≤ hi ∧ 1 ≤ ws.length ∧ ws.length ≤ 64 ∧ Φ (.lst (iD (entries ws lo hi)))
def r_law_range (k : Nat) : RL := r_range_of k
def r_law_turn : RL := fun ds Φ => ∃ (N : Nt) (h : Head) (ps : List Rule), ds = [encN N, encH h (encs ps)] ∧ okN N ∧ okH N.1.length h ps.length ∧ wfs N.1.length ps ∧ deps ps ≤ 4 ∧ Φ (.int (trn h (ranges (topOf N) ps)))
def r_law_words (k : Nat) : RL := fun ds Φ => ∃ (N : Nt) (r : Rule) (s : Bool) (g : Int), ds = [encN N, enc r, .bl s, .int g] ∧ (g = 1 ∨ g = -1 ∨ g = 0) ∧ okN N ∧ wf N.1.length r ∧ dep r ≤ k ∧ k ≤ 4 ∧ (br r).length ≤ 1000 ∧ Φ (.lst ((words (topOf N) r s g).map encW))
def r_law_ways : RL := fun ds Φ => ∃ (N : Nt) (i : Nat) (t : Int) (r : Rule), ds = [encN N, .int (i : Int)] ∧ okN N ∧ N.1[i]? = some t ∧ N.2[i]? = some r ∧ Φ (.lst ((waysR (topOf N) t r).map encW))
def wordsL (N : Nt) : D := .lst ((waysN N).map fun ws => .lst (ws.map encW))
def r_law_all_words : RL := fun ds Φ => ∃ N : Nt, ds = [encN N] ∧ okN N ∧ Φ (wordsL N)
def r_law_next_ends : RL := fun ds Φ => ∃ (N : Nt) (E : En), ds = [encN N, wordsL N, encE E] ∧ okN N ∧ okE N E ∧ Φ (encE (next N E))
def r_law_led : RL := fun ds Φ => ∃ (N : Nt) (E : En), ds = [encN N, wordsL N, encE E, .non] ∧ okN N ∧ oneWayB N = true ∧ okE N E ∧ Cl N E ∧ ∀ (m : Nat) (f : Int), next N (it N m E) = it N m E → Φ (.tup [encE (it N m E), .int f])
def r_law_closed : RL := fun ds Φ => ∃ (N : Nt) (E : En), ds = [encN N, wordsL N, encE E] ∧ okN N ∧ oneWayB N = true ∧ okE N E ∧ ∀ E', okE N E' → Within E E' → Cl N E' → Φ (encE E')
def r_law_life : RL := fun ds Φ => ds = [.deal, .int 3, .int 4] ∧ ∀ l : Life, okL l → l.N.1.length ≤ 3 → Φ (encL l)
/-- a drawn change -/
def drawnC (l : Life) : Ch → Prop
  | .wait n => 0 ≤ n
  | .rule h r => 0 ≤ h ∧ wf l.N.1.length r ∧ dep r ≤ 4 ∧ (br r).length ≤ 1000
  | .house t r => 1 ≤ t ∧ t ≤ 4 ∧ wf (l.N.1.length + 1) r ∧ dep r ≤ 4 ∧ (br r).length ≤ 1000
  | .seen h lo hi => 0 ≤ h ∧ h < l.N.1.length
def r_law_some_change : RL := fun ds Φ => ∃ l : Life, ds = [.deal, encL l] ∧ okL l ∧ ∀ c, drawnC l c → Φ (encC c)
/-- lateness -/
def Lat (N : Nt) (d : Nat) (L : List (List Nat)) : Prop := L.length = N.2.length ∧ ∀ (i : Nat) (r : Rule) (w : List Nat), N.2[i]? = some r → L[i]? = some w → w.length = (br r).length ∧ ∀ x ∈ w, 1 ≤ x ∧ x ≤ d
def encT (L : List (List Nat)) : D := .tup (L.map fun w => .tup (natD w))
def lastOk (N : Nt) (d : Nat) (x : D) : Prop := x = .non ∨ ∃ L, Lat N d L ∧ x = encT L
def r_law_lateness : RL := fun ds Φ => ∃ (N : Nt) (d : Nat) (x : D), ds = [.deal, encN N, .int (d : Int), x] ∧ okN N ∧ 1 ≤ d ∧ d ≤ 9 ∧ lastOk N d x ∧ ∀ L, Lat N d L → Φ (encT L)
def encS (S : List (List Int)) : D := .lst (S.map fun s => .tup (iD s))
def r_law_beat : RL := fun ds Φ => ∃ (N : Nt) (d : Nat) (S : List (List Int)) (x : D), ds = [.deal, encN N, .int (d : Int), encS S, x] ∧ okN N ∧ 1 ≤ d ∧ d ≤ 9 ∧ lastOk N d x ∧ d ≤ S.length ∧ S.length ≤ 900 ∧
  (∀ i < d, ∃ s, ago S i = some s ∧ s.length = N.1.length ∧ ∀ j, 0 ≤ g0 s j) ∧ ∀ s L, Beat N d S s → Lat N d L → Φ (.tup [encS (S ++ [s]), encT L])
def r_law_holds : RL := fun ds Φ => ∃ (l : Life) (S : List (List Int)), ds = [encL l, encS S] ∧ Run l S ∧ Φ (.bl true)
theorem at0 {vs : List Int} (h : 0 < vs.length) : L2.atI (iD vs) 0 = some (.int (g0 vs 0)) := atIn (i := 0) (iD_get (g0_some h))
theorem is_hear {x : Str} (h1 : decide (x = ("is" : Str)) = false) (h2 : decide (x = ("hear" : Str)) = false) : decide (x ∈ (["is", "hear"] : List Str)) = false := by
  have h1 := of_decide_eq_false h1
  have h2 := of_decide_eq_false h2
  refine decide_eq_false fun h => ?_
  rcases List.mem_cons.mp h with h | h
  · exact h1 h
  · rcases List.mem_cons.mp h with h | h
    · exact h2 h
    · nomatch h
mutual
theorem tv_congr : ∀ (r : Rule) (f f' : Nat → Int), (∀ k < (br r).length, f k = f' k) → tv r f = tv r f'
  | .node h ps, f, f', e => by
    unfold tv
    unfold br at e
    have q := tvs_congr ps f f'
    cases h with
    | hear j => exact e 0 (by show 0 < ([j] ++ brs ps).length; simp)
    | _ =>
      have q := q fun k hk => e k (by rw [List.length_append]; omega)
      rw [q]
      rfl
theorem tvs_congr : ∀ (ps : List Rule) (f f' : Nat → Int), (∀ k < (brs ps).length, f k = f' k) → tvs ps f = tvs ps f'
  | [], f, f', e => rfl
  | p :: ps, f, f', e => by
    have e : ∀ k < (br p ++ brs ps).length, f k = f' k := e
    rw [List.length_append] at e
    unfold tvs
    rw [tv_congr p f f' fun k hk => e k (by omega), tvs_congr ps _ (fun k => f' ((br p).length + k)) fun k hk => e _ (by omega)]
end
theorem cut_mid (xs : List D) (i j : Nat) (h : i + j ≤ xs.length) : cutD xs (some (i : Int)) (some ((i : Int) + (j : Int))) = (xs.drop i).take j := by
  unfold cutD
  rw [show ((i : Int) + (j : Int)) = ((i + j : Nat) : Int) by omega, HT.sIx_nat, HT.sIx_nat, Nat.min_eq_left (show i ≤ xs.length by omega), Nat.min_eq_left h]
  rw [show i + j - i = j by omega]
theorem g0_cut {hd : List Int} {i j k : Nat} (h : k < j) : g0 ((hd.drop i).take j) k = g0 hd (i + k) := by
  unfold g0
  rw [List.getD_eq_getElem?_getD, List.getD_eq_getElem?_getD, List.getElem?_take, if_pos h, List.getElem?_drop]
theorem range_split {n : Nat} {done rest : List Nat} {x : Nat} (h : List.range n = done ++ x :: rest) : x = done.length ∧ x < n ∧ done = List.range x := by
  have hl : done.length < n := by
    have := congrArg List.length h
    simp at this; omega
  have hx : (List.range n)[done.length]? = some x := by rw [h]; simp
  rw [List.getElem?_range hl] at hx
  have hx : done.length = x := by simpa using hx
  refine ⟨hx.symm, by omega, ?_⟩
  have : (List.range n).take done.length = done := by rw [h]; simp
  rw [List.take_range] at this
  rw [← this, ← hx, Nat.min_eq_left (by omega)]
theorem range_g0 {L : List Int} {n : Nat} (h : L.length = n) : (List.range n).map (fun k => D.int (g0 L k)) = iD L := by
  unfold iD
  rw [map_range D.int 0 L, h]
theorem at_last {ws : List Int} (h : 1 ≤ ws.length) : L2.atI (iD ws) (-1) = some (.int (g0 ws (ws.length - 1))) := by
  have hl := iD_len ws
  unfold L2.atI L2.ixN
  rw [if_neg (by omega), if_pos (by omega)]
  show (iD ws)[_]? = _
  rw [hl, show (-1 + (ws.length : Int)).toNat = ws.length - 1 by omega]
  exact iD_get (g0_some (by omega))
end NB

/-! S1 -/
set_option Elab.async false
set_option linter.all false
set_option maxRecDepth 100000
set_option maxHeartbeats 2000000
namespace NB
open PySem PySem.Spec PyProof.Rows L2
local macro_rules | `(tactic| walk_at "D") => `(tactic| simp only [dSeq, dRet, dNext, dSet, dAsg, dPar, dPar3, dParO1, dParO2, dNew, dFreeze, dNever, dApp, dExt, dIfS, dVar, dC, dOp, dCall, dCons, dNil, dAndV, dOrV, dNotV, dTst, dTAnd, dTOr, dTNot, dIf, dYes, dIx, dEq, dNe, dLt, dLe, dGt, dGe, dAdd, dSub, dMul, dDiv, dMod, dIn, dIsN, dNotN, dIsT, dEqD, dNeD, dCat, dLen, dMin, dMax, dSum, dAny, dAll, dTuple, dList, dSl, dPart, dNoPart, dTup, dLst, dIsi, dNeg, dChain, dRev, dRep, dRepT, dSizes, dStup, dSNil, dSCons, dSStar, dItems, dRange1, dRange2, dZip, dEnum, dLc, dFor, bName, bTup, bCons, bNil, rdI, rdI0, rdB0, rdEq, rdNe, rdIsN, rdNotN, rdIsT, rdIx, rdIn, rdCat, rdLen, rdMin, rdMax, rdSum, rdSorted, rdAny, rdAll, rdTuple, rdList, isTy, isNon, getS, setS, wipeS, startE, List.map, List.replicate, List.length_cons, List.length_nil, List.append, List.cons_append, List.nil_append, List.append_nil, Nat.sub_self, Nat.reduceSub, Nat.reduceAdd, Bool.not_true, Bool.not_false, encH, encs, atI0, atI1, atI2, atI3, strsOf, intsOf, Option.map_some, intsOf_iD, dq_is_hear, dq_is_least, dq_is_most, dq_is_add, dq_is_middle, dq_is_times, dq_is_part, dq_is_clip, dq_is_from, dq_is_bar, dq_is_row, dq_hear_is, dq_hear_least, dq_hear_most, dq_hear_add, dq_hear_middle, dq_hear_times, dq_hear_part, dq_hear_clip, dq_hear_from, dq_hear_bar, dq_hear_row, dq_least_is, dq_least_hear, dq_least_most, dq_least_add, dq_least_middle, dq_least_times, dq_least_part, dq_least_clip, dq_least_from, dq_least_bar, dq_least_row, dq_most_is, dq_most_hear, dq_most_least, dq_most_add, dq_most_middle, dq_most_times, dq_most_part, dq_most_clip, dq_most_from, dq_most_bar, dq_most_row, dq_add_is, dq_add_hear, dq_add_least, dq_add_most, dq_add_middle, dq_add_times, dq_add_part, dq_add_clip, dq_add_from, dq_add_bar, dq_add_row, dq_middle_is, dq_middle_hear, dq_middle_least, dq_middle_most, dq_middle_add, dq_middle_times, dq_middle_part, dq_middle_clip, dq_middle_from, dq_middle_bar, dq_middle_row, dq_times_is, dq_times_hear, dq_times_least, dq_times_most, dq_times_add, dq_times_middle, dq_times_part, dq_times_clip, dq_times_from, dq_times_bar, dq_times_row, dq_part_is, dq_part_hear, dq_part_least, dq_part_most, dq_part_add, dq_part_middle, dq_part_times, dq_part_clip, dq_part_from, dq_part_bar, dq_part_row, dq_clip_is, dq_clip_hear, dq_clip_least, dq_clip_most, dq_clip_add, dq_clip_middle, dq_clip_times, dq_clip_part, dq_clip_from, dq_clip_bar, dq_clip_row, dq_from_is, dq_from_hear, dq_from_least, dq_from_most, dq_from_add, dq_from_middle, dq_from_times, dq_from_part, dq_from_clip, dq_from_bar, dq_from_row, dq_bar_is, dq_bar_hear, dq_bar_least, dq_bar_most, dq_bar_add, dq_bar_middle, dq_bar_times, dq_bar_part, dq_bar_clip, dq_bar_from, dq_bar_row, dq_row_is, dq_row_hear, dq_row_least, dq_row_most, dq_row_add, dq_row_middle, dq_row_times, dq_row_part, dq_row_clip, dq_row_from, dq_row_bar, dq_none_both, dq_none_falls, dq_none_rises, dq_both_none, dq_both_falls, dq_both_rises, dq_falls_none, dq_falls_both, dq_falls_rises, dq_rises_none, dq_rises_both, dq_rises_falls, dq_wait_rule, dq_wait_house, dq_wait_seen, dq_rule_wait, dq_rule_house, dq_rule_seen, dq_house_wait, dq_house_rule, dq_house_seen, dq_seen_wait, dq_seen_rule, dq_seen_house, di_is, dj_is, dk_is, dl_is, di_hear, dj_hear, dk_hear, dl_hear, di_least, dj_least, dk_least, dl_least, di_most, dj_most, dk_most, dl_most, di_add, dj_add, dk_add, dl_add, di_middle, dj_middle, dk_middle, dl_middle, di_times, dj_times, dk_times, dl_times, di_part, dj_part, dk_part, dl_part, di_clip, dj_clip, dk_clip, dl_clip, di_from, dj_from, dk_from, dl_from, di_bar, dj_bar, dk_bar, dl_bar, di_row, dj_row, dk_row, dl_row, kt_int_int, kt_int_bool, kt_bool_int, kt_bool_bool, kt_tuple_tuple, kt_str_str, kt_int_tuple, kt_str_tuple, kt_tuple_int, kt_tuple_str, kt_NoneType_tuple, kt_str_int, dq_same])
theorem p_is_integer (ds : List D) (Φ : D → Prop) (h : r_is_integer ds Φ) : w_is_integer (fun _ => Φ .non) Φ (startE 1 ds) := by
  obtain ⟨i, rfl, h⟩ := h
  unfold w_is_integer
  walk_at "D"
  exact h
theorem p_is_number (ds : List D) (Φ : D → Prop) (h : r_is_number ds Φ) : w_is_number r_is_integer (fun _ => Φ .non) Φ (startE 1 ds) := by
  obtain ⟨i, rfl, h⟩ := h
  unfold w_is_number
  walk_at "D"
  exact ⟨i, rfl, h⟩
theorem p_is_index (ds : List D) (Φ : D → Prop) (h : r_is_index ds Φ) : w_is_index r_is_number (fun _ => Φ .non) Φ (startE 2 ds) := by
  obtain ⟨i, m, rfl, h⟩ := h
  unfold w_is_index
  walk_at "D"
  refine ⟨i, rfl, ?_⟩
  cases e : decide (0 ≤ i) <;> rw [e] at h <;> exact h
theorem p_is_row_of (ds : List D) (Φ : D → Prop) (h : r_is_row_of ds Φ) : w_is_row_of (fun _ => Φ .non) Φ (startE 2 ds) := by
  obtain ⟨xs, n, rfl, h⟩ := h
  unfold w_is_row_of
  walk_at "D"
  intro _
  simpa using h
theorem p_is_word_of (ds : List D) (Φ : D → Prop) (h : r_is_word_of ds Φ) : w_is_word_of (fun _ => Φ .non) Φ (startE 2 ds) := by
  obtain ⟨s, rfl, h⟩ := h
  unfold w_is_word_of wordsD
  walk_at "D"
  exact h
theorem p_is_worth (ds : List D) (Φ : D → Prop) (h : r_is_worth ds Φ) : w_is_worth r_is_index (fun _ => Φ .non) Φ (startE 1 ds) := by
  obtain ⟨i, rfl, h⟩ := h
  unfold w_is_worth
  walk_at "D"
  exact ⟨i, 1001, rfl, h⟩
theorem worth_yes {i : Int} (h0 : 0 ≤ i) (h1 : i ≤ 1000) {Φ : D → Prop} (h : Φ (.bl true)) : r_is_worth [.int i] Φ := by
  refine ⟨i, rfl, ?_⟩
  rw [decide_eq_true h0, decide_eq_true (by omega)]
  exact h
theorem p_is_head (ds : List D) (Φ : D → Prop) (h : r_is_head ds Φ) : w_is_head r_is_worth (fun _ => Φ .non) Φ (startE 2 ds) := by
  obtain ⟨n, h, ps, rfl, ok, u, hΦ⟩ := h
  unfold w_is_head
  cases h with
  | times m =>
    obtain ⟨p, rfl⟩ := one_of ok.1
    walk_at "D"
    intro _
    exact worth_yes ok.2.1 ok.2.2 hΦ
  | part d =>
    obtain ⟨p, rfl⟩ := one_of ok.1
    walk_at "D"
    intro _
    refine worth_yes (by have := ok.2.1; omega) ok.2.2 ?_
    have e : decide (0 < d) = true := decide_eq_true (by have := ok.2.1; omega)
    rw [e]; exact hΦ
  | clip lo hi =>
    obtain ⟨p, rfl⟩ := one_of ok.1
    walk_at "D"
    intro _
    refine worth_yes ok.2.1 (by have := ok.2.2; omega) ?_
    refine worth_yes (by have := ok.2; omega) ok.2.2.2 ?_
    have e : decide (lo ≤ hi) = true := decide_eq_true ok.2.2.1
    rw [e]; exact hΦ
  | sub w =>
    obtain ⟨p, rfl⟩ := one_of ok.1
    walk_at "D"
    intro _
    exact worth_yes ok.2.1 ok.2.2 hΦ
  | bar k lo hi =>
    obtain ⟨p, rfl⟩ := one_of ok.1
    walk_at "D"
    intro _
    refine worth_yes ok.2.1 ok.2.2.1 ?_
    refine worth_yes ok.2.2.2.1 ok.2.2.2.2.1 ?_
    exact worth_yes ok.2.2.2.2.2.1 ok.2.2.2.2.2.2 hΦ
  | row ws =>
    obtain ⟨p, rfl⟩ := one_of ok.1
    walk_at "D"
    intro _ _
    have hl := iD_len ws
    have e1 : decide (1 ≤ (((iD ws).length : Nat) : Int)) = true := decide_eq_true (by rw [hl]; have := ok.2.1; omega)
    have e2 : decide ((((iD ws).length : Nat) : Int) ≤ 64) = true := decide_eq_true (by rw [hl]; have := ok.2.2.1; omega)
    rw [e1, e2]
    refine lc_over D.int (fun x => D.bl (worthB x)) ws [] (fun x _ Ψ hΨ => ?_) ?_
    · exact ⟨x, rfl, hΨ⟩
    · have e3 : blsOf ([] ++ ws.map fun x => D.bl (worthB x)) = some (ws.map worthB) := blsOf_iD worthB ws
      show match blsOf ([] ++ ws.map fun x => D.bl (worthB x)) with
        | some bs => Φ (.bl (bs.all id))
        | none => False
      rw [e3]
      have e4 : (ws.map worthB).all id = true := by
        rw [List.all_map, List.all_eq_true]
        intro x hx
        have := ok.2.2.2 x hx
        show worthB x = true
        unfold worthB
        rw [decide_eq_true this.1, decide_eq_true (by omega)]
        rfl
      show Φ (.bl ((ws.map worthB).all id))
      rw [e4]; exact hΦ
  | _ => exact u.elim
theorem unary_len {n : Nat} {h : Head} {k : Nat} (u : unary h) (ok : okH n h k) : k = 1 := by
  cases h <;> first | exact u.elim | exact ok.1
theorem p_parts_of (ds : List D) (Φ : D → Prop) (h : r_parts_of ds Φ) : w_parts_of r_is_worth r_is_head (fun _ => Φ .non) Φ (startE 1 ds) := by
  obtain ⟨n, h, ps, rfl, ok, hn, hΦ⟩ := h
  unfold w_parts_of
  have un : unary h → ∀ p, ps = [p] → r_is_head [encH h (encs ps)] fun x => match x with
      | .bl c => match c with
        | true => Φ (.tup [enc p])
        | false => Φ .non
      | _ => False := fun u p e => ⟨n, h, ps, rfl, ok, u, by show Φ _; rw [e] at hΦ; exact hΦ⟩
  cases h with
  | is w =>
    have e := none_of ok.1
    subst e
    walk_at "D"
    intro _ _
    exact worth_yes ok.2.1 ok.2.2 ⟨by decide, hΦ⟩
  | hear j =>
    have e := none_of ok.1
    subst e
    walk_at "D"
    intro _ _
    exact worth_yes (by omega) (by have := ok.2; omega) ⟨by decide, hΦ⟩
  | least =>
    walk_at "D"
    intro _
    refine ⟨by decide, fun _ => ?_⟩
    have e : decide (0 < (((encs ps).length : Nat) : Int)) = true := decide_eq_true (by rw [encs_len]; have := ok.1; omega)
    rw [e]
    exact fun _ => hΦ
  | most =>
    walk_at "D"
    intro _
    refine ⟨by decide, fun _ => ?_⟩
    have e : decide (0 < (((encs ps).length : Nat) : Int)) = true := decide_eq_true (by rw [encs_len]; have := ok.1; omega)
    rw [e]
    exact fun _ => hΦ
  | add =>
    walk_at "D"
    intro _
    refine ⟨by decide, fun _ => ?_⟩
    have e : decide (0 < (((encs ps).length : Nat) : Int)) = true := decide_eq_true (by rw [encs_len]; have := ok.1; omega)
    rw [e]
    exact fun _ => hΦ
  | middle =>
    obtain ⟨p, q, r, rfl⟩ := three_of ok
    walk_at "D"
    intro _
    exact ⟨by decide, fun _ => hΦ⟩
  | times m =>
    obtain ⟨p, rfl⟩ := one_of ok.1
    have un := un trivial p rfl
    walk_at "D"
    intro _
    exact ⟨by decide, un⟩
  | part m =>
    obtain ⟨p, rfl⟩ := one_of ok.1
    have un := un trivial p rfl
    walk_at "D"
    intro _
    exact ⟨by decide, un⟩
  | clip lo hi =>
    obtain ⟨p, rfl⟩ := one_of ok.1
    have un := un trivial p rfl
    walk_at "D"
    intro _
    exact ⟨by decide, un⟩
  | sub m =>
    obtain ⟨p, rfl⟩ := one_of ok.1
    have un := un trivial p rfl
    walk_at "D"
    intro _
    exact ⟨by decide, un⟩
  | bar k lo hi =>
    obtain ⟨p, rfl⟩ := one_of ok.1
    have un := un trivial p rfl
    walk_at "D"
    intro _
    exact ⟨by decide, un⟩
  | row ws =>
    obtain ⟨p, rfl⟩ := one_of ok.1
    have un := un trivial p rfl
    walk_at "D"
    intro _
    exact ⟨by decide, un⟩
theorem lines_eq {n : Nat} : (decide (((n : Nat) : Int) > 60) = true) ↔ n > 60 := by
  rw [decide_eq_true_iff]; omega
end NB

/-! S2 -/
set_option Elab.async false
set_option linter.all false
set_option maxRecDepth 100000
set_option maxHeartbeats 2000000
namespace NB
open PySem PySem.Spec PyProof.Rows L2
local macro_rules | `(tactic| walk_at "D") => `(tactic| simp only [dSeq, dRet, dNext, dSet, dAsg, dPar, dPar3, dParO1, dParO2, dNew, dFreeze, dNever, dApp, dExt, dIfS, dVar, dC, dOp, dCall, dCons, dNil, dAndV, dOrV, dNotV, dTst, dTAnd, dTOr, dTNot, dIf, dYes, dIx, dEq, dNe, dLt, dLe, dGt, dGe, dAdd, dSub, dMul, dDiv, dMod, dIn, dIsN, dNotN, dIsT, dEqD, dNeD, dCat, dLen, dMin, dMax, dSum, dAny, dAll, dTuple, dList, dSl, dPart, dNoPart, dTup, dLst, dIsi, dNeg, dChain, dRev, dRep, dRepT, dSizes, dStup, dSNil, dSCons, dSStar, dItems, dRange1, dRange2, dZip, dEnum, dLc, dFor, bName, bTup, bCons, bNil, rdI, rdI0, rdB0, rdEq, rdNe, rdIsN, rdNotN, rdIsT, rdIx, rdIn, rdCat, rdLen, rdMin, rdMax, rdSum, rdSorted, rdAny, rdAll, rdTuple, rdList, isTy, isNon, getS, setS, wipeS, startE, List.map, List.replicate, List.length_cons, List.length_nil, List.append, List.cons_append, List.nil_append, List.append_nil, Nat.sub_self, Nat.reduceSub, Nat.reduceAdd, Bool.not_true, Bool.not_false, encH, encs, atI0, atI1, atI2, atI3, strsOf, intsOf, Option.map_some, intsOf_iD, dq_is_hear, dq_is_least, dq_is_most, dq_is_add, dq_is_middle, dq_is_times, dq_is_part, dq_is_clip, dq_is_from, dq_is_bar, dq_is_row, dq_hear_is, dq_hear_least, dq_hear_most, dq_hear_add, dq_hear_middle, dq_hear_times, dq_hear_part, dq_hear_clip, dq_hear_from, dq_hear_bar, dq_hear_row, dq_least_is, dq_least_hear, dq_least_most, dq_least_add, dq_least_middle, dq_least_times, dq_least_part, dq_least_clip, dq_least_from, dq_least_bar, dq_least_row, dq_most_is, dq_most_hear, dq_most_least, dq_most_add, dq_most_middle, dq_most_times, dq_most_part, dq_most_clip, dq_most_from, dq_most_bar, dq_most_row, dq_add_is, dq_add_hear, dq_add_least, dq_add_most, dq_add_middle, dq_add_times, dq_add_part, dq_add_clip, dq_add_from, dq_add_bar, dq_add_row, dq_middle_is, dq_middle_hear, dq_middle_least, dq_middle_most, dq_middle_add, dq_middle_times, dq_middle_part, dq_middle_clip, dq_middle_from, dq_middle_bar, dq_middle_row, dq_times_is, dq_times_hear, dq_times_least, dq_times_most, dq_times_add, dq_times_middle, dq_times_part, dq_times_clip, dq_times_from, dq_times_bar, dq_times_row, dq_part_is, dq_part_hear, dq_part_least, dq_part_most, dq_part_add, dq_part_middle, dq_part_times, dq_part_clip, dq_part_from, dq_part_bar, dq_part_row, dq_clip_is, dq_clip_hear, dq_clip_least, dq_clip_most, dq_clip_add, dq_clip_middle, dq_clip_times, dq_clip_part, dq_clip_from, dq_clip_bar, dq_clip_row, dq_from_is, dq_from_hear, dq_from_least, dq_from_most, dq_from_add, dq_from_middle, dq_from_times, dq_from_part, dq_from_clip, dq_from_bar, dq_from_row, dq_bar_is, dq_bar_hear, dq_bar_least, dq_bar_most, dq_bar_add, dq_bar_middle, dq_bar_times, dq_bar_part, dq_bar_clip, dq_bar_from, dq_bar_row, dq_row_is, dq_row_hear, dq_row_least, dq_row_most, dq_row_add, dq_row_middle, dq_row_times, dq_row_part, dq_row_clip, dq_row_from, dq_row_bar, dq_none_both, dq_none_falls, dq_none_rises, dq_both_none, dq_both_falls, dq_both_rises, dq_falls_none, dq_falls_both, dq_falls_rises, dq_rises_none, dq_rises_both, dq_rises_falls, dq_wait_rule, dq_wait_house, dq_wait_seen, dq_rule_wait, dq_rule_house, dq_rule_seen, dq_house_wait, dq_house_rule, dq_house_seen, dq_seen_wait, dq_seen_rule, dq_seen_house, di_is, dj_is, dk_is, dl_is, di_hear, dj_hear, dk_hear, dl_hear, di_least, dj_least, dk_least, dl_least, di_most, dj_most, dk_most, dl_most, di_add, dj_add, dk_add, dl_add, di_middle, dj_middle, dk_middle, dl_middle, di_times, dj_times, dk_times, dl_times, di_part, dj_part, dk_part, dl_part, di_clip, dj_clip, dk_clip, dl_clip, di_from, dj_from, dk_from, dl_from, di_bar, dj_bar, dk_bar, dl_bar, di_row, dj_row, dk_row, dl_row, kt_int_int, kt_int_bool, kt_bool_int, kt_bool_bool, kt_tuple_tuple, kt_str_str, kt_int_tuple, kt_str_tuple, kt_tuple_int, kt_tuple_str, kt_NoneType_tuple, kt_str_int, dq_same, decide_true])
theorem p_counted (k : Nat) (ds : List D) (Φ : D → Prop) (h : r_counted (k + 1) ds Φ) : w_counted r_parts_of (r_counted k) (fun _ => Φ .non) Φ (startE 7 ds) := by
  obtain ⟨n, r, deep, rfl, hw, hn, hd, hΦ⟩ := h
  obtain ⟨h, ps⟩ := r
  unfold wf at hw
  unfold dep at hd
  unfold countR at hΦ
  unfold w_counted
  rw [enc_node]
  obtain ⟨x, es, ex, eh, _⟩ := word_of h (encs ps)
  have pp : ∀ Ψ : D → Prop, Ψ (.tup (encs ps)) → r_parts_of [encH h (encs ps)] Ψ := fun Ψ q => ⟨n, h, ps, rfl, hw.1, hn, q⟩
  rw [ex] at pp ⊢
  walk_at "D"
  refine pp _ ?_
  by_cases hz : deep = 0
  · rw [if_pos (.inl hz)] at hΦ
    rw [decide_eq_true hz]
    exact hΦ
  · rw [decide_eq_false hz]
    intro _
    rw [encs_len]
    by_cases hl : ps.length > 60
    · rw [if_pos (.inr hl)] at hΦ
      have e : decide ((60 : Int) < ((ps.length : Nat) : Int)) = true := decide_eq_true (by omega)
      rw [e]
      exact hΦ
    · rw [if_neg (by omega)] at hΦ
      have e : decide ((60 : Int) < ((ps.length : Nat) : Int)) = false := decide_eq_false (by omega)
      rw [e]
      rw [encs_map]
      rw [eh]
      have fin : ∀ b0 : Int, b0 = (if hearB h = true then 1 else 0) → ∀ v p : D, forGo (bName 3) (fun C R env => (dSet 6 (dCall (r_counted k) (dCons (dVar 3) (dCons (dOp (rdI0 fun i j => i - j) (dVar 1) (dC (D.int 1))) dNil)))) (fun env => (dSeq (dIfS (dTst (dOp rdIsN (dVar 6) (dC D.non))) (dSeq (dRet (dC D.non)) dNext) dNext)
              (dSeq
                (dPar 4 5 (dOp (rdI0 fun i j => i + j) (dVar 4) (dOp rdIx (dVar 6) (dC (D.int 0))))
                  (dOp (rdI0 fun i j => i + j) (dVar 5) (dOp rdIx (dVar 6) (dC (D.int 1)))))
                dNext)) C R env) R env)
          (dSeq (dRet (dTup (dCons (dVar 4) (dCons (dVar 5) dNil)))) dNext (fun x => Φ D.non) Φ) Φ (ps.map enc)
          [Slot.im v, Slot.im (D.int deep), Slot.im p, Slot.no, Slot.im (D.int 1), Slot.im (D.int b0), Slot.no] := by
        intro b0 eb v p
        refine for_over enc (fun done env => ∃ (a b : Int) (s3 s6 : Slot) (v d p : D), env = [.im v, .im (.int deep), .im p, s3, .im (.int a), .im (.int b), s6] ∧ ∀ rest, ps = done ++ rest → Φ (cntD (countRs rest (deep - 1) (a, b)))) ps _ ?_ ?_ ?_
        · refine ⟨1, b0, .no, .no, v, .non, p, rfl, fun rest e => ?_⟩
          rw [List.nil_append] at e
          rw [← e, eb]; exact hΦ
        · rintro done y rest env C e ⟨a, b, s3, s6, v, d, p, rfl, hr⟩ hC
          have hy : y ∈ ps := by rw [e]; simp
          have q := hr (y :: rest) e
          unfold countRs at q
          walk_at "D"
          refine ⟨n, y, deep - 1, rfl, wfs_mem hw.2 hy, hn, by have := deps_mem hy; omega, ?_⟩
          cases hc : countR y (deep - 1) with
          | none =>
            rw [hc] at q
            exact q
          | some ab =>
            rw [hc] at q
            unfold cntD
            walk_at "D"
            refine hC _ ⟨a + ab.1, b + ab.2, _, _, v, d, p, rfl, fun rest' e' => ?_⟩
            have e2 : rest = rest' := by
              rw [e] at e'
              simpa using e'
            rw [← e2]; exact q
        · rintro env ⟨a, b, s3, s6, v, d, p, rfl, hr⟩
          have q := hr [] (by simp)
          unfold countRs at q
          walk_at "D"
          exact ⟨by decide, q⟩
      cases hb : hearB h with
      | true => exact fin 1 (by rw [hb]; rfl) _ _
      | false => exact fin 0 (by rw [hb]; rfl) _ _
theorem p_is_rule (ds : List D) (Φ : D → Prop) (h : r_is_rule ds Φ) : w_is_rule (r_counted 4) (fun _ => Φ .non) Φ (startE 2 ds) := by
  obtain ⟨n, r, rfl, hw, hn, hd, hΦ⟩ := h
  unfold w_is_rule
  walk_at "D"
  refine ⟨n, r, 8, rfl, hw, hn, hd, ?_⟩
  unfold isRule at hΦ
  cases hc : countR r 8 with
  | none => rw [hc] at hΦ; exact hΦ
  | some ab =>
    rw [hc] at hΦ
    unfold cntD
    walk_at "D"
    have hΦ : Φ (.bl (decide (ab.1 ≤ 60) && decide (ab.2 ≤ 12))) := hΦ
    cases e : decide (ab.1 ≤ 60) <;> rw [show (decide (ab.1 ≤ 60)) = _ from e] at hΦ <;> exact hΦ
theorem p_branches (k : Nat) (ds : List D) (Φ : D → Prop) (h : r_branches (k + 1) ds Φ) : w_branches r_parts_of (r_branches k) (fun _ => Φ .non) Φ (startE 3 ds) := by
  obtain ⟨n, r, rfl, hw, hn, hd, hl, hΦ⟩ := h
  obtain ⟨h, ps⟩ := r
  unfold wf at hw
  unfold dep at hd
  unfold br at hΦ hl
  unfold w_branches
  rw [enc_node]
  have pp : ∀ Ψ : D → Prop, Ψ (.tup (encs ps)) → r_parts_of [encH h (encs ps)] Ψ := fun Ψ q => ⟨n, h, ps, rfl, hw.1, hn, q⟩
  obtain ⟨x, es, ex, eh, _⟩ := word_of h (encs ps)
  cases hh : hearB h with
  | true =>
    cases h <;> first | exact Bool.noConfusion (show false = true from hh) | skip
    rename_i j
    have e := none_of hw.1.1
    subst e
    walk_at "D"
    exact ⟨by decide, hΦ⟩
  | false =>
    have ho : ownB h = [] := by cases h <;> first | rfl | exact Bool.noConfusion (show true = false from hh)
    rw [ho, List.nil_append] at hΦ hl
    rw [hh] at eh
    rw [ex] at pp ⊢
    walk_at "D"
    rw [eh]
    refine pp _ ?_
    rw [encs_map]
    refine for_over enc (fun done env => ∃ (s2 : Slot) (v : D), env = [.im v, .ow (natD (brs done)), s2] ∧ (v = .tup (.str x :: es))) ps _ ?_ ?_ ?_
    · exact ⟨_, _, rfl, rfl⟩
    · rintro done y rest env C e ⟨s2, v, rfl, ev⟩ hC
      have hy : y ∈ ps := by rw [e]; simp
      walk_at "D"
      have eb : brs ps = brs done ++ (br y ++ brs rest) := by rw [e, brs_append]; rfl
      have el : (brs ps).length = (brs done).length + ((br y).length + (brs rest).length) := by rw [eb]; simp
      refine ⟨n, y, rfl, wfs_mem hw.2 hy, hn, by have := deps_mem hy; omega, by omega, by rw [natD_len, natD_len]; omega, hC _ ⟨.im (enc y), v, ?_, ev⟩⟩
      rw [brs_append, natD_append]
      show [Slot.im v, Slot.ow (natD (brs done) ++ natD (br y)), Slot.im (enc y)] = [Slot.im v, Slot.ow (natD (brs done) ++ natD (br y ++ [])), Slot.im (enc y)]
      rw [List.append_nil]
    · rintro env ⟨s2, v, rfl, _⟩
      walk_at "D"
      exact hΦ
end NB

/-! S3 -/
set_option Elab.async false
set_option linter.all false
set_option maxRecDepth 100000
set_option maxHeartbeats 2000000
namespace NB
open PySem PySem.Spec PyProof.Rows L2
local macro_rules | `(tactic| walk_at "D") => `(tactic| simp only [dSeq, dRet, dNext, dSet, dAsg, dPar, dPar3, dParO1, dParO2, dNew, dFreeze, dNever, dApp, dExt, dIfS, dVar, dC, dOp, dCall, dCons, dNil, dAndV, dOrV, dNotV, dTst, dTAnd, dTOr, dTNot, dIf, dYes, dIx, dEq, dNe, dLt, dLe, dGt, dGe, dAdd, dSub, dMul, dDiv, dMod, dIn, dIsN, dNotN, dIsT, dEqD, dNeD, dCat, dLen, dMin, dMax, dSum, dAny, dAll, dTuple, dList, dSl, dPart, dNoPart, dTup, dLst, dIsi, dNeg, dChain, dRev, dRep, dRepT, dSizes, dStup, dSNil, dSCons, dSStar, dItems, dRange1, dRange2, dZip, dEnum, dLc, dFor, bName, bTup, bCons, bNil, rdI, rdI0, rdB0, rdEq, rdNe, rdIsN, rdNotN, rdIsT, rdIx, rdIn, rdCat, rdLen, rdMin, rdMax, rdSum, rdSorted, rdAny, rdAll, rdTuple, rdList, isTy, isNon, getS, setS, wipeS, startE, List.map, List.replicate, List.length_cons, List.length_nil, List.append, List.cons_append, List.nil_append, List.append_nil, Nat.sub_self, Nat.reduceSub, Nat.reduceAdd, Bool.not_true, Bool.not_false, encH, encs, atI0, atI1, atI2, atI3, strsOf, intsOf, Option.map_some, intsOf_iD, dq_is_hear, dq_is_least, dq_is_most, dq_is_add, dq_is_middle, dq_is_times, dq_is_part, dq_is_clip, dq_is_from, dq_is_bar, dq_is_row, dq_hear_is, dq_hear_least, dq_hear_most, dq_hear_add, dq_hear_middle, dq_hear_times, dq_hear_part, dq_hear_clip, dq_hear_from, dq_hear_bar, dq_hear_row, dq_least_is, dq_least_hear, dq_least_most, dq_least_add, dq_least_middle, dq_least_times, dq_least_part, dq_least_clip, dq_least_from, dq_least_bar, dq_least_row, dq_most_is, dq_most_hear, dq_most_least, dq_most_add, dq_most_middle, dq_most_times, dq_most_part, dq_most_clip, dq_most_from, dq_most_bar, dq_most_row, dq_add_is, dq_add_hear, dq_add_least, dq_add_most, dq_add_middle, dq_add_times, dq_add_part, dq_add_clip, dq_add_from, dq_add_bar, dq_add_row, dq_middle_is, dq_middle_hear, dq_middle_least, dq_middle_most, dq_middle_add, dq_middle_times, dq_middle_part, dq_middle_clip, dq_middle_from, dq_middle_bar, dq_middle_row, dq_times_is, dq_times_hear, dq_times_least, dq_times_most, dq_times_add, dq_times_middle, dq_times_part, dq_times_clip, dq_times_from, dq_times_bar, dq_times_row, dq_part_is, dq_part_hear, dq_part_least, dq_part_most, dq_part_add, dq_part_middle, dq_part_times, dq_part_clip, dq_part_from, dq_part_bar, dq_part_row, dq_clip_is, dq_clip_hear, dq_clip_least, dq_clip_most, dq_clip_add, dq_clip_middle, dq_clip_times, dq_clip_part, dq_clip_from, dq_clip_bar, dq_clip_row, dq_from_is, dq_from_hear, dq_from_least, dq_from_most, dq_from_add, dq_from_middle, dq_from_times, dq_from_part, dq_from_clip, dq_from_bar, dq_from_row, dq_bar_is, dq_bar_hear, dq_bar_least, dq_bar_most, dq_bar_add, dq_bar_middle, dq_bar_times, dq_bar_part, dq_bar_clip, dq_bar_from, dq_bar_row, dq_row_is, dq_row_hear, dq_row_least, dq_row_most, dq_row_add, dq_row_middle, dq_row_times, dq_row_part, dq_row_clip, dq_row_from, dq_row_bar, dq_none_both, dq_none_falls, dq_none_rises, dq_both_none, dq_both_falls, dq_both_rises, dq_falls_none, dq_falls_both, dq_falls_rises, dq_rises_none, dq_rises_both, dq_rises_falls, dq_wait_rule, dq_wait_house, dq_wait_seen, dq_rule_wait, dq_rule_house, dq_rule_seen, dq_house_wait, dq_house_rule, dq_house_seen, dq_seen_wait, dq_seen_rule, dq_seen_house, di_is, dj_is, dk_is, dl_is, di_hear, dj_hear, dk_hear, dl_hear, di_least, dj_least, dk_least, dl_least, di_most, dj_most, dk_most, dl_most, di_add, dj_add, dk_add, dl_add, di_middle, dj_middle, dk_middle, dl_middle, di_times, dj_times, dk_times, dl_times, di_part, dj_part, dk_part, dl_part, di_clip, dj_clip, dk_clip, dl_clip, di_from, dj_from, dk_from, dl_from, di_bar, dj_bar, dk_bar, dl_bar, di_row, dj_row, dk_row, dl_row, kt_int_int, kt_int_bool, kt_bool_int, kt_bool_bool, kt_tuple_tuple, kt_str_str, kt_int_tuple, kt_str_tuple, kt_tuple_int, kt_tuple_str, kt_NoneType_tuple, kt_str_int, dq_same, decide_true])

theorem p_made (ds : List D) (Φ : D → Prop) (h : r_made ds Φ) : w_made (fun _ => Φ .non) Φ (startE 2 ds) := by
  obtain ⟨n, h, ps, vs, rfl, ok, hl, hv, inn, hΦ⟩ := h
  unfold w_made
  have e1 : ∀ {m : Nat}, vs.length = 1 → ∃ x, vs = [x] := fun {m} e => by
    match vs, e with
    | [x], _ => exact ⟨x, rfl⟩
  cases h with
  | is w => exact inn.elim
  | hear j => exact inn.elim
  | least =>
    walk_at "D"
    refine ⟨fun e => ?_, hΦ⟩
    rw [e] at hl
    have := ok.1
    simp at hl
    omega
  | most =>
    walk_at "D"
    refine ⟨fun e => ?_, hΦ⟩
    rw [e] at hl
    have := ok.1
    simp at hl
    omega
  | add =>
    walk_at "D"
    exact hΦ
  | middle =>
    walk_at "D"
    have l3 : vs.length = 3 := by rw [hl]; exact ok
    refine ⟨by omega, fun ns hp hs => ?_⟩
    have l3' : ns.length = 3 := by rw [hp.length_eq, l3]
    match vs, l3, hΦ, hp with
    | [a, b, c], _, hΦ, hp =>
    match ns, l3', hs, hp with
    | [x, y, z], _, hs, hp =>
    show Φ (.int y)
    have e : y = med a b c := sorted_mid hp hs
    rw [e]; exact hΦ
  | times m =>
    obtain ⟨x, rfl⟩ := e1 (m := 0) (by rw [hl]; exact ok.1)
    obtain ⟨p, rfl⟩ := one_of ok.1
    unfold iD
    walk_at "D"
    exact ⟨.inl ⟨by have := ok.2.1; omega, by have := ok.2.2; omega⟩, hΦ⟩
  | part d =>
    obtain ⟨x, rfl⟩ := e1 (m := 0) (by rw [hl]; exact ok.1)
    obtain ⟨p, rfl⟩ := one_of ok.1
    unfold iD
    walk_at "D"
    exact ⟨⟨by have := ok.2.1; omega, by have := ok.2.2; omega⟩, hΦ⟩
  | clip lo hi =>
    obtain ⟨x, rfl⟩ := e1 (m := 0) (by rw [hl]; exact ok.1)
    obtain ⟨p, rfl⟩ := one_of ok.1
    unfold iD
    walk_at "D"
    exact hΦ
  | sub w =>
    obtain ⟨x, rfl⟩ := e1 (m := 0) (by rw [hl]; exact ok.1)
    obtain ⟨p, rfl⟩ := one_of ok.1
    unfold iD
    walk_at "D"
    exact hΦ
  | bar k lo hi =>
    obtain ⟨x, rfl⟩ := e1 (m := 0) (by rw [hl]; exact ok.1)
    obtain ⟨p, rfl⟩ := one_of ok.1
    unfold iD
    walk_at "D"
    have hΦ : Φ (.int (if k ≤ x then hi else lo)) := hΦ
    by_cases e : k ≤ x
    · rw [decide_eq_true e]; rw [if_pos e] at hΦ; exact hΦ
    · rw [decide_eq_false e]; rw [if_neg e] at hΦ; exact hΦ
  | row ws =>
    obtain ⟨x, rfl⟩ := e1 (m := 0) (by rw [hl]; exact ok.1)
    obtain ⟨p, rfl⟩ := one_of ok.1
    unfold iD
    walk_at "D"
    intro _
    have hx : 0 ≤ x := hv x (by simp)
    have hlw := iD_len ws
    have h1 := ok.2.1
    have em : min x (((iD ws).length : Nat) - 1 : Int) = (((min x ((ws.length : Int) - 1)).toNat : Nat) : Int) := by rw [hlw]; omega
    rw [em]
    have hlt : (min x ((ws.length : Int) - 1)).toNat < ws.length := by omega
    rw [atIn (iD_get (List.getElem?_eq_getElem hlt))]
    have hΦ : Φ (.int (rowAt ws x)) := hΦ
    unfold rowAt at hΦ
    rw [List.getD_eq_getElem?_getD, List.getElem?_eq_getElem hlt] at hΦ
    exact hΦ
theorem p_told (ds : List D) (Φ : D → Prop) (h : r_told ds Φ) : w_told (r_told_by 4) (fun _ => Φ .non) Φ (startE 2 ds) := by
  obtain ⟨n, r, hd, rfl, hw, hn, hdp, hh, hl, hΦ⟩ := h
  unfold w_told
  walk_at "D"
  refine ⟨n, r, hd, 0, rfl, hw, hn, hdp, hh, by omega, ?_⟩
  walk_at "D"
  have e : (fun k => g0 hd (0 + k)) = g0 hd := funext fun k => by rw [Nat.zero_add]
  rw [e]
  exact hΦ
theorem p_are_tops (ds : List D) (Φ : D → Prop) (h : r_are_tops ds Φ) : w_are_tops r_is_worth (fun _ => Φ .non) Φ (startE 2 ds) := by
  obtain ⟨ts, rfl, hΦ⟩ := h
  unfold w_are_tops
  unfold areTops at hΦ
  walk_at "D"
  intro _
  rw [iD_len]
  cases e1 : decide (1 ≤ (ts.length : Int)) with
  | false => rw [e1] at hΦ; exact hΦ
  | true =>
    rw [e1] at hΦ
    cases e2 : decide ((ts.length : Int) ≤ 20) with
    | false => rw [e2] at hΦ; exact hΦ
    | true =>
      rw [e2] at hΦ
      refine lc_over D.int (fun x => D.bl (worthB x)) ts [] (fun x _ Ψ hΨ => ⟨x, rfl, hΨ⟩) ?_
      exact all_lc worthB ts (X := fun bs => Φ (.bl (bs.all id))) hΦ
theorem p_is_net (ds : List D) (Φ : D → Prop) (h : r_is_net ds Φ) : w_is_net r_are_tops r_are_rules (fun _ => Φ .non) Φ (startE 1 ds) := by
  obtain ⟨n, N, rfl, hw, hΦ⟩ := h
  unfold w_is_net encN
  unfold isNet at hΦ
  walk_at "D"
  intro _
  refine ⟨N.1, rfl, ?_⟩
  cases e : areTops N.1 with
  | false => rw [e] at hΦ; exact hΦ
  | true =>
    rw [e] at hΦ
    intro _
    exact ⟨n, N.2, _, rfl, hw, by rw [iD_len]; exact hΦ⟩
theorem p_are_rules (ds : List D) (Φ : D → Prop) (h : r_are_rules ds Φ) : w_are_rules r_is_rule (r_branches 4) (fun _ => Φ .non) Φ (startE 4 ds) := by
  obtain ⟨n, rs, m, rfl, hw, hΦ⟩ := h
  unfold w_are_rules
  unfold areRules at hΦ
  walk_at "D"
  intro _
  rw [encs_len]
  by_cases e1 : (rs.length : Int) = m
  · rw [decide_eq_true e1]
    rw [encs_map]
    refine lc_over enc (fun r => D.bl (isRule r)) rs [] (fun r hr Ψ hΨ => ⟨n, r, rfl, wfs_mem hw.1 hr, hw.2.2, (hw.2.1 r hr).1, hΨ⟩) ?_
    refine all_lc isRule rs (X := fun bs => match !bs.all id with
      | true => Φ (.bl false)
      | false => lcGo _ _ _ _ _ _ _) ?_
    cases e2 : (rs.map isRule).all id with
    | false =>
      rw [if_neg (by rw [e2]; simp)] at hΦ
      exact hΦ
    | true =>
      rw [if_pos ⟨e1, e2⟩] at hΦ
      refine lc_over enc (fun r => D.bl (brsOk m r)) rs [] (fun r hr Ψ hΨ => ?_) ?_
      · walk_at "D"
        refine ⟨n, r, rfl, wfs_mem hw.1 hr, hw.2.2, (hw.2.1 r hr).1, (hw.2.1 r hr).2, ?_⟩
        show lcGo _ _ _ _ _ (natD (br r)) []
        unfold natD
        refine lc_over (fun j : Nat => D.int (j : Int)) (fun j : Nat => D.bl (decide ((j : Int) < m))) (br r) [] (fun j _ Ψ2 h2 => h2) ?_
        exact all_lc (fun j : Nat => decide ((j : Int) < m)) (br r) (X := fun bs => Ψ (.bl (bs.all id))) hΨ
      · exact all_lc (brsOk m) rs (X := fun bs => Φ (.bl (bs.all id))) hΦ
  · rw [decide_eq_false e1]
    rw [if_neg (by intro z; exact e1 z.1)] at hΦ
    exact hΦ
theorem p_wanted (ds : List D) (Φ : D → Prop) (h : r_wanted ds Φ) : w_wanted r_told (fun _ => Φ .non) Φ (startE 3 ds) := by
  obtain ⟨n, N, i, t, r, hd, rfl, e1, e2, hw, hn, hdp, hh, hl, hΦ⟩ := h
  have a1 := atIn (iD_get e1)
  have a2 : L2.atI (encs N.2) (i : Int) = some (enc r) := atIn (by rw [encs_map, List.getElem?_map, e2]; rfl)
  unfold w_wanted encN
  walk_at "D"
  simp only [a1, a2]
  exact ⟨n, r, hd, rfl, hw, hn, hdp, hh, hl, hΦ⟩
end NB

/-! S4 -/
set_option Elab.async false
set_option linter.all false
set_option maxRecDepth 100000
set_option maxHeartbeats 2000000
namespace NB
open PySem PySem.Spec PyProof.Rows L2
local macro_rules | `(tactic| walk_at "D") => `(tactic| simp only [dSeq, dRet, dNext, dSet, dAsg, dPar, dPar3, dParO1, dParO2, dNew, dFreeze, dNever, dApp, dExt, dIfS, dVar, dC, dOp, dCall, dCons, dNil, dAndV, dOrV, dNotV, dTst, dTAnd, dTOr, dTNot, dIf, dYes, dIx, dEq, dNe, dLt, dLe, dGt, dGe, dAdd, dSub, dMul, dDiv, dMod, dIn, dIsN, dNotN, dIsT, dEqD, dNeD, dCat, dLen, dMin, dMax, dSum, dAny, dAll, dTuple, dList, dSl, dPart, dNoPart, dTup, dLst, dIsi, dNeg, dChain, dRev, dRep, dRepT, dSizes, dStup, dSNil, dSCons, dSStar, dItems, dRange1, dRange2, dZip, dEnum, dLc, dFor, bName, bTup, bCons, bNil, rdI, rdI0, rdB0, rdEq, rdNe, rdIsN, rdNotN, rdIsT, rdIx, rdIn, rdCat, rdLen, rdMin, rdMax, rdSum, rdSorted, rdAny, rdAll, rdTuple, rdList, isTy, isNon, getS, setS, wipeS, startE, List.map, List.replicate, List.length_cons, List.length_nil, List.append, List.cons_append, List.nil_append, List.append_nil, Nat.sub_self, Nat.reduceSub, Nat.reduceAdd, Bool.not_true, Bool.not_false, encH, encs, atI0, atI1, atI2, atI3, strsOf, intsOf, Option.map_some, intsOf_iD, dq_is_hear, dq_is_least, dq_is_most, dq_is_add, dq_is_middle, dq_is_times, dq_is_part, dq_is_clip, dq_is_from, dq_is_bar, dq_is_row, dq_hear_is, dq_hear_least, dq_hear_most, dq_hear_add, dq_hear_middle, dq_hear_times, dq_hear_part, dq_hear_clip, dq_hear_from, dq_hear_bar, dq_hear_row, dq_least_is, dq_least_hear, dq_least_most, dq_least_add, dq_least_middle, dq_least_times, dq_least_part, dq_least_clip, dq_least_from, dq_least_bar, dq_least_row, dq_most_is, dq_most_hear, dq_most_least, dq_most_add, dq_most_middle, dq_most_times, dq_most_part, dq_most_clip, dq_most_from, dq_most_bar, dq_most_row, dq_add_is, dq_add_hear, dq_add_least, dq_add_most, dq_add_middle, dq_add_times, dq_add_part, dq_add_clip, dq_add_from, dq_add_bar, dq_add_row, dq_middle_is, dq_middle_hear, dq_middle_least, dq_middle_most, dq_middle_add, dq_middle_times, dq_middle_part, dq_middle_clip, dq_middle_from, dq_middle_bar, dq_middle_row, dq_times_is, dq_times_hear, dq_times_least, dq_times_most, dq_times_add, dq_times_middle, dq_times_part, dq_times_clip, dq_times_from, dq_times_bar, dq_times_row, dq_part_is, dq_part_hear, dq_part_least, dq_part_most, dq_part_add, dq_part_middle, dq_part_times, dq_part_clip, dq_part_from, dq_part_bar, dq_part_row, dq_clip_is, dq_clip_hear, dq_clip_least, dq_clip_most, dq_clip_add, dq_clip_middle, dq_clip_times, dq_clip_part, dq_clip_from, dq_clip_bar, dq_clip_row, dq_from_is, dq_from_hear, dq_from_least, dq_from_most, dq_from_add, dq_from_middle, dq_from_times, dq_from_part, dq_from_clip, dq_from_bar, dq_from_row, dq_bar_is, dq_bar_hear, dq_bar_least, dq_bar_most, dq_bar_add, dq_bar_middle, dq_bar_times, dq_bar_part, dq_bar_clip, dq_bar_from, dq_bar_row, dq_row_is, dq_row_hear, dq_row_least, dq_row_most, dq_row_add, dq_row_middle, dq_row_times, dq_row_part, dq_row_clip, dq_row_from, dq_row_bar, dq_none_both, dq_none_falls, dq_none_rises, dq_both_none, dq_both_falls, dq_both_rises, dq_falls_none, dq_falls_both, dq_falls_rises, dq_rises_none, dq_rises_both, dq_rises_falls, dq_wait_rule, dq_wait_house, dq_wait_seen, dq_rule_wait, dq_rule_house, dq_rule_seen, dq_house_wait, dq_house_rule, dq_house_seen, dq_seen_wait, dq_seen_rule, dq_seen_house, di_is, dj_is, dk_is, dl_is, di_hear, dj_hear, dk_hear, dl_hear, di_least, dj_least, dk_least, dl_least, di_most, dj_most, dk_most, dl_most, di_add, dj_add, dk_add, dl_add, di_middle, dj_middle, dk_middle, dl_middle, di_times, dj_times, dk_times, dl_times, di_part, dj_part, dk_part, dl_part, di_clip, dj_clip, dk_clip, dl_clip, di_from, dj_from, dk_from, dl_from, di_bar, dj_bar, dk_bar, dl_bar, di_row, dj_row, dk_row, dl_row, kt_int_int, kt_int_bool, kt_bool_int, kt_bool_bool, kt_tuple_tuple, kt_str_str, kt_int_tuple, kt_str_tuple, kt_tuple_int, kt_tuple_str, kt_NoneType_tuple, kt_str_int, dq_same, decide_true])

theorem big (n : Nat) (h : n ≤ 1000) : ((n : Int) ≤ 16777216) ∧ (-1000 ≤ (n : Int)) := by omega
theorem p_with_rule (ds : List D) (Φ : D → Prop) (h : r_with_rule ds Φ) : w_with_rule (fun _ => Φ .non) Φ (startE 3 ds) := by
  obtain ⟨N, hh, r, rfl, hl, hl2, hΦ⟩ := h
  unfold w_with_rule encN
  walk_at "D"
  rw [cut_lo, cut_hi, encs_map]
  have e : (N.2.map enc).take hh ++ enc r :: (N.2.map enc).drop (hh + 1) = encs (N.2.set hh r) := by
    rw [encs_map, List.map_set, List.set_eq_take_append_cons_drop, if_pos (by simpa using hl)]
  rw [e]
  refine ⟨by rw [encs_len]; simp; omega, by omega, hΦ⟩
theorem p_entries_for (ds : List D) (Φ : D → Prop) (h : r_entries_for ds Φ) : w_entries_for (fun _ => Φ .non) Φ (startE 3 ds) := by
  obtain ⟨ws, lo, hi, rfl, h0, h1, hl, hΦ⟩ := h
  unfold w_entries_for
  walk_at "D"
  intro _
  have e : cutD (iD ws) (some (min lo (((iD ws).length : Nat) - 1 : Int))) (some (hi + 1)) = iD (entries ws lo hi) := by
    rw [iD_len]
    have e1 : min lo ((ws.length : Int) - 1) = ((min lo.toNat (ws.length - 1) : Nat) : Int) := by omega
    have e2 : hi + 1 = (((hi + 1).toNat : Nat) : Int) := by omega
    unfold cutD entries
    rw [e1, e2, HT.sIx_nat, HT.sIx_nat, iD_len]
    rw [show (((hi + 1).toNat : Nat) : Int).toNat = (hi + 1).toNat from rfl]
    rw [show min (min lo.toNat (ws.length - 1)) ws.length = min lo.toNat (ws.length - 1) by omega]
    unfold iD
    rw [← List.map_drop, ← List.map_take]
  rw [e]; exact hΦ
theorem p_is_rising_row (ds : List D) (Φ : D → Prop) (h : r_is_rising_row ds Φ) : w_is_rising_row (fun _ => Φ .non) Φ (startE 2 ds) := by
  obtain ⟨xs, rfl, hl, hΦ⟩ := h
  unfold w_is_rising_row
  walk_at "D"
  intro _
  rw [iD_len]
  refine ⟨by omega, by omega, by omega, by omega, ?_⟩
  have en : ((xs.length : Int) - 1).toNat = xs.length - 1 := by omega
  rw [en]
  unfold rangeD
  rw [rising_all] at hΦ
  refine lc_over (fun i : Nat => D.int (1 + (i : Int))) (fun i : Nat => D.bl (decide (g0 xs i ≤ g0 xs (i + 1)))) (List.range (xs.length - 1)) [] (fun i hi Ψ hΨ => ?_) ?_
  · have hi := List.mem_range.mp hi
    walk_at "D"
    rw [show (1 + (i : Int) - 1) = (i : Int) by omega, show (1 + (i : Int)) = ((i + 1 : Nat) : Int) by omega]
    rw [atIn (iD_get (g0_some (xs := xs) (i := i) (by omega))), atIn (iD_get (g0_some (xs := xs) (i := i + 1) (by omega)))]
    exact hΨ
  · exact all_lc (fun i : Nat => decide (g0 xs i ≤ g0 xs (i + 1))) (List.range (xs.length - 1)) (X := fun bs => Φ (.bl (bs.all id))) hΦ
theorem p_next_ends (ds : List D) (Φ : D → Prop) (h : r_next_ends ds Φ) : w_next_ends r_one_way r_stepped (fun _ => Φ .non) Φ (startE 2 ds) := by
  obtain ⟨N, E, rfl, hN, ow, hE, hΦ⟩ := h
  unfold w_next_ends
  walk_at "D"
  exact ⟨N, rfl, hN, ow, N, E, rfl, hN, hE, hΦ⟩
theorem p_house_range (ds : List D) (Φ : D → Prop) (h : r_house_range ds Φ) : w_house_range (r_range_of 4) (fun _ => Φ .non) Φ (startE 4 ds) := by
  obtain ⟨N, i, t, r, rfl, hN, e1, e2, hΦ⟩ := h
  have a1 := atIn (iD_get e1)
  have a2 : L2.atI (encs N.2) (i : Int) = some (enc r) := atIn (by rw [encs_map, List.getElem?_map, e2]; rfl)
  have hr : r ∈ N.2 := List.mem_of_getElem? e2
  unfold w_house_range
  rw [show encN N = .tup [.tup (iD N.1), .tup (encs N.2)] from rfl]
  walk_at "D"
  simp only [a1, a2]
  refine ⟨N, r, rfl, hN, wfs_get hN.1.2.2.2.2.1 e2, hN.1.2.2.2.2.2 r hr, ?_⟩
  unfold pairD
  walk_at "D"
  exact ⟨by decide, hΦ⟩
theorem p_ways (ds : List D) (Φ : D → Prop) (h : r_ways ds Φ) : w_ways r_house_range (r_words_within 4) (fun _ => Φ .non) Φ (startE 4 ds) := by
  obtain ⟨N, i, t, r, rfl, hN, e1, e2, hΦ⟩ := h
  have a2 : L2.atI (encs N.2) (i : Int) = some (enc r) := atIn (by rw [encs_map, List.getElem?_map, e2]; rfl)
  have hr : r ∈ N.2 := List.mem_of_getElem? e2
  unfold w_ways
  walk_at "D"
  refine ⟨N, i, t, r, rfl, hN, e1, e2, ?_⟩
  unfold pairD
  walk_at "D"
  rw [show encN N = .tup [.tup (iD N.1), .tup (encs N.2)] from rfl]
  walk_at "D"
  simp only [a2]
  refine ⟨N, r, decide (min (range (topOf N) r).fst t = min (range (topOf N) r).snd t), false, false, rfl, hN, wfs_get hN.1.2.2.2.2.1 e2, hN.1.2.2.2.2.2 r hr, by omega, hN.2 r hr, ?_⟩
  have e : (min (range (topOf N) r).fst t == min (range (topOf N) r).snd t) = decide (min (range (topOf N) r).fst t = min (range (topOf N) r).snd t) := rfl
  unfold waysR at hΦ
  rw [e] at hΦ
  exact hΦ
theorem p_are_one_way (ds : List D) (Φ : D → Prop) (h : r_are_one_way ds Φ) : w_are_one_way r_ways (fun _ => Φ .non) Φ (startE 2 ds) := by
  obtain ⟨N, rfl, hN, hΦ⟩ := h
  unfold w_are_one_way
  rw [show encN N = .tup [.tup (iD N.1), .tup (encs N.2)] from rfl]
  walk_at "D"
  intro _
  rw [iD_len]
  have hl := hN.1.2.2.1
  refine ⟨by omega, by omega, ?_⟩
  rw [show ((N.1.length : Nat) : Int).toNat = N.1.length from rfl, range0]
  refine lc_over (fun i : Nat => D.int (i : Int)) (fun i : Nat => D.bl (decide (Way.both ∈ (waysN N).getD i []))) (List.range N.1.length) [] (fun i hi Ψ hΨ => ?_) ?_
  · have hi := List.mem_range.mp hi
    obtain ⟨t, r, e1, e2, e3⟩ := ways_at hN.1 hi
    walk_at "D"
    refine ⟨N, i, t, r, rfl, hN, e1, e2, ?_⟩
    rw [List.getD_eq_getElem?_getD, e3] at hΨ
    exact in_enc (Ψ := Ψ) hΨ
  · refine all_lc (fun i : Nat => decide (Way.both ∈ (waysN N).getD i [])) (List.range N.1.length) (X := fun bs => Φ (.bl (!bs.any id))) ?_
    unfold oneWayB at hΦ
    have e : (waysN N).map (fun ws => decide (Way.both ∈ ws)) = (List.range N.1.length).map fun i => decide (Way.both ∈ (waysN N).getD i []) := by
      rw [map_range _ [] (waysN N), ways_len hN.1]
    rw [← e]; exact hΦ
theorem p_one_way (ds : List D) (Φ : D → Prop) (h : r_one_way ds Φ) : w_one_way r_ways (fun _ => Φ .non) Φ (startE 4 ds) := by
  obtain ⟨N, rfl, hN, ow, hΦ⟩ := h
  have hl := hN.1.2.2.1
  have hl2 := hN.1.1
  unfold w_one_way
  rw [show encN N = .tup [.tup (iD N.1), .tup (encs N.2)] from rfl]
  walk_at "D"
  intro _
  rw [encs_len]
  refine ⟨by omega, by omega, ?_⟩
  rw [show ((N.2.length : Nat) : Int).toNat = N.2.length from rfl, range0, ← hl2]
  refine lc_over (fun i : Nat => D.int (i : Int)) (fun i : Nat => D.tup (((waysN N).getD i []).map encW)) (List.range N.1.length) [] (fun i hi Ψ hΨ => ?_) ?_
  · have hi := List.mem_range.mp hi
    obtain ⟨t, r, e1, e2, e3⟩ := ways_at hN.1 hi
    walk_at "D"
    refine ⟨N, i, t, r, rfl, hN, e1, e2, ?_⟩
    rw [List.getD_eq_getElem?_getD, e3] at hΨ
    exact hΨ
  · have e : (List.range N.1.length).map (fun i : Nat => D.tup (((waysN N).getD i []).map encW)) = (waysN N).map fun ws => D.tup (ws.map encW) := by
      rw [map_range (fun ws => D.tup (ws.map encW)) [] (waysN N), ways_len hN.1]
    show forGo _ _ _ _ (enumD 0 ([] ++ (List.range N.1.length).map (fun i : Nat => D.tup (((waysN N).getD i []).map encW)))) _
    rw [List.nil_append, e, enum_idx]
    refine for_over (fun p : Nat × List Way => D.tup [.int (p.1 : Int), .tup (p.2.map encW)]) (fun _ env => ∃ s2 s3, env = [Slot.im (encN N), Slot.im (waysD N), s2, s3]) (idx 0 (waysN N)) _ ⟨.no, .no, ?_⟩ (fun done p rest env C ed ⟨s2, s3, ee⟩ hC => ?_) (fun env ⟨s2, s3, ee⟩ => ?_)
    · rfl
    · subst ee
      have hp : p ∈ idx 0 (waysN N) := by rw [ed]; simp
      have hp := idx_mem0 hp
      walk_at "D"
      refine in_encB (X := fun b => match b with | true => False | false => C _) ?_
      have nb : decide (Way.both ∈ p.2) = false := by
        unfold oneWayB at ow
        have h1 : ((waysN N).map fun ws => decide (Way.both ∈ ws)).any id = false := by simpa using ow
        rw [List.any_eq_false] at h1
        have := h1 _ (List.mem_map_of_mem (f := fun ws => decide (Way.both ∈ ws)) (List.mem_of_getElem? hp))
        simpa using this
      rw [nb]
      exact hC _ ⟨_, _, rfl⟩
    · subst ee
      walk_at "D"
      exact hΦ
theorem p_stepped (ds : List D) (Φ : D → Prop) (h : r_stepped ds Φ) : w_stepped r_heard_ends r_wanted (fun _ => Φ .non) Φ (startE 9 ds) := by
  obtain ⟨N, E, rfl, hN, hE, hΦ⟩ := h
  unfold w_stepped encE waysD
  walk_at "D"
  rw [enum_idx]
  have one : ∀ (near far : List Int), near.length = N.1.length → far.length = N.1.length → (∀ j, 0 ≤ g0 near j) → (∀ j, 0 ≤ g0 far j) → ∀ p ∈ idx 0 (waysN N), ∀ Ψ : D → Prop, Ψ (.int (g0 (stepN (topOf N) N.1 N.2 near far) p.1)) →
      r_heard_ends [encN N, .int (p.1 : Int), .tup (p.2.map encW), .tup (iD near), .tup (iD far)] fun d => r_wanted [encN N, .int (p.1 : Int), d] Ψ := by
    intro near far l1 l2 n1 n2 p hp Ψ hΨ
    have hp := idx_mem0 hp
    have hi : p.1 < N.1.length := by rw [← ways_len hN.1]; exact (List.getElem?_eq_some_iff.mp hp).1
    obtain ⟨t, r, e1, e2, e3⟩ := ways_at hN.1 hi
    have ew : p.2 = waysR (topOf N) t r := by rw [hp] at e3; simpa using e3
    have hr : r ∈ N.2 := List.mem_of_getElem? e2
    have wl := waysR_len (topOf N) t r
    rw [ew]
    refine ⟨N, p.1, r, waysR (topOf N) t r, near, far, rfl, hN, e2, wl, l1, l2, ?_⟩
    have hl := hN.1.2.2.1
    refine ⟨N.1.length, N, p.1, t, r, _, rfl, e1, e2, wfs_get hN.1.2.2.2.2.1 e2, by omega, hN.1.2.2.2.2.2 r hr, ?_, ?_, ?_⟩
    · intro v hv
      obtain ⟨k, hk, rfl⟩ := List.mem_iff_getElem.mp hv
      have hk2 : k < (br r).length := by rw [heardL_len _ _ _ _ wl.symm] at hk; exact hk
      have := heardL_get (near := near) (far := far) (List.getElem?_eq_getElem hk2) (List.getElem?_eq_getElem (show k < (waysR (topOf N) t r).length by omega))
      unfold g0 at this
      rw [List.getD_eq_getElem?_getD, List.getElem?_eq_getElem hk] at this
      rw [show (heardL (br r) (waysR (topOf N) t r) near far)[k] = _ from this]
      split
      · exact n2 _
      · exact n1 _
    · rw [heardL_len _ _ _ _ wl.symm]; exact Nat.le_refl _
    · rw [stepN_get e1 e2] at hΨ
      exact hΨ
  have b1 : ∀ j, 0 ≤ g0 E.1 j := fun j => (hE.2.2 j).1
  have b2 : ∀ j, 0 ≤ g0 E.2 j := fun j => by have := hE.2.2 j; omega
  refine lc_over (fun p : Nat × List Way => D.tup [.int (p.1 : Int), .tup (p.2.map encW)]) (fun p => .int (g0 (stepN (topOf N) N.1 N.2 E.1 E.2) p.1)) (idx 0 (waysN N)) [] (fun p hp Ψ hΨ => ?_) ?_
  · walk_at "D"
    exact one E.1 E.2 hE.1 hE.2.1 b1 b2 p hp Ψ hΨ
  refine lc_over (fun p : Nat × List Way => D.tup [.int (p.1 : Int), .tup (p.2.map encW)]) (fun p => .int (g0 (stepN (topOf N) N.1 N.2 E.2 E.1) p.1)) (idx 0 (waysN N)) [] (fun p hp Ψ hΨ => ?_) ?_
  · walk_at "D"
    exact one E.2 E.1 hE.2.1 hE.1 b2 b1 p hp Ψ hΨ
  refine ⟨by decide, ?_⟩
  rw [List.nil_append, List.nil_append, idx_g0 (by rw [stepN_len hN.1.1, ways_len hN.1]), idx_g0 (by rw [stepN_len hN.1.1, ways_len hN.1])]
  exact hΦ
end NB

/-! S5 -/
set_option Elab.async false
set_option linter.all false
set_option maxRecDepth 100000
set_option maxHeartbeats 2000000
namespace NB
open PySem PySem.Spec PyProof.Rows L2
local macro_rules | `(tactic| walk_at "D") => `(tactic| simp only [dSeq, dRet, dNext, dSet, dAsg, dPar, dPar3, dParO1, dParO2, dNew, dFreeze, dNever, dApp, dExt, dIfS, dVar, dC, dOp, dCall, dCons, dNil, dAndV, dOrV, dNotV, dTst, dTAnd, dTOr, dTNot, dIf, dYes, dIx, dEq, dNe, dLt, dLe, dGt, dGe, dAdd, dSub, dMul, dDiv, dMod, dIn, dIsN, dNotN, dIsT, dEqD, dNeD, dCat, dLen, dMin, dMax, dSum, dAny, dAll, dTuple, dList, dSl, dPart, dNoPart, dTup, dLst, dIsi, dNeg, dChain, dRev, dRep, dRepT, dSizes, dStup, dSNil, dSCons, dSStar, dItems, dRange1, dRange2, dZip, dEnum, dLc, dFor, bName, bTup, bCons, bNil, rdI, rdI0, rdB0, rdEq, rdNe, rdIsN, rdNotN, rdIsT, rdIx, rdIn, rdCat, rdLen, rdMin, rdMax, rdSum, rdSorted, rdAny, rdAll, rdTuple, rdList, isTy, isNon, getS, setS, wipeS, startE, List.map, List.replicate, List.length_cons, List.length_nil, List.append, List.cons_append, List.nil_append, List.append_nil, Nat.sub_self, Nat.reduceSub, Nat.reduceAdd, Bool.not_true, Bool.not_false, encH, encs, atI0, atI1, atI2, atI3, strsOf, intsOf, Option.map_some, intsOf_iD, dq_is_hear, dq_is_least, dq_is_most, dq_is_add, dq_is_middle, dq_is_times, dq_is_part, dq_is_clip, dq_is_from, dq_is_bar, dq_is_row, dq_hear_is, dq_hear_least, dq_hear_most, dq_hear_add, dq_hear_middle, dq_hear_times, dq_hear_part, dq_hear_clip, dq_hear_from, dq_hear_bar, dq_hear_row, dq_least_is, dq_least_hear, dq_least_most, dq_least_add, dq_least_middle, dq_least_times, dq_least_part, dq_least_clip, dq_least_from, dq_least_bar, dq_least_row, dq_most_is, dq_most_hear, dq_most_least, dq_most_add, dq_most_middle, dq_most_times, dq_most_part, dq_most_clip, dq_most_from, dq_most_bar, dq_most_row, dq_add_is, dq_add_hear, dq_add_least, dq_add_most, dq_add_middle, dq_add_times, dq_add_part, dq_add_clip, dq_add_from, dq_add_bar, dq_add_row, dq_middle_is, dq_middle_hear, dq_middle_least, dq_middle_most, dq_middle_add, dq_middle_times, dq_middle_part, dq_middle_clip, dq_middle_from, dq_middle_bar, dq_middle_row, dq_times_is, dq_times_hear, dq_times_least, dq_times_most, dq_times_add, dq_times_middle, dq_times_part, dq_times_clip, dq_times_from, dq_times_bar, dq_times_row, dq_part_is, dq_part_hear, dq_part_least, dq_part_most, dq_part_add, dq_part_middle, dq_part_times, dq_part_clip, dq_part_from, dq_part_bar, dq_part_row, dq_clip_is, dq_clip_hear, dq_clip_least, dq_clip_most, dq_clip_add, dq_clip_middle, dq_clip_times, dq_clip_part, dq_clip_from, dq_clip_bar, dq_clip_row, dq_from_is, dq_from_hear, dq_from_least, dq_from_most, dq_from_add, dq_from_middle, dq_from_times, dq_from_part, dq_from_clip, dq_from_bar, dq_from_row, dq_bar_is, dq_bar_hear, dq_bar_least, dq_bar_most, dq_bar_add, dq_bar_middle, dq_bar_times, dq_bar_part, dq_bar_clip, dq_bar_from, dq_bar_row, dq_row_is, dq_row_hear, dq_row_least, dq_row_most, dq_row_add, dq_row_middle, dq_row_times, dq_row_part, dq_row_clip, dq_row_from, dq_row_bar, dq_none_both, dq_none_falls, dq_none_rises, dq_both_none, dq_both_falls, dq_both_rises, dq_falls_none, dq_falls_both, dq_falls_rises, dq_rises_none, dq_rises_both, dq_rises_falls, dq_wait_rule, dq_wait_house, dq_wait_seen, dq_rule_wait, dq_rule_house, dq_rule_seen, dq_house_wait, dq_house_rule, dq_house_seen, dq_seen_wait, dq_seen_rule, dq_seen_house, di_is, dj_is, dk_is, dl_is, di_hear, dj_hear, dk_hear, dl_hear, di_least, dj_least, dk_least, dl_least, di_most, dj_most, dk_most, dl_most, di_add, dj_add, dk_add, dl_add, di_middle, dj_middle, dk_middle, dl_middle, di_times, dj_times, dk_times, dl_times, di_part, dj_part, dk_part, dl_part, di_clip, dj_clip, dk_clip, dl_clip, di_from, dj_from, dk_from, dl_from, di_bar, dj_bar, dk_bar, dl_bar, di_row, dj_row, dk_row, dl_row, kt_int_int, kt_int_bool, kt_bool_int, kt_bool_bool, kt_tuple_tuple, kt_str_str, kt_int_tuple, kt_str_tuple, kt_tuple_int, kt_tuple_str, kt_NoneType_tuple, kt_str_int, dq_same, decide_true])

theorem p_range_of (k : Nat) (ds : List D) (Φ : D → Prop) (h : r_range_of (k + 1) ds Φ) : w_range_of r_parts_of (r_range_of k) r_entries_for r_made (fun _ => Φ .non) Φ (startE 8 ds) := by
  obtain ⟨N, r, rfl, hN, hw, hd, hΦ⟩ := h
  obtain ⟨h, ps⟩ := r
  unfold wf at hw
  unfold dep at hd
  unfold range at hΦ
  unfold w_range_of
  rw [enc_node]
  have hl := hN.1.2.2.1
  have pp : ∀ Ψ : D → Prop, Ψ (.tup (encs ps)) → r_parts_of [encH h (encs ps)] Ψ := fun Ψ q => ⟨_, h, ps, rfl, hw.1, by omega, q⟩
  obtain ⟨x, es, ex, eh, ei⟩ := word_of h (encs ps)
  cases hh : isB h with
  | true =>
    cases h <;> first | exact Bool.noConfusion (show false = true from hh) | skip
    rename_i w
    have e := none_of hw.1.1
    subst e
    walk_at "D"
    exact ⟨by decide, hΦ⟩
  | false =>
  cases hb : hearB h with
  | true =>
    cases h <;> first | exact Bool.noConfusion (show false = true from hb) | skip
    rename_i j
    have e := none_of hw.1.1
    subst e
    unfold encN
    walk_at "D"
    rw [atIn (iD_get (g0_some hw.1.2))]
    exact ⟨by decide, hΦ⟩
  | false =>
    by_cases hr : ∃ ws, h = .row ws
    · obtain ⟨ws, rfl⟩ := hr
      obtain ⟨p, rfl⟩ := one_of hw.1.1
      walk_at "D"
      refine pp _ ?_
      unfold wfs at hw
      unfold deps at hd
      walk_at "D"
      unfold lcGo dYes
      walk_at "D"
      refine ⟨N, p, rfl, hN, hw.2.1, by omega, ?_⟩
      unfold lcGo
      unfold pairD
      walk_at "D"
      have q := range_ok hN.1 hw.2.1
      refine ⟨ws, _, _, rfl, q.1, by omega, hw.1.2.1, ?_⟩
      have ne := entries_ne (ws := ws) q.1 q.2 hw.1.2.1
      walk_at "D"
      exact ⟨ne, ne, by decide, hΦ⟩
    · rw [ex] at pp ⊢
      rw [hh] at ei
      rw [hb] at eh
      have er : decide (x = ("row" : Str)) = false := word_row ex fun ws e => hr ⟨ws, e⟩
      have mk : ∀ (vs : List Int) (Ψ : D → Prop), vs.length = ps.length → (∀ v ∈ vs, 0 ≤ v) → Ψ (.int (made h vs)) → r_made [.tup (.str x :: es), .lst (iD vs)] Ψ := fun vs Ψ l v q => ⟨_, h, ps, vs, by rw [ex], hw.1, l, v, inner_of hh hb, q⟩
      have ok := ranges_ok hN.1 hw.2
      rw [rng_def hh hb (fun ws e => hr ⟨ws, e⟩)] at hΦ
      walk_at "D"
      rw [ei]
      walk_at "D"
      rw [eh]
      walk_at "D"
      refine pp _ ?_
      rw [encs_map]
      walk_at "D"
      refine lc_over enc (fun p => pairD (range (topOf N) p)) ps [] (fun p hp Ψ hΨ => ?_) ?_
      · walk_at "D"
        exact ⟨N, p, rfl, hN, wfs_mem hw.2 hp, by have := deps_mem hp; omega, hΨ⟩
      walk_at "D"
      rw [er]
      walk_at "D"
      have e1 : ps.map (fun p => pairD (range (topOf N) p)) = (ranges (topOf N) ps).map pairD := by rw [ranges_map, List.map_map]; rfl
      rw [e1]
      refine lc_over pairD (fun p => .int p.1) (ranges (topOf N) ps) [] (fun p hp Ψ hΨ => ?_) ?_
      · unfold pairD
        walk_at "D"
        exact hΨ
      rw [List.nil_append, show (ranges (topOf N) ps).map (fun p => D.int p.1) = iD ((ranges (topOf N) ps).map (·.1)) by unfold iD; rw [List.map_map]; rfl]
      refine mk _ _ (by rw [List.length_map, ranges_len]) ok.nn ?_
      refine lc_over pairD (fun p => .int p.2) (ranges (topOf N) ps) [] (fun p hp Ψ hΨ => ?_) ?_
      · unfold pairD
        walk_at "D"
        exact hΨ
      rw [List.nil_append, show (ranges (topOf N) ps).map (fun p => D.int p.2) = iD ((ranges (topOf N) ps).map (·.2)) by unfold iD; rw [List.map_map]; rfl]
      refine mk _ _ (by rw [List.length_map, ranges_len]) ok.nn2 ?_
      refine ⟨by decide, ?_⟩
      walk_at "D"
      exact ⟨by simp, by simp, by decide, hΦ⟩
theorem p_turn_of (ds : List D) (Φ : D → Prop) (h : r_turn_of ds Φ) : w_turn_of (r_range_of 4) r_entries_for r_is_rising_row (fun _ => Φ .non) Φ (startE 5 ds) := by
  obtain ⟨N, h, ps, rfl, hN, ok, hw, hd, hΦ⟩ := h
  unfold w_turn_of
  cases h with
  | row ws =>
    obtain ⟨p, rfl⟩ := one_of ok.1
    unfold wfs at hw
    unfold deps at hd
    walk_at "D"
    refine ⟨N, p, rfl, hN, hw.1, by omega, ?_⟩
    unfold pairD
    walk_at "D"
    have q := range_ok hN.1 hw.1
    refine ⟨ws, _, _, rfl, q.1, by omega, ok.2.1, ?_⟩
    have hΦ : Φ (turnD (if rising (entries ws (range (topOf N) p).1 (range (topOf N) p).2) then 1 else if rising (entries ws (range (topOf N) p).1 (range (topOf N) p).2).reverse then -1 else 0)) := hΦ
    have hel : (entries ws (range (topOf N) p).1 (range (topOf N) p).2).length ≤ 1000 := by
      have h1 := ok.2.2.1
      unfold entries
      rw [List.length_take, List.length_drop]
      omega
    generalize entries ws (range (topOf N) p).1 (range (topOf N) p).2 = en at hΦ hel
    refine ⟨en, rfl, hel, ?_⟩
    cases e1 : rising en with
    | true =>
      rw [if_pos e1] at hΦ
      exact hΦ
    | false =>
      rw [if_neg (by rw [e1]; exact Bool.false_ne_true)] at hΦ
      walk_at "D"
      have er : (iD en).reverse = iD en.reverse := by unfold iD; rw [List.map_reverse]
      rw [er]
      refine ⟨en.reverse, rfl, by rw [List.length_reverse]; exact hel, ?_⟩
      cases e2 : rising en.reverse with
      | true =>
        rw [if_pos e2] at hΦ
        exact hΦ
      | false =>
        rw [if_neg (by rw [e2]; exact Bool.false_ne_true)] at hΦ
        exact hΦ
  | bar k lo hi =>
    walk_at "D"
    have hΦ : Φ (turnD (if hi < lo then -1 else 1)) := hΦ
    by_cases e : hi < lo
    · rw [decide_eq_true e]; rw [if_pos e] at hΦ; exact hΦ
    · rw [decide_eq_false e]; rw [if_neg e] at hΦ; exact hΦ
  | sub w =>
    walk_at "D"
    exact hΦ
  | _ =>
    walk_at "D"
    exact hΦ
theorem p_words_within (k : Nat) (ds : List D) (Φ : D → Prop) (h : r_words_within (k + 1) ds Φ) : w_words_within (r_range_of 4) r_turn_of r_parts_of (r_words_within k) (fun _ => Φ .non) Φ (startE 11 ds) := by
  obtain ⟨N, r, s, b, f, rfl, hN, hw, hd, hk, hbl, hΦ⟩ := h
  have hl := hN.1.2.2.1
  unfold w_words_within
  simp only [dSeq, dAsg, dCall, dVar, dCons, dNil, startE, getS, List.replicate, List.map, List.length_cons, List.length_nil, List.cons_append, List.nil_append, Nat.reduceSub, Nat.reduceAdd]
  refine ⟨N, r, rfl, hN, hw, by omega, ?_⟩
  obtain ⟨h, ps⟩ := r
  unfold wf at hw
  unfold dep at hd
  unfold words at hΦ
  unfold br at hbl
  have er : range (topOf N) (.node h ps) = rng (topOf N) h (ranges (topOf N) ps) := by unfold range; rfl
  rw [er, enc_node]
  generalize hst : (s || (rng (topOf N) h (ranges (topOf N) ps)).1 == (rng (topOf N) h (ranges (topOf N) ps)).2) = st at hΦ
  have pp : ∀ Ψ : D → Prop, Ψ (.tup (encs ps)) → r_parts_of [encH h (encs ps)] Ψ := fun Ψ q => ⟨_, h, ps, rfl, hw.1, by omega, q⟩
  have pt : ∀ Ψ : D → Prop, Ψ (turnD (trn h (ranges (topOf N) ps))) → r_turn_of [encN N, encH h (encs ps)] Ψ := fun Ψ q => ⟨N, h, ps, rfl, hN, hw.1, hw.2, by omega, q⟩
  obtain ⟨x, es, ex, eh, ei⟩ := word_of h (encs ps)
  unfold pairD
  simp only [bTup, bCons, bName, bNil, setS]
  refine dSet_or (s := s) (c := decide ((rng (topOf N) h (ranges (topOf N) ps)).1 = (rng (topOf N) h (ranges (topOf N) ps)).2)) (fun Ψ q => q) (fun Ψ q => q) ?_
  rw [show decide ((rng (topOf N) h (ranges (topOf N) ps)).1 = (rng (topOf N) h (ranges (topOf N) ps)).2) = ((rng (topOf N) h (ranges (topOf N) ps)).1 == (rng (topOf N) h (ranges (topOf N) ps)).2) from rfl, hst]
  generalize (rng (topOf N) h (ranges (topOf N) ps)).1 = lo
  generalize (rng (topOf N) h (ranges (topOf N) ps)).2 = hi
  cases hb : hearB h with
  | true =>
    cases h <;> first | exact Bool.noConfusion (show false = true from hb) | skip
    rename_i j
    have e := none_of hw.1.1
    subst e
    walk_at "D"
    cases st with
    | true => exact ⟨by decide, hΦ⟩
    | false =>
      cases b with
      | true => exact ⟨by decide, hΦ⟩
      | false => cases f <;> exact ⟨by decide, hΦ⟩
  | false =>
    have ho : ownW h st (sg b f) = [] := by cases h <;> first | rfl | exact Bool.noConfusion (show true = false from hb)
    have hob : ownB h = [] := by cases h <;> first | rfl | exact Bool.noConfusion (show true = false from hb)
    rw [ho, List.nil_append] at hΦ
    rw [hob, List.nil_append] at hbl
    rw [hb] at eh
    rw [ex] at pp pt ⊢
    walk_at "D"
    rw [eh]
    walk_at "D"
    refine pt _ (pp _ ?_)
    have ht := trn_cases h (ranges (topOf N) ps)
    generalize trn h (ranges (topOf N) ps) = t at ht hΦ
    rw [encs_map]
    walk_at "D"
    refine for_over enc (fun done env => ∃ s6, env = [Slot.im (encN N), Slot.im (.tup (.str x :: es)), Slot.im (.bl s), Slot.im (.bl b), Slot.im (.bl f), Slot.im (.bl st), s6, Slot.im (.int lo), Slot.im (.int hi), Slot.im (turnD t), Slot.ow ((wordss (topOf N) done st (sg b f * t)).map encW)]) ps _ ⟨.no, rfl⟩ ?_ ?_
    · rintro done y rest env C e ⟨s6, rfl⟩ hC
      have hy : y ∈ ps := by rw [e]; simp
      have eb : brs ps = brs done ++ (br y ++ brs rest) := by rw [e, brs_append]; rfl
      have el : (brs ps).length = (brs done).length + ((br y).length + (brs rest).length) := by rw [eb]; simp
      have call : ∀ Ψ : D → Prop, Ψ (.lst ((words (topOf N) y st (sg b f * t)).map encW)) → r_words_within k [encN N, enc y, .bl st, .bl (b || isNon (turnD t)), .bl (!decide (f = decide (t = -1)))] Ψ := fun Ψ q => by
        refine ⟨N, y, st, _, _, rfl, hN, wfs_mem hw.2 hy, by have := deps_mem hy; omega, by omega, by omega, ?_⟩
        rw [sg_step b f ht]; exact q
      have fin : ∀ env', env' = [Slot.im (encN N), Slot.im (.tup (.str x :: es)), Slot.im (.bl s), Slot.im (.bl b), Slot.im (.bl f), Slot.im (.bl st), Slot.im (enc y), Slot.im (.int lo), Slot.im (.int hi), Slot.im (turnD t), Slot.ow ((wordss (topOf N) done st (sg b f * t)).map encW ++ (words (topOf N) y st (sg b f * t)).map encW)] → C env' := fun env' ee => by
        refine hC _ ⟨.im (enc y), ?_⟩
        rw [ee, wordss_append, List.map_append]
        show _ = [_, _, _, _, _, _, _, _, _, _, Slot.ow (_ ++ (words (topOf N) y st (sg b f * t) ++ []).map encW)]
        rw [List.append_nil]
      have len : ((wordss (topOf N) done st (sg b f * t)).map encW).length + ((words (topOf N) y st (sg b f * t)).map encW).length < 100000 := by
        rw [List.length_map, List.length_map, words_len, wordss_len]
        omega
      clear hC
      cases b <;> rcases ht with rfl | rfl | rfl <;> (walk_at "D"; exact call _ ⟨len, fin _ rfl⟩)
    · rintro env ⟨s6, rfl⟩
      walk_at "D"
      exact hΦ
theorem p_told_by (k : Nat) (ds : List D) (Φ : D → Prop) (h : r_told_by (k + 1) ds Φ) : w_told_by r_parts_of (r_told_by k) r_made (fun _ => Φ .non) Φ (startE 6 ds) := by
  obtain ⟨n, r, hd, at_, rfl, hw, hn, hdp, hh, hl, hΦ⟩ := h
  obtain ⟨h, ps⟩ := r
  unfold wf at hw
  unfold dep at hdp
  unfold br at hl hΦ
  unfold tv at hΦ
  unfold w_told_by
  rw [enc_node]
  have pp : ∀ Ψ : D → Prop, Ψ (.tup (encs ps)) → r_parts_of [encH h (encs ps)] Ψ := fun Ψ q => ⟨n, h, ps, rfl, hw.1, hn, q⟩
  obtain ⟨x, es, ex, eh, ei⟩ := word_of h (encs ps)
  cases hb : isB h with
  | true =>
    cases h <;> first | exact Bool.noConfusion (show false = true from hb) | skip
    rename_i w
    have e := none_of hw.1.1
    subst e
    walk_at "D"
    exact ⟨by decide, hΦ⟩
  | false =>
  cases hhb : hearB h with
  | true =>
    cases h <;> first | exact Bool.noConfusion (show false = true from hhb) | skip
    rename_i j
    have e := none_of hw.1.1
    subst e
    walk_at "D"
    have hl : at_ + 1 ≤ hd.length := hl
    rw [atIn (iD_get (g0_some (xs := hd) (i := at_) (by omega)))]
    exact ⟨by decide, hΦ⟩
  | false =>
    have mk : ∀ (vs : List Int) (Ψ : D → Prop), vs.length = ps.length → (∀ v ∈ vs, 0 ≤ v) → Ψ (.int (made h vs)) → r_made [encH h (encs ps), .lst (iD vs)] Ψ := fun vs Ψ l v q => ⟨n, h, ps, vs, rfl, hw.1, l, v, inner_of hb hhb, q⟩
    have hob : ownB h = [] := by cases h <;> first | rfl | exact Bool.noConfusion (show true = false from hhb)
    have hv : ∀ vs, val h (fun k => g0 hd (at_ + k)) vs = made h vs := fun vs => by cases h <;> first | rfl | exact Bool.noConfusion (show true = false from hhb)
    rw [hob, List.nil_append] at hl hΦ
    rw [hv] at hΦ
    rw [ex] at pp mk ⊢
    rw [hb] at ei
    rw [hhb] at eh
    walk_at "D"
    rw [ei]
    walk_at "D"
    rw [eh]
    walk_at "D"
    refine pp _ ?_
    rw [encs_map]
    walk_at "D"
    have nn : ∀ k, 0 ≤ g0 hd (at_ + k) := fun k => getD_nn hh _
    refine for_over enc (fun done env => ∃ s4 s5, env = [Slot.im (.tup (.str x :: es)), Slot.im (.tup (iD hd)), Slot.im (.int ((at_ + (brs done).length : Nat) : Int)), Slot.ow (iD (tvs done (fun k => g0 hd (at_ + k)))), s4, s5]) ps _ ⟨.no, .no, rfl⟩ ?_ ?_
    · rintro done y rest env C e ⟨s4, s5, rfl⟩ hC
      have hy : y ∈ ps := by rw [e]; simp
      have eb : brs ps = brs done ++ (br y ++ brs rest) := by rw [e, brs_append]; rfl
      have el : (brs ps).length = (brs done).length + ((br y).length + (brs rest).length) := by rw [eb]; simp
      walk_at "D"
      refine ⟨n, y, hd, at_ + (brs done).length, rfl, wfs_mem hw.2 hy, hn, by have := deps_mem hy; omega, hh, by omega, ?_⟩
      walk_at "D"
      have hpl : ps.length ≤ 60 := okH_len hw.1
      have hdl : done.length ≤ ps.length := by rw [e]; simp
      refine ⟨by rw [iD_len, tvs_len]; omega, hC _ ⟨.im (enc y), .im (.int (tv y (fun k => g0 hd (at_ + (brs done).length + k)))), ?_⟩⟩
      rw [tvs_append, iD_append, brs_append]
      have e3 : (fun k => g0 hd (at_ + ((brs done).length + k))) = (fun k => g0 hd (at_ + (brs done).length + k)) := funext fun k => by rw [Nat.add_assoc]
      have e4 : ((brs done) ++ brs [y]).length = (brs done).length + (br y).length := by
        rw [List.length_append]
        show _ + (br y ++ []).length = _
        rw [List.append_nil]
      rw [e4, e3, Nat.add_assoc]
      rfl
    · rintro env ⟨s4, s5, rfl⟩
      walk_at "D"
      refine mk _ _ (by rw [tvs_len]) (tvs_nn ps _ hw.2 nn) ?_
      exact ⟨by decide, hΦ⟩
end NB

/-! S6 -/
set_option Elab.async false
set_option linter.all false
set_option maxRecDepth 100000
set_option maxHeartbeats 2000000
namespace NB
open PySem PySem.Spec PyProof.Rows L2
local macro_rules | `(tactic| walk_at "D") => `(tactic| simp only [dSeq, dRet, dNext, dSet, dAsg, dPar, dPar3, dParO1, dParO2, dNew, dFreeze, dNever, dApp, dExt, dIfS, dVar, dC, dOp, dCall, dCons, dNil, dAndV, dOrV, dNotV, dTst, dTAnd, dTOr, dTNot, dIf, dYes, dIx, dEq, dNe, dLt, dLe, dGt, dGe, dAdd, dSub, dMul, dDiv, dMod, dIn, dIsN, dNotN, dIsT, dEqD, dNeD, dCat, dLen, dMin, dMax, dSum, dAny, dAll, dTuple, dList, dSl, dPart, dNoPart, dTup, dLst, dIsi, dNeg, dChain, dRev, dRep, dRepT, dSizes, dStup, dSNil, dSCons, dSStar, dItems, dRange1, dRange2, dZip, dEnum, dLc, dFor, bName, bTup, bCons, bNil, rdI, rdI0, rdB0, rdEq, rdNe, rdIsN, rdNotN, rdIsT, rdIx, rdIn, rdCat, rdLen, rdMin, rdMax, rdSum, rdSorted, rdAny, rdAll, rdTuple, rdList, isTy, isNon, getS, setS, wipeS, startE, List.map, List.replicate, List.length_cons, List.length_nil, List.append, List.cons_append, List.nil_append, List.append_nil, Nat.sub_self, Nat.reduceSub, Nat.reduceAdd, Bool.not_true, Bool.not_false, encH, encs, atI0, atI1, atI2, atI3, strsOf, intsOf, Option.map_some, intsOf_iD, dq_is_hear, dq_is_least, dq_is_most, dq_is_add, dq_is_middle, dq_is_times, dq_is_part, dq_is_clip, dq_is_from, dq_is_bar, dq_is_row, dq_hear_is, dq_hear_least, dq_hear_most, dq_hear_add, dq_hear_middle, dq_hear_times, dq_hear_part, dq_hear_clip, dq_hear_from, dq_hear_bar, dq_hear_row, dq_least_is, dq_least_hear, dq_least_most, dq_least_add, dq_least_middle, dq_least_times, dq_least_part, dq_least_clip, dq_least_from, dq_least_bar, dq_least_row, dq_most_is, dq_most_hear, dq_most_least, dq_most_add, dq_most_middle, dq_most_times, dq_most_part, dq_most_clip, dq_most_from, dq_most_bar, dq_most_row, dq_add_is, dq_add_hear, dq_add_least, dq_add_most, dq_add_middle, dq_add_times, dq_add_part, dq_add_clip, dq_add_from, dq_add_bar, dq_add_row, dq_middle_is, dq_middle_hear, dq_middle_least, dq_middle_most, dq_middle_add, dq_middle_times, dq_middle_part, dq_middle_clip, dq_middle_from, dq_middle_bar, dq_middle_row, dq_times_is, dq_times_hear, dq_times_least, dq_times_most, dq_times_add, dq_times_middle, dq_times_part, dq_times_clip, dq_times_from, dq_times_bar, dq_times_row, dq_part_is, dq_part_hear, dq_part_least, dq_part_most, dq_part_add, dq_part_middle, dq_part_times, dq_part_clip, dq_part_from, dq_part_bar, dq_part_row, dq_clip_is, dq_clip_hear, dq_clip_least, dq_clip_most, dq_clip_add, dq_clip_middle, dq_clip_times, dq_clip_part, dq_clip_from, dq_clip_bar, dq_clip_row, dq_from_is, dq_from_hear, dq_from_least, dq_from_most, dq_from_add, dq_from_middle, dq_from_times, dq_from_part, dq_from_clip, dq_from_bar, dq_from_row, dq_bar_is, dq_bar_hear, dq_bar_least, dq_bar_most, dq_bar_add, dq_bar_middle, dq_bar_times, dq_bar_part, dq_bar_clip, dq_bar_from, dq_bar_row, dq_row_is, dq_row_hear, dq_row_least, dq_row_most, dq_row_add, dq_row_middle, dq_row_times, dq_row_part, dq_row_clip, dq_row_from, dq_row_bar, dq_none_both, dq_none_falls, dq_none_rises, dq_both_none, dq_both_falls, dq_both_rises, dq_falls_none, dq_falls_both, dq_falls_rises, dq_rises_none, dq_rises_both, dq_rises_falls, dq_wait_rule, dq_wait_house, dq_wait_seen, dq_rule_wait, dq_rule_house, dq_rule_seen, dq_house_wait, dq_house_rule, dq_house_seen, dq_seen_wait, dq_seen_rule, dq_seen_house, di_is, dj_is, dk_is, dl_is, di_hear, dj_hear, dk_hear, dl_hear, di_least, dj_least, dk_least, dl_least, di_most, dj_most, dk_most, dl_most, di_add, dj_add, dk_add, dl_add, di_middle, dj_middle, dk_middle, dl_middle, di_times, dj_times, dk_times, dl_times, di_part, dj_part, dk_part, dl_part, di_clip, dj_clip, dk_clip, dl_clip, di_from, dj_from, dk_from, dl_from, di_bar, dj_bar, dk_bar, dl_bar, di_row, dj_row, dk_row, dl_row, kt_int_int, kt_int_bool, kt_bool_int, kt_bool_bool, kt_tuple_tuple, kt_str_str, kt_int_tuple, kt_str_tuple, kt_tuple_int, kt_tuple_str, kt_NoneType_tuple, kt_str_int, dq_same, decide_true])

theorem p_hull (ds : List D) (Φ : D → Prop) (h : r_hull ds Φ) : w_hull (fun _ => Φ .non) Φ (startE 5 ds) := by
  obtain ⟨A, B, rfl, l1, l2, hΦ⟩ := h
  unfold w_hull encE
  walk_at "D"
  rw [zip_iD, zip_iD]
  refine lc_over pairD (fun p => .int (min p.1 p.2)) _ [] (fun p hp Ψ hΨ => ?_) ?_
  · unfold pairD
    walk_at "D"
    exact hΨ
  rw [List.nil_append, zip_min]
  walk_at "D"
  refine lc_over pairD (fun p => .int (max p.1 p.2)) _ [] (fun p hp Ψ hΨ => ?_) ?_
  · unfold pairD
    walk_at "D"
    exact hΨ
  rw [List.nil_append, zip_max]
  exact ⟨by decide, hΦ⟩
theorem p_closed (ds : List D) (Φ : D → Prop) (h : r_closed ds Φ) : w_closed r_next_ends r_hull (fun _ => Φ .non) Φ (startE 3 ds) := by
  obtain ⟨N, E, rfl, hN, ow, hE, hΦ⟩ := h
  have owp := oneWay_of hN.1 ow
  have lens : ∀ {X Y : En}, okE N X → okE N Y → X.1.length = Y.1.length ∧ X.2.length = Y.2.length := fun {X Y} hX hY => ⟨by rw [hX.1, hY.1], by rw [hX.2.1, hY.2.1]⟩
  unfold w_closed
  walk_at "D"
  refine ⟨N, E, rfl, hN, ow, hE, E, next N E, rfl, (lens hE (next_ok hN.1 owp hE)).1, (lens hE (next_ok hN.1 owp hE)).2, ?_⟩
  refine ⟨fun env => ∃ X, env = [Slot.im (encN N), Slot.im (encE X), Slot.im (encE (hull2 X (next N X)))] ∧ okE N X ∧ Within E X, fun env => match env with | [_, .im d, _] => ofE (mHull N) d | _ => 0, ⟨E, rfl, hE, Within.refl _⟩, ?_⟩
  rintro env ⟨X, rfl, hX, wX⟩
  have hY := hull_ok hX (next_ok hN.1 owp hX)
  walk_at "D"
  refine ⟨okD_encE _, okD_encE _, fun b hb => ?_⟩
  cases b with
  | true =>
    have ne : hull2 X (next N X) ≠ X := fun e => hb.mp rfl (by rw [e])
    refine ⟨N, _, rfl, hN, ow, hY.1, hull2 X (next N X), next N (hull2 X (next N X)), rfl, (lens hY.1 (next_ok hN.1 owp hY.1)).1, (lens hY.1 (next_ok hN.1 owp hY.1)).2, ⟨hull2 X (next N X), rfl, hY.1, wX.trans hY.2.1⟩, ?_⟩
    show ofE (mHull N) (encE _) < ofE (mHull N) (encE _)
    rw [ofE_enc, ofE_enc]
    exact hull_fall hX hY.1 hY.2.1 ne
  | false =>
    have e : hull2 X (next N X) = X := by
      have h1 : ¬ ¬ encE (hull2 X (next N X)) = encE X := fun z => Bool.noConfusion (hb.mpr z)
      exact encE_inj.mp (Classical.not_not.mp h1)
    have cl : Cl N X := by
      have := hY.2.2
      rw [e] at this
      exact this
    exact hΦ X hX wX cl
theorem p_led (ds : List D) (Φ : D → Prop) (h : r_led ds Φ) : w_led r_next_ends (fun _ => Φ .non) Φ (startE 5 ds) := by
  obtain ⟨N, E, hN, ow, hE, hC, h⟩ := h
  have owp := oneWay_of hN.1 ow
  have step : ∀ {f : Nat}, next N (it N f E) ≠ it N f E → mGap (it N (f + 1) E) < mGap (it N f E) := fun {f} ne =>
    gap_fall (it_ok hN.1 owp hE f) (it_ok hN.1 owp hE (f + 1)) (it_dec hN.1 owp hE hC (Nat.le_succ f)) ne
  unfold w_led
  rcases h with ⟨rfl, hΦ⟩ | ⟨R, rfl, hΦ⟩
  · walk_at "D"
    refine ⟨fun env => ∃ (f : Nat) (s4 : Slot), env = [Slot.im (encN N), Slot.im (encE (it N f E)), Slot.im .non, Slot.im (.int (f : Int)), s4] ∧ ∀ j < f, it N (j + 1) E ≠ it N j E, fun env => match env with | [_, .im d, _, _, _] => ofE mGap d | _ => 0, ⟨0, .no, rfl, fun j hj => absurd hj (by omega)⟩, ?_⟩
    rintro env ⟨f, s4, rfl, hf⟩
    walk_at "D"
    refine ⟨N, _, rfl, hN, ow, it_ok hN.1 owp hE f, ?_⟩
    refine ⟨okD_encE _, okD_encE _, fun b hb => ?_⟩
    cases b with
    | true =>
      have e : next N (it N f E) = it N f E := encE_inj.mp (hb.mp rfl)
      exact ⟨by decide, hΦ f ⟨e, hf⟩⟩
    | false =>
      have ne : next N (it N f E) ≠ it N f E := fun e => Bool.noConfusion (hb.mpr (by rw [e]))
      refine ⟨⟨f + 1, _, rfl, fun j hj => ?_⟩, ?_⟩
      · by_cases e : j = f
        · subst e; exact ne
        · exact hf j (by omega)
      · show ofE mGap (encE (next N (it N f E))) < ofE mGap (encE _)
        rw [ofE_enc, ofE_enc]
        exact step ne
  · walk_at "D"
    refine ⟨fun env => ∃ (f : Nat) (s4 : Slot), env = [Slot.im (encN N), Slot.im (encE (it N f E)), Slot.im (.int (R : Int)), Slot.im (.int (f : Int)), s4] ∧ f ≤ R, fun env => match env with | [_, .im d, _, _, _] => ofE mGap d | _ => 0, ⟨0, .no, rfl, Nat.zero_le _⟩, ?_⟩
    rintro env ⟨f, s4, rfl, hf⟩
    walk_at "D"
    by_cases hlt : f < R
    · have e : decide ((f : Int) < (R : Int)) = true := decide_eq_true (by omega)
      rw [e]
      refine ⟨N, _, rfl, hN, ow, it_ok hN.1 owp hE f, ?_⟩
      refine ⟨okD_encE _, okD_encE _, fun b hb => ?_⟩
      cases b with
      | true =>
        have e : next N (it N f E) = it N f E := encE_inj.mp (hb.mp rfl)
        have := it_fix e hf
        rw [this] at hΦ
        exact ⟨by decide, hΦ _⟩
      | false =>
        have ne : next N (it N f E) ≠ it N f E := fun e => Bool.noConfusion (hb.mpr (by rw [e]))
        refine ⟨⟨f + 1, _, rfl, hlt⟩, ?_⟩
        show ofE mGap (encE (next N (it N f E))) < ofE mGap (encE _)
        rw [ofE_enc, ofE_enc]
        exact step ne
    · have e : decide ((f : Int) < (R : Int)) = false := decide_eq_false (by omega)
      rw [e]
      have : f = R := by omega
      subst this
      exact ⟨by decide, hΦ _⟩
theorem p_known (ds : List D) (Φ : D → Prop) (h : r_known ds Φ) : w_known r_led (fun _ => Φ .non) Φ (startE 5 ds) := by
  obtain ⟨l, rfl, hl, hΦ⟩ := h
  obtain ⟨hN, ow, hE, hC, d1, d2⟩ := hl
  unfold w_known encL
  walk_at "D"
  refine ⟨⟨by omega, by omega⟩, l.N, l.E, hN, ow, hE, hC, .inr ⟨l.age / l.d, by rw [Int.natCast_ediv], fun m => ?_⟩⟩
  walk_at "D"
  exact hΦ
theorem p_rests_in (ds : List D) (Φ : D → Prop) (h : r_rests_in ds Φ) : w_rests_in r_led (fun _ => Φ .non) Φ (startE 7 ds) := by
  obtain ⟨l, rfl, hl, hΦ⟩ := h
  obtain ⟨hN, ow, hE, hC, d1, d2⟩ := hl
  unfold w_rests_in encL
  simp only [dSeq, dAsg, dCall, dVar, dCons, dNil, startE, getS, List.replicate, List.map, List.length_cons, List.length_nil, List.cons_append, List.nil_append, Nat.reduceSub, Nat.reduceAdd, bTup, bCons, bName, bNil, setS, dC]
  refine ⟨l.N, l.E, hN, ow, hE, hC, .inl ⟨rfl, fun m hm => ?_⟩⟩
  have q := hΦ m hm
  unfold encE
  walk_at "D"
  refine ⟨okD_iD _, okD_iD _, fun b hb => ?_⟩
  have hb : b = true ↔ (it l.N m l.E).1 = (it l.N m l.E).2 := by rw [hb, tup_inj]
  cases b with
  | true =>
    rw [if_pos (hb.mp rfl)] at q
    exact ⟨.inl ⟨by omega, by omega⟩, q⟩
  | false =>
    rw [if_neg fun z => Bool.noConfusion (hb.mpr z)] at q
    exact q
end NB

/-! S7 -/
set_option Elab.async false
set_option linter.all false
set_option maxRecDepth 100000
set_option maxHeartbeats 2000000
namespace NB
open PySem PySem.Spec PyProof.Rows L2
local macro_rules | `(tactic| walk_at "D") => `(tactic| simp only [dSeq, dRet, dNext, dSet, dAsg, dPar, dPar3, dParO1, dParO2, dNew, dFreeze, dNever, dApp, dExt, dIfS, dVar, dC, dOp, dCall, dCons, dNil, dAndV, dOrV, dNotV, dTst, dTAnd, dTOr, dTNot, dIf, dYes, dIx, dEq, dNe, dLt, dLe, dGt, dGe, dAdd, dSub, dMul, dDiv, dMod, dIn, dIsN, dNotN, dIsT, dEqD, dNeD, dCat, dLen, dMin, dMax, dSum, dAny, dAll, dTuple, dList, dSl, dPart, dNoPart, dTup, dLst, dIsi, dNeg, dChain, dRev, dRep, dRepT, dSizes, dStup, dSNil, dSCons, dSStar, dItems, dRange1, dRange2, dZip, dEnum, dLc, dFor, bName, bTup, bCons, bNil, rdI, rdI0, rdB0, rdEq, rdNe, rdIsN, rdNotN, rdIsT, rdIx, rdIn, rdCat, rdLen, rdMin, rdMax, rdSum, rdSorted, rdAny, rdAll, rdTuple, rdList, isTy, isNon, getS, setS, wipeS, startE, List.map, List.replicate, List.length_cons, List.length_nil, List.append, List.cons_append, List.nil_append, List.append_nil, Nat.sub_self, Nat.reduceSub, Nat.reduceAdd, Bool.not_true, Bool.not_false, encH, encs, atI0, atI1, atI2, atI3, strsOf, intsOf, Option.map_some, intsOf_iD, dq_is_hear, dq_is_least, dq_is_most, dq_is_add, dq_is_middle, dq_is_times, dq_is_part, dq_is_clip, dq_is_from, dq_is_bar, dq_is_row, dq_hear_is, dq_hear_least, dq_hear_most, dq_hear_add, dq_hear_middle, dq_hear_times, dq_hear_part, dq_hear_clip, dq_hear_from, dq_hear_bar, dq_hear_row, dq_least_is, dq_least_hear, dq_least_most, dq_least_add, dq_least_middle, dq_least_times, dq_least_part, dq_least_clip, dq_least_from, dq_least_bar, dq_least_row, dq_most_is, dq_most_hear, dq_most_least, dq_most_add, dq_most_middle, dq_most_times, dq_most_part, dq_most_clip, dq_most_from, dq_most_bar, dq_most_row, dq_add_is, dq_add_hear, dq_add_least, dq_add_most, dq_add_middle, dq_add_times, dq_add_part, dq_add_clip, dq_add_from, dq_add_bar, dq_add_row, dq_middle_is, dq_middle_hear, dq_middle_least, dq_middle_most, dq_middle_add, dq_middle_times, dq_middle_part, dq_middle_clip, dq_middle_from, dq_middle_bar, dq_middle_row, dq_times_is, dq_times_hear, dq_times_least, dq_times_most, dq_times_add, dq_times_middle, dq_times_part, dq_times_clip, dq_times_from, dq_times_bar, dq_times_row, dq_part_is, dq_part_hear, dq_part_least, dq_part_most, dq_part_add, dq_part_middle, dq_part_times, dq_part_clip, dq_part_from, dq_part_bar, dq_part_row, dq_clip_is, dq_clip_hear, dq_clip_least, dq_clip_most, dq_clip_add, dq_clip_middle, dq_clip_times, dq_clip_part, dq_clip_from, dq_clip_bar, dq_clip_row, dq_from_is, dq_from_hear, dq_from_least, dq_from_most, dq_from_add, dq_from_middle, dq_from_times, dq_from_part, dq_from_clip, dq_from_bar, dq_from_row, dq_bar_is, dq_bar_hear, dq_bar_least, dq_bar_most, dq_bar_add, dq_bar_middle, dq_bar_times, dq_bar_part, dq_bar_clip, dq_bar_from, dq_bar_row, dq_row_is, dq_row_hear, dq_row_least, dq_row_most, dq_row_add, dq_row_middle, dq_row_times, dq_row_part, dq_row_clip, dq_row_from, dq_row_bar, dq_none_both, dq_none_falls, dq_none_rises, dq_both_none, dq_both_falls, dq_both_rises, dq_falls_none, dq_falls_both, dq_falls_rises, dq_rises_none, dq_rises_both, dq_rises_falls, dq_wait_rule, dq_wait_house, dq_wait_seen, dq_rule_wait, dq_rule_house, dq_rule_seen, dq_house_wait, dq_house_rule, dq_house_seen, dq_seen_wait, dq_seen_rule, dq_seen_house, di_is, dj_is, dk_is, dl_is, di_hear, dj_hear, dk_hear, dl_hear, di_least, dj_least, dk_least, dl_least, di_most, dj_most, dk_most, dl_most, di_add, dj_add, dk_add, dl_add, di_middle, dj_middle, dk_middle, dl_middle, di_times, dj_times, dk_times, dl_times, di_part, dj_part, dk_part, dl_part, di_clip, dj_clip, dk_clip, dl_clip, di_from, dj_from, dk_from, dl_from, di_bar, dj_bar, dk_bar, dl_bar, di_row, dj_row, dk_row, dl_row, kt_int_int, kt_int_bool, kt_bool_int, kt_bool_bool, kt_tuple_tuple, kt_str_str, kt_int_tuple, kt_str_tuple, kt_tuple_int, kt_tuple_str, kt_NoneType_tuple, kt_str_int, dq_same, decide_true])

theorem p_net_behind (ds : List D) (Φ : D → Prop) (h : r_net_behind ds Φ) : w_net_behind r_with_rule (fun _ => Φ .non) Φ (startE 2 ds) := by
  obtain ⟨l, c, rfl, hl, hc, hΦ⟩ := h
  unfold w_net_behind
  cases c with
  | wait n =>
    unfold encC
    walk_at "D"
    exact hΦ
  | seen a b c =>
    unfold encC
    walk_at "D"
    exact hΦ
  | rule h r =>
    unfold encC
    walk_at "D"
    have q := hc h r rfl
    have hl1 := hl.1.1
    rw [show h = ((h.toNat : Nat) : Int) by omega]
    refine ⟨l.N, h.toNat, r, rfl, ?_, ?_, hΦ⟩
    · have := hl1.1; omega
    · have := hl1.1; have := hl1.2.2.1; omega
  | house t r =>
    have hl1 := hl.1.1
    have a1 := hl1.1
    have a2 := hl1.2.2.1
    unfold encC encN
    walk_at "D"
    refine ⟨by rw [List.length_append, iD_len]; simp; omega, by rw [List.length_append, encs_len]; simp; omega, by decide, ?_⟩
    have hΦ : Φ (.tup [.tup (iD (l.N.1 ++ [t])), .tup (encs (l.N.2 ++ [r]))]) := hΦ
    rw [iD_append, encs_map, List.map_append] at hΦ
    rw [encs_map]
    exact hΦ
theorem p_is_sight (ds : List D) (Φ : D → Prop) (h : r_is_sight ds Φ) : w_is_sight r_known r_is_index r_is_number (fun _ => Φ .non) Φ (startE 4 ds) := by
  obtain ⟨l, h, lo, hi, rfl, hl, hΦ⟩ := h
  unfold w_is_sight encC
  walk_at "D"
  refine ⟨l, rfl, hl, ?_⟩
  have hk := it_ok hl.1.1 (oneWay_of hl.1.1 hl.2.1) hl.2.2.1 (l.age / l.d)
  have l1 : (knownL l).1.length = l.N.1.length := hk.1
  have l2 : (knownL l).2.length = l.N.1.length := hk.2.1
  unfold encE
  walk_at "D"
  intro _
  refine ⟨h, _, rfl, ?_⟩
  rw [iD_len, l1]
  unfold sightB at hΦ
  by_cases c1 : 0 ≤ h ∧ h < l.N.1.length
  · rw [decide_eq_true c1.1, decide_eq_true c1.2]
    refine ⟨lo, rfl, ?_⟩
    by_cases c2 : 0 ≤ lo
    · rw [decide_eq_true c2]
      refine ⟨hi, rfl, ?_⟩
      by_cases c3 : 0 ≤ hi
      · rw [decide_eq_true c3]
        rw [if_pos ⟨c1, c2, c3⟩] at hΦ
        have z : h = ((h.toNat : Nat) : Int) := by omega
        have y1 : L2.atI (iD (knownL l).1) h = some (.int (g0 (knownL l).1 h.toNat)) := by rw [z]; exact atIn (iD_get (g0_some (by omega)))
        have y2 : L2.atI (iD (knownL l).2) h = some (.int (g0 (knownL l).2 h.toNat)) := by rw [z]; exact atIn (iD_get (g0_some (by omega)))
        rw [y1, y2]
        exact hΦ
      · rw [decide_eq_false c3]
        rw [if_neg fun z => c3 z.2.2] at hΦ
        exact hΦ
    · rw [decide_eq_false c2]
      rw [if_neg fun z => c2 z.2.1] at hΦ
      exact hΦ
  · rw [if_neg fun z => c1 z.1] at hΦ
    have e : (decide (0 ≤ h) && decide (h < (l.N.1.length : Int))) = false := by
      rw [Bool.and_eq_false_iff, decide_eq_false_iff_not, decide_eq_false_iff_not]
      omega
    rw [e]
    exact hΦ
theorem p_is_change (ds : List D) (Φ : D → Prop) (h : r_is_change ds Φ) : w_is_change r_is_word_of r_is_row_of r_is_index r_is_sight r_net_behind r_is_net r_are_one_way (fun _ => Φ .non) Φ (startE 3 ds) := by
  obtain ⟨l, c, rfl, hl, hc, hΦ⟩ := h
  have hN := hl.1
  have wN := hN.1
  unfold w_is_change
  cases c with
  | wait n =>
    unfold encC
    walk_at "D"
    intro _
    exact ⟨_, rfl, by decide, _, _, rfl, n, _, rfl, hΦ⟩
  | seen a b c =>
    unfold encC
    walk_at "D"
    intro _
    exact ⟨_, rfl, by decide, _, _, rfl, l, a, b, c, rfl, hl, hΦ⟩
  | rule h r =>
    have hΦ : Φ (.bl (if 0 ≤ h ∧ h < l.N.1.length then isNet (netBehind l.N (.rule h r)) && oneWayB (netBehind l.N (.rule h r)) else false)) := hΦ
    unfold encC
    rw [show encL l = .tup [.tup [.tup (iD l.N.1), .tup (encs l.N.2)], .int (l.d : Int), encE l.E, .int (l.age : Int)] from rfl]
    walk_at "D"
    intro _
    refine ⟨_, rfl, by decide, _, _, rfl, fun _ => ⟨h, _, rfl, ?_⟩⟩
    rw [iD_len]
    by_cases c1 : 0 ≤ h ∧ h < l.N.1.length
    · rw [decide_eq_true c1.1, decide_eq_true c1.2]
      rw [if_pos c1] at hΦ
      refine ⟨l, .rule h r, rfl, hl, fun h' r' e => by cases e; exact c1, ?_⟩
      have hB := okN_behind hN hc
      have hl20 := hB.1.2.2.1
      refine ⟨_, _, rfl, ⟨hB.1.2.2.2.2.1, fun x hx => ⟨hB.1.2.2.2.2.2 x hx, hB.2 x hx⟩, by omega⟩, ?_⟩
      cases e1 : isNet (netBehind l.N (.rule h r)) with
      | false => rw [e1] at hΦ; exact hΦ
      | true =>
        rw [e1] at hΦ
        exact ⟨_, rfl, hB, hΦ⟩
    · have e : (decide (0 ≤ h) && decide (h < (l.N.1.length : Int))) = false := by
        rw [Bool.and_eq_false_iff, decide_eq_false_iff_not, decide_eq_false_iff_not]
        omega
      rw [e]
      rw [if_neg c1] at hΦ
      exact hΦ
  | house t r =>
    have hΦ : Φ (.bl (isNet (netBehind l.N (.house t r)) && oneWayB (netBehind l.N (.house t r)))) := hΦ
    unfold encC
    rw [show encL l = .tup [.tup [.tup (iD l.N.1), .tup (encs l.N.2)], .int (l.d : Int), encE l.E, .int (l.age : Int)] from rfl]
    walk_at "D"
    intro _
    refine ⟨_, rfl, by decide, _, _, rfl, ?_⟩
    show r_net_behind _ _
    refine ⟨l, .house t r, rfl, hl, fun h' r' e => (by cases e), ?_⟩
    have hB := okN_behind hN hc
    have hl20 := hB.1.2.2.1
    refine ⟨_, _, rfl, ⟨hB.1.2.2.2.2.1, fun x hx => ⟨hB.1.2.2.2.2.2 x hx, hB.2 x hx⟩, by omega⟩, ?_⟩
    cases e1 : isNet (netBehind l.N (.house t r)) with
    | false => rw [e1] at hΦ; exact hΦ
    | true =>
      rw [e1] at hΦ
      exact ⟨_, rfl, hB, hΦ⟩
theorem p_placed (ds : List D) (Φ : D → Prop) (h : r_placed ds Φ) : w_placed (fun _ => Φ .non) Φ (startE 3 ds) := by
  obtain ⟨xs, i, v, rfl, hi, hx, hΦ⟩ := h
  unfold w_placed
  walk_at "D"
  rw [cut_lo, cut_hi]
  have e : xs.take i ++ v :: xs.drop (i + 1) = xs.set i v := by
    rw [List.set_eq_take_append_cons_drop, if_pos hi]
  rw [e]
  refine ⟨by simp; omega, hΦ⟩
theorem change_fin {l : Life} {c : Ch} {Φ : D → Prop} (hl : okL l) (hc : okC l c) (hi : isCh l c = true)
    (h : (∃ n : Int, c = .wait n ∧ Φ (encL ⟨l.N, l.d, l.E, l.age + n.toNat⟩)) ∨ ((∀ n, c ≠ .wait n) ∧ ∀ E', okL ⟨netBehind l.N c, l.d, E', 0⟩ → Within (endsBehind l c) E' → Φ (encL ⟨netBehind l.N c, l.d, E', 0⟩))) (nw : ∀ n, c ≠ .wait n) :
    r_closed [encN (netBehind l.N c), encE (endsBehind l c)] fun x => 4 ≤ 1000 ∧ Φ (.tup [encN (netBehind l.N c), .int (l.d : Int), x, .int 0]) := by
  have hB := okN_behind hl.1 hc
  have ow : oneWayB (netBehind l.N c) = true := by
    cases c with
    | wait n => exact absurd rfl (nw n)
    | seen a b c => exact hl.2.1
    | rule h' r =>
      have hi : (if 0 ≤ h' ∧ h' < l.N.1.length then isNet (netBehind l.N (.rule h' r)) && oneWayB (netBehind l.N (.rule h' r)) else false) = true := hi
      by_cases c1 : 0 ≤ h' ∧ h' < l.N.1.length
      · rw [if_pos c1, Bool.and_eq_true] at hi; exact hi.2
      · rw [if_neg c1] at hi; exact Bool.noConfusion hi
    | house t r =>
      have hi : (isNet (netBehind l.N (.house t r)) && oneWayB (netBehind l.N (.house t r))) = true := hi
      rw [Bool.and_eq_true] at hi; exact hi.2
  refine ⟨_, _, rfl, hB, ow, okE_behind hl hc hi, fun E' h1 h2 h3 => ⟨by decide, ?_⟩⟩
  rcases h with ⟨n, e, _⟩ | ⟨_, hΦ⟩
  · exact absurd e (nw n)
  · exact hΦ E' ⟨hB, ow, h1, h3, hl.2.2.2.2.1, hl.2.2.2.2.2⟩ h2
theorem p_changed (ds : List D) (Φ : D → Prop) (h : r_changed ds Φ) : w_changed r_is_change r_known r_net_behind r_placed r_closed (fun _ => Φ .non) Φ (startE 8 ds) := by
  obtain ⟨l, c, rfl, hl, hc, hi, h⟩ := h
  unfold w_changed
  walk_at "D"
  refine ⟨l, c, rfl, hl, hc, ?_⟩
  rw [hi]
  walk_at "D"
  cases c with
  | wait n =>
    unfold encC encL
    walk_at "D"
    rw [show (3 : Int) = ((3 : Nat) : Int) from rfl, cut_lo]
    rcases h with ⟨m, e, hΦ⟩ | ⟨ne, _⟩
    · cases e
      refine ⟨by simp, ?_⟩
      have h0 : 0 ≤ n := by
        have hi : (decide (0 ≤ n) && decide (n < 10001)) = true := hi
        rw [Bool.and_eq_true, decide_eq_true_eq] at hi
        exact hi.1
      have e2 : ((l.age + n.toNat : Nat) : Int) = (l.age : Int) + n := by omega
      have hΦ : Φ (.tup [encN l.N, .int (l.d : Int), encE l.E, .int ((l.age + n.toNat : Nat) : Int)]) := hΦ
      rw [e2] at hΦ
      exact hΦ
    · exact absurd rfl (ne n)
  | seen a b c =>
    have fin := change_fin hl hc hi h (fun n e => by cases e)
    unfold encC encL
    simp only [dSeq, dRet, dNext, dAsg, dPar, dIfS, dCall, dVar, dC, dOp, dCons, dNil, dTst, dIx, dEq, dMax, dMin, dSl, dPart, dNoPart, dTup, getS, setS, rdEq, rdIx, atI0, atI1, atI2, atI3, dq_seen_wait, dq_seen_house, dq_same, decide_true]
    refine ⟨l, .seen a b c, rfl, hl, fun h' r' e => (by cases e), l, rfl, hl, ?_⟩
    refine ⟨by decide, ?_⟩
    have ec : cutD [D.str "seen", .int a, .int b, .int c] (some 1) none = [.int a, .int b, .int c] := by
      rw [show (1 : Int) = ((0 : Nat) : Int) + 1 from rfl, cut_hi]; rfl
    obtain ⟨c1, c2, c3, c4⟩ := sight_of (l := l) (h := a) (lo := b) (hi := c) hi
    have k := known_ok hl
    have l1 := k.1
    have l2 := k.2.1
    have h20 := hl.1.1.2.2.1
    have z : a = ((a.toNat : Nat) : Int) := by omega
    have y1 : L2.atI (iD (knownL l).1) a = some (.int (g0 (knownL l).1 a.toNat)) := by rw [z]; exact atIn (iD_get (g0_some (by omega)))
    have y2 : L2.atI (iD (knownL l).2) a = some (.int (g0 (knownL l).2 a.toNat)) := by rw [z]; exact atIn (iD_get (g0_some (by omega)))
    unfold encE
    simp only [ec, y1, y2]
    refine ⟨iD (knownL l).1, a.toNat, .int (max (g0 (knownL l).1 a.toNat) b), by rw [← z], by rw [iD_len]; omega, by rw [iD_len]; omega, ?_⟩
    refine ⟨iD (knownL l).2, a.toNat, .int (min (g0 (knownL l).2 a.toNat) c), by rw [← z], by rw [iD_len]; omega, by rw [iD_len]; omega, by decide, ?_⟩
    have e1 : (iD (knownL l).1).set a.toNat (.int (max (g0 (knownL l).1 a.toNat) b)) = iD ((knownL l).1.set a.toNat (max (g0 (knownL l).1 a.toNat) b)) := by unfold iD; rw [List.map_set]
    have e2 : (iD (knownL l).2).set a.toNat (.int (min (g0 (knownL l).2 a.toNat) c)) = iD ((knownL l).2.set a.toNat (min (g0 (knownL l).2 a.toNat) c)) := by unfold iD; rw [List.map_set]
    rw [e1, e2]
    exact fin
  | rule h' r =>
    have fin := change_fin hl hc hi h (fun n e => by cases e)
    unfold encC encL
    walk_at "D"
    have q : 0 ≤ h' ∧ h' < l.N.1.length := by
      have hi : (if 0 ≤ h' ∧ h' < l.N.1.length then isNet (netBehind l.N (.rule h' r)) && oneWayB (netBehind l.N (.rule h' r)) else false) = true := hi
      by_cases c1 : 0 ≤ h' ∧ h' < l.N.1.length
      · exact c1
      · rw [if_neg c1] at hi; exact Bool.noConfusion hi
    refine ⟨l, .rule h' r, rfl, hl, fun h2 r2 e => (by cases e; exact q), l, rfl, hl, by decide, ?_⟩
    unfold encE
    walk_at "D"
    exact ⟨by decide, fin⟩
  | house t r =>
    have fin := change_fin hl hc hi h (fun n e => by cases e)
    have k := known_ok hl
    have k1 := k.1
    have k2 := k.2.1
    have h20 := hl.1.1.2.2.1
    unfold encC encL
    walk_at "D"
    refine ⟨l, .house t r, rfl, hl, fun h2 r2 e => (by cases e), l, rfl, hl, by decide, ?_⟩
    unfold encE
    walk_at "D"
    refine ⟨by rw [List.length_append, iD_len]; simp; omega, by rw [List.length_append, iD_len]; simp; omega, by decide, ?_⟩
    have e1 : iD (knownL l).1 ++ [D.int 0] = iD ((knownL l).1 ++ [0]) := (iD_append (knownL l).1 [0]).symm
    have e2 : iD (knownL l).2 ++ [D.int t] = iD ((knownL l).2 ++ [t]) := (iD_append (knownL l).2 [t]).symm
    rw [e1, e2]
    exact fin
end NB

/-! S8 -/
set_option Elab.async false
set_option linter.all false
set_option maxRecDepth 100000
set_option maxHeartbeats 2000000
namespace NB
open PySem PySem.Spec PyProof.Rows L2
local macro_rules | `(tactic| walk_at "D") => `(tactic| simp only [dSeq, dRet, dNext, dSet, dAsg, dPar, dPar3, dParO1, dParO2, dNew, dFreeze, dNever, dApp, dExt, dIfS, dVar, dC, dOp, dCall, dCons, dNil, dAndV, dOrV, dNotV, dTst, dTAnd, dTOr, dTNot, dIf, dYes, dIx, dEq, dNe, dLt, dLe, dGt, dGe, dAdd, dSub, dMul, dDiv, dMod, dIn, dIsN, dNotN, dIsT, dEqD, dNeD, dCat, dLen, dMin, dMax, dSum, dAny, dAll, dTuple, dList, dSl, dPart, dNoPart, dTup, dLst, dIsi, dNeg, dChain, dRev, dRep, dRepT, dSizes, dStup, dSNil, dSCons, dSStar, dItems, dRange1, dRange2, dZip, dEnum, dLc, dFor, bName, bTup, bCons, bNil, rdI, rdI0, rdB0, rdEq, rdNe, rdIsN, rdNotN, rdIsT, rdIx, rdIn, rdCat, rdLen, rdMin, rdMax, rdSum, rdSorted, rdAny, rdAll, rdTuple, rdList, isTy, isNon, getS, setS, wipeS, startE, List.map, List.replicate, List.length_cons, List.length_nil, List.append, List.cons_append, List.nil_append, List.append_nil, Nat.sub_self, Nat.reduceSub, Nat.reduceAdd, Bool.not_true, Bool.not_false, encH, encs, atI0, atI1, atI2, atI3, strsOf, intsOf, Option.map_some, intsOf_iD, dq_is_hear, dq_is_least, dq_is_most, dq_is_add, dq_is_middle, dq_is_times, dq_is_part, dq_is_clip, dq_is_from, dq_is_bar, dq_is_row, dq_hear_is, dq_hear_least, dq_hear_most, dq_hear_add, dq_hear_middle, dq_hear_times, dq_hear_part, dq_hear_clip, dq_hear_from, dq_hear_bar, dq_hear_row, dq_least_is, dq_least_hear, dq_least_most, dq_least_add, dq_least_middle, dq_least_times, dq_least_part, dq_least_clip, dq_least_from, dq_least_bar, dq_least_row, dq_most_is, dq_most_hear, dq_most_least, dq_most_add, dq_most_middle, dq_most_times, dq_most_part, dq_most_clip, dq_most_from, dq_most_bar, dq_most_row, dq_add_is, dq_add_hear, dq_add_least, dq_add_most, dq_add_middle, dq_add_times, dq_add_part, dq_add_clip, dq_add_from, dq_add_bar, dq_add_row, dq_middle_is, dq_middle_hear, dq_middle_least, dq_middle_most, dq_middle_add, dq_middle_times, dq_middle_part, dq_middle_clip, dq_middle_from, dq_middle_bar, dq_middle_row, dq_times_is, dq_times_hear, dq_times_least, dq_times_most, dq_times_add, dq_times_middle, dq_times_part, dq_times_clip, dq_times_from, dq_times_bar, dq_times_row, dq_part_is, dq_part_hear, dq_part_least, dq_part_most, dq_part_add, dq_part_middle, dq_part_times, dq_part_clip, dq_part_from, dq_part_bar, dq_part_row, dq_clip_is, dq_clip_hear, dq_clip_least, dq_clip_most, dq_clip_add, dq_clip_middle, dq_clip_times, dq_clip_part, dq_clip_from, dq_clip_bar, dq_clip_row, dq_from_is, dq_from_hear, dq_from_least, dq_from_most, dq_from_add, dq_from_middle, dq_from_times, dq_from_part, dq_from_clip, dq_from_bar, dq_from_row, dq_bar_is, dq_bar_hear, dq_bar_least, dq_bar_most, dq_bar_add, dq_bar_middle, dq_bar_times, dq_bar_part, dq_bar_clip, dq_bar_from, dq_bar_row, dq_row_is, dq_row_hear, dq_row_least, dq_row_most, dq_row_add, dq_row_middle, dq_row_times, dq_row_part, dq_row_clip, dq_row_from, dq_row_bar, dq_none_both, dq_none_falls, dq_none_rises, dq_both_none, dq_both_falls, dq_both_rises, dq_falls_none, dq_falls_both, dq_falls_rises, dq_rises_none, dq_rises_both, dq_rises_falls, dq_wait_rule, dq_wait_house, dq_wait_seen, dq_rule_wait, dq_rule_house, dq_rule_seen, dq_house_wait, dq_house_rule, dq_house_seen, dq_seen_wait, dq_seen_rule, dq_seen_house, di_is, dj_is, dk_is, dl_is, di_hear, dj_hear, dk_hear, dl_hear, di_least, dj_least, dk_least, dl_least, di_most, dj_most, dk_most, dl_most, di_add, dj_add, dk_add, dl_add, di_middle, dj_middle, dk_middle, dl_middle, di_times, dj_times, dk_times, dl_times, di_part, dj_part, dk_part, dl_part, di_clip, dj_clip, dk_clip, dl_clip, di_from, dj_from, dk_from, dl_from, di_bar, dj_bar, dk_bar, dl_bar, di_row, dj_row, dk_row, dl_row, kt_int_int, kt_int_bool, kt_bool_int, kt_bool_bool, kt_tuple_tuple, kt_str_str, kt_int_tuple, kt_str_tuple, kt_tuple_int, kt_tuple_str, kt_NoneType_tuple, kt_str_int, dq_same, decide_true])

theorem p_law_parts (ds : List D) (Φ : D → Prop) (h : r_law_parts ds Φ) : w_law_parts (fun _ => Φ .non) Φ (startE 1 ds) := by
  obtain ⟨n, h, ps, rfl, ok, hΦ⟩ := h
  unfold w_law_parts
  cases h with
  | is w =>
    have e := none_of ok.1
    subst e
    walk_at "D"
    exact ⟨by decide, by decide, hΦ⟩
  | hear j =>
    have e := none_of ok.1
    subst e
    walk_at "D"
    exact ⟨by decide, by decide, hΦ⟩
  | least =>
    walk_at "D"
    exact ⟨by decide, by decide, hΦ⟩
  | most =>
    walk_at "D"
    exact ⟨by decide, by decide, hΦ⟩
  | add =>
    walk_at "D"
    exact ⟨by decide, by decide, hΦ⟩
  | middle =>
    walk_at "D"
    refine ⟨by decide, by decide, ?_⟩
    rw [show (1 : Int) = ((0 : Nat) : Int) + 1 from rfl, cut_hi]
    exact hΦ
  | times m =>
    obtain ⟨p, rfl⟩ := one_of ok.1
    walk_at "D"
    exact ⟨by decide, by decide, by decide, hΦ⟩
  | part m =>
    obtain ⟨p, rfl⟩ := one_of ok.1
    walk_at "D"
    exact ⟨by decide, by decide, by decide, hΦ⟩
  | clip lo hi =>
    obtain ⟨p, rfl⟩ := one_of ok.1
    walk_at "D"
    exact ⟨by decide, by decide, by decide, hΦ⟩
  | sub m =>
    obtain ⟨p, rfl⟩ := one_of ok.1
    walk_at "D"
    exact ⟨by decide, by decide, by decide, hΦ⟩
  | bar k lo hi =>
    obtain ⟨p, rfl⟩ := one_of ok.1
    walk_at "D"
    exact ⟨by decide, by decide, by decide, hΦ⟩
  | row ws =>
    obtain ⟨p, rfl⟩ := one_of ok.1
    walk_at "D"
    exact ⟨by decide, by decide, by decide, hΦ⟩
theorem p_law_branches (k : Nat) (ds : List D) (Φ : D → Prop) (h : r_law_branches (k + 1) ds Φ) : w_law_branches r_law_parts (r_law_branches k) (fun _ => Φ .non) Φ (startE 3 ds) := by
  obtain ⟨n, r, rfl, hw, hd, hl, hΦ⟩ := h
  obtain ⟨h, ps⟩ := r
  unfold wf at hw
  unfold dep at hd
  unfold br at hΦ hl
  unfold w_law_branches
  rw [enc_node]
  have pp : ∀ Ψ : D → Prop, Ψ (.lst (encs ps)) → r_law_parts [encH h (encs ps)] Ψ := fun Ψ q => ⟨n, h, ps, rfl, hw.1, q⟩
  obtain ⟨x, es, ex, eh, _⟩ := word_of h (encs ps)
  cases hh : hearB h with
  | true =>
    cases h <;> first | exact Bool.noConfusion (show false = true from hh) | skip
    rename_i j
    have e := none_of hw.1.1
    subst e
    simp only [encH] at pp
    walk_at "D"
    refine ⟨by decide, pp _ ?_⟩
    walk_at "D"
    unfold forGo
    walk_at "D"
    exact hΦ
  | false =>
    have ho : ownB h = [] := by cases h <;> first | rfl | exact Bool.noConfusion (show true = false from hh)
    rw [ho, List.nil_append] at hΦ hl
    rw [hh] at eh
    rw [ex] at pp ⊢
    walk_at "D"
    rw [eh]
    walk_at "D"
    refine ⟨by decide, pp _ ?_⟩
    rw [encs_map]
    walk_at "D"
    refine for_over enc (fun done env => ∃ s2, env = [Slot.im (.tup (.str x :: es)), Slot.im (.lst (natD (brs done))), s2]) ps _ ⟨.no, rfl⟩ ?_ ?_
    · rintro done y rest env C e ⟨s2, rfl⟩ hC
      have hy : y ∈ ps := by rw [e]; simp
      have eb : brs ps = brs done ++ (br y ++ brs rest) := by rw [e, brs_append]; rfl
      have el : (brs ps).length = (brs done).length + ((br y).length + (brs rest).length) := by rw [eb]; simp
      walk_at "D"
      have fin : C [Slot.im (.tup (.str x :: es)), Slot.im (.lst (natD (brs done) ++ natD (br y))), Slot.im (enc y)] := by
        refine hC _ ⟨.im (enc y), ?_⟩
        rw [brs_append, natD_append]
        show _ = [_, Slot.im (.lst (natD (brs done) ++ natD (br y ++ []))), _]
        rw [List.append_nil]
      refine ⟨n, y, rfl, wfs_mem hw.2 hy, by have := deps_mem hy; omega, by omega, ?_⟩
      exact ⟨by rw [natD_len, natD_len]; omega, fin⟩
    · rintro env ⟨s2, rfl⟩
      walk_at "D"
      exact hΦ
theorem p_law_told (k : Nat) (ds : List D) (Φ : D → Prop) (h : r_law_told (k + 1) ds Φ) : w_law_told r_law_parts (r_law_branches 4) (r_law_told k) r_law_made (fun _ => Φ .non) Φ (startE 6 ds) := by
  obtain ⟨n, r, hd, rfl, hw, hdp, hk, hh, hl, hbl, hΦ⟩ := h
  obtain ⟨h, ps⟩ := r
  unfold wf at hw
  unfold dep at hdp
  unfold br at hl hbl
  unfold tv at hΦ
  unfold w_law_told
  rw [enc_node]
  have pp : ∀ Ψ : D → Prop, Ψ (.lst (encs ps)) → r_law_parts [encH h (encs ps)] Ψ := fun Ψ q => ⟨n, h, ps, rfl, hw.1, q⟩
  obtain ⟨x, es, ex, eh, ei⟩ := word_of h (encs ps)
  cases hb : isB h with
  | true =>
    cases h <;> first | exact Bool.noConfusion (show false = true from hb) | skip
    rename_i w
    have e := none_of hw.1.1
    subst e
    walk_at "D"
    exact ⟨by decide, hΦ⟩
  | false =>
  cases hhb : hearB h with
  | true =>
    cases h <;> first | exact Bool.noConfusion (show false = true from hhb) | skip
    rename_i j
    have e := none_of hw.1.1
    subst e
    walk_at "D"
    have hl : hd.length = 1 := hl
    rw [at0 (by omega)]
    exact ⟨by decide, hΦ⟩
  | false =>
    have mk : ∀ (vs : List Int) (Ψ : D → Prop), vs.length = ps.length → (∀ v ∈ vs, 0 ≤ v) → Ψ (.int (made h vs)) → r_law_made [encH h (encs ps), .lst (iD vs)] Ψ := fun vs Ψ l v q => ⟨n, h, ps, vs, rfl, hw.1, l, v, inner_of hb hhb, q⟩
    have hob : ownB h = [] := by cases h <;> first | rfl | exact Bool.noConfusion (show true = false from hhb)
    have hv : ∀ vs, val h (g0 hd) vs = made h vs := fun vs => by cases h <;> first | rfl | exact Bool.noConfusion (show true = false from hhb)
    rw [hob, List.nil_append] at hl hbl
    rw [hv] at hΦ
    rw [ex] at pp mk ⊢
    rw [hb] at ei
    rw [hhb] at eh
    walk_at "D"
    refine ⟨by decide, ?_⟩
    rw [is_hear ei eh]
    refine pp _ ?_
    rw [encs_map]
    walk_at "D"
    refine for_over enc (fun done env => ∃ s2 s5, env = [Slot.im (.tup (.str x :: es)), Slot.im (.lst (iD hd)), s2, Slot.ow (iD (tvs done (g0 hd))), Slot.im (.int ((brs done).length : Int)), s5]) ps _ ⟨.no, .no, rfl⟩ ?_ ?_
    · rintro done y rest env C e ⟨s2, s5, rfl⟩ hC
      have hy : y ∈ ps := by rw [e]; simp
      have eb : brs ps = brs done ++ (br y ++ brs rest) := by rw [e, brs_append]; rfl
      have el : (brs ps).length = (brs done).length + ((br y).length + (brs rest).length) := by rw [eb]; simp
      have hpl : ps.length ≤ 60 := okH_len hw.1
      have hdl : done.length ≤ ps.length := by rw [e]; simp
      have hyd := deps_mem hy
      walk_at "D"
      refine ⟨n, y, rfl, wfs_mem hw.2 hy, by omega, by omega, ?_⟩
      walk_at "D"
      intro _
      rw [natD_len, cut_mid _ _ _ (by rw [iD_len]; omega)]
      have e1 : ((iD hd).drop (brs done).length).take (br y).length = iD ((hd.drop (brs done).length).take (br y).length) := by unfold iD; rw [← List.map_drop, ← List.map_take]
      rw [e1]
      refine ⟨n, y, _, rfl, wfs_mem hw.2 hy, by omega, by omega, fun v hv => hh v (List.mem_of_mem_drop (List.mem_of_mem_take hv)), by rw [List.length_take, List.length_drop]; omega, by omega, ?_⟩
      refine ⟨by rw [iD_len, tvs_len]; omega, hC _ ⟨.im (enc y), .im (.int ((br y).length : Int)), ?_⟩⟩
      have e2 : tv y (g0 ((hd.drop (brs done).length).take (br y).length)) = tv y (fun k => g0 hd ((brs done).length + k)) := tv_congr y _ _ fun k hk => g0_cut hk
      rw [e2, tvs_append, iD_append, brs_append]
      have e4 : ((brs done) ++ brs [y]).length = (brs done).length + (br y).length := by
        rw [List.length_append]
        show _ + (br y ++ []).length = _
        rw [List.append_nil]
      rw [e4]
      rfl
    · rintro env ⟨s2, s5, rfl⟩
      walk_at "D"
      exact mk _ _ (by rw [tvs_len]) (tvs_nn ps _ hw.2 fun k => getD_nn hh k) hΦ
theorem p_law_wants (ds : List D) (Φ : D → Prop) (h : r_law_wants ds Φ) : w_law_wants (r_law_told 4) (fun _ => Φ .non) Φ (startE 3 ds) := by
  obtain ⟨n, N, i, t, r, hd, rfl, e1, e2, hw, hdp, hh, hl, hbl, hΦ⟩ := h
  have a1 := atIn (iD_get e1)
  have a2 : L2.atI (encs N.2) (i : Int) = some (enc r) := atIn (by rw [encs_map, List.getElem?_map, e2]; rfl)
  unfold w_law_wants encN
  walk_at "D"
  simp only [a1, a2]
  exact ⟨n, r, hd, rfl, hw, hdp, by omega, hh, hl, hbl, hΦ⟩
end NB

/-! S9 -/
set_option Elab.async false
set_option linter.all false
set_option maxRecDepth 100000
set_option maxHeartbeats 2000000
namespace NB
open PySem PySem.Spec PyProof.Rows L2
local macro_rules | `(tactic| walk_at "D") => `(tactic| simp only [dSeq, dRet, dNext, dSet, dAsg, dPar, dPar3, dParO1, dParO2, dNew, dFreeze, dNever, dApp, dExt, dIfS, dVar, dC, dOp, dCall, dCons, dNil, dAndV, dOrV, dNotV, dTst, dTAnd, dTOr, dTNot, dIf, dYes, dIx, dEq, dNe, dLt, dLe, dGt, dGe, dAdd, dSub, dMul, dDiv, dMod, dIn, dIsN, dNotN, dIsT, dEqD, dNeD, dCat, dLen, dMin, dMax, dSum, dAny, dAll, dTuple, dList, dSl, dPart, dNoPart, dTup, dLst, dIsi, dNeg, dChain, dRev, dRep, dRepT, dSizes, dStup, dSNil, dSCons, dSStar, dItems, dRange1, dRange2, dZip, dEnum, dLc, dFor, bName, bTup, bCons, bNil, rdI, rdI0, rdB0, rdEq, rdNe, rdIsN, rdNotN, rdIsT, rdIx, rdIn, rdCat, rdLen, rdMin, rdMax, rdSum, rdSorted, rdAny, rdAll, rdTuple, rdList, isTy, isNon, getS, setS, wipeS, startE, List.map, List.replicate, List.length_cons, List.length_nil, List.append, List.cons_append, List.nil_append, List.append_nil, Nat.sub_self, Nat.reduceSub, Nat.reduceAdd, Bool.not_true, Bool.not_false, encH, encs, atI0, atI1, atI2, atI3, strsOf, intsOf, Option.map_some, intsOf_iD, dq_is_hear, dq_is_least, dq_is_most, dq_is_add, dq_is_middle, dq_is_times, dq_is_part, dq_is_clip, dq_is_from, dq_is_bar, dq_is_row, dq_hear_is, dq_hear_least, dq_hear_most, dq_hear_add, dq_hear_middle, dq_hear_times, dq_hear_part, dq_hear_clip, dq_hear_from, dq_hear_bar, dq_hear_row, dq_least_is, dq_least_hear, dq_least_most, dq_least_add, dq_least_middle, dq_least_times, dq_least_part, dq_least_clip, dq_least_from, dq_least_bar, dq_least_row, dq_most_is, dq_most_hear, dq_most_least, dq_most_add, dq_most_middle, dq_most_times, dq_most_part, dq_most_clip, dq_most_from, dq_most_bar, dq_most_row, dq_add_is, dq_add_hear, dq_add_least, dq_add_most, dq_add_middle, dq_add_times, dq_add_part, dq_add_clip, dq_add_from, dq_add_bar, dq_add_row, dq_middle_is, dq_middle_hear, dq_middle_least, dq_middle_most, dq_middle_add, dq_middle_times, dq_middle_part, dq_middle_clip, dq_middle_from, dq_middle_bar, dq_middle_row, dq_times_is, dq_times_hear, dq_times_least, dq_times_most, dq_times_add, dq_times_middle, dq_times_part, dq_times_clip, dq_times_from, dq_times_bar, dq_times_row, dq_part_is, dq_part_hear, dq_part_least, dq_part_most, dq_part_add, dq_part_middle, dq_part_times, dq_part_clip, dq_part_from, dq_part_bar, dq_part_row, dq_clip_is, dq_clip_hear, dq_clip_least, dq_clip_most, dq_clip_add, dq_clip_middle, dq_clip_times, dq_clip_part, dq_clip_from, dq_clip_bar, dq_clip_row, dq_from_is, dq_from_hear, dq_from_least, dq_from_most, dq_from_add, dq_from_middle, dq_from_times, dq_from_part, dq_from_clip, dq_from_bar, dq_from_row, dq_bar_is, dq_bar_hear, dq_bar_least, dq_bar_most, dq_bar_add, dq_bar_middle, dq_bar_times, dq_bar_part, dq_bar_clip, dq_bar_from, dq_bar_row, dq_row_is, dq_row_hear, dq_row_least, dq_row_most, dq_row_add, dq_row_middle, dq_row_times, dq_row_part, dq_row_clip, dq_row_from, dq_row_bar, dq_none_both, dq_none_falls, dq_none_rises, dq_both_none, dq_both_falls, dq_both_rises, dq_falls_none, dq_falls_both, dq_falls_rises, dq_rises_none, dq_rises_both, dq_rises_falls, dq_wait_rule, dq_wait_house, dq_wait_seen, dq_rule_wait, dq_rule_house, dq_rule_seen, dq_house_wait, dq_house_rule, dq_house_seen, dq_seen_wait, dq_seen_rule, dq_seen_house, di_is, dj_is, dk_is, dl_is, di_hear, dj_hear, dk_hear, dl_hear, di_least, dj_least, dk_least, dl_least, di_most, dj_most, dk_most, dl_most, di_add, dj_add, dk_add, dl_add, di_middle, dj_middle, dk_middle, dl_middle, di_times, dj_times, dk_times, dl_times, di_part, dj_part, dk_part, dl_part, di_clip, dj_clip, dk_clip, dl_clip, di_from, dj_from, dk_from, dl_from, di_bar, dj_bar, dk_bar, dl_bar, di_row, dj_row, dk_row, dl_row, kt_int_int, kt_int_bool, kt_bool_int, kt_bool_bool, kt_tuple_tuple, kt_str_str, kt_int_tuple, kt_str_tuple, kt_tuple_int, kt_tuple_str, kt_NoneType_tuple, kt_str_int, dq_same, decide_true])

theorem p_law_made (ds : List D) (Φ : D → Prop) (h : r_law_made ds Φ) : w_law_made (fun _ => Φ .non) Φ (startE 4 ds) := by
  obtain ⟨n, h, ps, vs, rfl, ok, hl, hv, inn, hΦ⟩ := h
  unfold w_law_made
  have e1 : vs.length = 1 → ∃ x, vs = [x] := fun e => by
    match vs, e with
    | [x], _ => exact ⟨x, rfl⟩
  cases h with
  | is w => exact inn.elim
  | hear j => exact inn.elim
  | least =>
    have := ok.1
    walk_at "D"
    rw [at0 (by omega)]
    exact ⟨by decide, fun e => by rw [e] at hl; simp at hl; omega, hΦ⟩
  | most =>
    have := ok.1
    walk_at "D"
    rw [at0 (by omega)]
    exact ⟨by decide, fun e => by rw [e] at hl; simp at hl; omega, hΦ⟩
  | add =>
    have := ok.1
    walk_at "D"
    rw [at0 (by omega)]
    exact ⟨by decide, hΦ⟩
  | middle =>
    have l3 : vs.length = 3 := by rw [hl]; exact ok
    walk_at "D"
    rw [at0 (by omega)]
    refine ⟨by decide, by omega, fun ns hp hs => ?_⟩
    have l3' : ns.length = 3 := by rw [hp.length_eq, l3]
    match vs, l3, hΦ, hp with
    | [a, b, c], _, hΦ, hp =>
    match ns, l3', hs, hp with
    | [x, y, z], _, hs, hp =>
    show Φ (.int y)
    have e : y = med a b c := sorted_mid hp hs
    rw [e]; exact hΦ
  | times m =>
    obtain ⟨x, rfl⟩ := e1 (by rw [hl]; exact ok.1)
    obtain ⟨p, rfl⟩ := one_of ok.1
    walk_at "D"
    rw [at0 (by simp)]
    walk_at "D"
    exact ⟨by decide, by decide, .inl ⟨by have := ok.2.1; omega, by have := ok.2.2; omega⟩, hΦ⟩
  | part d =>
    obtain ⟨x, rfl⟩ := e1 (by rw [hl]; exact ok.1)
    obtain ⟨p, rfl⟩ := one_of ok.1
    walk_at "D"
    rw [at0 (by simp)]
    walk_at "D"
    exact ⟨by decide, by decide, ⟨by have := ok.2.1; omega, by have := ok.2.2; omega⟩, hΦ⟩
  | clip lo hi =>
    obtain ⟨x, rfl⟩ := e1 (by rw [hl]; exact ok.1)
    obtain ⟨p, rfl⟩ := one_of ok.1
    walk_at "D"
    rw [at0 (by simp)]
    walk_at "D"
    refine ⟨by decide, by decide, ?_⟩
    have hΦ : Φ (.int (min (max x lo) hi)) := hΦ
    have hx := ok.2.2.1
    show match decide (x < lo) with | true => Φ (.int lo) | false => match decide (hi < x) with | true => Φ (.int hi) | false => Φ (.int x)
    by_cases c1 : x < lo
    · rw [decide_eq_true c1]
      rw [show min (max x lo) hi = lo by omega] at hΦ; exact hΦ
    · rw [decide_eq_false c1]
      by_cases c2 : hi < x
      · rw [decide_eq_true c2]
        rw [show min (max x lo) hi = hi by omega] at hΦ; exact hΦ
      · rw [decide_eq_false c2]
        rw [show min (max x lo) hi = x by omega] at hΦ; exact hΦ
  | sub w =>
    obtain ⟨x, rfl⟩ := e1 (by rw [hl]; exact ok.1)
    obtain ⟨p, rfl⟩ := one_of ok.1
    walk_at "D"
    rw [at0 (by simp)]
    walk_at "D"
    refine ⟨by decide, by decide, ?_⟩
    have hΦ : Φ (.int (max 0 (w - x))) := hΦ
    show match decide (x < w) with | true => Φ (.int (w - x)) | false => Φ (.int 0)
    by_cases c1 : x < w
    · rw [decide_eq_true c1]
      rw [show max 0 (w - x) = w - x by omega] at hΦ; exact hΦ
    · rw [decide_eq_false c1]
      rw [show max 0 (w - x) = 0 by omega] at hΦ; exact hΦ
  | bar k lo hi =>
    obtain ⟨x, rfl⟩ := e1 (by rw [hl]; exact ok.1)
    obtain ⟨p, rfl⟩ := one_of ok.1
    walk_at "D"
    rw [at0 (by simp)]
    walk_at "D"
    refine ⟨by decide, by decide, ?_⟩
    have hΦ : Φ (.int (if k ≤ x then hi else lo)) := hΦ
    show match decide (k ≤ x) with | true => Φ (.int hi) | false => Φ (.int lo)
    by_cases e : k ≤ x
    · rw [decide_eq_true e]; rw [if_pos e] at hΦ; exact hΦ
    · rw [decide_eq_false e]; rw [if_neg e] at hΦ; exact hΦ
  | row ws =>
    obtain ⟨x, rfl⟩ := e1 (by rw [hl]; exact ok.1)
    obtain ⟨p, rfl⟩ := one_of ok.1
    walk_at "D"
    rw [at0 (by simp)]
    walk_at "D"
    refine ⟨by decide, by decide, fun _ => ?_⟩
    have h1 := ok.2.1
    have hx : 0 ≤ x := hv x (by simp)
    have hΦ : Φ (.int (rowAt ws x)) := hΦ
    unfold rowAt at hΦ
    rw [iD_len]
    show match decide (x < (ws.length : Int)) with
      | true => (match L2.atI (iD ws) x with | some d => Φ d | none => False)
      | false => (match L2.atI (iD ws) (-1) with | some d => Φ d | none => False)
    by_cases c1 : x < (ws.length : Int)
    · rw [decide_eq_true c1]
      have e2 : L2.atI (iD ws) x = some (.int (g0 ws x.toNat)) := by
        rw [show x = ((x.toNat : Nat) : Int) by omega]
        exact atIn (iD_get (g0_some (by omega)))
      rw [e2]
      rw [show min x ((ws.length : Int) - 1) = x by omega] at hΦ
      exact hΦ
    · rw [decide_eq_false c1]
      rw [show (min x ((ws.length : Int) - 1)).toNat = ws.length - 1 by omega] at hΦ
      rw [at_last h1]
      exact hΦ
theorem range_filter {a b : Nat} : ∀ {n : Nat}, b ≤ n → a ≤ b → (List.range n).filter (fun i => decide (a ≤ i ∧ i < b)) = List.range' a (b - a)
  | 0, h1, h2 => by
    have : b = 0 := by omega
    subst this
    simp
  | n + 1, h1, h2 => by
    rw [List.range_succ, List.filter_append]
    by_cases c : b ≤ n
    · rw [range_filter c h2, List.filter_cons, if_neg (by simp; omega)]
      simp
    · have e : b = n + 1 := by omega
      subst e
      by_cases c2 : a ≤ n
      · have e2 : (List.range n).filter (fun i => decide (a ≤ i ∧ i < n + 1)) = (List.range n).filter (fun i => decide (a ≤ i ∧ i < n)) := by
          refine List.filter_congr fun i hi => ?_
          have := List.mem_range.mp hi
          refine decide_eq_decide.mpr ?_
          omega
        rw [e2, range_filter (Nat.le_refl n) c2, List.filter_cons, if_pos (by simp; omega)]
        rw [show n + 1 - a = (n - a) + 1 by omega, List.range'_concat]
        simp
        omega
      · have e3 : a = n + 1 := by omega
        subst e3
        have e4 : ((List.range n).filter (fun i => decide (n + 1 ≤ i ∧ i < n + 1)) ++ [n].filter (fun i => decide (n + 1 ≤ i ∧ i < n + 1))) = [] := by
          rw [List.append_eq_nil_iff, List.filter_eq_nil_iff, List.filter_eq_nil_iff]
          refine ⟨fun x _ => by simp, fun x _ => by simp⟩
        rw [e4]; simp
theorem range'_g0 {ws : List Int} {a m : Nat} (h : a + m ≤ ws.length) : (List.range' a m).map (g0 ws) = (ws.drop a).take m := by
  refine List.ext_getElem (by simp; omega) fun i h1 h2 => ?_
  simp at h1
  rw [List.getElem_map, List.getElem_take, List.getElem_drop, List.getElem_range']
  unfold g0
  rw [List.getD_eq_getElem?_getD, List.getElem?_eq_getElem (by omega)]
  simp
theorem steps_down {en : List Int} : rising en = !((List.range (en.length - 1)).any fun i => decide (g0 en (i + 1) - g0 en i < 0)) := by
  rw [rising_all, List.all_map, List.any_eq_not_all_not, Bool.not_not]
  refine List.all_congr rfl fun i => ?_
  show decide _ = !decide _
  rw [← decide_not]
  refine decide_eq_decide.mpr ?_
  omega
theorem steps_up {en : List Int} : rising en.reverse = !((List.range (en.length - 1)).any fun i => decide (0 < g0 en (i + 1) - g0 en i)) := by
  cases h : rising en.reverse with
  | true =>
    symm
    rw [Bool.not_eq_true', List.any_eq_false]
    intro i hi
    have hi := List.mem_range.mp hi
    have := falling_at h (i := i) (j := i + 1) (by omega) (by omega)
    have this : g0 en (i + 1) ≤ g0 en i := this
    simp only [decide_eq_true_eq]
    omega
  | false =>
    symm
    rw [Bool.not_eq_false', List.any_eq_true]
    by_cases c : ∃ i < en.length - 1, 0 < g0 en (i + 1) - g0 en i
    · obtain ⟨i, h1, h2⟩ := c
      exact ⟨i, List.mem_range.mpr h1, decide_eq_true h2⟩
    · exfalso
      rw [rising_all, List.all_map, List.all_eq_false] at h
      obtain ⟨i, hi, hn⟩ := h
      have hi := List.mem_range.mp hi
      rw [List.length_reverse] at hi
      refine hn ?_
      show decide (g0 en.reverse i ≤ g0 en.reverse (i + 1)) = true
      have r1 := rev_getD (xs := en) (i := en.length - 1 - i) (by omega)
      have r2 := rev_getD (xs := en) (i := en.length - 1 - (i + 1)) (by omega)
      rw [show en.length - 1 - (en.length - 1 - i) = i by omega] at r1
      rw [show en.length - 1 - (en.length - 1 - (i + 1)) = i + 1 by omega] at r2
      have r1 : g0 en.reverse i = g0 en (en.length - 1 - i) := r1
      have r2 : g0 en.reverse (i + 1) = g0 en (en.length - 1 - (i + 1)) := r2
      rw [r1, r2]
      refine decide_eq_true ?_
      have : ¬ 0 < g0 en (en.length - 1 - (i + 1) + 1) - g0 en (en.length - 1 - (i + 1)) := fun z => c ⟨_, by omega, z⟩
      rw [show en.length - 1 - (i + 1) + 1 = en.length - 1 - i by omega] at this
      omega
theorem ne_nil {fs : List Int} {b : Bool} (h : b = true ↔ ¬ D.lst (iD fs) = D.lst []) : b = !fs.isEmpty := by
  cases fs with
  | nil =>
    cases b with
    | false => rfl
    | true => exact absurd rfl (h.mp rfl)
  | cons x xs =>
    cases b with
    | true => rfl
    | false => exact Bool.noConfusion (h.mpr fun e => by cases e)
theorem any_steps {en : List Int} (p : Int → Bool) : (!(((List.range (en.length - 1)).map fun i => g0 en (i + 1) - g0 en i).filter p).isEmpty) = (List.range (en.length - 1)).any fun i => p (g0 en (i + 1) - g0 en i) := by
  generalize List.range (en.length - 1) = ns
  induction ns with
  | nil => rfl
  | cons n ns ih =>
    rw [List.map_cons, List.filter_cons, List.any_cons]
    cases p (g0 en (n + 1) - g0 en n) with
    | true => rfl
    | false =>
      rw [if_neg Bool.false_ne_true, Bool.false_or]
      exact ih
theorem okD_lst (xs : List Int) : okD 60 (.lst ([] ++ xs.map D.int)) = true := okDs_iD 59 xs
theorem p_law_entries (ds : List D) (Φ : D → Prop) (h : r_law_entries ds Φ) : w_law_entries (fun _ => Φ .non) Φ (startE 4 ds) := by
  obtain ⟨ws, lo, hi, rfl, h0, h1, hl, hl2, hΦ⟩ := h
  unfold w_law_entries
  walk_at "D"
  intro _
  rw [iD_len]
  refine ⟨by omega, by omega, ?_⟩
  rw [show ((ws.length : Nat) : Int).toNat = ws.length from rfl, range0]
  refine lc_filter (fun i : Nat => D.int (i : Int)) (fun i : Nat => decide (min lo.toNat (ws.length - 1) ≤ i ∧ i < min (hi + 1).toNat ws.length)) (fun i => .int (g0 ws i)) (List.range ws.length) [] (fun i hi' A B Ψ h1 h2 => ?_) ?_
  · have hi' := List.mem_range.mp hi'
    walk_at "D"
    rw [iD_len]
    by_cases c1 : lo ≤ (i : Int)
    · rw [decide_eq_true c1]
      by_cases c2 : (i : Int) ≤ hi
      · rw [decide_eq_true c2]
        rw [atIn (iD_get (g0_some hi'))]
        exact h1 (decide_eq_true (by omega))
      · rw [decide_eq_false c2]
        have h2 := h2 (decide_eq_false (by omega))
        have e2 : decide ((i : Int) < lo) = false := decide_eq_false (by omega)
        rw [e2]
        by_cases c3 : (i : Int) = (ws.length : Int) - 1
        · rw [decide_eq_true c3]
          exact fun _ => h2
        · rw [decide_eq_false c3]
          exact fun _ => h2
    · rw [decide_eq_false c1]
      have e2 : decide ((i : Int) < lo) = true := decide_eq_true (by omega)
      rw [e2]
      by_cases c3 : (i : Int) = (ws.length : Int) - 1
      · rw [decide_eq_true c3]
        rw [atIn (iD_get (g0_some hi'))]
        exact fun _ => h1 (decide_eq_true (by omega))
      · rw [decide_eq_false c3]
        exact fun _ => h2 (decide_eq_false (by omega))
  · rw [List.nil_append, range_filter (by omega) (by omega)]
    have e : (List.range' (min lo.toNat (ws.length - 1)) (min (hi + 1).toNat ws.length - min lo.toNat (ws.length - 1))).map (fun i => D.int (g0 ws i)) = iD (entries ws lo hi) := by
      unfold entries iD
      rw [← range'_g0 (by omega), List.map_map]
      rfl
    rw [e]; exact hΦ
theorem p_law_turn (ds : List D) (Φ : D → Prop) (h : r_law_turn ds Φ) : w_law_turn (r_law_range 4) r_law_entries (fun _ => Φ .non) Φ (startE 10 ds) := by
  obtain ⟨N, h, ps, rfl, hN, ok, hw, hd, hΦ⟩ := h
  unfold w_law_turn
  cases h with
  | row ws =>
    obtain ⟨p, rfl⟩ := one_of ok.1
    unfold wfs at hw
    unfold deps at hd
    walk_at "D"
    refine ⟨N, p, rfl, hN, hw.1, by omega, ?_⟩
    unfold pairD
    walk_at "D"
    have q := range_ok hN.1 hw.1
    have hΦ : Φ (.int (if rising (entries ws (range (topOf N) p).1 (range (topOf N) p).2) then 1 else if rising (entries ws (range (topOf N) p).1 (range (topOf N) p).2).reverse then -1 else 0)) := hΦ
    have hel : (entries ws (range (topOf N) p).1 (range (topOf N) p).2).length ≤ 64 := by
      have h1 := ok.2.2.1
      unfold entries
      rw [List.length_take, List.length_drop]
      omega
    refine ⟨ws, _, _, rfl, q.1, q.2, ok.2.1, ok.2.2.1, ?_⟩
    generalize entries ws (range (topOf N) p).1 (range (topOf N) p).2 = en at hΦ hel
    walk_at "D"
    intro _
    rw [iD_len]
    refine ⟨by omega, by omega, by omega, by omega, ?_⟩
    have en1 : ((en.length : Int) - 1).toNat = en.length - 1 := by omega
    rw [en1]
    unfold rangeD
    refine lc_over (fun i : Nat => D.int (1 + (i : Int))) (fun i : Nat => D.int (g0 en (i + 1) - g0 en i)) (List.range (en.length - 1)) [] (fun i hi Ψ hΨ => ?_) ?_
    · have hi := List.mem_range.mp hi
      walk_at "D"
      rw [show (1 + (i : Int) - 1) = (i : Int) by omega, show (1 + (i : Int)) = ((i + 1 : Nat) : Int) by omega]
      rw [atIn (iD_get (g0_some (xs := en) (i := i) (by omega))), atIn (iD_get (g0_some (xs := en) (i := i + 1) (by omega)))]
      exact hΨ
    have es : ([] ++ (List.range (en.length - 1)).map (fun i : Nat => D.int (g0 en (i + 1) - g0 en i))) = ((List.range (en.length - 1)).map fun i => g0 en (i + 1) - g0 en i).map D.int := by rw [List.nil_append, List.map_map]; rfl
    rw [es]
    walk_at "D"
    refine lc_filter D.int (fun x => decide (0 < x)) D.int _ [] (fun x _ A B Ψ h1 h2 => ?_) ?_
    · walk_at "D"
      cases c : decide (0 < x) with
      | true => exact h1 c
      | false => exact h2 c
    refine ⟨by decide, okD_lst _, rfl, fun up hup => ?_⟩
    refine lc_filter D.int (fun x => decide (x < 0)) D.int _ [] (fun x _ A B Ψ h1 h2 => ?_) ?_
    · walk_at "D"
      cases c : decide (x < 0) with
      | true => exact h1 c
      | false => exact h2 c
    refine ⟨by decide, okD_lst _, rfl, fun dn hdn => ?_⟩
    have u1 := (ne_nil hup).trans (any_steps _)
    have d1 := (ne_nil hdn).trans (any_steps _)
    have u2 := steps_up (en := en)
    have d2 := steps_down (en := en)
    rw [← u1] at u2
    rw [← d1] at d2
    rw [u2, d2] at hΦ
    cases up <;> cases dn <;> exact hΦ
  | bar k lo hi =>
    walk_at "D"
    have hΦ : Φ (.int (if hi < lo then -1 else 1)) := hΦ
    by_cases e : hi < lo
    · rw [decide_eq_true e]; rw [if_pos e] at hΦ; exact hΦ
    · rw [decide_eq_false e]; rw [if_neg e] at hΦ; exact hΦ
  | sub w =>
    walk_at "D"
    exact hΦ
  | _ =>
    walk_at "D"
    exact hΦ
theorem p_law_ways (ds : List D) (Φ : D → Prop) (h : r_law_ways ds Φ) : w_law_ways (r_law_range 4) (r_law_words 4) (fun _ => Φ .non) Φ (startE 4 ds) := by
  obtain ⟨N, i, t, r, rfl, hN, e1, e2, hΦ⟩ := h
  have a1 := atIn (iD_get e1)
  have a2 : L2.atI (encs N.2) (i : Int) = some (enc r) := atIn (by rw [encs_map, List.getElem?_map, e2]; rfl)
  have hr : r ∈ N.2 := List.mem_of_getElem? e2
  unfold w_law_ways
  rw [show encN N = .tup [.tup (iD N.1), .tup (encs N.2)] from rfl]
  walk_at "D"
  simp only [a1, a2]
  refine ⟨N, r, rfl, hN, wfs_get hN.1.2.2.2.2.1 e2, hN.1.2.2.2.2.2 r hr, ?_⟩
  unfold pairD
  walk_at "D"
  refine ⟨N, r, decide (min (range (topOf N) r).fst t = min (range (topOf N) r).snd t), 1, rfl, .inl rfl, hN, wfs_get hN.1.2.2.2.2.1 e2, hN.1.2.2.2.2.2 r hr, by omega, hN.2 r hr, ?_⟩
  have e : (min (range (topOf N) r).fst t == min (range (topOf N) r).snd t) = decide (min (range (topOf N) r).fst t = min (range (topOf N) r).snd t) := rfl
  unfold waysR at hΦ
  rw [e] at hΦ
  exact hΦ
theorem p_law_all_words (ds : List D) (Φ : D → Prop) (h : r_law_all_words ds Φ) : w_law_all_words r_law_ways (fun _ => Φ .non) Φ (startE 2 ds) := by
  obtain ⟨N, rfl, hN, hΦ⟩ := h
  have hl := hN.1.2.2.1
  have hl2 := hN.1.1
  unfold w_law_all_words
  rw [show encN N = .tup [.tup (iD N.1), .tup (encs N.2)] from rfl]
  walk_at "D"
  intro _
  rw [encs_len]
  refine ⟨by omega, by omega, ?_⟩
  rw [show ((N.2.length : Nat) : Int).toNat = N.2.length from rfl, range0, ← hl2]
  refine lc_over (fun i : Nat => D.int (i : Int)) (fun i : Nat => D.lst (((waysN N).getD i []).map encW)) (List.range N.1.length) [] (fun i hi Ψ hΨ => ?_) ?_
  · have hi := List.mem_range.mp hi
    obtain ⟨t, r, e1, e2, e3⟩ := ways_at hN.1 hi
    walk_at "D"
    refine ⟨N, i, t, r, rfl, hN, e1, e2, ?_⟩
    rw [List.getD_eq_getElem?_getD, e3] at hΨ
    exact hΨ
  · have e : (List.range N.1.length).map (fun i : Nat => D.lst (((waysN N).getD i []).map encW)) = (waysN N).map fun ws => D.lst (ws.map encW) := by
      rw [map_range (fun ws => D.lst (ws.map encW)) [] (waysN N), ways_len hN.1]
    rw [List.nil_append, e]
    exact hΦ
end NB

/-! SA -/
set_option Elab.async false
set_option linter.all false
set_option maxRecDepth 100000
set_option maxHeartbeats 2000000
namespace NB
open PySem PySem.Spec PyProof.Rows L2
local macro_rules | `(tactic| walk_at "D") => `(tactic| simp only [dSeq, dRet, dNext, dSet, dAsg, dPar, dPar3, dParO1, dParO2, dNew, dFreeze, dNever, dApp, dExt, dIfS, dVar, dC, dOp, dCall, dCons, dNil, dAndV, dOrV, dNotV, dTst, dTAnd, dTOr, dTNot, dIf, dYes, dIx, dEq, dNe, dLt, dLe, dGt, dGe, dAdd, dSub, dMul, dDiv, dMod, dIn, dIsN, dNotN, dIsT, dEqD, dNeD, dCat, dLen, dMin, dMax, dSum, dAny, dAll, dTuple, dList, dSl, dPart, dNoPart, dTup, dLst, dIsi, dNeg, dChain, dRev, dRep, dRepT, dSizes, dStup, dSNil, dSCons, dSStar, dItems, dRange1, dRange2, dZip, dEnum, dLc, dFor, bName, bTup, bCons, bNil, rdI, rdI0, rdB0, rdEq, rdNe, rdIsN, rdNotN, rdIsT, rdIx, rdIn, rdCat, rdLen, rdMin, rdMax, rdSum, rdSorted, rdAny, rdAll, rdTuple, rdList, isTy, isNon, getS, setS, wipeS, startE, List.map, List.replicate, List.length_cons, List.length_nil, List.append, List.cons_append, List.nil_append, List.append_nil, Nat.sub_self, Nat.reduceSub, Nat.reduceAdd, Bool.not_true, Bool.not_false, encH, encs, atI0, atI1, atI2, atI3, strsOf, intsOf, Option.map_some, intsOf_iD, dq_is_hear, dq_is_least, dq_is_most, dq_is_add, dq_is_middle, dq_is_times, dq_is_part, dq_is_clip, dq_is_from, dq_is_bar, dq_is_row, dq_hear_is, dq_hear_least, dq_hear_most, dq_hear_add, dq_hear_middle, dq_hear_times, dq_hear_part, dq_hear_clip, dq_hear_from, dq_hear_bar, dq_hear_row, dq_least_is, dq_least_hear, dq_least_most, dq_least_add, dq_least_middle, dq_least_times, dq_least_part, dq_least_clip, dq_least_from, dq_least_bar, dq_least_row, dq_most_is, dq_most_hear, dq_most_least, dq_most_add, dq_most_middle, dq_most_times, dq_most_part, dq_most_clip, dq_most_from, dq_most_bar, dq_most_row, dq_add_is, dq_add_hear, dq_add_least, dq_add_most, dq_add_middle, dq_add_times, dq_add_part, dq_add_clip, dq_add_from, dq_add_bar, dq_add_row, dq_middle_is, dq_middle_hear, dq_middle_least, dq_middle_most, dq_middle_add, dq_middle_times, dq_middle_part, dq_middle_clip, dq_middle_from, dq_middle_bar, dq_middle_row, dq_times_is, dq_times_hear, dq_times_least, dq_times_most, dq_times_add, dq_times_middle, dq_times_part, dq_times_clip, dq_times_from, dq_times_bar, dq_times_row, dq_part_is, dq_part_hear, dq_part_least, dq_part_most, dq_part_add, dq_part_middle, dq_part_times, dq_part_clip, dq_part_from, dq_part_bar, dq_part_row, dq_clip_is, dq_clip_hear, dq_clip_least, dq_clip_most, dq_clip_add, dq_clip_middle, dq_clip_times, dq_clip_part, dq_clip_from, dq_clip_bar, dq_clip_row, dq_from_is, dq_from_hear, dq_from_least, dq_from_most, dq_from_add, dq_from_middle, dq_from_times, dq_from_part, dq_from_clip, dq_from_bar, dq_from_row, dq_bar_is, dq_bar_hear, dq_bar_least, dq_bar_most, dq_bar_add, dq_bar_middle, dq_bar_times, dq_bar_part, dq_bar_clip, dq_bar_from, dq_bar_row, dq_row_is, dq_row_hear, dq_row_least, dq_row_most, dq_row_add, dq_row_middle, dq_row_times, dq_row_part, dq_row_clip, dq_row_from, dq_row_bar, dq_none_both, dq_none_falls, dq_none_rises, dq_both_none, dq_both_falls, dq_both_rises, dq_falls_none, dq_falls_both, dq_falls_rises, dq_rises_none, dq_rises_both, dq_rises_falls, dq_wait_rule, dq_wait_house, dq_wait_seen, dq_rule_wait, dq_rule_house, dq_rule_seen, dq_house_wait, dq_house_rule, dq_house_seen, dq_seen_wait, dq_seen_rule, dq_seen_house, di_is, dj_is, dk_is, dl_is, di_hear, dj_hear, dk_hear, dl_hear, di_least, dj_least, dk_least, dl_least, di_most, dj_most, dk_most, dl_most, di_add, dj_add, dk_add, dl_add, di_middle, dj_middle, dk_middle, dl_middle, di_times, dj_times, dk_times, dl_times, di_part, dj_part, dk_part, dl_part, di_clip, dj_clip, dk_clip, dl_clip, di_from, dj_from, dk_from, dl_from, di_bar, dj_bar, dk_bar, dl_bar, di_row, dj_row, dk_row, dl_row, kt_int_int, kt_int_bool, kt_bool_int, kt_bool_bool, kt_tuple_tuple, kt_str_str, kt_int_tuple, kt_str_tuple, kt_tuple_int, kt_tuple_str, kt_NoneType_tuple, kt_str_int, dq_same, decide_true])

theorem p_law_range (k : Nat) (ds : List D) (Φ : D → Prop) (h : r_law_range (k + 1) ds Φ) : w_law_range r_law_parts (r_law_range k) r_law_entries r_law_made (fun _ => Φ .non) Φ (startE 7 ds) := by
  obtain ⟨N, r, rfl, hN, hw, hd, hΦ⟩ := h
  obtain ⟨h, ps⟩ := r
  unfold wf at hw
  unfold dep at hd
  unfold range at hΦ
  unfold w_law_range
  rw [enc_node]
  have hl := hN.1.2.2.1
  have pp : ∀ Ψ : D → Prop, Ψ (.lst (encs ps)) → r_law_parts [encH h (encs ps)] Ψ := fun Ψ q => ⟨_, h, ps, rfl, hw.1, q⟩
  obtain ⟨x, es, ex, eh, ei⟩ := word_of h (encs ps)
  cases hh : isB h with
  | true =>
    cases h <;> first | exact Bool.noConfusion (show false = true from hh) | skip
    rename_i w
    have e := none_of hw.1.1
    subst e
    walk_at "D"
    exact ⟨by decide, hΦ⟩
  | false =>
  cases hb : hearB h with
  | true =>
    cases h <;> first | exact Bool.noConfusion (show false = true from hb) | skip
    rename_i j
    have e := none_of hw.1.1
    subst e
    unfold encN
    walk_at "D"
    rw [atIn (iD_get (g0_some hw.1.2))]
    exact ⟨by decide, hΦ⟩
  | false =>
    by_cases hr : ∃ ws, h = .row ws
    · obtain ⟨ws, rfl⟩ := hr
      obtain ⟨p, rfl⟩ := one_of hw.1.1
      walk_at "D"
      refine pp _ ?_
      unfold wfs at hw
      unfold deps at hd
      walk_at "D"
      unfold lcGo dYes
      walk_at "D"
      refine ⟨N, p, rfl, hN, hw.2.1, by omega, ?_⟩
      unfold lcGo
      unfold pairD
      walk_at "D"
      have q := range_ok hN.1 hw.2.1
      refine ⟨ws, _, _, rfl, q.1, q.2, hw.1.2.1, hw.1.2.2.1, ?_⟩
      have ne := entries_ne (ws := ws) q.1 q.2 hw.1.2.1
      walk_at "D"
      exact ⟨ne, ne, by decide, hΦ⟩
    · have er : decide (x = ("row" : Str)) = false := word_row ex fun ws e => hr ⟨ws, e⟩
      have mk : ∀ (vs : List Int) (Ψ : D → Prop), vs.length = ps.length → (∀ v ∈ vs, 0 ≤ v) → Ψ (.int (made h vs)) → r_law_made [encH h (encs ps), .lst (iD vs)] Ψ := fun vs Ψ l v q => ⟨_, h, ps, vs, rfl, hw.1, l, v, inner_of hh hb, q⟩
      have ok := ranges_ok hN.1 hw.2
      rw [rng_def hh hb (fun ws e => hr ⟨ws, e⟩)] at hΦ
      rw [ex] at pp mk ⊢
      rw [hh] at ei
      rw [hb] at eh
      walk_at "D"
      rw [ei]
      walk_at "D"
      rw [eh]
      walk_at "D"
      refine pp _ ?_
      rw [encs_map]
      walk_at "D"
      refine lc_over enc (fun p => pairD (range (topOf N) p)) ps [] (fun p hp Ψ hΨ => ?_) ?_
      · walk_at "D"
        exact ⟨N, p, rfl, hN, wfs_mem hw.2 hp, by have := deps_mem hp; omega, hΨ⟩
      walk_at "D"
      rw [er]
      walk_at "D"
      have e1 : ps.map (fun p => pairD (range (topOf N) p)) = (ranges (topOf N) ps).map pairD := by rw [ranges_map, List.map_map]; rfl
      rw [e1]
      refine ⟨by decide, ?_⟩
      unfold lcGo
      walk_at "D"
      refine lc_over pairD (fun p => .int p.1) (ranges (topOf N) ps) [] (fun p hp Ψ hΨ => ?_) ?_
      · unfold pairD
        walk_at "D"
        exact hΨ
      rw [List.nil_append, show (ranges (topOf N) ps).map (fun p => D.int p.1) = iD ((ranges (topOf N) ps).map (·.1)) by unfold iD; rw [List.map_map]; rfl]
      refine mk _ _ (by rw [List.length_map, ranges_len]) ok.nn ?_
      unfold lcGo
      walk_at "D"
      refine lc_over pairD (fun p => .int p.2) (ranges (topOf N) ps) [] (fun p hp Ψ hΨ => ?_) ?_
      · unfold pairD
        walk_at "D"
        exact hΨ
      rw [List.nil_append, show (ranges (topOf N) ps).map (fun p => D.int p.2) = iD ((ranges (topOf N) ps).map (·.2)) by unfold iD; rw [List.map_map]; rfl]
      refine mk _ _ (by rw [List.length_map, ranges_len]) ok.nn2 ?_
      unfold lcGo
      walk_at "D"
      exact ⟨by simp, by simp, by decide, hΦ⟩
theorem p_law_words (k : Nat) (ds : List D) (Φ : D → Prop) (h : r_law_words (k + 1) ds Φ) : w_law_words (r_law_range 4) r_law_parts r_law_turn (r_law_words k) (fun _ => Φ .non) Φ (startE 8 ds) := by
  obtain ⟨N, r, s, g, rfl, hg, hN, hw, hd, hk, hbl, hΦ⟩ := h
  have hl := hN.1.2.2.1
  unfold w_law_words
  simp only [dSeq, dAsg, dCall, dVar, dCons, dNil, startE, getS, List.replicate, List.map, List.length_cons, List.length_nil, List.cons_append, List.nil_append, Nat.reduceSub, Nat.reduceAdd]
  refine ⟨N, r, rfl, hN, hw, by omega, ?_⟩
  obtain ⟨h, ps⟩ := r
  unfold wf at hw
  unfold dep at hd
  unfold words at hΦ
  unfold br at hbl
  have er : range (topOf N) (.node h ps) = rng (topOf N) h (ranges (topOf N) ps) := by unfold range; rfl
  rw [er, enc_node]
  generalize hst : (s || (rng (topOf N) h (ranges (topOf N) ps)).1 == (rng (topOf N) h (ranges (topOf N) ps)).2) = st at hΦ
  have pp : ∀ Ψ : D → Prop, Ψ (.lst (encs ps)) → r_law_parts [encH h (encs ps)] Ψ := fun Ψ q => ⟨_, h, ps, rfl, hw.1, q⟩
  have pt : ∀ Ψ : D → Prop, Ψ (.int (trn h (ranges (topOf N) ps))) → r_law_turn [encN N, encH h (encs ps)] Ψ := fun Ψ q => ⟨N, h, ps, rfl, hN, hw.1, hw.2, by omega, q⟩
  obtain ⟨x, es, ex, eh, ei⟩ := word_of h (encs ps)
  unfold pairD
  simp only [bTup, bCons, bName, bNil, setS]
  refine dSet_or (s := s) (c := decide ((rng (topOf N) h (ranges (topOf N) ps)).1 = (rng (topOf N) h (ranges (topOf N) ps)).2)) (fun Ψ q => q) (fun Ψ q => q) ?_
  rw [show decide ((rng (topOf N) h (ranges (topOf N) ps)).1 = (rng (topOf N) h (ranges (topOf N) ps)).2) = ((rng (topOf N) h (ranges (topOf N) ps)).1 == (rng (topOf N) h (ranges (topOf N) ps)).2) from rfl, hst]
  generalize (rng (topOf N) h (ranges (topOf N) ps)).1 = lo
  generalize (rng (topOf N) h (ranges (topOf N) ps)).2 = hi
  cases hb : hearB h with
  | true =>
    cases h <;> first | exact Bool.noConfusion (show false = true from hb) | skip
    rename_i j
    have e := none_of hw.1.1
    subst e
    walk_at "D"
    have hΦ : Φ (.lst [encW (if st then .none else if g = 0 then .both else if g < 0 then .falls else .rises)]) := hΦ
    cases st with
    | true => exact ⟨by decide, hΦ⟩
    | false => rcases hg with rfl | rfl | rfl <;> exact ⟨by decide, hΦ⟩
  | false =>
    have ho : ownW h st g = [] := by cases h <;> first | rfl | exact Bool.noConfusion (show true = false from hb)
    have hob : ownB h = [] := by cases h <;> first | rfl | exact Bool.noConfusion (show true = false from hb)
    rw [ho, List.nil_append] at hΦ
    rw [hob, List.nil_append] at hbl
    rw [hb] at eh
    rw [ex] at pp pt ⊢
    walk_at "D"
    rw [eh]
    walk_at "D"
    refine pp _ ?_
    have ht := trn_cases h (ranges (topOf N) ps)
    generalize trn h (ranges (topOf N) ps) = t at ht hΦ pt
    rw [encs_map]
    walk_at "D"
    refine for_over enc (fun done env => ∃ s5, env = [Slot.im (encN N), Slot.im (.tup (.str x :: es)), Slot.im (.bl st), Slot.im (.int g), Slot.im (.lst ((wordss (topOf N) done st (g * t)).map encW)), s5, Slot.im (.int lo), Slot.im (.int hi)]) ps _ ⟨.no, rfl⟩ ?_ ?_
    · rintro done y rest env C e ⟨s5, rfl⟩ hC
      have hy : y ∈ ps := by rw [e]; simp
      have eb : brs ps = brs done ++ (br y ++ brs rest) := by rw [e, brs_append]; rfl
      have el : (brs ps).length = (brs done).length + ((br y).length + (brs rest).length) := by rw [eb]; simp
      walk_at "D"
      refine pt _ ?_
      walk_at "D"
      refine ⟨.inl ⟨by omega, by omega⟩, N, y, st, g * t, rfl, ?_, hN, wfs_mem hw.2 hy, by have := deps_mem hy; omega, by omega, by omega, ?_⟩
      · rcases hg with rfl | rfl | rfl <;> rcases ht with rfl | rfl | rfl <;> simp
      · refine ⟨by rw [List.length_map, List.length_map, words_len, wordss_len]; omega, hC _ ⟨.im (enc y), ?_⟩⟩
        rw [wordss_append, List.map_append]
        show _ = [_, _, _, _, Slot.im (.lst (_ ++ (words (topOf N) y st (g * t) ++ []).map encW)), _, _, _]
        rw [List.append_nil]
    · rintro env ⟨s5, rfl⟩
      walk_at "D"
      exact hΦ
end NB

/-! SB -/
set_option Elab.async false
set_option linter.all false
set_option maxRecDepth 100000
set_option maxHeartbeats 2000000
namespace NB
open PySem PySem.Spec PyProof.Rows L2
local macro_rules | `(tactic| walk_at "D") => `(tactic| simp only [dSeq, dRet, dNext, dSet, dAsg, dPar, dPar3, dParO1, dParO2, dNew, dFreeze, dNever, dApp, dExt, dIfS, dVar, dC, dOp, dCall, dCons, dNil, dAndV, dOrV, dNotV, dTst, dTAnd, dTOr, dTNot, dIf, dYes, dIx, dEq, dNe, dLt, dLe, dGt, dGe, dAdd, dSub, dMul, dDiv, dMod, dIn, dIsN, dNotN, dIsT, dEqD, dNeD, dCat, dLen, dMin, dMax, dSum, dAny, dAll, dTuple, dList, dSl, dPart, dNoPart, dTup, dLst, dIsi, dNeg, dChain, dRev, dRep, dRepT, dSizes, dStup, dSNil, dSCons, dSStar, dItems, dRange1, dRange2, dZip, dEnum, dLc, dFor, bName, bTup, bCons, bNil, rdI, rdI0, rdB0, rdEq, rdNe, rdIsN, rdNotN, rdIsT, rdIx, rdIn, rdCat, rdLen, rdMin, rdMax, rdSum, rdSorted, rdAny, rdAll, rdTuple, rdList, isTy, isNon, getS, setS, wipeS, startE, List.map, List.replicate, List.length_cons, List.length_nil, List.append, List.cons_append, List.nil_append, List.append_nil, Nat.sub_self, Nat.reduceSub, Nat.reduceAdd, Bool.not_true, Bool.not_false, encH, encs, atI0, atI1, atI2, atI3, strsOf, intsOf, Option.map_some, intsOf_iD, dq_is_hear, dq_is_least, dq_is_most, dq_is_add, dq_is_middle, dq_is_times, dq_is_part, dq_is_clip, dq_is_from, dq_is_bar, dq_is_row, dq_hear_is, dq_hear_least, dq_hear_most, dq_hear_add, dq_hear_middle, dq_hear_times, dq_hear_part, dq_hear_clip, dq_hear_from, dq_hear_bar, dq_hear_row, dq_least_is, dq_least_hear, dq_least_most, dq_least_add, dq_least_middle, dq_least_times, dq_least_part, dq_least_clip, dq_least_from, dq_least_bar, dq_least_row, dq_most_is, dq_most_hear, dq_most_least, dq_most_add, dq_most_middle, dq_most_times, dq_most_part, dq_most_clip, dq_most_from, dq_most_bar, dq_most_row, dq_add_is, dq_add_hear, dq_add_least, dq_add_most, dq_add_middle, dq_add_times, dq_add_part, dq_add_clip, dq_add_from, dq_add_bar, dq_add_row, dq_middle_is, dq_middle_hear, dq_middle_least, dq_middle_most, dq_middle_add, dq_middle_times, dq_middle_part, dq_middle_clip, dq_middle_from, dq_middle_bar, dq_middle_row, dq_times_is, dq_times_hear, dq_times_least, dq_times_most, dq_times_add, dq_times_middle, dq_times_part, dq_times_clip, dq_times_from, dq_times_bar, dq_times_row, dq_part_is, dq_part_hear, dq_part_least, dq_part_most, dq_part_add, dq_part_middle, dq_part_times, dq_part_clip, dq_part_from, dq_part_bar, dq_part_row, dq_clip_is, dq_clip_hear, dq_clip_least, dq_clip_most, dq_clip_add, dq_clip_middle, dq_clip_times, dq_clip_part, dq_clip_from, dq_clip_bar, dq_clip_row, dq_from_is, dq_from_hear, dq_from_least, dq_from_most, dq_from_add, dq_from_middle, dq_from_times, dq_from_part, dq_from_clip, dq_from_bar, dq_from_row, dq_bar_is, dq_bar_hear, dq_bar_least, dq_bar_most, dq_bar_add, dq_bar_middle, dq_bar_times, dq_bar_part, dq_bar_clip, dq_bar_from, dq_bar_row, dq_row_is, dq_row_hear, dq_row_least, dq_row_most, dq_row_add, dq_row_middle, dq_row_times, dq_row_part, dq_row_clip, dq_row_from, dq_row_bar, dq_none_both, dq_none_falls, dq_none_rises, dq_both_none, dq_both_falls, dq_both_rises, dq_falls_none, dq_falls_both, dq_falls_rises, dq_rises_none, dq_rises_both, dq_rises_falls, dq_wait_rule, dq_wait_house, dq_wait_seen, dq_rule_wait, dq_rule_house, dq_rule_seen, dq_house_wait, dq_house_rule, dq_house_seen, dq_seen_wait, dq_seen_rule, dq_seen_house, di_is, dj_is, dk_is, dl_is, di_hear, dj_hear, dk_hear, dl_hear, di_least, dj_least, dk_least, dl_least, di_most, dj_most, dk_most, dl_most, di_add, dj_add, dk_add, dl_add, di_middle, dj_middle, dk_middle, dl_middle, di_times, dj_times, dk_times, dl_times, di_part, dj_part, dk_part, dl_part, di_clip, dj_clip, dk_clip, dl_clip, di_from, dj_from, dk_from, dl_from, di_bar, dj_bar, dk_bar, dl_bar, di_row, dj_row, dk_row, dl_row, kt_int_int, kt_int_bool, kt_bool_int, kt_bool_bool, kt_tuple_tuple, kt_str_str, kt_int_tuple, kt_str_tuple, kt_tuple_int, kt_tuple_str, kt_NoneType_tuple, kt_str_int, dq_same, decide_true])

theorem heard_nn {near far : List Int} (n1 : ∀ j, 0 ≤ g0 near j) (n2 : ∀ j, 0 ≤ g0 far j) : ∀ {bs : List Nat} {ws : List Way}, ∀ v ∈ heardL bs ws near far, 0 ≤ v
  | j :: bs, w :: ws, v, hv => by
    unfold heardL at hv
    rcases List.mem_cons.mp hv with rfl | hv
    · split
      · exact n2 _
      · exact n1 _
    · exact heard_nn n1 n2 v hv
  | [], _, v, hv => by unfold heardL at hv; nomatch hv
  | _ :: _, [], v, hv => by unfold heardL at hv; nomatch hv
mutual
theorem br_lt {n : Nat} : ∀ {r : Rule} {j : Nat}, wf n r → j ∈ br r → j < n
  | .node h ps, j, hw, hj => by
    unfold wf at hw
    unfold br at hj
    rcases List.mem_append.mp hj with hj | hj
    · cases h <;> simp only [ownB, List.not_mem_nil] at hj
      rename_i i
      rw [List.mem_singleton] at hj
      rw [hj]; exact hw.1.2
    · exact brs_lt hw.2 hj
theorem brs_lt {n : Nat} : ∀ {ps : List Rule} {j : Nat}, wfs n ps → j ∈ brs ps → j < n
  | [], j, _, hj => by unfold brs at hj; nomatch hj
  | p :: ps, j, hw, hj => by
    unfold wfs at hw
    unfold brs at hj
    rcases List.mem_append.mp hj with hj | hj
    · exact br_lt hw.1 hj
    · exact brs_lt hw.2 hj
end
theorem p_law_next_ends (ds : List D) (Φ : D → Prop) (h : r_law_next_ends ds Φ) : w_law_next_ends (r_law_branches 4) r_law_wants (fun _ => Φ .non) Φ (startE 13 ds) := by
  obtain ⟨N, E, rfl, hN, hE, hΦ⟩ := h
  have hl := hN.1.2.2.1
  have hl2 := hN.1.1
  have e2 : ∀ X : En, encE X = .tup [.tup (iD X.1), .tup (iD X.2)] := fun X => rfl
  unfold w_law_next_ends
  simp only [dSeq, dNew, startE, List.map, List.replicate, List.length_cons, List.length_nil, List.cons_append, List.nil_append, Nat.reduceSub, Nat.reduceAdd, setS, dFor, dItems, dLst, dCons, dNil, dVar, getS, dRev, e2, List.reverse_cons, List.reverse_nil]
  refine ⟨by decide, ?_⟩
  refine for_over encE (fun done env => ∃ s4 s5 s6 s7 s8 s9 s10 s11 s12, env = [Slot.im (encN N), Slot.im (wordsL N), Slot.im (encE E), Slot.ow (done.map fun X => D.tup (iD (stepN (topOf N) N.1 N.2 X.1 X.2))), s4, s5, s6, s7, s8, s9, s10, s11, s12] ∧ (∀ p, s6 ≠ .ow p)) [E, (E.2, E.1)] _ ⟨_, _, _, _, _, _, _, _, _, rfl, fun p e => by cases e⟩ ?_ ?_
  · rintro done X rest env C e ⟨s4, s5, s6, s7, s8, s9, s10, s11, s12, rfl, ns⟩ hC
    have hX : X = E ∨ X = (E.2, E.1) := by
      have : X ∈ [E, (E.2, E.1)] := by rw [e]; simp
      simpa using this
    have l1 : X.1.length = N.1.length := by rcases hX with rfl | rfl <;> first | exact hE.1 | exact hE.2.1
    have l2 : X.2.length = N.1.length := by rcases hX with rfl | rfl <;> first | exact hE.1 | exact hE.2.1
    have b1 : ∀ j, 0 ≤ g0 E.1 j := fun j => (hE.2.2 j).1
    have b2 : ∀ j, 0 ≤ g0 E.2 j := fun j => by have := hE.2.2 j; omega
    have n1 : ∀ j, 0 ≤ g0 X.1 j := by rcases hX with rfl | rfl <;> first | exact b1 | exact b2
    have n2 : ∀ j, 0 ≤ g0 X.2 j := by rcases hX with rfl | rfl <;> first | exact b1 | exact b2
    have hdl : done.length ≤ 1 := by
      have := congrArg List.length e
      simp at this; omega
    have eN : encN N = .tup [.tup (iD N.1), .tup (encs N.2)] := rfl
    rw [show encE X = .tup [.tup (iD X.1), .tup (iD X.2)] from rfl, eN]
    walk_at "D"
    intro _
    rw [encs_len]
    refine ⟨by omega, by omega, ?_⟩
    rw [show ((N.2.length : Nat) : Int).toNat = N.2.length from rfl, range0, ← hl2]
    refine for_over (fun i : Nat => D.int (i : Int)) (fun dn env => ∃ s7 s8 s9 s10 s11 s12, env = [Slot.im (encN N), Slot.im (wordsL N), Slot.im (encE E), Slot.ow (done.map fun X => D.tup (iD (stepN (topOf N) N.1 N.2 X.1 X.2))), Slot.im (.tup (iD X.1)), Slot.im (.tup (iD X.2)), Slot.ow (dn.map fun i => D.int (g0 (stepN (topOf N) N.1 N.2 X.1 X.2) i)), s7, s8, s9, s10, s11, s12]) (List.range N.1.length) _ ⟨s7, s8, s9, s10, s11, s12, rfl⟩ ?_ ?_
    · rintro dn i rst env C' e' ⟨s7, s8, s9, s10, s11, s12, rfl⟩ hC'
      obtain ⟨_, hi, _⟩ := range_split e'
      obtain ⟨t, r, e1, e2, e3⟩ := ways_at hN.1 hi
      have hr : r ∈ N.2 := List.mem_of_getElem? e2
      have a2 : L2.atI (encs N.2) (i : Int) = some (enc r) := atIn (by rw [encs_map, List.getElem?_map, e2]; rfl)
      have a3 : L2.atI ((waysN N).map fun ws => D.lst (ws.map encW)) (i : Int) = some (.lst ((waysR (topOf N) t r).map encW)) := atIn (by rw [List.getElem?_map, e3]; rfl)
      have wl := waysR_len (topOf N) t r
      have hbr := hN.2 r hr
      have hwf := wfs_get hN.1.2.2.2.2.1 e2
      rw [eN, show wordsL N = .lst ((waysN N).map fun ws => D.lst (ws.map encW)) from rfl]
      walk_at "D"
      rw [a2]
      refine ⟨_, r, rfl, hwf, hN.1.2.2.2.2.2 r hr, hbr, ?_⟩
      walk_at "D"
      intro _
      rw [natD_len]
      refine ⟨by omega, by omega, ?_⟩
      rw [show (((br r).length : Nat) : Int).toNat = (br r).length from rfl, range0]
      refine lc_over (fun k : Nat => D.int (k : Int)) (fun k : Nat => .tup [.int (((br r).getD k 0 : Nat) : Int), encW ((waysR (topOf N) t r).getD k .none)]) (List.range (br r).length) [] (fun k hk Ψ hΨ => ?_) ?_
      · have hk := List.mem_range.mp hk
        walk_at "D"
        rw [a3]
        have q1 : L2.atI (natD (br r)) (k : Int) = some (.int (((br r).getD k 0 : Nat) : Int)) := atIn (by
          unfold natD
          rw [List.getElem?_map, List.getD_eq_getElem?_getD, List.getElem?_eq_getElem hk]; rfl)
        have q2 : L2.atI ((waysR (topOf N) t r).map encW) (k : Int) = some (encW ((waysR (topOf N) t r).getD k .none)) := atIn (by
          rw [List.getElem?_map, List.getD_eq_getElem?_getD, List.getElem?_eq_getElem (show k < (waysR (topOf N) t r).length by omega)]; rfl)
        walk_at "D"
        rw [q1]
        walk_at "D"
        rw [q2]
        exact ⟨by decide, hΨ⟩
      rw [List.nil_append]
      walk_at "D"
      refine lc_over (fun k : Nat => D.tup [.int (((br r).getD k 0 : Nat) : Int), encW ((waysR (topOf N) t r).getD k .none)]) (fun k : Nat => .int (g0 (heardL (br r) (waysR (topOf N) t r) X.1 X.2) k)) (List.range (br r).length) [] (fun k hk Ψ hΨ => ?_) ?_
      · have hk := List.mem_range.mp hk
        have g1 : (br r)[k]? = some ((br r).getD k 0) := by rw [List.getD_eq_getElem?_getD, List.getElem?_eq_getElem hk]; rfl
        have g2 : (waysR (topOf N) t r)[k]? = some ((waysR (topOf N) t r).getD k .none) := by rw [List.getD_eq_getElem?_getD, List.getElem?_eq_getElem (show k < (waysR (topOf N) t r).length by omega)]; rfl
        rw [heardL_get g1 g2] at hΨ
        have hj : (br r).getD k 0 < N.1.length := br_lt hwf (List.mem_of_getElem? g1)
        have y1 : L2.atI (iD X.1) (((br r).getD k 0 : Nat) : Int) = some (.int (g0 X.1 ((br r).getD k 0))) := atIn (iD_get (g0_some (by omega)))
        have y2 : L2.atI (iD X.2) (((br r).getD k 0 : Nat) : Int) = some (.int (g0 X.2 ((br r).getD k 0))) := atIn (iD_get (g0_some (by omega)))
        generalize (waysR (topOf N) t r).getD k .none = w at hΨ ⊢
        cases w <;> (unfold encW; walk_at "D"; first | (rw [y1]; exact hΨ) | (rw [y2]; exact hΨ))
      rw [List.nil_append, range_g0 (heardL_len _ _ _ _ wl.symm)]
      refine ⟨_, N, i, t, r, _, rfl, e1, e2, hwf, hN.1.2.2.2.2.2 r hr, heard_nn n1 n2, heardL_len _ _ _ _ wl.symm, hbr, ?_⟩
      have hdn : dn.length ≤ N.1.length := by
        have := congrArg List.length e'
        simp at this; omega
      refine ⟨by rw [List.length_map]; omega, hC' _ ⟨.im (.int (i : Int)), .im (.lst (natD (br r))), .im (.lst ((List.range (br r).length).map fun k => D.tup [.int (((br r).getD k 0 : Nat) : Int), encW ((waysR (topOf N) t r).getD k .none)])), s10, s11, s12, ?_⟩⟩
      rw [List.map_append]
      show _ = [_, _, _, _, _, _, Slot.ow (_ ++ [D.int (g0 (stepN (topOf N) N.1 N.2 X.1 X.2) i)]), _, _, _, _, _, _]
      rw [stepN_get e1 e2]
      rfl
    · rintro env ⟨s7, s8, s9, s10, s11, s12, rfl⟩
      walk_at "D"
      rw [range_g0 (stepN_len hl2)]
      refine ⟨by rw [List.length_map]; omega, hC _ ⟨.im (.tup (iD X.1)), .im (.tup (iD X.2)), .im (.lst (iD (stepN (topOf N) N.1 N.2 X.1 X.2))), s7, s8, s9, s10, s11, s12, ?_, fun p e => by cases e⟩⟩
      rw [List.map_append]
      rfl
  · rintro env ⟨s4, s5, s6, s7, s8, s9, s10, s11, s12, rfl, ns⟩
    walk_at "D"
    exact hΦ
theorem p_law_led (ds : List D) (Φ : D → Prop) (h : r_law_led ds Φ) : w_law_led r_law_next_ends (fun _ => Φ .non) Φ (startE 7 ds) := by
  obtain ⟨N, E, rfl, hN, ow, hE, hC, hΦ⟩ := h
  have owp := oneWay_of hN.1 ow
  have step : ∀ {f : Nat}, next N (it N f E) ≠ it N f E → mGap (it N (f + 1) E) < mGap (it N f E) := fun {f} ne =>
    gap_fall (it_ok hN.1 owp hE f) (it_ok hN.1 owp hE (f + 1)) (it_dec hN.1 owp hE hC (Nat.le_succ f)) ne
  unfold w_law_led
  walk_at "D"
  refine ⟨by decide, ?_⟩
  refine ⟨fun env => ∃ (f : Nat) (g : Int) (b : Bool) (s6 : Slot), env = [Slot.im (encN N), Slot.im (wordsL N), Slot.im (encE (it N f E)), Slot.im .non, Slot.im (.int g), Slot.im (.bl b), s6] ∧ (b = false → next N (it N f E) = it N f E), fun env => match env with | [_, _, .im d, _, _, .im (.bl b), _] => if b then ofE mGap d + 1 else 0 | _ => 0, ⟨0, 0, true, .no, rfl, fun e => Bool.noConfusion e⟩, ?_⟩
  rintro env ⟨f, g, b, s6, rfl, hf⟩
  cases b with
  | false =>
    walk_at "D"
    exact ⟨by decide, hΦ f g (hf rfl)⟩
  | true =>
    walk_at "D"
    refine ⟨N, _, rfl, hN, it_ok hN.1 owp hE f, ?_⟩
    refine ⟨okD_encE _, okD_encE _, fun b hb => ?_⟩
    cases b with
    | true =>
      have ne : next N (it N f E) ≠ it N f E := fun e => hb.mp rfl (by rw [e])
      refine ⟨⟨f + 1, _, true, _, rfl, fun e => Bool.noConfusion e⟩, ?_⟩
      show ofE mGap (encE (next N (it N f E))) + 1 < ofE mGap (encE _) + 1
      rw [ofE_enc, ofE_enc]
      have := step ne
      show mGap (it N (f + 1) E) + 1 < _
      omega
    | false =>
      have e : next N (it N f E) = it N f E := by
        have h1 : ¬ ¬ encE (next N (it N f E)) = encE (it N f E) := fun z => Bool.noConfusion (hb.mpr z)
        exact encE_inj.mp (Classical.not_not.mp h1)
      refine ⟨⟨f, g + 0, false, .im (encE (it N f E)), ?_, fun _ => e⟩, Nat.succ_pos _⟩
      rw [e]
theorem p_law_closed (ds : List D) (Φ : D → Prop) (h : r_law_closed ds Φ) : w_law_closed r_law_next_ends (fun _ => Φ .non) Φ (startE 9 ds) := by
  obtain ⟨N, E, rfl, hN, ow, hE, hΦ⟩ := h
  have owp := oneWay_of hN.1 ow
  unfold w_law_closed
  walk_at "D"
  refine ⟨fun env => ∃ (X : En) (b : Bool) (s4 s5 s6 s7 s8 : Slot), env = [Slot.im (encN N), Slot.im (wordsL N), Slot.im (encE X), Slot.im (.bl b), s4, s5, s6, s7, s8] ∧ okE N X ∧ Within E X ∧ (b = false → Cl N X), fun env => match env with | [_, _, .im d, .im (.bl b), _, _, _, _, _] => if b then ofE (mHull N) d + 1 else 0 | _ => 0, ⟨E, true, .no, .no, .no, .no, .no, rfl, hE, Within.refl _, fun e => Bool.noConfusion e⟩, ?_⟩
  rintro env ⟨X, b, s4, s5, s6, s7, s8, rfl, hX, wX, hc⟩
  cases b with
  | false =>
    walk_at "D"
    exact hΦ X hX wX (hc rfl)
  | true =>
    have hY := hull_ok hX (next_ok hN.1 owp hX)
    walk_at "D"
    refine ⟨N, X, rfl, hN, hX, ?_⟩
    unfold encE
    walk_at "D"
    rw [zip_iD, zip_iD]
    refine lc_over pairD (fun p => .int (min p.1 p.2)) _ [] (fun p hp Ψ hΨ => ?_) ?_
    · unfold pairD
      walk_at "D"
      exact hΨ
    rw [List.nil_append, zip_min]
    walk_at "D"
    refine lc_over pairD (fun p => .int (max p.1 p.2)) _ [] (fun p hp Ψ hΨ => ?_) ?_
    · unfold pairD
      walk_at "D"
      exact hΨ
    rw [List.nil_append, zip_max]
    walk_at "D"
    refine ⟨by decide, okD_encE (hull2 X (next N X)), okD_encE X, fun b hb => ?_⟩
    have hb : b = true ↔ ¬ encE (hull2 X (next N X)) = encE X := hb
    cases b with
    | true =>
      have ne : hull2 X (next N X) ≠ X := fun e => hb.mp rfl (by rw [e])
      refine ⟨⟨hull2 X (next N X), true, _, _, _, _, _, rfl, hY.1, wX.trans hY.2.1, fun e => Bool.noConfusion e⟩, ?_⟩
      show ofE (mHull N) (encE (hull2 X (next N X))) + 1 < ofE (mHull N) (encE _) + 1
      rw [ofE_enc, ofE_enc]
      have := hull_fall hX hY.1 hY.2.1 ne
      omega
    | false =>
      have e : hull2 X (next N X) = X := by
        have h1 : ¬ ¬ encE (hull2 X (next N X)) = encE X := fun z => Bool.noConfusion (hb.mpr z)
        exact encE_inj.mp (Classical.not_not.mp h1)
      refine ⟨⟨hull2 X (next N X), false, _, _, _, _, _, rfl, hY.1, wX.trans hY.2.1, fun _ => ?_⟩, Nat.succ_pos _⟩
      have := hY.2.2
      rw [e] at this ⊢
      exact this
end NB

/-! SC -/
set_option Elab.async false
set_option linter.all false
set_option maxRecDepth 100000
set_option maxHeartbeats 2000000
namespace NB
open PySem PySem.Spec PyProof.Rows L2
local macro_rules | `(tactic| walk_at "D") => `(tactic| simp only [dSeq, dRet, dNext, dSet, dAsg, dPar, dPar3, dParO1, dParO2, dNew, dFreeze, dNever, dApp, dExt, dIfS, dVar, dC, dOp, dCall, dCons, dNil, dAndV, dOrV, dNotV, dTst, dTAnd, dTOr, dTNot, dIf, dYes, dIx, dEq, dNe, dLt, dLe, dGt, dGe, dAdd, dSub, dMul, dDiv, dMod, dIn, dIsN, dNotN, dIsT, dEqD, dNeD, dCat, dLen, dMin, dMax, dSum, dAny, dAll, dTuple, dList, dSl, dPart, dNoPart, dTup, dLst, dIsi, dNeg, dChain, dRev, dRep, dRepT, dSizes, dStup, dSNil, dSCons, dSStar, dItems, dRange1, dRange2, dZip, dEnum, dLc, dFor, bName, bTup, bCons, bNil, rdI, rdI0, rdB0, rdEq, rdNe, rdIsN, rdNotN, rdIsT, rdIx, rdIn, rdCat, rdLen, rdMin, rdMax, rdSum, rdSorted, rdAny, rdAll, rdTuple, rdList, isTy, isNon, getS, setS, wipeS, startE, List.map, List.replicate, List.length_cons, List.length_nil, List.append, List.cons_append, List.nil_append, List.append_nil, Nat.sub_self, Nat.reduceSub, Nat.reduceAdd, Bool.not_true, Bool.not_false, encH, encs, atI0, atI1, atI2, atI3, strsOf, intsOf, Option.map_some, intsOf_iD, dq_is_hear, dq_is_least, dq_is_most, dq_is_add, dq_is_middle, dq_is_times, dq_is_part, dq_is_clip, dq_is_from, dq_is_bar, dq_is_row, dq_hear_is, dq_hear_least, dq_hear_most, dq_hear_add, dq_hear_middle, dq_hear_times, dq_hear_part, dq_hear_clip, dq_hear_from, dq_hear_bar, dq_hear_row, dq_least_is, dq_least_hear, dq_least_most, dq_least_add, dq_least_middle, dq_least_times, dq_least_part, dq_least_clip, dq_least_from, dq_least_bar, dq_least_row, dq_most_is, dq_most_hear, dq_most_least, dq_most_add, dq_most_middle, dq_most_times, dq_most_part, dq_most_clip, dq_most_from, dq_most_bar, dq_most_row, dq_add_is, dq_add_hear, dq_add_least, dq_add_most, dq_add_middle, dq_add_times, dq_add_part, dq_add_clip, dq_add_from, dq_add_bar, dq_add_row, dq_middle_is, dq_middle_hear, dq_middle_least, dq_middle_most, dq_middle_add, dq_middle_times, dq_middle_part, dq_middle_clip, dq_middle_from, dq_middle_bar, dq_middle_row, dq_times_is, dq_times_hear, dq_times_least, dq_times_most, dq_times_add, dq_times_middle, dq_times_part, dq_times_clip, dq_times_from, dq_times_bar, dq_times_row, dq_part_is, dq_part_hear, dq_part_least, dq_part_most, dq_part_add, dq_part_middle, dq_part_times, dq_part_clip, dq_part_from, dq_part_bar, dq_part_row, dq_clip_is, dq_clip_hear, dq_clip_least, dq_clip_most, dq_clip_add, dq_clip_middle, dq_clip_times, dq_clip_part, dq_clip_from, dq_clip_bar, dq_clip_row, dq_from_is, dq_from_hear, dq_from_least, dq_from_most, dq_from_add, dq_from_middle, dq_from_times, dq_from_part, dq_from_clip, dq_from_bar, dq_from_row, dq_bar_is, dq_bar_hear, dq_bar_least, dq_bar_most, dq_bar_add, dq_bar_middle, dq_bar_times, dq_bar_part, dq_bar_clip, dq_bar_from, dq_bar_row, dq_row_is, dq_row_hear, dq_row_least, dq_row_most, dq_row_add, dq_row_middle, dq_row_times, dq_row_part, dq_row_clip, dq_row_from, dq_row_bar, dq_none_both, dq_none_falls, dq_none_rises, dq_both_none, dq_both_falls, dq_both_rises, dq_falls_none, dq_falls_both, dq_falls_rises, dq_rises_none, dq_rises_both, dq_rises_falls, dq_wait_rule, dq_wait_house, dq_wait_seen, dq_rule_wait, dq_rule_house, dq_rule_seen, dq_house_wait, dq_house_rule, dq_house_seen, dq_seen_wait, dq_seen_rule, dq_seen_house, di_is, dj_is, dk_is, dl_is, di_hear, dj_hear, dk_hear, dl_hear, di_least, dj_least, dk_least, dl_least, di_most, dj_most, dk_most, dl_most, di_add, dj_add, dk_add, dl_add, di_middle, dj_middle, dk_middle, dl_middle, di_times, dj_times, dk_times, dl_times, di_part, dj_part, dk_part, dl_part, di_clip, dj_clip, dk_clip, dl_clip, di_from, dj_from, dk_from, dl_from, di_bar, dj_bar, dk_bar, dl_bar, di_row, dj_row, dk_row, dl_row, kt_int_int, kt_int_bool, kt_bool_int, kt_bool_bool, kt_tuple_tuple, kt_str_str, kt_int_tuple, kt_str_tuple, kt_tuple_int, kt_tuple_str, kt_NoneType_tuple, kt_str_int, dq_same, decide_true])

theorem p_law_of (ds : List D) (Φ : D → Prop) (h : r_law_of ds Φ) : w_law_of r_law_any (fun _ => Φ .non) Φ (startE 2 ds) := by
  obtain ⟨xs, rfl, h1, h2, hΦ⟩ := h
  unfold w_law_of
  walk_at "D"
  intro _
  refine ⟨_, rfl, by omega, by omega, fun x x0 x1 => ?_⟩
  have e : x = ((x.toNat : Nat) : Int) := by omega
  have hlt : x.toNat < xs.length := by omega
  rw [e]
  walk_at "D"
  rw [atIn (List.getElem?_eq_getElem hlt)]
  exact hΦ _ (List.getElem_mem hlt)
theorem brs_le {M : Nat} : ∀ {ps : List Rule}, (∀ r ∈ ps, (br r).length ≤ M) → (brs ps).length ≤ ps.length * M
  | [], _ => by unfold brs; simp
  | p :: ps, h => by
    have a := h p List.mem_cons_self
    have b := brs_le (ps := ps) fun r hr => h r (List.mem_cons_of_mem _ hr)
    show (br p ++ brs ps).length ≤ (ps.length + 1) * M
    rw [List.length_append, Nat.add_mul, Nat.one_mul]
    omega
theorem deps_le {M : Nat} : ∀ {ps : List Rule}, (∀ r ∈ ps, dep r ≤ M) → deps ps ≤ M
  | [], _ => by unfold deps; omega
  | p :: ps, h => by
    have a := h p List.mem_cons_self
    have b := deps_le (ps := ps) fun r hr => h r (List.mem_cons_of_mem _ hr)
    unfold deps
    omega
theorem upRs_all : ∀ {ps : List Rule}, (∀ r ∈ ps, upR r) → upRs ps
  | [], _ => by unfold upRs; trivial
  | p :: ps, h => by
    unfold upRs
    exact ⟨h p List.mem_cons_self, upRs_all fun r hr => h r (List.mem_cons_of_mem _ hr)⟩
/-- drawn parts -/
def Drawn (n deep : Nat) (a : Bool) (r : Rule) : Prop := wf n r ∧ dep r ≤ deep + 1 ∧ (br r).length ≤ 3 ^ deep ∧ (a = false → upR r)
theorem drawn_node {n deep : Nat} {a : Bool} {h : Head} {ps : List Rule} (ok : okH n h ps.length) (hp : ∀ r ∈ ps, Drawn n deep a r) (l3 : ps.length ≤ 3) (hb : ownB h = []) (ur : ∀ ws, h = .row ws → a = false → rising ws = true) :
    Drawn n (deep + 1) a (.node h ps) := by
  refine ⟨by unfold wf; exact ⟨ok, wfs_all fun r hr => (hp r hr).1⟩, ?_, ?_, fun ha => ?_⟩
  · have := deps_le (M := deep + 1) fun r hr => (hp r hr).2.1
    unfold dep; omega
  · have h1 := brs_le (M := 3 ^ deep) fun r hr => (hp r hr).2.2.1
    unfold br
    rw [hb, List.nil_append, Nat.pow_succ]
    have := Nat.mul_le_mul_right (3 ^ deep) l3
    omega
  · unfold upR
    exact ⟨fun ws e => ur ws e ha, upRs_all fun r hr => (hp r hr).2.2.2 ha⟩
theorem drawn_is {n deep : Nat} {a : Bool} {w : Int} (h0 : 0 ≤ w) (h1 : w ≤ 1000) : Drawn n deep a (.node (.is w) []) := by
  refine ⟨by unfold wf wfs; exact ⟨⟨rfl, h0, h1⟩, trivial⟩, by unfold dep deps; omega, by show ([] : List Nat).length ≤ _; simp, fun _ => by unfold upR upRs; exact ⟨fun ws e => (nomatch e), trivial⟩⟩
theorem drawn_hear {n deep : Nat} {a : Bool} {j : Nat} (h1 : j < n) : Drawn n deep a (.node (.hear j) []) := by
  refine ⟨by unfold wf wfs; exact ⟨⟨rfl, h1⟩, trivial⟩, by unfold dep deps; omega, by show 1 ≤ 3 ^ deep; exact Nat.one_le_pow _ _ (by decide), fun _ => by unfold upR upRs; exact ⟨fun ws e => (nomatch e), trivial⟩⟩
theorem encs_of (P : Rule → Prop) : ∀ {ys : List D}, (∀ y ∈ ys, ∃ r, P r ∧ y = enc r) → ∃ ps : List Rule, ys = encs ps ∧ ∀ r ∈ ps, P r
  | [], _ => ⟨[], rfl, fun _ h => nomatch h⟩
  | y :: ys, h => by
    obtain ⟨r, h1, h2⟩ := h y List.mem_cons_self
    obtain ⟨ps, e, q⟩ := encs_of P (ys := ys) fun z hz => h z (List.mem_cons_of_mem _ hz)
    refine ⟨r :: ps, by rw [h2, e]; rfl, fun x hx => ?_⟩
    rcases List.mem_cons.mp hx with rfl | hx
    · exact h1
    · exact q x hx
theorem ints_of (P : Int → Prop) : ∀ {ys : List D}, (∀ y ∈ ys, ∃ r, P r ∧ y = .int r) → ∃ ps : List Int, ys = iD ps ∧ ∀ r ∈ ps, P r
  | [], _ => ⟨[], rfl, fun _ h => nomatch h⟩
  | y :: ys, h => by
    obtain ⟨r, h1, h2⟩ := h y List.mem_cons_self
    obtain ⟨ps, e, q⟩ := ints_of P (ys := ys) fun z hz => h z (List.mem_cons_of_mem _ hz)
    refine ⟨r :: ps, by rw [h2, e]; rfl, fun x hx => ?_⟩
    rcases List.mem_cons.mp hx with rfl | hx
    · exact h1
    · exact q x hx
/-- a comprehension over a range whose elements are drawn -/
theorem lc_draw {b : DB} {te : DE} {env : List Slot} {Φ : D → Prop} {n : Nat} (P : D → Prop) (hs : ∀ (i : Nat), i < n → ∀ Ψ : D → Prop, (∀ y, P y → Ψ y) → b (.int (i : Int)) env fun env' => te env' Ψ)
    (h : ∀ ys : List D, ys.length = n → (∀ y ∈ ys, P y) → Φ (.lst ys)) : lcGo b dYes te env Φ (rangeD 0 n) [] := by
  rw [range0]
  refine lc_over_all (fun i : Nat => D.int (i : Int)) (fun _ y => P y) (List.range n) [] (fun i hi Ψ hΨ => hs i (List.mem_range.mp hi) Ψ hΨ) fun ys hl hP => ?_
  refine h ys (by simpa using hl) fun y hy => ?_
  obtain ⟨i, hi, e⟩ := List.mem_iff_getElem.mp hy
  have hi2 : i < n := by simpa [hl] using hi
  exact hP i i y (List.getElem?_range hi2) (by rw [List.getElem?_eq_getElem hi, e])
theorem sorted_rising : ∀ {xs : List Int}, List.Pairwise (fun x1 x2 => x1 ≤ x2) xs → rising xs = true
  | [], _ => rfl
  | [_], _ => rfl
  | a :: b :: r, h => by
    rw [List.pairwise_cons] at h
    show (decide (a ≤ b) && rising (b :: r)) = true
    rw [Bool.and_eq_true]
    exact ⟨decide_eq_true (h.1 b List.mem_cons_self), sorted_rising h.2⟩
theorem set_form {env : List Slot} {N : List Slot → Prop} {R : D → Prop} {deep : Nat} (h0 : getS env 0 = .im .deal) (h3 : getS env 3 = .im (.int (deep : Int))) (h : ∀ f : Int, 0 ≤ f → f < 14 → (deep = 0 → f < 4) → N (setS env 5 (.im (.int f)))) :
    dSet 5 (dIf (dTst (dGt (dVar 3) (dC (.int 0)))) (dCall r_law_any (dCons (dVar 0) (dCons (dC (.int 14)) dNil))) (dCall r_law_any (dCons (dVar 0) (dCons (dC (.int 4)) dNil)))) N R env := by
  unfold dSet dIf dTst dGt dCall dOp
  simp only [dVar, h0, h3, dC, dCons, dNil, rdB0]
  by_cases c : (0 : Int) < (deep : Int)
  · rw [decide_eq_true c]
    exact ⟨14, rfl, by decide, by decide, fun x x0 x1 => h x x0 x1 (fun e => by omega)⟩
  · rw [decide_eq_false c]
    exact ⟨4, rfl, by decide, by decide, fun x x0 x1 => h x x0 (by omega) (fun e => x1)⟩
theorem p_law_rule (k : Nat) (ds : List D) (Φ : D → Prop) (h : r_law_rule (k + 1) ds Φ) : w_law_rule r_law_any (r_law_rule k) r_law_of (fun _ => Φ .non) Φ (startE 11 ds) := by
  obtain ⟨n, deep, a, rfl, n1, n2, hd, hd3, hΦ⟩ := h
  have fin : ∀ r, Drawn n deep a r → Φ (enc r) := fun r q => hΦ r q.1 q.2.1 q.2.2.1 q.2.2.2
  have draw : ∀ (b : Int) (Ψ : D → Prop), 1 ≤ b → b ≤ 100000 → (∀ x : Int, 0 ≤ x → x < b → Ψ (.int x)) → r_law_any [.deal, .int b] Ψ := fun b Ψ h1 h2 q => ⟨b, rfl, h1, h2, q⟩
  unfold w_law_rule
  unfold dSeq
  refine set_form (deep := deep) rfl rfl fun f f0 f1 f2 => ?_
  walk_at "D"
  by_cases c0 : f = 0
  · rw [decide_eq_true c0]
    refine draw _ _ (by decide) (by decide) fun x x0 x1 => ⟨by decide, fin (.node (.is x) []) (drawn_is x0 (by omega))⟩
  rw [decide_eq_false c0]
  by_cases c4 : f < 4
  · rw [decide_eq_true c4]
    refine draw _ _ (by omega) (by omega) fun x x0 x1 => ⟨by decide, ?_⟩
    have := fin (.node (.hear x.toNat) []) (drawn_hear (by omega))
    rw [show x = ((x.toNat : Nat) : Int) by omega]
    exact this
  rw [decide_eq_false c4]
  obtain ⟨d', rfl⟩ : ∃ d', deep = d' + 1 := ⟨deep - 1, by have := f2; omega⟩
  have ed : ((d' + 1 : Nat) : Int) - 1 = (d' : Int) := by omega
  have sub : ∀ Ψ : D → Prop, (∀ r, Drawn n d' a r → Ψ (enc r)) → r_law_rule k [.deal, .int (n : Int), .int 4, .int (d' : Int), .bl a] Ψ := fun Ψ q => ⟨n, d', a, rfl, n1, n2, by omega, by omega, fun r h1 h2 h3 h4 => q r ⟨h1, h2, h3, h4⟩⟩
  rw [ed]
  by_cases c8 : f < 8
  · rw [decide_eq_true c8]
    refine draw _ _ (by decide) (by decide) fun x x0 x1 => ?_
    walk_at "D"
    refine ⟨by omega, by omega, ?_⟩
    refine lc_draw (fun y => ∃ r, Drawn n d' a r ∧ y = enc r) (fun i hi Ψ hΨ => ?_) fun ys hl hP => ?_
    · walk_at "D"
      rw [ed]
      exact sub _ fun r q => hΨ _ ⟨r, q, rfl⟩
    obtain ⟨ps, rfl, hps⟩ := encs_of _ hP
    rw [encs_len] at hl
    walk_at "D"
    refine ⟨by decide, _, rfl, by decide, by decide, fun y hy => ⟨by decide, ?_⟩⟩
    have hy : y = .str "least" ∨ y = .str "most" ∨ y = .str "add" := by simpa using hy
    rcases hy with rfl | rfl | rfl
    · exact fin (.node .least ps) (drawn_node ⟨by omega, by omega⟩ hps (by omega) rfl (fun ws e => nomatch e))
    · exact fin (.node .most ps) (drawn_node ⟨by omega, by omega⟩ hps (by omega) rfl (fun ws e => nomatch e))
    · exact fin (.node .add ps) (drawn_node ⟨by omega, by omega⟩ hps (by omega) rfl (fun ws e => nomatch e))
  rw [decide_eq_false c8]
  by_cases cm : f = 8 ∧ d' = 0
  · obtain ⟨rfl, rfl⟩ := cm
    have e1 : decide (((0 + 1 : Nat) : Int) = 1) = true := decide_eq_true rfl
    rw [e1]
    walk_at "D"
    refine ⟨by decide, by decide, by decide, ?_⟩
    refine lc_draw (n := 3) (fun y => ∃ r, Drawn n 0 a r ∧ y = enc r) (fun i hi Ψ hΨ => ?_) fun ys hl hP => ?_
    · walk_at "D"
      exact sub _ fun r q => hΨ _ ⟨r, q, rfl⟩
    obtain ⟨ps, rfl, hps⟩ := encs_of _ hP
    rw [encs_len] at hl
    walk_at "D"
    refine ⟨?_, fin (.node .middle ps) (drawn_node hl hps (by omega) rfl (fun ws e => nomatch e))⟩
    rw [encs_len]; omega
  have cm2 : (match decide (f = 8) with | true => decide (((d' + 1 : Nat) : Int) = 1) | false => false) = false := by
    by_cases c1 : f = 8
    · rw [decide_eq_true c1]
      exact decide_eq_false (by omega)
    · rw [decide_eq_false c1]
  have inn : ∀ G : Prop, ∀ Z : Prop, G → (match decide (f = 8) with | true => (match decide (((d' + 1 : Nat) : Int) = 1) with | true => Z | false => G) | false => G) := by
    intro G Z g
    by_cases c1 : f = 8
    · rw [decide_eq_true c1, decide_eq_false (show ¬ ((d' + 1 : Nat) : Int) = 1 by omega)]; exact g
    · rw [decide_eq_false c1]; exact g
  refine inn _ _ ?_
  clear inn
  refine sub _ fun r hr => ?_
  have hps : ∀ q ∈ [r], Drawn n d' a q := fun q hq => by rw [List.mem_singleton] at hq; rw [hq]; exact hr
  have nr : ∀ {h : Head}, (∀ ws, h ≠ .row ws) → ∀ ws, h = .row ws → a = false → rising ws = true := fun h1 ws e => absurd e (h1 ws)
  by_cases c9 : f = 9
  · rw [decide_eq_true c9]
    refine draw _ _ (by decide) (by decide) fun x x0 x1 => ⟨by decide, ?_⟩
    exact fin (.node (.times x) [r]) (drawn_node ⟨rfl, x0, by omega⟩ hps (Nat.le_of_ble_eq_true rfl) rfl (nr fun ws e => nomatch e))
  rw [decide_eq_false c9]
  by_cases c10 : f = 10
  · rw [decide_eq_true c10]
    refine draw _ _ (by decide) (by decide) fun x x0 x1 => ⟨by decide, ?_⟩
    exact fin (.node (.part (1 + x)) [r]) (drawn_node ⟨rfl, by omega, by omega⟩ hps (Nat.le_of_ble_eq_true rfl) rfl (nr fun ws e => nomatch e))
  rw [decide_eq_false c10]
  by_cases c11 : f = 11
  · rw [decide_eq_true c11]
    refine draw _ _ (by decide) (by decide) fun x x0 x1 => draw _ _ (by decide) (by decide) fun y y0 y1 => ?_
    walk_at "D"
    exact ⟨by decide, fin (.node (.clip x (x + y)) [r]) (drawn_node ⟨rfl, x0, by omega, by omega⟩ hps (Nat.le_of_ble_eq_true rfl) rfl (nr fun ws e => nomatch e))⟩
  rw [decide_eq_false c11]
  by_cases c12 : f = 12
  · rw [decide_eq_true c12]
    refine draw _ _ (by decide) (by decide) fun x x0 x1 => draw _ _ (by decide) (by decide) fun y y0 y1 => draw _ _ (by decide) (by decide) fun z z0 z1 => ⟨by decide, ?_⟩
    exact fin (.node (.bar x y z) [r]) (drawn_node ⟨rfl, x0, by omega, y0, by omega, z0, by omega⟩ hps (Nat.le_of_ble_eq_true rfl) rfl (nr fun ws e => nomatch e))
  rw [decide_eq_false c12]
  by_cases c13 : f = 13
  · rw [decide_eq_true c13]
    refine draw _ _ (by decide) (by decide) fun x x0 x1 => ?_
    walk_at "D"
    refine ⟨by omega, by omega, ?_⟩
    refine lc_draw (fun y => ∃ t : Int, (0 ≤ t ∧ t ≤ 4) ∧ y = .int t) (fun i hi Ψ hΨ => ?_) fun ys hl hP => ?_
    · walk_at "D"
      exact draw _ _ (by decide) (by decide) fun t t0 t1 => hΨ _ ⟨t, ⟨t0, by omega⟩, rfl⟩
    obtain ⟨ts, rfl, hts⟩ := ints_of _ hP
    rw [iD_len] at hl
    cases a with
    | true =>
      walk_at "D"
      refine ⟨by decide, fin (.node (.row ts) [r]) (drawn_node ⟨rfl, by omega, by omega, fun x hx => ?_⟩ hps (Nat.le_of_ble_eq_true rfl) rfl (fun ws e ha => Bool.noConfusion ha))⟩
      have := hts x hx; omega
    | false =>
      walk_at "D"
      refine ⟨by omega, fun ns hp hs => ?_⟩
      have hl2 := hp.length_eq
      refine ⟨by decide, fin (.node (.row ns) [r]) (drawn_node ⟨rfl, by omega, by omega, fun x hx => ?_⟩ hps (Nat.le_of_ble_eq_true rfl) rfl (fun ws e ha => ?_))⟩
      · have := hts x (hp.mem_iff.mp hx); omega
      · cases e; exact sorted_rising hs
  rw [decide_eq_false c13]
  refine draw _ _ (by decide) (by decide) fun x x0 x1 => ⟨by decide, ?_⟩
  exact fin (.node (.sub x) [r]) (drawn_node ⟨rfl, x0, by omega⟩ hps (Nat.le_of_ble_eq_true rfl) rfl (nr fun ws e => nomatch e))
theorem p_law_net (ds : List D) (Φ : D → Prop) (h : r_law_net ds Φ) : w_law_net r_law_any (r_law_rule 4) (fun _ => Φ .non) Φ (startE 7 ds) := by
  obtain ⟨rfl, hΦ⟩ := h
  have draw : ∀ (b : Int) (Ψ : D → Prop), 1 ≤ b → b ≤ 100000 → (∀ x : Int, 0 ≤ x → x < b → Ψ (.int x)) → r_law_any [.deal, .int b] Ψ := fun b Ψ h1 h2 q => ⟨b, rfl, h1, h2, q⟩
  unfold w_law_net
  walk_at "D"
  refine draw _ _ (by omega) (by omega) fun x x0 x1 => ?_
  walk_at "D"
  refine ⟨by omega, by omega, ?_⟩
  rw [show (1 + x).toNat = x.toNat + 1 by omega]
  refine lc_draw (fun y => ∃ t : Int, (1 ≤ t ∧ t ≤ 4) ∧ y = .int t) (fun i hi Ψ hΨ => ?_) fun ys hl hP => ?_
  · walk_at "D"
    refine draw _ _ (by omega) (by omega) fun t t0 t1 => ?_
    exact hΨ _ ⟨1 + t, ⟨by omega, by omega⟩, rfl⟩
  obtain ⟨ts, rfl, hts⟩ := ints_of _ hP
  rw [iD_len] at hl
  walk_at "D"
  refine ⟨by omega, by omega, ?_⟩
  refine lc_draw (fun y => ∃ r : Rule, (wf ts.length r ∧ dep r ≤ 4 ∧ (br r).length ≤ 1000 ∧ upR r) ∧ y = enc r) (fun i hi Ψ hΨ => ?_) fun ys hl2 hP2 => ?_
  · walk_at "D"
    refine draw _ _ (by omega) (by omega) fun t t0 t1 => ?_
    refine ⟨x.toNat + 1, t.toNat, false, ?_, by omega, by omega, by omega, by omega, fun r h1 h2 h3 h4 => hΨ _ ⟨r, ⟨by rw [hl]; exact h1, by omega, ?_, h4 rfl⟩, rfl⟩⟩
    · rw [show ((x.toNat + 1 : Nat) : Int) = 1 + x by omega, show ((t.toNat : Nat) : Int) = t by omega]
    · have := Nat.pow_le_pow_right (show 0 < 3 by decide) (show t.toNat ≤ 3 by omega)
      omega
  obtain ⟨rs, rfl, hrs⟩ := encs_of _ hP2
  rw [encs_len] at hl2
  walk_at "D"
  refine ⟨by decide, ?_⟩
  refine hΦ (ts, rs) ⟨⟨by show ts.length = rs.length; omega, by show 1 ≤ ts.length; omega, by show ts.length ≤ 20; omega, fun t ht => ?_, wfs_all fun r hr => (hrs r hr).1, fun r hr => (hrs r hr).2.1⟩, fun r hr => (hrs r hr).2.2.1⟩ (by show ts.length ≤ 3; omega) fun r hr => (hrs r hr).2.2.2
  have := hts t ht
  omega
end NB

/-! SD -/
set_option Elab.async false
set_option linter.all false
set_option maxRecDepth 100000
set_option maxHeartbeats 2000000
namespace NB
open PySem PySem.Spec PyProof.Rows L2
local macro_rules | `(tactic| walk_at "D") => `(tactic| simp only [dSeq, dRet, dNext, dSet, dAsg, dPar, dPar3, dParO1, dParO2, dNew, dFreeze, dNever, dApp, dExt, dIfS, dVar, dC, dOp, dCall, dCons, dNil, dAndV, dOrV, dNotV, dTst, dTAnd, dTOr, dTNot, dIf, dYes, dIx, dEq, dNe, dLt, dLe, dGt, dGe, dAdd, dSub, dMul, dDiv, dMod, dIn, dIsN, dNotN, dIsT, dEqD, dNeD, dCat, dLen, dMin, dMax, dSum, dAny, dAll, dTuple, dList, dSl, dPart, dNoPart, dTup, dLst, dIsi, dNeg, dChain, dRev, dRep, dRepT, dSizes, dStup, dSNil, dSCons, dSStar, dItems, dRange1, dRange2, dZip, dEnum, dLc, dFor, bName, bTup, bCons, bNil, rdI, rdI0, rdB0, rdEq, rdNe, rdIsN, rdNotN, rdIsT, rdIx, rdIn, rdCat, rdLen, rdMin, rdMax, rdSum, rdSorted, rdAny, rdAll, rdTuple, rdList, isTy, isNon, getS, setS, wipeS, startE, List.map, List.replicate, List.length_cons, List.length_nil, List.append, List.cons_append, List.nil_append, List.append_nil, Nat.sub_self, Nat.reduceSub, Nat.reduceAdd, Bool.not_true, Bool.not_false, encH, encs, atI0, atI1, atI2, atI3, strsOf, intsOf, Option.map_some, intsOf_iD, dq_is_hear, dq_is_least, dq_is_most, dq_is_add, dq_is_middle, dq_is_times, dq_is_part, dq_is_clip, dq_is_from, dq_is_bar, dq_is_row, dq_hear_is, dq_hear_least, dq_hear_most, dq_hear_add, dq_hear_middle, dq_hear_times, dq_hear_part, dq_hear_clip, dq_hear_from, dq_hear_bar, dq_hear_row, dq_least_is, dq_least_hear, dq_least_most, dq_least_add, dq_least_middle, dq_least_times, dq_least_part, dq_least_clip, dq_least_from, dq_least_bar, dq_least_row, dq_most_is, dq_most_hear, dq_most_least, dq_most_add, dq_most_middle, dq_most_times, dq_most_part, dq_most_clip, dq_most_from, dq_most_bar, dq_most_row, dq_add_is, dq_add_hear, dq_add_least, dq_add_most, dq_add_middle, dq_add_times, dq_add_part, dq_add_clip, dq_add_from, dq_add_bar, dq_add_row, dq_middle_is, dq_middle_hear, dq_middle_least, dq_middle_most, dq_middle_add, dq_middle_times, dq_middle_part, dq_middle_clip, dq_middle_from, dq_middle_bar, dq_middle_row, dq_times_is, dq_times_hear, dq_times_least, dq_times_most, dq_times_add, dq_times_middle, dq_times_part, dq_times_clip, dq_times_from, dq_times_bar, dq_times_row, dq_part_is, dq_part_hear, dq_part_least, dq_part_most, dq_part_add, dq_part_middle, dq_part_times, dq_part_clip, dq_part_from, dq_part_bar, dq_part_row, dq_clip_is, dq_clip_hear, dq_clip_least, dq_clip_most, dq_clip_add, dq_clip_middle, dq_clip_times, dq_clip_part, dq_clip_from, dq_clip_bar, dq_clip_row, dq_from_is, dq_from_hear, dq_from_least, dq_from_most, dq_from_add, dq_from_middle, dq_from_times, dq_from_part, dq_from_clip, dq_from_bar, dq_from_row, dq_bar_is, dq_bar_hear, dq_bar_least, dq_bar_most, dq_bar_add, dq_bar_middle, dq_bar_times, dq_bar_part, dq_bar_clip, dq_bar_from, dq_bar_row, dq_row_is, dq_row_hear, dq_row_least, dq_row_most, dq_row_add, dq_row_middle, dq_row_times, dq_row_part, dq_row_clip, dq_row_from, dq_row_bar, dq_none_both, dq_none_falls, dq_none_rises, dq_both_none, dq_both_falls, dq_both_rises, dq_falls_none, dq_falls_both, dq_falls_rises, dq_rises_none, dq_rises_both, dq_rises_falls, dq_wait_rule, dq_wait_house, dq_wait_seen, dq_rule_wait, dq_rule_house, dq_rule_seen, dq_house_wait, dq_house_rule, dq_house_seen, dq_seen_wait, dq_seen_rule, dq_seen_house, di_is, dj_is, dk_is, dl_is, di_hear, dj_hear, dk_hear, dl_hear, di_least, dj_least, dk_least, dl_least, di_most, dj_most, dk_most, dl_most, di_add, dj_add, dk_add, dl_add, di_middle, dj_middle, dk_middle, dl_middle, di_times, dj_times, dk_times, dl_times, di_part, dj_part, dk_part, dl_part, di_clip, dj_clip, dk_clip, dl_clip, di_from, dj_from, dk_from, dl_from, di_bar, dj_bar, dk_bar, dl_bar, di_row, dj_row, dk_row, dl_row, kt_int_int, kt_int_bool, kt_bool_int, kt_bool_bool, kt_tuple_tuple, kt_str_str, kt_int_tuple, kt_str_tuple, kt_tuple_int, kt_tuple_str, kt_NoneType_tuple, kt_str_int, dq_same, decide_true])

theorem lc_ints {α : Type} {b : DB} {te : DE} {env : List Slot} {Φ : D → Prop} (e : α → D) (R : α → Int → Prop) (xs : List α) (hs : ∀ x ∈ xs, ∀ Ψ : D → Prop, (∀ v, R x v → Ψ (.int v)) → b (e x) env fun env' => te env' Ψ)
    (h : ∀ L : List Int, L.length = xs.length → (∀ (i : Nat) (x : α), xs[i]? = some x → R x (g0 L i)) → Φ (.lst (iD L))) : lcGo b dYes te env Φ (xs.map e) [] := by
  refine lc_over_all e (fun x y => ∃ v, R x v ∧ y = .int v) xs [] (fun x hx Ψ hΨ => hs x hx Ψ fun v hv => hΨ _ ⟨v, hv, rfl⟩) fun ys hl hR => ?_
  have key : ∀ (zs : List α) (ys : List D), ys.length = zs.length → (∀ (i : Nat) (x : α) (y : D), zs[i]? = some x → ys[i]? = some y → ∃ v, R x v ∧ y = .int v) → ∃ L : List Int, ys = iD L ∧ L.length = zs.length ∧ ∀ (i : Nat) (x : α), zs[i]? = some x → R x (g0 L i) := by
    intro zs
    induction zs with
    | nil => intro ys hl _; exact ⟨[], List.eq_nil_of_length_eq_zero hl, rfl, fun i x e => by simp at e⟩
    | cons z zs ih =>
      intro ys hl hR
      cases ys with
      | nil => simp at hl
      | cons y ys =>
        obtain ⟨v, h1, h2⟩ := hR 0 z y rfl rfl
        obtain ⟨L, e1, e2, e3⟩ := ih ys (by simpa using hl) fun i x y' a b => hR (i + 1) x y' (by simpa using a) (by simpa using b)
        refine ⟨v :: L, by rw [h2, e1]; rfl, by simp [e2], fun i x a => ?_⟩
        cases i with
        | zero => simp at a; subst a; exact h1
        | succ i => exact e3 i x (by simpa using a)
  obtain ⟨L, e1, e2, e3⟩ := key xs ys hl hR
  rw [List.nil_append, e1]
  exact h L e2 e3
theorem p_law_some_change (ds : List D) (Φ : D → Prop) (h : r_law_some_change ds Φ) : w_law_some_change r_law_any (r_law_rule 4) (fun _ => Φ .non) Φ (startE 7 ds) := by
  obtain ⟨l, rfl, hl, hΦ⟩ := h
  have draw : ∀ (b : Int) (Ψ : D → Prop), 1 ≤ b → b ≤ 100000 → (∀ x : Int, 0 ≤ x → x < b → Ψ (.int x)) → r_law_any [.deal, .int b] Ψ := fun b Ψ h1 h2 q => ⟨b, rfl, h1, h2, q⟩
  have hN := hl.1.1
  have n1 := hN.2.1
  have n2 := hN.2.2.1
  have d1 := hl.2.2.2.2.1
  have d2 := hl.2.2.2.2.2
  have rl : ∀ (m : Nat) (x : Int) (a : Bool) (Ψ : D → Prop), 1 ≤ m → m ≤ 1000 → 0 ≤ x → x < 3 → (∀ r, wf m r → dep r ≤ 4 → (br r).length ≤ 1000 → Ψ (enc r)) → r_law_rule 4 [.deal, .int (m : Int), .int 4, .int x, .bl a] Ψ := by
    intro m x a Ψ m1 m2 x0 x1 q
    refine ⟨m, x.toNat, a, by rw [show ((x.toNat : Nat) : Int) = x by omega], m1, m2, by omega, by omega, fun r h1 h2 h3 _ => q r h1 (by omega) ?_⟩
    have := Nat.pow_le_pow_right (show 0 < 3 by decide) (show x.toNat ≤ 3 by omega)
    omega
  unfold w_law_some_change
  rw [show encL l = .tup [.tup [.tup (iD l.N.1), .tup (encs l.N.2)], .int (l.d : Int), encE l.E, .int (l.age : Int)] from rfl]
  walk_at "D"
  intro _
  rw [iD_len]
  refine draw _ _ (by decide) (by decide) fun f f0 f1 => ?_
  walk_at "D"
  by_cases c2 : f < 2
  · rw [decide_eq_true c2]
    exact ⟨.inl ⟨by omega, by omega⟩, draw _ _ (by omega) (by omega) fun x x0 x1 => ⟨by decide, hΦ (.wait x) x0⟩⟩
  rw [decide_eq_false c2]
  by_cases c5 : f < 5
  · rw [decide_eq_true c5]
    refine draw _ _ (by decide) (by decide) fun x x0 x1 => draw _ _ (by decide) (by decide) fun y y0 y1 => ?_
    refine rl _ x _ _ n1 (by omega) x0 x1 fun r r1 r2 r3 => ?_
    by_cases c4 : f < 4
    · rw [decide_eq_true c4]
      by_cases c3 : f = 3
      · rw [decide_eq_true c3]
        exact draw _ _ (by omega) (by omega) fun h h0 h1 => ⟨by decide, hΦ (.rule h r) ⟨h0, r1, r2, r3⟩⟩
      · rw [decide_eq_false c3]
        exact draw _ _ (by omega) (by omega) fun h h0 h1 => ⟨by decide, hΦ (.rule h r) ⟨h0, r1, r2, r3⟩⟩
    · rw [decide_eq_false c4, decide_eq_false (show ¬ f = 5 by omega)]
      refine draw _ _ (by decide) (by decide) fun lo lo0 lo1 => draw _ _ (by omega) (by omega) fun h h0 h1 => draw _ _ (by decide) (by decide) fun y y0 y1 => ?_
      exact ⟨by decide, hΦ (.seen h lo (lo + y)) ⟨h0, h1⟩⟩
  rw [decide_eq_false c5]
  refine draw _ _ (by decide) (by decide) fun x x0 x1 => draw _ _ (by decide) (by decide) fun y y0 y1 => ?_
  have ec : ((l.N.1.length : Nat) : Int) + 1 = ((l.N.1.length + 1 : Nat) : Int) := rfl
  rw [ec]
  refine rl _ x _ _ (by omega) (by omega) x0 x1 fun r r1 r2 r3 => ?_
  rw [decide_eq_false (show ¬ f < 4 by omega)]
  by_cases c5' : f = 5
  · rw [decide_eq_true c5']
    exact draw _ _ (by decide) (by decide) fun t t0 t1 => ⟨by decide, hΦ (.house (1 + t) r) ⟨by omega, by omega, r1, r2, r3⟩⟩
  · rw [decide_eq_false c5']
    refine draw _ _ (by decide) (by decide) fun lo lo0 lo1 => draw _ _ (by omega) (by omega) fun h h0 h1 => draw _ _ (by decide) (by decide) fun y y0 y1 => ?_
    exact ⟨by decide, hΦ (.seen h lo (lo + y)) ⟨h0, h1⟩⟩
theorem okE_of {N : Nt} {A B : List Int} (l1 : A.length = N.1.length) (l2 : B.length = N.1.length) (h : ∀ j, j < N.1.length → 0 ≤ g0 A j ∧ g0 A j ≤ g0 B j ∧ g0 B j ≤ g0 N.1 j) : okE N (A, B) := by
  refine ⟨l1, l2, fun j => ?_⟩
  by_cases c : j < N.1.length
  · exact h j c
  · show 0 ≤ g0 A j ∧ g0 A j ≤ g0 B j ∧ g0 B j ≤ g0 N.1 j
    rw [g0_out (xs := A) (by omega), g0_out (xs := B) (by omega), g0_out (xs := N.1) (by omega)]
    omega
theorem p_law_life (ds : List D) (Φ : D → Prop) (h : r_law_life ds Φ) : w_law_life r_law_net r_law_any r_law_all_words r_law_closed (fun _ => Φ .non) Φ (startE 11 ds) := by
  obtain ⟨rfl, hΦ⟩ := h
  have draw : ∀ (b : Int) (Ψ : D → Prop), 1 ≤ b → b ≤ 100000 → (∀ x : Int, 0 ≤ x → x < b → Ψ (.int x)) → r_law_any [.deal, .int b] Ψ := fun b Ψ h1 h2 q => ⟨b, rfl, h1, h2, q⟩
  unfold w_law_life
  walk_at "D"
  refine ⟨rfl, fun N hN h3 hu => ?_⟩
  have ow := oneWayB_up hu
  have tp := hN.1.2.2.2.1
  have n1 := hN.1.2.1
  refine draw _ _ (by decide) (by decide) fun d d0 d1 => ?_
  walk_at "D"
  refine ⟨N, rfl, hN, ?_⟩
  rw [show encN N = .tup [.tup (iD N.1), .tup (encs N.2)] from rfl]
  walk_at "D"
  refine lc_ints D.int (fun t v => 0 ≤ v ∧ v ≤ t) N.1 (fun t ht Ψ hΨ => ?_) fun A lA hA => ?_
  · have := tp t ht
    walk_at "D"
    exact draw _ _ (by omega) (by omega) fun v v0 v1 => hΨ v ⟨v0, by omega⟩
  walk_at "D"
  rw [zip_iD]
  have pA : ∀ j, j < N.1.length → 0 ≤ g0 A j ∧ g0 A j ≤ g0 N.1 j := fun j hj => hA j _ (g0_some hj)
  refine lc_ints pairD (fun p v => p.1 ≤ v ∧ v ≤ p.2) (List.zip A N.1) (fun p hp Ψ hΨ => ?_) fun B lB hB => ?_
  · have h1 := tp p.2 (List.of_mem_zip hp).2
    obtain ⟨i, hi, e⟩ := List.mem_iff_getElem.mp hp
    have hi2 : i < N.1.length := by simp at hi; omega
    have h2 := pA i hi2
    have e1 : p.1 = g0 A i := by
      rw [← e, List.getElem_zip]
      show A[i]'_ = _
      have := g0_some (xs := A) (i := i) (by omega)
      rw [List.getElem?_eq_getElem (by omega)] at this
      exact Option.some.inj this
    have e2 : p.2 = g0 N.1 i := by
      rw [← e, List.getElem_zip]
      show N.1[i]'_ = _
      have := g0_some (xs := N.1) (i := i) (by omega)
      rw [List.getElem?_eq_getElem (by omega)] at this
      exact Option.some.inj this
    unfold pairD
    walk_at "D"
    refine draw _ _ (by omega) (by omega) fun v v0 v1 => ?_
    walk_at "D"
    exact hΨ _ ⟨by omega, by omega⟩
  have lB2 : B.length = N.1.length := by rw [lB, List.length_zip]; omega
  have pB : ∀ j, j < N.1.length → g0 A j ≤ g0 B j ∧ g0 B j ≤ g0 N.1 j := fun j hj => by
    have := hB j (g0 A j, g0 N.1 j) (by
      rw [List.getElem?_zip_eq_some]
      exact ⟨g0_some (by omega), g0_some hj⟩)
    exact this
  have fin : ∀ E : En, okE N E → r_law_closed [encN N, wordsL N, encE E] fun x => CMul 3 (2 + d) ∧ r_law_any [.deal, .int (3 * (2 + d))] fun y => 4 ≤ 1000 ∧ Φ (.tup [encN N, .int (2 + d), x, y]) := fun E hE => by
    refine ⟨N, E, rfl, hN, ow, hE, fun E' e1 e2 e3 => ⟨.inl ⟨by omega, by omega⟩, draw _ _ (by omega) (by omega) fun y y0 y1 => ⟨by decide, ?_⟩⟩⟩
    have := hΦ ⟨N, 2 + d.toNat, E', y.toNat⟩ ⟨hN, ow, e1, e3, by show 2 ≤ 2 + d.toNat; omega, by show 2 + d.toNat ≤ 9; omega⟩ h3
    rw [show (2 + d : Int) = ((2 + d.toNat : Nat) : Int) by omega, show y = ((y.toNat : Nat) : Int) by omega]
    exact this
  walk_at "D"
  refine draw _ _ (by decide) (by decide) fun z z0 z1 => ?_
  walk_at "D"
  rw [iD_len, lA]
  by_cases c : z = 0
  · rw [decide_eq_true c]
    refine ⟨by decide, fun _ => ⟨by omega, by omega, by decide, ?_⟩⟩
    rw [show List.replicate ((N.1.length : Nat) : Int).toNat (D.int 0) = iD (List.replicate N.1.length 0) by unfold iD; rw [List.map_replicate]; rfl]
    refine fin (List.replicate N.1.length 0, N.1) (okE_of (by simp) rfl fun j hj => ?_)
    have := pA j hj
    have e0 : g0 (List.replicate N.1.length 0) j = 0 := by
      unfold g0
      rw [List.getD_eq_getElem?_getD, List.getElem?_replicate, if_pos hj]; rfl
    rw [e0]
    omega
  · rw [decide_eq_false c]
    refine ⟨by decide, fin (A, B) (okE_of lA lB2 fun j hj => ?_)⟩
    have := pA j hj
    have := pB j hj
    omega
theorem cut_from (xs : List D) (i : Nat) : cutD xs (some (i : Int)) none = xs.drop i := by
  unfold cutD
  rw [HT.sIx_none, HT.sIx_nat]
  by_cases h : i ≤ xs.length
  · rw [Nat.min_eq_left h, List.take_of_length_le (by simp)]
  · rw [Nat.min_eq_right (by omega), List.drop_eq_nil_of_le (Nat.le_refl _), List.drop_eq_nil_of_le (by omega)]
    simp
theorem mem_last {S : List (List Int)} {d : Nat} {s : List Int} (hd : d ≤ S.length) (h : s ∈ S.drop (S.length - d)) : ∃ i, i < d ∧ ago S i = some s := by
  obtain ⟨i, hi, e⟩ := List.mem_iff_getElem.mp h
  simp at hi
  rw [List.getElem_drop] at e
  refine ⟨d - 1 - i, by omega, ?_⟩
  unfold ago
  rw [show S.length - 1 - (d - 1 - i) = S.length - d + i by omega, List.getElem?_eq_getElem (by omega), e]
theorem p_law_holds (ds : List D) (Φ : D → Prop) (h : r_law_holds ds Φ) : w_law_holds r_known (fun _ => Φ .non) Φ (startE 6 ds) := by
  obtain ⟨l, S, rfl, hR, hΦ⟩ := h
  have k := known_ok hR.ok
  have h20 := hR.ok.1.1.2.2.1
  have hm := hR.many
  unfold w_law_holds
  simp only [dSeq, dAsg, dCall, dVar, dCons, dNil, startE, getS, List.replicate, List.map, List.length_cons, List.length_nil, List.cons_append, List.nil_append, Nat.reduceSub, Nat.reduceAdd]
  refine ⟨l, rfl, hR.ok, ?_⟩
  rw [show encL l = .tup [encN l.N, .int (l.d : Int), encE l.E, .int (l.age : Int)] from rfl, show encS S = .lst (S.map fun s => .tup (iD s)) from rfl, show encE (knownL l) = .tup [.tup (iD (knownL l).1), .tup (iD (knownL l).2)] from rfl]
  walk_at "D"
  intro _
  rw [List.length_map, show ((S.length : Int) - (l.d : Int)) = ((S.length - l.d : Nat) : Int) by omega, cut_from, ← List.map_drop]
  refine for_over (fun s : List Int => D.tup (iD s)) (fun _ env => ∃ s2 s5, env = [Slot.im (.tup [encN l.N, .int (l.d : Int), encE l.E, .int (l.age : Int)]), Slot.im (.lst (S.map fun s => .tup (iD s))), s2, Slot.im (.tup (iD (knownL l).1)), Slot.im (.tup (iD (knownL l).2)), s5]) (S.drop (S.length - l.d)) _ ⟨.no, .no, rfl⟩ ?_ ?_
  · rintro done s rest env C e ⟨s2, s5, rfl⟩ hC
    have hs : s ∈ S.drop (S.length - l.d) := by rw [e]; simp
    obtain ⟨i, hi, ha⟩ := mem_last hm hs
    obtain ⟨z, h1, h2, h3, _⟩ := hR.last i hi
    rw [ha] at h1
    cases h1
    have h3 : InE (knownL l) s := h3
    have k1 := k.1
    have k2 := k.2.1
    walk_at "D"
    intro _
    rw [iD_len]
    refine ⟨by omega, by omega, ?_⟩
    rw [show (((knownL l).1.length : Nat) : Int).toNat = (knownL l).1.length from rfl, range0]
    refine lc_filter (fun i : Nat => D.int (i : Int)) (fun _ => false) (fun i => .int (i : Int)) (List.range (knownL l).1.length) [] (fun j hj A B Ψ _ hB => ?_) ?_
    · have hj := List.mem_range.mp hj
      walk_at "D"
      rw [atIn (iD_get (g0_some (xs := (knownL l).1) hj)), atIn (iD_get (g0_some (xs := s) (by omega)))]
      walk_at "D"
      have q := h3 j
      rw [decide_eq_true q.1]
      walk_at "D"
      rw [atIn (iD_get (g0_some (xs := (knownL l).2) (by omega)))]
      walk_at "D"
      rw [decide_eq_true q.2]
      exact hB rfl
    · have e0 : (List.range (knownL l).1.length).filter (fun _ => false) = [] := List.filter_eq_nil_iff.mpr fun _ _ z => Bool.noConfusion z
      rw [e0]
      refine ⟨by decide, rfl, rfl, fun b hb => ?_⟩
      cases b with
      | true => exact absurd rfl (hb.mp rfl)
      | false => exact hC _ ⟨_, _, rfl⟩
  · rintro env ⟨s2, s5, rfl⟩
    walk_at "D"
    exact hΦ
end NB

/-! SE -/
set_option Elab.async false
set_option linter.all false
set_option maxRecDepth 100000
set_option maxHeartbeats 2000000
namespace NB
open PySem PySem.Spec PyProof.Rows L2
local macro_rules | `(tactic| walk_at "D") => `(tactic| simp only [dSeq, dRet, dNext, dSet, dAsg, dPar, dPar3, dParO1, dParO2, dNew, dFreeze, dNever, dApp, dExt, dIfS, dVar, dC, dOp, dCall, dCons, dNil, dAndV, dOrV, dNotV, dTst, dTAnd, dTOr, dTNot, dIf, dYes, dIx, dEq, dNe, dLt, dLe, dGt, dGe, dAdd, dSub, dMul, dDiv, dMod, dIn, dIsN, dNotN, dIsT, dEqD, dNeD, dCat, dLen, dMin, dMax, dSum, dAny, dAll, dTuple, dList, dSl, dPart, dNoPart, dTup, dLst, dIsi, dNeg, dChain, dRev, dRep, dRepT, dSizes, dStup, dSNil, dSCons, dSStar, dItems, dRange1, dRange2, dZip, dEnum, dLc, dFor, bName, bTup, bCons, bNil, rdI, rdI0, rdB0, rdEq, rdNe, rdIsN, rdNotN, rdIsT, rdIx, rdIn, rdCat, rdLen, rdMin, rdMax, rdSum, rdSorted, rdAny, rdAll, rdTuple, rdList, isTy, isNon, getS, setS, wipeS, startE, List.map, List.replicate, List.length_cons, List.length_nil, List.append, List.cons_append, List.nil_append, List.append_nil, Nat.sub_self, Nat.reduceSub, Nat.reduceAdd, Bool.not_true, Bool.not_false, encH, encs, atI0, atI1, atI2, atI3, strsOf, intsOf, Option.map_some, intsOf_iD, dq_is_hear, dq_is_least, dq_is_most, dq_is_add, dq_is_middle, dq_is_times, dq_is_part, dq_is_clip, dq_is_from, dq_is_bar, dq_is_row, dq_hear_is, dq_hear_least, dq_hear_most, dq_hear_add, dq_hear_middle, dq_hear_times, dq_hear_part, dq_hear_clip, dq_hear_from, dq_hear_bar, dq_hear_row, dq_least_is, dq_least_hear, dq_least_most, dq_least_add, dq_least_middle, dq_least_times, dq_least_part, dq_least_clip, dq_least_from, dq_least_bar, dq_least_row, dq_most_is, dq_most_hear, dq_most_least, dq_most_add, dq_most_middle, dq_most_times, dq_most_part, dq_most_clip, dq_most_from, dq_most_bar, dq_most_row, dq_add_is, dq_add_hear, dq_add_least, dq_add_most, dq_add_middle, dq_add_times, dq_add_part, dq_add_clip, dq_add_from, dq_add_bar, dq_add_row, dq_middle_is, dq_middle_hear, dq_middle_least, dq_middle_most, dq_middle_add, dq_middle_times, dq_middle_part, dq_middle_clip, dq_middle_from, dq_middle_bar, dq_middle_row, dq_times_is, dq_times_hear, dq_times_least, dq_times_most, dq_times_add, dq_times_middle, dq_times_part, dq_times_clip, dq_times_from, dq_times_bar, dq_times_row, dq_part_is, dq_part_hear, dq_part_least, dq_part_most, dq_part_add, dq_part_middle, dq_part_times, dq_part_clip, dq_part_from, dq_part_bar, dq_part_row, dq_clip_is, dq_clip_hear, dq_clip_least, dq_clip_most, dq_clip_add, dq_clip_middle, dq_clip_times, dq_clip_part, dq_clip_from, dq_clip_bar, dq_clip_row, dq_from_is, dq_from_hear, dq_from_least, dq_from_most, dq_from_add, dq_from_middle, dq_from_times, dq_from_part, dq_from_clip, dq_from_bar, dq_from_row, dq_bar_is, dq_bar_hear, dq_bar_least, dq_bar_most, dq_bar_add, dq_bar_middle, dq_bar_times, dq_bar_part, dq_bar_clip, dq_bar_from, dq_bar_row, dq_row_is, dq_row_hear, dq_row_least, dq_row_most, dq_row_add, dq_row_middle, dq_row_times, dq_row_part, dq_row_clip, dq_row_from, dq_row_bar, dq_none_both, dq_none_falls, dq_none_rises, dq_both_none, dq_both_falls, dq_both_rises, dq_falls_none, dq_falls_both, dq_falls_rises, dq_rises_none, dq_rises_both, dq_rises_falls, dq_wait_rule, dq_wait_house, dq_wait_seen, dq_rule_wait, dq_rule_house, dq_rule_seen, dq_house_wait, dq_house_rule, dq_house_seen, dq_seen_wait, dq_seen_rule, dq_seen_house, di_is, dj_is, dk_is, dl_is, di_hear, dj_hear, dk_hear, dl_hear, di_least, dj_least, dk_least, dl_least, di_most, dj_most, dk_most, dl_most, di_add, dj_add, dk_add, dl_add, di_middle, dj_middle, dk_middle, dl_middle, di_times, dj_times, dk_times, dl_times, di_part, dj_part, dk_part, dl_part, di_clip, dj_clip, dk_clip, dl_clip, di_from, dj_from, dk_from, dl_from, di_bar, dj_bar, dk_bar, dl_bar, di_row, dj_row, dk_row, dl_row, kt_int_int, kt_int_bool, kt_bool_int, kt_bool_bool, kt_tuple_tuple, kt_str_str, kt_int_tuple, kt_str_tuple, kt_tuple_int, kt_tuple_str, kt_NoneType_tuple, kt_str_int, dq_same, decide_true])

theorem p_law_lateness (ds : List D) (Φ : D → Prop) (h : r_law_lateness ds Φ) : w_law_lateness (r_law_branches 4) r_law_any (fun _ => Φ .non) Φ (startE 8 ds) := by
  obtain ⟨N, d, x, rfl, hN, d1, d9, hx, hΦ⟩ := h
  have draw : ∀ (b : Int) (Ψ : D → Prop), 1 ≤ b → b ≤ 100000 → (∀ x : Int, 0 ≤ x → x < b → Ψ (.int x)) → r_law_any [.deal, .int b] Ψ := fun b Ψ h1 h2 q => ⟨b, rfl, h1, h2, q⟩
  have n20 := hN.1.2.2.1
  have nn := hN.1.1
  unfold w_law_lateness
  rw [show encN N = .tup [.tup (iD N.1), .tup (encs N.2)] from rfl]
  walk_at "D"
  intro _
  rw [encs_len]
  refine ⟨by omega, by omega, ?_⟩
  rw [show ((N.2.length : Nat) : Int).toNat = N.2.length from rfl, range0]
  refine for_over (fun i : Nat => D.int (i : Int)) (fun done env => ∃ (Ls : List (List Nat)) (s5 s6 s7 : Slot), env = [Slot.im .deal, Slot.im (.tup [.tup (iD N.1), .tup (encs N.2)]), Slot.im (.int (d : Int)), Slot.im x, Slot.ow (Ls.map fun w => .tup (natD w)), s5, s6, s7] ∧ (Ls.length = done.length ∧ ∀ (i : Nat) (r : Rule) (w : List Nat), N.2[i]? = some r → Ls[i]? = some w → w.length = (br r).length ∧ ∀ x ∈ w, 1 ≤ x ∧ x ≤ d)) (List.range N.2.length) _ ⟨[], .no, .no, .no, rfl, rfl, fun i r w _ e => by simp at e⟩ ?_ ?_
  · rintro done i rest env C e ⟨Ls, s5, s6, s7, rfl, hLl, hL⟩ hC
    obtain ⟨ei, hi, _⟩ := range_split e
    obtain ⟨t, r, e1, e2, hw, _⟩ := at_house hN.1 (j := i) (by omega)
    have hr : r ∈ N.2 := List.mem_of_getElem? e2
    have a2 : L2.atI (encs N.2) (i : Int) = some (enc r) := atIn (by rw [encs_map, List.getElem?_map, e2]; rfl)
    have hbr := hN.2 r hr
    walk_at "D"
    rw [a2]
    refine ⟨_, r, rfl, hw, hN.1.2.2.2.2.2 r hr, hbr, ?_⟩
    walk_at "D"
    intro _
    rw [natD_len]
    refine ⟨by omega, by omega, ?_⟩
    rw [show (((br r).length : Nat) : Int).toNat = (br r).length from rfl, range0]
    refine for_over (fun k : Nat => D.int (k : Int)) (fun dn env => ∃ (w : List Nat) (s7 : Slot), env = [Slot.im .deal, Slot.im (.tup [.tup (iD N.1), .tup (encs N.2)]), Slot.im (.int (d : Int)), Slot.im x, Slot.ow (Ls.map fun w => .tup (natD w)), Slot.im (.int (i : Int)), Slot.ow (natD w), s7] ∧ w.length = dn.length ∧ ∀ x ∈ w, 1 ≤ x ∧ x ≤ d) (List.range (br r).length) _ ⟨[], s7, rfl, rfl, fun x hx => nomatch hx⟩ ?_ ?_
    · rintro dn k rst env C' e' ⟨w, s7', rfl, wl, hwd⟩ hC'
      obtain ⟨ek, hk, _⟩ := range_split e'
      have fin : ∀ v : Int, 0 ≤ v → v < d → (natD w).length < 100000 ∧ C' [Slot.im .deal, Slot.im (.tup [.tup (iD N.1), .tup (encs N.2)]), Slot.im (.int (d : Int)), Slot.im x, Slot.ow (Ls.map fun w => .tup (natD w)), Slot.im (.int (i : Int)), Slot.ow (natD w ++ [.int (1 + v)]), Slot.im (.int (k : Int))] := by
        intro v v0 v1
        refine ⟨by rw [natD_len]; omega, hC' _ ⟨w ++ [1 + v.toNat], .im (.int (k : Int)), ?_, by simp [wl], fun y hy => ?_⟩⟩
        · rw [natD_append]
          show _ = [_, _, _, _, _, _, Slot.ow (_ ++ [D.int ((1 + v.toNat : Nat) : Int)]), _]
          rw [show ((1 + v.toNat : Nat) : Int) = 1 + v by omega]
        · rcases List.mem_append.mp hy with hy | hy
          · exact hwd y hy
          · rw [List.mem_singleton] at hy
            omega
      clear hC' hC
      rcases hx with rfl | ⟨L, hLat, rfl⟩
      · walk_at "D"
        exact draw _ _ (by omega) (by omega) fun v v0 v1 => fin v v0 v1
      · have hLi : i < L.length := by rw [hLat.1]; exact hi
        obtain ⟨q1, q2⟩ := hLat.2 i r L[i] e2 (List.getElem?_eq_getElem hLi)
        have hk2 : k < (L[i]).length := by omega
        have q3 := q2 _ (List.getElem_mem hk2)
        have a3 : L2.atI (L.map fun w => D.tup (natD w)) (i : Int) = some (.tup (natD L[i])) := atIn (by rw [List.getElem?_map, List.getElem?_eq_getElem hLi]; rfl)
        have a4 : L2.atI (natD L[i]) (k : Int) = some (.int (((L[i])[k] : Nat) : Int)) := atIn (by unfold natD; rw [List.getElem?_map, List.getElem?_eq_getElem hk2]; rfl)
        unfold encT at fin ⊢
        walk_at "D"
        rw [a3]
        walk_at "D"
        rw [a4]
        exact draw _ _ (by omega) (by omega) fun v v0 v1 => fin v v0 (by omega)
    · rintro env ⟨w, s7', rfl, wl, hwd⟩
      walk_at "D"
      have hdl : done.length ≤ N.2.length := by omega
      refine ⟨by rw [List.length_map]; omega, hC _ ⟨Ls ++ [w], .im (.int (i : Int)), .im (.lst (natD w)), s7', ?_, ?_, ?_⟩⟩
      · rw [List.map_append]; rfl
      · simp [hLl]
      · intro i' r' w' h1 h2
        by_cases c : i' < Ls.length
        · rw [List.getElem?_append, if_pos c] at h2
          exact hL i' r' w' h1 h2
        · have e3 : i' = Ls.length := by
            have := (List.getElem?_eq_some_iff.mp h2).1
            simp at this
            omega
          subst e3
          have h2 : w = w' := by simpa using h2
          rw [hLl, ← ei, e2] at h1
          cases h1
          subst h2
          exact ⟨by rw [wl]; simp, hwd⟩
  · rintro env ⟨Ls, s5, s6, s7, rfl, hLl, hL⟩
    walk_at "D"
    exact hΦ Ls ⟨by rw [hLl]; simp, hL⟩
theorem p_law_beat (ds : List D) (Φ : D → Prop) (h : r_law_beat ds Φ) : w_law_beat r_law_lateness (r_law_branches 4) r_law_wants (fun _ => Φ .non) Φ (startE 10 ds) := by
  obtain ⟨N, d, S, x, rfl, hN, d1, d9, hx, hS, hS2, hl, hΦ⟩ := h
  have n20 := hN.1.2.2.1
  have nn := hN.1.1
  unfold w_law_beat
  simp only [dSeq, dParO2, dTup, dLst, dCall, dVar, dCons, dNil, startE, getS, List.replicate, List.map, List.length_cons, List.length_nil, List.cons_append, List.nil_append, Nat.reduceSub, Nat.reduceAdd]
  refine ⟨N, d, x, rfl, hN, d1, d9, hx, fun L hL => ?_⟩
  rw [show encN N = .tup [.tup (iD N.1), .tup (encs N.2)] from rfl]
  walk_at "D"
  intro _
  rw [encs_len]
  refine ⟨by omega, by omega, ?_⟩
  rw [show ((N.2.length : Nat) : Int).toNat = N.2.length from rfl, range0]
  refine for_over (fun i : Nat => D.int (i : Int)) (fun done env => ∃ (vs : List Int) (s5 s8 s9 : Slot), env = [Slot.im .deal, Slot.im (.tup [.tup (iD N.1), .tup (encs N.2)]), Slot.im (.int (d : Int)), Slot.im (encS S), Slot.im x, s5, Slot.im (encT L), Slot.ow (iD vs), s8, s9] ∧ vs.length = done.length ∧
    ∀ (i : Nat) (t : Int) (r : Rule), i < done.length → N.1[i]? = some t → N.2[i]? = some r → ∃ f : Nat → Int, g0 vs i = min t (tv r f) ∧ ∀ k j, (br r)[k]? = some j → ∃ (b : Nat) (z : List Int), b < d ∧ ago S b = some z ∧ f k = g0 z j) (List.range N.2.length) _ ⟨[], .no, .no, .no, rfl, rfl, fun i t r h => absurd h (by simp)⟩ ?_ ?_
  · rintro done i rest env C e ⟨vs, s5, s8, s9, rfl, vl, hvs⟩ hC
    obtain ⟨ei, hi, _⟩ := range_split e
    obtain ⟨t, r, e1, e2, hw, _⟩ := at_house hN.1 (j := i) (by omega)
    have hr : r ∈ N.2 := List.mem_of_getElem? e2
    have a2 : L2.atI (encs N.2) (i : Int) = some (enc r) := atIn (by rw [encs_map, List.getElem?_map, e2]; rfl)
    have hbr := hN.2 r hr
    have hLi : i < L.length := by rw [hL.1]; exact hi
    obtain ⟨q1, q2⟩ := hL.2 i r L[i] e2 (List.getElem?_eq_getElem hLi)
    have a3 : L2.atI (L.map fun w => D.tup (natD w)) (i : Int) = some (.tup (natD L[i])) := atIn (by rw [List.getElem?_map, List.getElem?_eq_getElem hLi]; rfl)
    walk_at "D"
    rw [a2]
    refine ⟨_, r, rfl, hw, hN.1.2.2.2.2.2 r hr, hbr, ?_⟩
    walk_at "D"
    intro _
    rw [natD_len]
    refine ⟨by omega, by omega, ?_⟩
    rw [show (((br r).length : Nat) : Int).toNat = (br r).length from rfl, range0]
    refine lc_ints (fun k : Nat => D.int (k : Int)) (fun k v => ∀ j, (br r)[k]? = some j → ∃ (b : Nat) (z : List Int), b < d ∧ ago S b = some z ∧ v = g0 z j) (List.range (br r).length) (fun k hk Ψ hΨ => ?_) fun hd hdl hdr => ?_
    · have hk := List.mem_range.mp hk
      have hk2 : k < (L[i]).length := by omega
      have q3 := q2 _ (List.getElem_mem hk2)
      have a4 : L2.atI (natD L[i]) (k : Int) = some (.int (((L[i])[k] : Nat) : Int)) := atIn (by unfold natD; rw [List.getElem?_map, List.getElem?_eq_getElem hk2]; rfl)
      have a5 : L2.atI (natD (br r)) (k : Int) = some (.int (((br r)[k] : Nat) : Int)) := atIn (by unfold natD; rw [List.getElem?_map, List.getElem?_eq_getElem hk]; rfl)
      obtain ⟨z, z1, z2, z3⟩ := hl ((L[i])[k] - 1) (by omega)
      have z1' := z1
      unfold ago at z1'
      have a6 : L2.atI (S.map fun s => D.tup (iD s)) ((S.length : Int) - (((L[i])[k] : Nat) : Int)) = some (.tup (iD z)) := by
        rw [show ((S.length : Int) - (((L[i])[k] : Nat) : Int)) = ((S.length - 1 - ((L[i])[k] - 1) : Nat) : Int) by omega]
        exact atIn (by rw [List.getElem?_map, z1']; rfl)
      have hj : (br r)[k] < N.1.length := br_lt hw (List.getElem_mem hk)
      have a7 : L2.atI (iD z) (((br r)[k] : Nat) : Int) = some (.int (g0 z (br r)[k])) := atIn (iD_get (g0_some (by omega)))
      rw [show encS S = .lst (S.map fun s => .tup (iD s)) from rfl, show encT L = .tup (L.map fun w => .tup (natD w)) from rfl]
      walk_at "D"
      intro _
      rw [List.length_map, a3]
      walk_at "D"
      rw [a4]
      walk_at "D"
      rw [a6]
      walk_at "D"
      rw [a5]
      walk_at "D"
      rw [a7]
      refine hΨ _ fun j ej => ?_
      rw [List.getElem?_eq_getElem hk] at ej
      cases ej
      exact ⟨_, z, by omega, z1, rfl⟩
    · have hdl : hd.length = (br r).length := by rw [hdl]; simp
      have hdr : ∀ (k : Nat), k < (br r).length → ∀ j, (br r)[k]? = some j → ∃ (b : Nat) (z : List Int), b < d ∧ ago S b = some z ∧ g0 hd k = g0 z j := fun k hk => hdr k k (List.getElem?_range hk)
      refine ⟨_, N, i, t, r, hd, rfl, e1, e2, hw, hN.1.2.2.2.2.2 r hr, fun v hv => ?_, hdl, hbr, ?_⟩
      · obtain ⟨k, hk, ek⟩ := List.mem_iff_getElem.mp hv
        obtain ⟨b, z, b1, b2, b3⟩ := hdr k (by omega) _ (List.getElem?_eq_getElem (by omega))
        obtain ⟨z', z1, z2, z3⟩ := hl b b1
        rw [b2] at z1
        cases z1
        have := g0_some (xs := hd) hk
        rw [List.getElem?_eq_getElem hk, ek] at this
        rw [Option.some.inj this, b3]
        exact z3 _
      · refine ⟨by rw [iD_len]; omega, hC _ ⟨vs ++ [min t (tv r (g0 hd))], .im (.int (i : Int)), .im (.lst (natD (br r))), s9, ?_, by simp [vl], fun i' t' r' h1 h2 h3 => ?_⟩⟩
        · rw [iD_append]; rfl
        · rw [g0_snoc]
          by_cases c : i' = vs.length
          · rw [if_pos c]
            rw [c, vl, ← ei] at h2 h3
            rw [e1] at h2
            rw [e2] at h3
            cases h2
            cases h3
            exact ⟨g0 hd, rfl, fun k j ej => hdr k (List.getElem?_eq_some_iff.mp ej).1 j ej⟩
          · rw [if_neg c]
            exact hvs i' t' r' (by simp at h1; omega) h2 h3
  · rintro env ⟨vs, s5, s8, s9, rfl, vl, hvs⟩
    have vl2 : vs.length = N.1.length := by rw [vl, nn]; simp
    rw [show encS S = .lst (S.map fun s => .tup (iD s)) from rfl]
    walk_at "D"
    have b : Beat N d S vs := ⟨vl2, fun i t r h1 h2 => hvs i t r (by have := (List.getElem?_eq_some_iff.mp h2).1; simp; omega) h1 h2⟩
    have q := hΦ vs L b hL
    unfold encS at q
    rw [List.map_append] at q
    refine ⟨by decide, ?_⟩
    exact ⟨by rw [List.length_map]; omega, by decide, q⟩
end NB

/-! M4 -/
set_option Elab.async false
set_option linter.all false
set_option maxRecDepth 100000
namespace NB
theorem Run.known {l : Life} {S : List (List Int)} (R : Run l S) {i : Nat} (h : i < l.d) : ∃ s, ago S i = some s ∧ s.length = l.N.1.length ∧ InE (knownL l) s := by
  obtain ⟨s, h1, h2, h3, _⟩ := R.last i h
  exact ⟨s, h1, h2, h3⟩
theorem run_rule {l l' : Life} {S : List (List Int)} (R : Run l S) (ok : okL l') (age : l'.age = 0) (hd : l'.d = l.d) (hn : l'.N.1.length = l.N.1.length) (w : Within (knownL l) l'.E) : Run l' S := by
  refine Run.fresh ok age (by rw [hd]; exact R.many) fun i hi => ?_
  obtain ⟨s, h1, h2, h3⟩ := R.known (i := i) (by omega)
  exact ⟨s, h1, by omega, h3.within w⟩
theorem run_seen {l l' : Life} {S : List (List Int)} (R : Run l S) (ok : okL l') (age : l'.age = 0) (hd : l'.d = l.d) (hn : l'.N.1.length = l.N.1.length) {h lo hi : Int} (h0 : 0 ≤ h ∧ h < l.N.1.length) (sh : ∀ i < l.d, ∀ s, ago S i = some s → lo ≤ g0 s h.toNat ∧ g0 s h.toNat ≤ hi)
    (w : Within (endsBehind l (.seen h lo hi)) l'.E) : Run l' S := by
  have k := known_ok R.ok
  have k1 := k.1
  have k2 := k.2.1
  refine Run.fresh ok age (by rw [hd]; exact R.many) fun i hi' => ?_
  obtain ⟨s, h1, h2, h3⟩ := R.known (i := i) (by omega)
  refine ⟨s, h1, by omega, InE.within (E := endsBehind l (.seen h lo hi)) (fun j => ?_) w⟩
  have q := sh i (by omega) s h1
  show g0 ((knownL l).1.set _ _) j ≤ g0 s j ∧ g0 s j ≤ g0 ((knownL l).2.set _ _) j
  rw [g0_set (by omega), g0_set (by omega)]
  have := h3 j
  split
  · rename_i e
    subst e
    omega
  · exact this
theorem run_house {l l' : Life} {S S' : List (List Int)} (R : Run l S) (ok : okL l') (age : l'.age = 0) (hd : l'.d = l.d) (hn : l'.N.1.length = l.N.1.length + 1) {t : Int} {r : Rule} (hl : S'.length = S.length) (ex : ∀ (i : Nat) (s : List Int), S[i]? = some s → ∃ v, S'[i]? = some (s ++ [v]) ∧ 0 ≤ v ∧ v ≤ t)
    (w : Within (endsBehind l (.house t r)) l'.E) : Run l' S' := by
  have k := known_ok R.ok
  have k1 := k.1
  have k2 := k.2.1
  refine Run.fresh ok age (by rw [hd, hl]; exact R.many) fun i hi' => ?_
  obtain ⟨s, h1, h2, h3⟩ := R.known (i := i) (by omega)
  unfold ago at h1
  obtain ⟨v, v1, v2, v3⟩ := ex _ s h1
  refine ⟨s ++ [v], by unfold ago; rw [hl]; exact v1, by simp; omega, InE.within (E := endsBehind l (.house t r)) (fun j => ?_) w⟩
  show g0 ((knownL l).1 ++ [0]) j ≤ g0 (s ++ [v]) j ∧ g0 (s ++ [v]) j ≤ g0 ((knownL l).2 ++ [t]) j
  rw [g0_snoc, g0_snoc, g0_snoc, k1, k2, h2]
  have := h3 j
  split
  · exact ⟨v2, v3⟩
  · exact this
theorem Run.nn {l : Life} {S : List (List Int)} (R : Run l S) : ∀ i < l.d, ∃ s, ago S i = some s ∧ s.length = l.N.1.length ∧ ∀ j, 0 ≤ g0 s j := fun i hi => by
  obtain ⟨s, h1, h2, h3⟩ := R.known hi
  have k := known_ok R.ok
  refine ⟨s, h1, h2, fun j => ?_⟩
  have := h3 j
  have := k.2.2 j
  omega
theorem list_ext_g0 {a b : List Int} (h : a.length = b.length) (e : ∀ j, g0 a j = g0 b j) : a = b := by
  refine List.ext_getElem h fun i h1 h2 => ?_
  have := e i
  have x1 := g0_some h1
  have x2 := g0_some h2
  rw [List.getElem?_eq_getElem h1] at x1
  rw [List.getElem?_eq_getElem h2] at x2
  rw [Option.some.inj x1, Option.some.inj x2, this]
/-- at rest: the last d states are the lows -/
theorem Run.rest {l : Life} {S : List (List Int)} (R : Run l S) (e : (knownL l).1 = (knownL l).2) : S.drop (S.length - l.d) = List.replicate l.d (knownL l).1 := by
  have hm := R.many
  have k := known_ok R.ok
  refine List.eq_replicate_iff.mpr ⟨by simp; omega, fun s hs => ?_⟩
  obtain ⟨i, hi, ha⟩ := mem_last hm hs
  obtain ⟨z, h1, h2, h3⟩ := R.known hi
  rw [ha] at h1
  cases h1
  refine list_ext_g0 (by rw [h2, k.1]) fun j => ?_
  have := h3 j
  rw [← e] at this
  omega
theorem fix_eq {N : Nt} {E : En} {m n : Nat} (h1 : next N (it N m E) = it N m E) (h2 : next N (it N n E) = it N n E) : it N m E = it N n E := by
  rcases Nat.le_total m n with h | h
  · exact (it_fix h1 h).symm
  · exact it_fix h2 h
/-- some round stays -/
theorem stays {N : Nt} {E : En} (hN : okN N) (ow : oneWayB N = true) (hE : okE N E) (hC : Cl N E) : ∃ m, Stays N E m := by
  have owp := oneWay_of hN.1 ow
  have step : ∀ {f : Nat}, next N (it N f E) ≠ it N f E → mGap (it N (f + 1) E) < mGap (it N f E) := fun {f} ne =>
    gap_fall (it_ok hN.1 owp hE f) (it_ok hN.1 owp hE (f + 1)) (it_dec hN.1 owp hE hC (Nat.le_succ f)) ne
  have go : ∀ (k f : Nat), mGap (it N f E) ≤ k → (∀ j < f, it N (j + 1) E ≠ it N j E) → ∃ m, Stays N E m := by
    intro k
    induction k with
    | zero =>
      intro f hk hf
      by_cases c : next N (it N f E) = it N f E
      · exact ⟨f, c, hf⟩
      · have := step c; omega
    | succ k ih =>
      intro f hk hf
      by_cases c : next N (it N f E) = it N f E
      · exact ⟨f, c, hf⟩
      · have := step c
        refine ih (f + 1) (by omega) fun j hj => ?_
        by_cases e : j = f
        · subst e; exact c
        · exact hf j (by omega)
  exact go _ 0 (Nat.le_refl _) fun j hj => absurd hj (by omega)
end NB

/-! SF -/
set_option Elab.async false
set_option linter.all false
set_option maxRecDepth 100000
set_option maxHeartbeats 2000000
namespace NB
open PySem PySem.Spec PyProof.Rows L2
local macro_rules | `(tactic| walk_at "D") => `(tactic| simp only [dSeq, dRet, dNext, dSet, dAsg, dPar, dPar3, dParO1, dParO2, dNew, dFreeze, dNever, dApp, dExt, dIfS, dVar, dC, dOp, dCall, dCons, dNil, dAndV, dOrV, dNotV, dTst, dTAnd, dTOr, dTNot, dIf, dYes, dIx, dEq, dNe, dLt, dLe, dGt, dGe, dAdd, dSub, dMul, dDiv, dMod, dIn, dIsN, dNotN, dIsT, dEqD, dNeD, dCat, dLen, dMin, dMax, dSum, dAny, dAll, dTuple, dList, dSl, dPart, dNoPart, dTup, dLst, dIsi, dNeg, dChain, dRev, dRep, dRepT, dSizes, dStup, dSNil, dSCons, dSStar, dItems, dRange1, dRange2, dZip, dEnum, dLc, dFor, bName, bTup, bCons, bNil, rdI, rdI0, rdB0, rdEq, rdNe, rdIsN, rdNotN, rdIsT, rdIx, rdIn, rdCat, rdLen, rdMin, rdMax, rdSum, rdSorted, rdAny, rdAll, rdTuple, rdList, isTy, isNon, getS, setS, wipeS, startE, List.map, List.replicate, List.length_cons, List.length_nil, List.append, List.cons_append, List.nil_append, List.append_nil, Nat.sub_self, Nat.reduceSub, Nat.reduceAdd, Bool.not_true, Bool.not_false, encH, encs, atI0, atI1, atI2, atI3, strsOf, intsOf, Option.map_some, intsOf_iD, dq_is_hear, dq_is_least, dq_is_most, dq_is_add, dq_is_middle, dq_is_times, dq_is_part, dq_is_clip, dq_is_from, dq_is_bar, dq_is_row, dq_hear_is, dq_hear_least, dq_hear_most, dq_hear_add, dq_hear_middle, dq_hear_times, dq_hear_part, dq_hear_clip, dq_hear_from, dq_hear_bar, dq_hear_row, dq_least_is, dq_least_hear, dq_least_most, dq_least_add, dq_least_middle, dq_least_times, dq_least_part, dq_least_clip, dq_least_from, dq_least_bar, dq_least_row, dq_most_is, dq_most_hear, dq_most_least, dq_most_add, dq_most_middle, dq_most_times, dq_most_part, dq_most_clip, dq_most_from, dq_most_bar, dq_most_row, dq_add_is, dq_add_hear, dq_add_least, dq_add_most, dq_add_middle, dq_add_times, dq_add_part, dq_add_clip, dq_add_from, dq_add_bar, dq_add_row, dq_middle_is, dq_middle_hear, dq_middle_least, dq_middle_most, dq_middle_add, dq_middle_times, dq_middle_part, dq_middle_clip, dq_middle_from, dq_middle_bar, dq_middle_row, dq_times_is, dq_times_hear, dq_times_least, dq_times_most, dq_times_add, dq_times_middle, dq_times_part, dq_times_clip, dq_times_from, dq_times_bar, dq_times_row, dq_part_is, dq_part_hear, dq_part_least, dq_part_most, dq_part_add, dq_part_middle, dq_part_times, dq_part_clip, dq_part_from, dq_part_bar, dq_part_row, dq_clip_is, dq_clip_hear, dq_clip_least, dq_clip_most, dq_clip_add, dq_clip_middle, dq_clip_times, dq_clip_part, dq_clip_from, dq_clip_bar, dq_clip_row, dq_from_is, dq_from_hear, dq_from_least, dq_from_most, dq_from_add, dq_from_middle, dq_from_times, dq_from_part, dq_from_clip, dq_from_bar, dq_from_row, dq_bar_is, dq_bar_hear, dq_bar_least, dq_bar_most, dq_bar_add, dq_bar_middle, dq_bar_times, dq_bar_part, dq_bar_clip, dq_bar_from, dq_bar_row, dq_row_is, dq_row_hear, dq_row_least, dq_row_most, dq_row_add, dq_row_middle, dq_row_times, dq_row_part, dq_row_clip, dq_row_from, dq_row_bar, dq_none_both, dq_none_falls, dq_none_rises, dq_both_none, dq_both_falls, dq_both_rises, dq_falls_none, dq_falls_both, dq_falls_rises, dq_rises_none, dq_rises_both, dq_rises_falls, dq_wait_rule, dq_wait_house, dq_wait_seen, dq_rule_wait, dq_rule_house, dq_rule_seen, dq_house_wait, dq_house_rule, dq_house_seen, dq_seen_wait, dq_seen_rule, dq_seen_house, di_is, dj_is, dk_is, dl_is, di_hear, dj_hear, dk_hear, dl_hear, di_least, dj_least, dk_least, dl_least, di_most, dj_most, dk_most, dl_most, di_add, dj_add, dk_add, dl_add, di_middle, dj_middle, dk_middle, dl_middle, di_times, dj_times, dk_times, dl_times, di_part, dj_part, dk_part, dl_part, di_clip, dj_clip, dk_clip, dl_clip, di_from, dj_from, dk_from, dl_from, di_bar, dj_bar, dk_bar, dl_bar, di_row, dj_row, dk_row, dl_row, kt_int_int, kt_int_bool, kt_bool_int, kt_bool_bool, kt_tuple_tuple, kt_str_str, kt_int_tuple, kt_str_tuple, kt_tuple_int, kt_tuple_str, kt_NoneType_tuple, kt_str_int, dq_same, decide_true])

theorem wait_ok {l : Life} {n : Int} (h0 : 0 ≤ n) (h1 : n < 10001) : isCh l (.wait n) = true := by
  show (decide (0 ≤ n) && decide (n < 10001)) = true
  rw [decide_eq_true h0, decide_eq_true h1]; rfl
theorem waited {l : Life} (hl : okL l) {n : Int} (h0 : 0 ≤ n) (h1 : n < 10001) {Φ : D → Prop} (h : Φ (encL ⟨l.N, l.d, l.E, l.age + n.toNat⟩)) : r_changed [encL l, .tup [.str "wait", .int n]] Φ :=
  ⟨l, .wait n, rfl, hl, trivial, wait_ok h0 h1, .inl ⟨n, rfl, h⟩⟩
theorem law_beats {b : DB} {wb : DS} {N : List Slot → Prop} {R : D → Prop} {env : List Slot} {n : Nat} (P : Nat → List Slot → Prop) (h0 : P 0 env) (hs : ∀ k env (C : List Slot → Prop), k < n → P k env → (∀ env', P (k + 1) env' → C env') → b (.int (k : Int)) env fun env' => wb C R env') (hd : ∀ env, P n env → N env) : forGo b wb N R (rangeD 0 n) env := by
  rw [range0]
  refine for_over (fun i : Nat => D.int (i : Int)) (fun done env => P done.length env) (List.range n) env h0 (fun done x rest env C e hp hC => ?_) (fun env hp => hd env (by simpa using hp))
  obtain ⟨e1, e2, _⟩ := range_split e
  refine hs x env C e2 (by rw [e1]; exact hp) fun env' hp' => hC env' ?_
  rw [List.length_append]
  show P (done.length + 1) env'
  rw [← e1]; exact hp'
def draw : ∀ (b : Int) (Ψ : D → Prop), 1 ≤ b → b ≤ 100000 → (∀ x : Int, 0 ≤ x → x < b → Ψ (.int x)) → r_law_any [.deal, .int b] Ψ := fun b Ψ h1 h2 q => ⟨b, rfl, h1, h2, q⟩
theorem lc_ext {b : DB} {te : DE} {env : List Slot} {Φ : D → Prop} {t : Int} (S : List (List Int)) (hs : ∀ s ∈ S, ∀ Ψ : D → Prop, (∀ v, 0 ≤ v → v ≤ t → Ψ (.tup (iD s ++ [.int v]))) → b (.tup (iD s)) env fun env' => te env' Ψ)
    (h : ∀ S2 : List (List Int), S2.length = S.length → (∀ (i : Nat) (s : List Int), S[i]? = some s → ∃ v, S2[i]? = some (s ++ [v]) ∧ 0 ≤ v ∧ v ≤ t) → Φ (.lst (S2.map fun s => .tup (iD s)))) : lcGo b dYes te env Φ (S.map fun s => .tup (iD s)) [] := by
  refine lc_over_all (fun s : List Int => D.tup (iD s)) (fun s y => ∃ v, (0 ≤ v ∧ v ≤ t) ∧ y = .tup (iD (s ++ [v]))) S [] (fun s hs' Ψ hΨ => hs s hs' Ψ fun v v0 v1 => hΨ _ ⟨v, ⟨v0, v1⟩, by rw [iD_append]; rfl⟩) fun ys hl hR => ?_
  have key : ∀ (zs : List (List Int)) (ys : List D), ys.length = zs.length → (∀ (i : Nat) (x : List Int) (y : D), zs[i]? = some x → ys[i]? = some y → ∃ v, (0 ≤ v ∧ v ≤ t) ∧ y = .tup (iD (x ++ [v]))) → ∃ S2 : List (List Int), ys = (S2.map fun s => .tup (iD s)) ∧ S2.length = zs.length ∧ ∀ (i : Nat) (s : List Int), zs[i]? = some s → ∃ v, S2[i]? = some (s ++ [v]) ∧ 0 ≤ v ∧ v ≤ t := by
    intro zs
    induction zs with
    | nil => intro ys hl _; exact ⟨[], List.eq_nil_of_length_eq_zero hl, rfl, fun i x e => by simp at e⟩
    | cons z zs ih =>
      intro ys hl hR
      cases ys with
      | nil => simp at hl
      | cons y ys =>
        obtain ⟨v, h1, h2⟩ := hR 0 z y rfl rfl
        obtain ⟨L, e1, e2, e3⟩ := ih ys (by simpa using hl) fun i x y' a b => hR (i + 1) x y' (by simpa using a) (by simpa using b)
        refine ⟨(z ++ [v]) :: L, by rw [h2, e1]; rfl, by simp [e2], fun i x a => ?_⟩
        cases i with
        | zero => simp at a; subst a; exact ⟨v, rfl, h1⟩
        | succ i => exact e3 i x (by simpa using a)
  obtain ⟨L, e1, e2, e3⟩ := key S ys hl hR
  rw [List.nil_append, e1]
  exact h L e2 e3
theorem okD_rep (n : Nat) (xs : List Int) : okD 60 (.lst (List.replicate n (.tup (iD xs)))) = true := by
  show okDs 59 (List.replicate n (.tup (iD xs))) = true
  induction n with
  | zero => rfl
  | succ n ih =>
    rw [List.replicate_succ]
    show (okDs 58 (iD xs) && okDs 59 (List.replicate n (.tup (iD xs)))) = true
    rw [ih, okDs_iD]; rfl
theorem p_law_tail : w_law_tail r_law_life r_law_any r_law_beat r_changed r_law_holds r_law_some_change r_is_change r_rests_in r_law_all_words r_law_led r_law_next_ends r_known (fun _ => False) (fun d => d = .bl true) [.no, .im .deal, .no, .no, .no, .no, .no, .no, .no, .no, .no, .no, .no, .no, .no, .no, .no, .no, .no, .no] := by
  unfold w_law_tail
  simp only [dSeq, dSet, dCall, dVar, dC, dCons, dNil, getS]
  refine ⟨rfl, fun l0 hl0 h3 => ?_⟩
  obtain ⟨N, d, E, age⟩ := l0
  simp only [setS, dCat, dOp, dSl, dPart, dNoPart, dTup, dVar, dC, dCons, dNil, getS, dAsg, dNew]
  rw [show encL ⟨N, d, E, age⟩ = .tup [encN N, .int (d : Int), encE E, .int (age : Int)] from rfl]
  simp only [dVar, rdCat]
  have hd1 : 2 ≤ d := hl0.2.2.2.2.1
  have hd2 : d ≤ 9 := hl0.2.2.2.2.2
  have hE : okE N E := hl0.2.2.1
  rw [show (3 : Int) = ((3 : Nat) : Int) from rfl, cut_lo]
  simp only [List.take, List.cons_append, List.nil_append, getS, bTup, bCons, bName, bNil, setS, List.length_cons, List.length_nil]
  refine ⟨by decide, by decide, ?_⟩
  unfold dFor dRange1
  simp only [dVar, getS]
  refine ⟨by omega, by omega, ?_⟩
  have hl : okL ⟨N, d, E, 0⟩ := hl0
  refine law_beats (fun k env => ∃ (S : List (List Int)) (s4 s18 s19 : Slot), env = [.no, .im .deal, .im (encL ⟨N, d, E, 0⟩), .ow (S.map fun s => .tup (iD s)), s4, .im (encN N), .im (.int (d : Int)), .im (encE E), .im (.int 0), .no, .no, .no, .no, .no, .no, .no, .no, .no, s18, s19] ∧ S.length = k ∧ ∀ s ∈ S, s.length = N.1.length ∧ InE E s) ⟨[], .no, .no, .no, rfl, rfl, fun s h => nomatch h⟩ ?_ ?_
  · rintro k env C hk ⟨S, s4, s18, s19, rfl, hSl, hS⟩ hC
    have hk : k < d := by simpa using hk
    rw [show encE E = .tup [.tup (iD E.1), .tup (iD E.2)] from rfl]
    walk_at "D"
    rw [zip_iD]
    refine lc_ints pairD (fun p v => p.1 ≤ v ∧ v ≤ p.2) (List.zip E.1 E.2) (fun p hp Ψ hΨ => ?_) fun L lL hL => ?_
    · obtain ⟨i, hi, e⟩ := List.mem_iff_getElem.mp hp
      simp at hi
      have q := hE.2.2 i
      have qt := hl0.1.1.2.2.2.1
      have z1 : p.1 = g0 E.1 i := by
        rw [← e, List.getElem_zip]
        have := g0_some (xs := E.1) (i := i) (by omega)
        rw [List.getElem?_eq_getElem (by omega)] at this
        exact Option.some.inj this
      have z2 : p.2 = g0 E.2 i := by
        rw [← e, List.getElem_zip]
        have := g0_some (xs := E.2) (i := i) (by omega)
        rw [List.getElem?_eq_getElem (by omega)] at this
        exact Option.some.inj this
      have l1 := hE.1
      have z3 := qt _ (getD_mem' (xs := N.1) (i := i) (by omega))
      have z3 : 0 ≤ g0 N.1 i ∧ g0 N.1 i ≤ 1000 := z3
      unfold pairD
      walk_at "D"
      refine draw _ _ (by omega) (by omega) fun v v0 v1 => ?_
      walk_at "D"
      exact hΨ _ ⟨by omega, by omega⟩
    have l1 := hE.1
    have l2 := hE.2.1
    have lL2 : L.length = N.1.length := by rw [lL, List.length_zip]; omega
    refine ⟨by rw [List.length_map]; omega, hC _ ⟨S ++ [L], .im (.int (k : Int)), s18, s19, ?_, by simp [hSl], fun s hs => ?_⟩⟩
    · rw [List.map_append]; rfl
    · rcases List.mem_append.mp hs with hs | hs
      · exact hS s hs
      · rw [List.mem_singleton] at hs
        subst hs
        refine ⟨lL2, fun j => ?_⟩
        by_cases c : j < N.1.length
        · exact hL j (g0 E.1 j, g0 E.2 j) (by
            rw [List.getElem?_zip_eq_some]
            exact ⟨g0_some (by omega), g0_some (by omega)⟩)
        · rw [g0_out (xs := E.1) (by omega), g0_out (xs := E.2) (by omega), g0_out (xs := s) (by omega)]
          omega
  rintro env ⟨S, s4, s18, s19, rfl, hSl, hS⟩
  have hSl : S.length = d := by simpa using hSl
  have R0 : Run ⟨N, d, E, 0⟩ S := by
    refine Run.fresh hl rfl (by show d ≤ _; omega) fun i hi => ?_
    have hi : i < d := hi
    have hlt : S.length - 1 - i < S.length := by omega
    obtain ⟨h1, h2⟩ := hS _ (List.getElem_mem hlt)
    exact ⟨_, List.getElem?_eq_getElem hlt, h1, h2⟩
  simp only [dFreeze, getS, setS, dRange1, dC]
  refine ⟨by decide, by decide, ?_⟩
  have hNl : N.1.length ≤ 5 := by have : N.1.length ≤ 3 := h3; omega
  refine law_beats (n := 5) (fun k env => ∃ (l : Life) (S : List (List Int)) (s4 s5 s7 s8 s9 s10 s11 s12 s13 s14 s15 s16 s17 s18 s19 : Slot), env = [.no, .im .deal, .im (encL l), .im (encS S), s4, s5, .im (.int (d : Int)), s7, s8, s9, s10, s11, s12, s13, s14, s15, s16, s17, s18, s19] ∧ Run l S ∧ l.d = d ∧ S.length ≤ 9 + 18 * k ∧ l.N.1.length ≤ 5 ∧ ∀ s ∈ S, s.length = l.N.1.length) ⟨⟨N, d, E, 0⟩, S, _, _, _, _, _, _, _, _, _, _, _, _, _, _, _, rfl, R0, rfl, by omega, hNl, fun s hs => (hS s hs).1⟩ ?_ ?_
  · clear hS hSl R0 hNl
    rintro k0 env C hk ⟨l, S, s4, s5, s7, s8, s9, s10, s11, s12, s13, s14, s15, s16, s17, s18, s19, rfl, R, hld, hSl, hNl, hLe⟩ hC
    have ld1 : 2 ≤ l.d := R.ok.2.2.2.2.1
    have ld2 : l.d ≤ 9 := R.ok.2.2.2.2.2
    simp only [bName, setS, dPar, dCall, dVar, dC, dCons, dNil, getS, dOp, rdI0, dAdd, dMul]
    refine ⟨.inl ⟨by decide, by decide⟩, ?_⟩
    simp only [dC, rdI0, dNil]
    refine draw _ _ (by omega) (by omega) fun b b0 b1 => ?_
    simp only [setS, dC, dSeq, dFor, dRange1, dVar, getS]
    refine ⟨by omega, by omega, ?_⟩
    refine law_beats (fun k env => ∃ (S' : List (List Int)) (x : D) (s9 : Slot), env = [.no, .im .deal, .im (encL l), .im (encS S'), Slot.im (.int (k0 : Int)), s5, .im (.int (d : Int)), s7, s8, s9, s10, .im (.int b), .im x, s13, s14, s15, s16, s17, s18, s19] ∧ Run ⟨l.N, l.d, l.E, l.age + k⟩ S' ∧ lastOk l.N d x ∧ S'.length = S.length + k ∧ ∀ s ∈ S', s.length = l.N.1.length) ⟨S, .non, s9, rfl, R, .inl rfl, rfl, hLe⟩ ?_ ?_
    · rintro k env C' hk' ⟨S', x, s9, rfl, R', hx, hl', hLe'⟩ hC'
      rw [show encL l = .tup [encN l.N, .int (l.d : Int), encE l.E, .int (l.age : Int)] from rfl]
      walk_at "D"
      refine ⟨l.N, d, S', x, rfl, R.ok.1, by omega, by omega, hx, by have := R'.many; have : l.d ≤ S'.length := this; omega, by omega, fun i hi => ?_, fun s L hs hL => ?_⟩
      · exact R'.nn i (by show i < l.d; omega)
      · walk_at "D"
        refine hC' _ ⟨S' ++ [s], encT L, _, rfl, ?_, .inr ⟨L, hL, rfl⟩, by simp; omega, fun z hz => (List.mem_append.mp hz).elim (hLe' z) fun hz => by rw [List.mem_singleton] at hz; rw [hz]; exact hs.1⟩
        exact R'.beat (s := s) (by rw [show (⟨l.N, l.d, l.E, l.age + k⟩ : Life).N = l.N from rfl, show (⟨l.N, l.d, l.E, l.age + k⟩ : Life).d = d from hld]; exact hs)
    · rintro env ⟨S', x, s9, rfl, R', hx, hl', hLe'⟩
      rw [dSeq]
      simp only [dSet, dCall, dTup, dVar, dC, dCons, dNil, getS, List.length_cons, List.length_nil, Nat.reduceAdd]
      refine ⟨by decide, waited R.ok b0 (by omega) ?_⟩
      have R1 : Run ⟨l.N, l.d, l.E, l.age + b.toNat⟩ S' := R'
      generalize hl1 : (⟨l.N, l.d, l.E, l.age + b.toNat⟩ : Life) = l1 at R1
      have n1 : l1.N = l.N := by rw [← hl1]
      have d1 : l1.d = l.d := by rw [← hl1]
      clear R' hx
      rw [dSeq]
      simp only [setS, dIfS, dTNot, dTst, dCall, dVar, dCons, dNil, getS]
      refine ⟨l1, S', rfl, R1, ?_⟩
      simp only [Bool.not_true, dNext]
      rw [dSeq]
      simp only [dSet, dCall, dVar, dCons, dNil, getS]
      refine ⟨l1, rfl, R1.ok, fun c hc => ?_⟩
      simp only [setS]
      have hS'l : S'.length ≤ 9 + 18 * (k0 + 1) := by omega
      have hN1 : l1.N.1.length ≤ 5 := by rw [n1]; exact hNl
      have hd1l : l1.d = d := by omega
      have hLe1 : ∀ s ∈ S', s.length = l1.N.1.length := fun s hs => by rw [n1]; exact hLe' s hs
      have eL : ∀ l : Life, encL l = .tup [.tup [.tup (iD l.N.1), .tup (encs l.N.2)], .int (l.d : Int), encE l.E, .int (l.age : Int)] := fun l => rfl
      have again : ∀ (l2 : Life) (S2 : List (List Int)) (env' : List Slot) (s4 s5 s7 s8 s9 s10 s11 s12 s13 s14 s15 s16 s17 s18 s19 : Slot), Run l2 S2 → l2.d = d → S2.length = S'.length → l2.N.1.length ≤ 5 → (∀ s ∈ S2, s.length = l2.N.1.length) → env' = [.no, .im .deal, .im (encL l2), .im (encS S2), s4, s5, .im (.int (d : Int)), s7, s8, s9, s10, s11, s12, s13, s14, s15, s16, s17, s18, s19] → C env' :=
        fun l2 S2 env' s4 s5 s7 s8 s9 s10 s11 s12 s13 s14 s15 s16 s17 s18 s19 a1 a2 a3 a4 a6 a5 => hC _ ⟨l2, S2, s4, s5, s7, s8, s9, s10, s11, s12, s13, s14, s15, s16, s17, s18, s19, a5, a1, a2, by omega, a4, a6⟩
      cases c with
      | wait n =>
        unfold encC
        walk_at "D"
        exact again l1 S' _ _ _ _ _ _ _ _ _ _ _ _ _ _ _ _ R1 hd1l rfl hN1 hLe1 rfl
      | rule h r =>
        unfold encC
        rw [eL]
        walk_at "D"
        intro _
        have keep := again l1 S' _ _ _ _ _ _ _ _ _ _ _ _ _ _ _ _ R1 hd1l rfl hN1 hLe1 (rfl : [.no, .im .deal, .im (encL l1), .im (encS S'), .im (.int (k0 : Int)), s5, .im (.int (d : Int)), s7, s8, s9, .im (.tup [.str "rule", .int h, enc r]), .im (.int b), .im x, s13, s14, s15, s16, s17, s18, s19] = _)
        cases c5 : decide ((((iD l1.N.1).length : Nat) : Int) < 5) with
        | false => exact keep
        | true =>
          have hcC : okC l1 (.rule h r) := hc.2
          refine ⟨l1, .rule h r, rfl, R1.ok, hcC, ?_⟩
          cases ci : isCh l1 (.rule h r) with
          | false => exact keep
          | true =>
            refine ⟨l1, .rule h r, rfl, R1.ok, hcC, ci, .inr ⟨fun n e => (by cases e), fun E' ok' w => ?_⟩⟩
            have R2 : Run ⟨netBehind l1.N (.rule h r), l1.d, E', 0⟩ S' := run_rule R1 ok' rfl rfl rfl w
            refine ⟨_, S', rfl, R2, ?_⟩
            exact again _ S' _ _ _ _ _ _ _ _ _ _ _ _ _ _ _ _ R2 hd1l rfl hN1 hLe1 rfl
      | house t r =>
        unfold encC
        rw [eL, show encS S' = .lst (S'.map fun s => .tup (iD s)) from rfl]
        walk_at "D"
        intro _
        have keep := again l1 S' _ _ _ _ _ _ _ _ _ _ _ _ _ _ _ _ R1 hd1l rfl hN1 hLe1 (rfl : [.no, .im .deal, .im (encL l1), .im (encS S'), .im (.int (k0 : Int)), s5, .im (.int (d : Int)), s7, s8, s9, .im (.tup [.str "house", .int t, enc r]), .im (.int b), .im x, s13, s14, s15, s16, s17, s18, s19] = _)
        cases c5 : decide ((((iD l1.N.1).length : Nat) : Int) < 5) with
        | false => exact keep
        | true =>
          have c5 := of_decide_eq_true c5
          rw [iD_len] at c5
          have hcC : okC l1 (.house t r) := ⟨hc.2.2.1, hc.2.2.2.1, hc.2.2.2.2, by have := hc.1; omega, by have := hc.2.1; omega, by omega⟩
          refine ⟨l1, .house t r, rfl, R1.ok, hcC, ?_⟩
          cases ci : isCh l1 (.house t r) with
          | false => exact keep
          | true =>
            walk_at "D"
            refine lc_ext (t := t) S' (fun s hs Ψ hΨ => ?_) fun S2 l2 h2 => ?_
            · walk_at "D"
              refine draw _ _ (by have := hc.1; omega) (by have := hc.2.1; omega) fun v v0 v1 => ?_
              exact ⟨by decide, by rw [iD_len, hLe1 s hs]; omega, hΨ v v0 (by omega)⟩
            · refine ⟨l1, .house t r, rfl, R1.ok, hcC, ci, .inr ⟨fun n e => (by cases e), fun E' ok' w => ?_⟩⟩
              have R2 : Run ⟨netBehind l1.N (.house t r), l1.d, E', 0⟩ S2 := run_house R1 ok' rfl rfl (by show (l1.N.1 ++ [t]).length = _; simp) l2 h2 w
              refine ⟨_, S2, rfl, R2, ?_⟩
              exact again _ S2 _ _ _ _ _ _ _ _ _ _ _ _ _ _ _ _ R2 hd1l l2 (by show (l1.N.1 ++ [t]).length ≤ 5; simp; omega) (fun z hz => by
                obtain ⟨i, hi, e⟩ := List.mem_iff_getElem.mp hz
                have hi2 : i < S'.length := by omega
                obtain ⟨v, h3, _⟩ := h2 i S'[i] (List.getElem?_eq_getElem hi2)
                rw [List.getElem?_eq_getElem hi, e] at h3
                rw [Option.some.inj h3, List.length_append, hLe1 _ (List.getElem_mem hi2)]
                show _ = (l1.N.1 ++ [t]).length
                simp) rfl
      | seen h lo hi =>
        have hm1 := R1.many
        unfold encC
        rw [eL, show encS S' = .lst (S'.map fun s => .tup (iD s)) from rfl]
        simp only [dSeq, dIfS, dTst, dEq, dOp, dIx, dVar, dC, getS, rdIx, rdEq, atI0, dq_same, decide_true, dSet, dLc, dItems, dSl, dPart, dNoPart, dSub, dLen, dCall, dCons, dNil, rdLen, rdI0, wipeS, setS]
        intro _
        rw [List.length_map, show ((S'.length : Int) - (d : Int)) = ((S'.length - l1.d : Nat) : Int) by omega, cut_from, ← List.map_drop]
        have hlast : ∀ s ∈ S'.drop (S'.length - l1.d), s.length = l1.N.1.length := fun s hs => by
          obtain ⟨i, hi, ha⟩ := mem_last hm1 hs
          obtain ⟨z, h1, h2, _⟩ := R1.known hi
          rw [ha] at h1
          cases h1
          exact h2
        have hh : h = ((h.toNat : Nat) : Int) := by have := hc.1; omega
        have hh2 : h.toNat < l1.N.1.length := by have := hc.1; have := hc.2; omega
        refine lc_over (fun s : List Int => D.tup (iD s)) (fun s => .int (g0 s h.toNat)) (S'.drop (S'.length - l1.d)) [] (fun s hs Ψ hΨ => ?_) ?_
        · walk_at "D"
          rw [hh, atIn (iD_get (g0_some (by rw [hlast s hs]; exact hh2)))]
          exact hΨ
        rw [List.nil_append, show (S'.drop (S'.length - l1.d)).map (fun s => D.int (g0 s h.toNat)) = iD ((S'.drop (S'.length - l1.d)).map fun s => g0 s h.toNat) by unfold iD; rw [List.map_map]; rfl]
        generalize hsh : (S'.drop (S'.length - l1.d)).map (fun s => g0 s h.toNat) = sh
        have shne : sh ≠ [] := by
          rw [← hsh]
          intro e
          have := congrArg List.length e
          simp at this
          have : 2 ≤ l1.d := R1.ok.2.2.2.2.1
          omega
        walk_at "D"
        refine ⟨shne, shne, by decide, fun _ => ?_⟩
        have keep := again l1 S' _ _ _ _ _ _ _ _ _ _ _ _ _ _ _ _ R1 hd1l rfl hN1 hLe1 (rfl : [.no, .im .deal, .im (encL l1), .im (encS S'), .im (.int (k0 : Int)), s5, .im (.int (d : Int)), s7, s8, s9, .im (.tup [.str "seen", .int h, .int (minL sh), .int (maxL sh)]), .im (.int b), .im x, s13, .im (.lst (iD sh)), s15, s16, s17, s18, s19] = _)
        cases c5 : decide ((((iD l1.N.1).length : Nat) : Int) < 5) with
        | false => exact keep
        | true =>
          refine ⟨l1, .seen h (minL sh) (maxL sh), rfl, R1.ok, trivial, ?_⟩
          cases ci : isCh l1 (.seen h (minL sh) (maxL sh)) with
          | false => exact keep
          | true =>
            refine ⟨l1, .seen h (minL sh) (maxL sh), rfl, R1.ok, trivial, ci, .inr ⟨fun n e => (by cases e), fun E' ok' w => ?_⟩⟩
            have R2 : Run ⟨netBehind l1.N (.seen h (minL sh) (maxL sh)), l1.d, E', 0⟩ S' := by
              refine run_seen R1 ok' rfl rfl rfl ⟨hc.1, hc.2⟩ (fun i hi s ha => ?_) w
              have hmem : g0 s h.toNat ∈ sh := by
                rw [← hsh]
                refine List.mem_map_of_mem ?_
                unfold ago at ha
                have hlt := (List.getElem?_eq_some_iff.mp ha).1
                refine List.mem_of_getElem? (i := l1.d - 1 - i) ?_
                rw [List.getElem?_drop, show S'.length - l1.d + (l1.d - 1 - i) = S'.length - 1 - i by omega]
                exact ha
              exact ⟨minL_le hmem, le_maxL hmem⟩
            refine ⟨_, S', rfl, R2, ?_⟩
            exact again _ S' _ _ _ _ _ _ _ _ _ _ _ _ _ _ _ _ R2 hd1l rfl hN1 hLe1 rfl
  · rintro env ⟨l, S, s4, s5, s7, s8, s9, s10, s11, s12, s13, s14, s15, s16, s17, s18, s19, rfl, R, hld, hSl, hNl, hLe⟩
    have ld1 : 2 ≤ l.d := R.ok.2.2.2.2.1
    have ld2 : l.d ≤ 9 := R.ok.2.2.2.2.2
    have k := known_ok R.ok
    have eL : ∀ l : Life, encL l = .tup [.tup [.tup (iD l.N.1), .tup (encs l.N.2)], .int (l.d : Int), encE l.E, .int (l.age : Int)] := fun l => rfl
    simp only [dSeq, dPar, dCall, dVar, dC, dCons, dNil, getS]
    refine ⟨l, rfl, R.ok, fun m hm => ?_⟩
    by_cases e : (it l.N m l.E).1 = (it l.N m l.E).2
    · rw [if_pos e]
      obtain ⟨B, hB⟩ : ∃ B : Nat, (max 0 ((l.d : Int) * m - l.age)) = (B : Int) := ⟨(max 0 ((l.d : Int) * m - l.age)).toNat, by omega⟩
      have hB2 : l.d * m ≤ l.age + B := by
        have : ((l.d * m : Nat) : Int) = (l.d : Int) * m := Int.natCast_mul ..
        omega
      rw [hB]
      simp only [setS, dIfS, dTst, dIsN, dOp, dVar, dC, getS, rdIsN, isNon, dNext, dFor, dRange1, dMin, dCall, dCons, dNil, rdMin]
      refine ⟨by omega, by omega, ?_⟩
      rw [show (min (B : Int) 60).toNat = min B 60 by omega]
      refine law_beats (fun k env => ∃ (S' : List (List Int)) (x : D) (s4 : Slot), env = [.no, .im .deal, .im (encL l), .im (encS S'), s4, s5, .im (.int (d : Int)), s7, s8, s9, s10, .im (.int (B : Int)), .im x, s13, s14, s15, s16, s17, s18, s19] ∧ Run ⟨l.N, l.d, l.E, l.age + k⟩ S' ∧ lastOk l.N d x ∧ S'.length = S.length + k) ⟨S, .non, s4, rfl, R, .inl rfl, rfl⟩ ?_ ?_
      · rintro k env C' hk' ⟨S', x, s4, rfl, R', hx, hl'⟩ hC'
        rw [show encL l = .tup [encN l.N, .int (l.d : Int), encE l.E, .int (l.age : Int)] from rfl]
        walk_at "D"
        refine ⟨l.N, d, S', x, rfl, R.ok.1, by omega, by omega, hx, by have := R'.many; have : l.d ≤ S'.length := this; omega, by omega, fun i hi => ?_, fun s L hs hL => ?_⟩
        · exact R'.nn i (by show i < l.d; omega)
        · walk_at "D"
          refine hC' _ ⟨S' ++ [s], encT L, _, rfl, ?_, .inr ⟨L, hL, rfl⟩, by simp; omega⟩
          exact R'.beat (s := s) (by rw [show (⟨l.N, l.d, l.E, l.age + k⟩ : Life).N = l.N from rfl, show (⟨l.N, l.d, l.E, l.age + k⟩ : Life).d = d from hld]; exact hs)
      · rintro env ⟨S', x, s4, rfl, R', hx, hl'⟩
        rw [dSeq]
        simp only [dRet, dOrV, dGt, dOp, dVar, dC, getS, rdB0]
        by_cases c : (60 : Int) < (B : Int)
        · rw [decide_eq_true c]
          exact trivial
        · rw [decide_eq_false c]
          rw [show min B 60 = B by omega] at R'
          have R1 : Run ⟨l.N, l.d, l.E, l.age + B⟩ S' := R'
          have kn : knownL ⟨l.N, l.d, l.E, l.age + B⟩ = it l.N m l.E := by
            refine it_fix hm.1 ?_
            show m ≤ (l.age + B) / l.d
            exact (Nat.le_div_iff_mul_le (by omega)).mpr (by rw [Nat.mul_comm]; exact hB2)
          have rs := R1.rest (by rw [kn]; exact e)
          rw [kn] at rs
          have hm1 : l.d ≤ S'.length := R1.many
          have rs : S'.drop (S'.length - l.d) = List.replicate l.d (it l.N m l.E).1 := rs
          rw [show encS S' = .lst (S'.map fun s => .tup (iD s)) from rfl]
          walk_at "D"
          intro _
          refine ⟨by decide, waited R.ok (by omega) (by omega) ⟨⟨l.N, l.d, l.E, l.age + B⟩, rfl, R1.ok, ?_⟩⟩
          rw [kn]
          unfold encE
          walk_at "D"
          refine ⟨by decide, by omega, by omega, ?_⟩
          rw [List.length_map, show ((S'.length : Int) - (d : Int)) = ((S'.length - l.d : Nat) : Int) by omega, cut_from, ← List.map_drop, rs, List.map_replicate, show ((d : Nat) : Int).toNat = l.d by omega]
          refine ⟨okD_rep _ _, okD_rep _ _, fun b hb => ?_⟩
          rw [hb.mpr rfl]
    · rw [if_neg e]
      simp only [setS, dIfS, dTst, dIsN, dOp, dVar, dC, getS, rdIsN, isNon]
      rw [eL]
      simp only [dSeq, dSet, dAsg, dIx, dOp, dVar, dC, getS, rdIx, atI0, atI2, dCall, dCons, dNil, setS]
      refine ⟨l.N, rfl, R.ok.1, ?_⟩
      simp only [dSeq, dSet, dAsg, dIx, dOp, dVar, dC, getS, rdIx, atI0, atI2, dCall, dCons, dNil, setS]
      refine ⟨l.N, l.E, rfl, R.ok.1, R.ok.2.1, R.ok.2.2.1, R.ok.2.2.2.1, fun m' f hm' => ?_⟩
      have em := fix_eq hm.1 hm'
      rw [em] at e
      unfold encE
      walk_at "D"
      refine ⟨okD_iD _, okD_iD _, fun b hb => ?_⟩
      have hb : b = true ↔ ¬ (it l.N m' l.E).1 = (it l.N m' l.E).2 := by rw [hb, tup_inj]
      rw [hb.mpr e]
      walk_at "D"
      refine ⟨by decide, l.N, it l.N m' l.E, rfl, R.ok.1, it_ok R.ok.1.1 (oneWay_of R.ok.1.1 R.ok.2.1) R.ok.2.2.1 m', by decide, okD_encE _, okD_encE _, fun b hb => ?_⟩
      rw [hb.mpr (by rw [hm']; rfl)]
end NB

/-! LA -/
set_option Elab.async false
set_option linter.all false
set_option maxRecDepth 100000
set_option maxHeartbeats 1000000
namespace NB
open PySem PySem.Spec PyProof.Rows L2
def top (i : Nat) : Stmt := PySem.Challenge.pw_newsbehind_k58_whole_lives_hold_all_runs.main.body.getD i (.Pass ⟨0, 0, 0, 0⟩)
section
variable {P : Program} {w : World} {K : PySem.W.Frag} {mg : Str → Option Value} {base : Heap}

abbrev sLawAny : Stmt := top 64
abbrev NLawAny : List Str := ["_law_deal", "_law_bound", "_law_rest"]
theorem scLawAny : FnScope NLawAny ["_law_deal", "_law_bound"] (defScope sLawAny) := ⟨rfl, rfl, rfl, by decide +kernel, rfl, by decide +kernel, by decide +kernel⟩
section
variable {X : Cx}
theorem pv (i : Nat) {x : Str} {pos : Pos} (hN : X.N[i]? = some x := by rfl) (hv : Vis X.env.scope x := by first | exact Or.inl rfl | exact Or.inr (Or.inl rfl) | exact Or.inr (Or.inr rfl)) (hd : (x == ("__debug__" : Str)) = false := by decide)
    (hcd : (x == ("__classdict__" : Str)) = false := by decide) : PE X (.Name x pos) (tVar i) := pe_var hN hv hd hcd
end
theorem Bs.besideL {g : Dl} {F H : Hp} (b : Bs g F H) {p : Addr} {vs : List V} (h : H p = none) (hz : vs.length ≤ sizeLine) : Step g F H F (upd H p (.lst vs)) :=
  ⟨Sub.refl F, b.sub.trans (sub_upd h), fun q u e _ => by rw [upd_ne (ne_of_none e h)]; exact e, fun q u e => .inl e, b.dl.upd (b.notDl h), b.ln.updL hz⟩
/-- the deal's state -/
structure DS1 (A0 Bb : Addr) (H : Hp) (xs : List Int) (x : Int) : Prop where
  ne : A0 ≠ Bb
  ha : H A0 = some (.lst [.ref Bb, .int x])
  hb : H Bb = some (.lst (xs.map V.int))
  nn : ∀ i ∈ xs, 0 ≤ i
  x0 : 0 ≤ x
  x1 : x < 2147483647
  l : xs.length ≤ 48
theorem DS1.of {A0 Bb : Addr} {H : Hp} (h : DealOk (some (A0, Bb)) H) : ∃ xs x, DS1 A0 Bb H xs x := by
  obtain ⟨n, xs, x, h1, h2, h3, h4, h5, h6⟩ := h A0 Bb rfl
  exact ⟨xs, x, n, h1, h2, h3, h4, h5, h6⟩
theorem DS1.ok {A0 Bb : Addr} {H : Hp} {xs : List Int} {x : Int} (h : DS1 A0 Bb H xs x) : DealOk (some (A0, Bb)) H := fun a b e => by
  cases e
  exact ⟨h.ne, xs, x, h.ha, h.hb, h.nn, h.x0, h.x1, h.l⟩
theorem DS1.fresh {A0 Bb p : Addr} {H : Hp} {xs : List Int} {x : Int} {o : HO} (h : DS1 A0 Bb H xs x) (hp : H p = none) : DS1 A0 Bb (upd H p o) xs x :=
  ⟨h.ne, by rw [upd_ne (ne_of_none h.ha hp)]; exact h.ha, by rw [upd_ne (ne_of_none h.hb hp)]; exact h.hb, h.nn, h.x0, h.x1, h.l⟩
theorem small {n : Nat} (h : n ≤ 48) : n ≤ sizeLine := by rw [sizeLine_eq]; omega
/-- another list of cells -/
theorem DS1.cells {A0 Bb : Addr} {H : Hp} {xs ys : List Int} {x : Int} (h : DS1 A0 Bb H xs x) (nn : ∀ i ∈ ys, 0 ≤ i) (l : ys.length ≤ 48) : DS1 A0 Bb (upd H Bb (.lst (ys.map V.int))) ys x :=
  ⟨h.ne, by rw [upd_ne h.ne]; exact h.ha, upd_same, nn, h.x0, h.x1, l⟩
theorem DS1.stepC {A0 Bb : Addr} {F H : Hp} {xs ys : List Int} {x : Int} (h : DS1 A0 Bb H xs x) (b : Bs (some (A0, Bb)) F H) (nn : ∀ i ∈ ys, 0 ≤ i) (l : ys.length ≤ 48) : Step (some (A0, Bb)) F H F (upd H Bb (.lst (ys.map V.int))) := by
  refine ⟨Sub.refl F, fun p o e => ?_, fun p o e n => ?_, fun p o e => .inl e, (h.cells nn l).ok, b.ln.updL (by rw [List.length_map]; exact small l)⟩
  · have : p ≠ Bb := by rintro rfl; rw [(b.dn A0 p rfl).2] at e; cases e
    rw [upd_ne this]; exact b.sub p o e
  · rw [upd_ne (n A0 Bb rfl).2]; exact e
theorem DS1.blend {A0 Bb : Addr} {H : Hp} {xs : List Int} {x y : Int} (h : DS1 A0 Bb H xs x) (y0 : 0 ≤ y) (y1 : y < 2147483647) : DS1 A0 Bb (upd H A0 (.lst [.ref Bb, .int y])) xs y :=
  ⟨h.ne, upd_same, by rw [upd_ne h.ne.symm]; exact h.hb, h.nn, y0, y1, h.l⟩
theorem DS1.stepB {A0 Bb : Addr} {F H : Hp} {xs : List Int} {x y : Int} (h : DS1 A0 Bb H xs x) (b : Bs (some (A0, Bb)) F H) (y0 : 0 ≤ y) (y1 : y < 2147483647) : Step (some (A0, Bb)) F H F (upd H A0 (.lst [.ref Bb, .int y])) := by
  refine ⟨Sub.refl F, fun p o e => ?_, fun p o e n => ?_, fun p o e => .inl e, (h.blend y0 y1).ok, b.ln.updL (small (Nat.le_of_ble_eq_true rfl))⟩
  · have : p ≠ A0 := by rintro rfl; rw [(b.dn p Bb rfl).1] at e; cases e
    rw [upd_ne this]; exact b.sub p o e
  · rw [upd_ne (n A0 Bb rfl).1]; exact e
theorem at_ints (K : PySem.W.Frag) (g : Dl) (F : Hp) : ∀ xs : List Int, Ats K g F (iD xs) (xs.map V.int)
  | [] => rfl
  | x :: xs => ⟨.int x, xs.map V.int, rfl, rfl, at_ints K g F xs⟩
theorem any_ne {σ : L2.St} {A0 Bb : Addr} {H : Hp} {xs : List Int} {x : Int} {Q : Bool → Hp → Prop} (h0 : σ[0]? = some (some (.ref A0))) (d : DS1 A0 Bb H xs x) (q : ∀ p, H p = none → Q (decide (xs ≠ [])) (upd H p (.lst []))) :
    tTest (tOp (rNeD K) (tOp (rIxL K) (tVar 0) (tC (.int 0))) (tLst tNil)) σ H Q := by
  refine ⟨_, h0, A0, _, 0, .ref Bb, rfl, rfl, SqL.of d.ha, rfl, Nat.zero_le _, fun p hp => ?_⟩
  have d' := d.fresh (o := .lst []) hp
  have o1 : okD 60 (.lst (iD xs)) = true := okDs_iD 59 xs
  have o2 : okD 60 (.lst []) = true := rfl
  refine ⟨toPy (.lst (iD xs)), toPy (.lst []), at_dp (K := K) (g := none) (Sub.refl (upd H p (.lst []))) (.lst (iD xs)) (.ref Bb) 60 o1 ⟨Bb, _, rfl, d'.hb, at_ints K none _ xs⟩, at_dp (K := K) (g := none) (Sub.refl (upd H p (.lst []))) (.lst []) (.ref p) 60 o2 ⟨p, _, rfl, upd_same, rfl⟩, shaped_of o1, shaped_of o2, _, rfl, ?_⟩
  have e := toPy_inj (.lst (iD xs)) (.lst []) 60 60 o1 o2
  have e2 : (!PyData.eqv (toPy (.lst (iD xs))) (toPy (.lst []))) = decide (xs ≠ []) := by
    cases c : PyData.eqv (toPy (.lst (iD xs))) (toPy (.lst [])) with
    | true =>
      have := e.mp c
      have z : xs = [] := by
        cases xs with
        | nil => rfl
        | cons y ys => cases this
      rw [z]; rfl
    | false =>
      have z : xs ≠ [] := fun z => by
        have := e.mpr (by rw [z]; rfl)
        rw [c] at this
        exact Bool.noConfusion this
      rw [decide_eq_true z]; rfl
  rw [e2]
  exact q p hp
theorem snoc_of {α : Type} {xs : List α} (h : xs ≠ []) : ∃ ys z, xs = ys ++ [z] := ⟨xs.dropLast, xs.getLast h, (List.dropLast_concat_getLast h).symm⟩
theorem fn_law_any (B : Bi mg) (F : Stands K mg "_law_any" sLawAny ["_law_deal", "_law_bound"]) : Callee P w K mg base "_law_any" 1 r_law_any := by
  obtain ⟨f, fd, F, hm, hb⟩ := F
  refine ⟨f, fd, _, F.ok scLawAny (fun vs H Q E ⟨g, F0, ds, Φ, b, a, h, _⟩ => ?_) (fun cdv A outer s H vs Q E hr ⟨g, F0, ds, Φ, b, a, h, k⟩ => ?_), hm, F.kp, hb⟩
  · obtain ⟨bd, rfl, _⟩ := h
    rw [← a.length]; rfl
  obtain ⟨bd, rfl, b1, b2, hΦ⟩ := h
  obtain ⟨v0, r0, rfl, a0, a1⟩ := a
  obtain ⟨A0, Bb, rfl, rfl⟩ := a0
  obtain ⟨v1, r1, rfl, a1, a2⟩ := a1
  cases a1
  cases a2
  have h0 : (L2.start NLawAny [.ref A0, .int bd])[0]? = some (some (.ref A0)) := rfl
  have h1 : (L2.start NLawAny [.ref A0, .int bd])[1]? = some (some (.int bd)) := rfl
  have end_ : ∀ (H' : Hp) (y : Int), Step (some (A0, Bb)) F0 H F0 H' → Q (.int (y % bd)) H' := fun H' y st =>
    k (.int (y % bd)) _ F0 H' (hΦ _ (Int.emod_nonneg _ (by omega)) (Int.emod_lt_of_pos _ (by omega))) st rfl
  have hlog : bd.natAbs.log2 < 9000 := Nat.lt_trans ((Nat.log2_lt (by omega)).mpr (show bd.natAbs < 2 ^ 17 by omega)) (by decide)
  obtain ⟨xs0, x0, d0⟩ := DS1.of b.dl
  have hrest : ∃ tr, PSs (cxOf CX0 P w K mg base NLawAny "_law_any" (defScope sLawAny) f cdv A outer s H E).nox ((defBody sLawAny).drop 1) tr ∧
      ∀ (H' : Hp) (xs : List Int) (x : Int), Step (some (A0, Bb)) F0 H F0 H' → DS1 A0 Bb H' xs x → tr { nx := fun _ H' => Q .non H', rt := Q } (L2.start NLawAny [.ref A0, .int bd]) H' := by
    refine ⟨_, pss_cons (ps_if (pt_cmpR (op_neD hr.units) (pe_ix ix_list (pv 0) pe_int (fun _ _ => rfl)) (pe_lst pa_nil) rfl)
      (pss_cons (ps_set (i := 2) scLawAny.nd rfl (Or.inl rfl) (pe_callTy call_int1 rfl B.int (by decide +kernel) (pa_cons (pe_bm0 PySem.F.plainAttrs_list PySem.F.slot_list_pop PySem.F.type_list_pop mt_pop (pe_ix ix_list (pv 0) pe_int (fun _ _ => rfl))) pa_nil rfl)))
        (pss_cons (ps_expr (pe_bm PySem.F.plainAttrs_list PySem.F.slot_list_append PySem.F.type_list_append mt_append (pe_ix ix_list (pv 0) pe_int (fun _ _ => rfl)) (pa_cons (pe_op op_fdivW (pv 2) (pv 1)) pa_nil rfl)))
          (pss_cons (ps_ret (pe_op op_mod (pv 2) (pv 1))) pss_nil)))
      pss_nil)
    (pss_cons (ps_asg (pe_op op_mod (pe_callTy call_int1 rfl B.int (by decide +kernel) (pa_cons (pe_op op_add (pe_op op_mul (pe_ix ix_list (pv 0) pe_int (fun _ _ => rfl)) pe_int) pe_int) pa_nil rfl)) pe_int) (pg_sub (pv 0) pe_int set_list))
    (pss_cons (ps_ret (pe_op op_mod (pe_callTy call_int1 rfl B.int (by decide +kernel) (pa_cons (pe_op op_fdiv (pe_ix ix_list (pv 0) pe_int (fun _ _ => rfl)) pe_int) pa_nil rfl)) (pv 1))) pss_nil)), ?_⟩
    intro H' xs x st d
    refine any_ne h0 d fun p hp => ?_
    have st1 := st.trans b ((b.step st).besideL (vs := []) hp (Nat.zero_le _))
    have d1 := d.fresh (o := .lst []) hp
    have bs1 := b.step st1
    by_cases c : xs = []
    · rw [decide_eq_false (fun z => z c)]
      refine iteF ?_
      have y0 : 0 ≤ (x * 40693 + 71) % 2147483647 := Int.emod_nonneg _ (by decide)
      have y1 : (x * 40693 + 71) % 2147483647 < 2147483647 := Int.emod_lt_of_pos _ (by decide)
      have st2 := st1.trans b (d1.stepB bs1 y0 y1)
      have d2 := d1.blend y0 y1
      exact ⟨_, h0, A0, _, 1, .int x, rfl, rfl, SqL.of d1.ha, rfl, x, 40693, rfl, rfl, .inr ⟨by decide, by decide⟩, x * 40693, 71, rfl, rfl, .inl ⟨x * 40693 + 71, rfl, _, 2147483647, rfl, rfl, (show (0 : Int) < 2147483647 by decide), _, h0, A0, _, 1, 1, rfl, rfl, d1.ha, rfl,
        _, h0, A0, _, 1, .int ((x * 40693 + 71) % 2147483647), rfl, rfl, SqL.of d2.ha, rfl, _, 64, rfl, rfl, ⟨by decide, by decide⟩, .inl ⟨_, rfl, _, h1, _, bd, rfl, rfl, by omega, end_ _ _ st2⟩⟩⟩
    · rw [decide_eq_true c]
      refine iteT ?_
      obtain ⟨ys, z, rfl⟩ := snoc_of c
      have nz : 0 ≤ z := d1.nn z (by simp)
      have hl : ys.length + 1 ≤ 48 := by have := d1.l; simpa using this
      have nn1 : ∀ i ∈ ys, 0 ≤ i := fun i hi => d1.nn i (by simp [hi])
      have st2 := st1.trans b (d1.stepC bs1 nn1 (by omega))
      have d2 := d1.cells nn1 (by omega)
      have nn2 : ∀ i ∈ ys ++ [z / bd], 0 ≤ i := fun i hi => by
        rcases List.mem_append.mp hi with hi | hi
        · exact nn1 i hi
        · rw [List.mem_singleton] at hi
          rw [hi]; exact Int.ediv_nonneg nz (by omega)
      have st3 := st2.trans b (d2.stepC (b.step st2) nn2 (by simp; omega))
      have e1 : ((ys ++ [z]).map V.int)[((ys ++ [z]).map V.int).length - 1]? = some (.int z) := by simp
      have e2 : ((ys ++ [z]).map V.int).dropLast = ys.map V.int := by rw [List.map_append]; exact List.dropLast_concat
      refine ⟨_, h0, A0, _, 0, .ref Bb, rfl, rfl, SqL.of d1.ha, rfl, .inl ⟨rfl, _, SqL.of d1.hb⟩, Bb, _, .int z, rfl, rfl, d1.hb, e1, ?_⟩
      rw [e2]
      refine .inl ⟨z, rfl, _, h0, A0, _, 0, .ref Bb, rfl, rfl, SqL.of d2.ha, rfl, .inl ⟨rfl, _, SqL.of d2.hb⟩, .int z, rfl, .int bd, h1, z, bd, rfl, rfl, ⟨by omega, hlog⟩, Bb, _, _, rfl, rfl, d2.hb, by rw [List.length_map, sizeLine_eq]; omega, ?_⟩
      rw [show ys.map V.int ++ [.int (z / bd)] = (ys ++ [z / bd]).map V.int by rw [List.map_append]; rfl]
      exact ⟨.int z, rfl, .int bd, h1, z, bd, rfl, rfl, by omega, end_ _ _ st3⟩
  obtain ⟨tr, hr1, hr2⟩ := hrest
  refine ⟨_, pss_cons (ps_while PassesOwn.never
      (PW.pt (pw_and (pt_cmpR (op_neD hr.units) (pe_ix ix_list (pv 0) pe_int (fun _ _ => rfl)) (pe_lst pa_nil) rfl) (pw_and1 (pt_cmpR op_eq (pe_ix ix_list (pe_ix ix_list (pv 0) pe_int (fun _ _ => rfl)) (pe_un un_neg pe_int) (fun _ _ => rfl)) pe_int rfl))))
      (pss_cons (ps_expr (pe_bm0 PySem.F.plainAttrs_list PySem.F.slot_list_pop PySem.F.type_list_pop mt_pop (pe_ix ix_list (pv 0) pe_int (fun _ _ => rfl)))) pss_nil)) hr1, ?_⟩
  refine ⟨fun m σ' H' => σ' = L2.start NLawAny [.ref A0, .int bd] ∧ Step (some (A0, Bb)) F0 H F0 H' ∧ ∃ xs x, DS1 A0 Bb H' xs x ∧ xs.length = m, ⟨xs0.length, rfl, b.refl, xs0, x0, d0, rfl⟩, ?_⟩
  rintro m σ' H' ⟨rfl, st, xs, x, d, rfl⟩
  refine any_ne h0 d fun p hp => ?_
  have st1 := st.trans b ((b.step st).besideL (vs := []) hp (Nat.zero_le _))
  have d1 := d.fresh (o := .lst []) hp
  by_cases c : xs = []
  · rw [decide_eq_false (fun z => z c)]
    exact iteF (iteF (hr2 _ xs x st1 d1))
  · rw [decide_eq_true c]
    refine iteT ?_
    obtain ⟨ys, z, rfl⟩ := snoc_of c
    have hl : ys.length + 1 ≤ 48 := by have := d1.l; simpa using this
    have nn1 : ∀ i ∈ ys, 0 ≤ i := fun i hi => d1.nn i (by simp [hi])
    have e1 : ((ys ++ [z]).map V.int)[((ys ++ [z]).map V.int).length - 1]? = some (.int z) := by simp
    have e2 : ((ys ++ [z]).map V.int).dropLast = ys.map V.int := by rw [List.map_append]; exact List.dropLast_concat
    have e3 : L2.atI ((ys ++ [z]).map V.int) (-1) = some (.int z) := by
      unfold L2.atI L2.ixN
      rw [if_neg (by omega), if_pos (by simp; omega)]
      show ((ys ++ [z]).map V.int)[_]? = _
      rw [show (-1 + (((ys ++ [z]).map V.int).length : Int)).toNat = ((ys ++ [z]).map V.int).length - 1 by simp; omega]
      exact e1
    refine ⟨_, h0, A0, _, 0, .ref Bb, rfl, rfl, SqL.of d1.ha, rfl, 1, rfl, Bb, _, -1, .int z, rfl, rfl, SqL.of d1.hb, e3, rfl, _, rfl, ?_⟩
    cases c2 : decide ((V.int z) = V.int 0) with
    | true =>
      refine iteT ⟨fun σ' H' => σ' = L2.start NLawAny [.ref A0, .int bd] ∧ Step (some (A0, Bb)) F0 H F0 H' ∧ ∃ xs x, DS1 A0 Bb H' xs x ∧ xs.length = ys.length, fun σ' H' q => ⟨ys.length, by simp, q⟩, ?_⟩
      refine ⟨_, h0, A0, _, 0, .ref Bb, rfl, rfl, SqL.of d1.ha, rfl, .inl ⟨rfl, _, SqL.of d1.hb⟩, Bb, _, .int z, rfl, rfl, d1.hb, e1, ?_⟩
      rw [e2]
      exact ⟨rfl, st1.trans b (d1.stepC (b.step st1) nn1 (by omega)), ys, x, d1.cells nn1 (by omega), rfl⟩
    | false => exact iteF (hr2 _ _ x st1 d1)
end
end NB

/-! HZ -/
set_option Elab.async false
set_option linter.all false
set_option maxRecDepth 100000
set_option maxHeartbeats 1000000
namespace NB
open PySem PySem.Spec PyProof.Rows L2 RZ
def eZip (z Ti To : Addr) : HO := .ext fun h => IsZip h z Ti To .none
def ePair (T i1 i2 : Addr) : HO := .ext fun h => IsPair h T (.ref i1) (.ref i2)
def eOut (T : Addr) : HO := .ext fun h => ∃ x y, IsPair h T x y
def eIt (i a : Addr) : HO := .ext fun h => h.IsTupleIter i a 0
/-- a zip object stands at z, its five objects tracked; H1 is the heap without them -/
structure Track (X : Cx) (H1 H : Hp) (z Ti To i1 i2 a b : Addr) : Prop where
  oth : ∀ c, c ∉ [z, Ti, To, i1, i2] → H c = H1 c
  non : ∀ c ∈ [z, Ti, To, i1, i2], H1 c = none
  ez : H z = some (eZip z Ti To)
  eT : H Ti = some (ePair Ti i1 i2)
  eO : H To = some (eOut To)
  e1 : H i1 = some (eIt i1 a)
  e2 : H i2 = some (eIt i2 b)
  lo : ∀ c ∈ [z, Ti, To, i1, i2], c ∉ X.fs ∧ X.s_0.heap.objs.size ≤ c
  ap : ZipApart z Ti To i1 i2 a b
theorem Track.ext {X : Cx} {H1 H : Hp} {z Ti To i1 i2 a b : Addr} (t : Track X H1 H z Ti To i1 i2 a b) {c : Addr} (h : c ∈ [z, Ti, To, i1, i2]) : ∃ φ, H c = some (.ext φ) := by
  have e' : c = z ∨ c = Ti ∨ c = To ∨ c = i1 ∨ c = i2 := by simpa using h
  rcases e' with rfl | rfl | rfl | rfl | rfl
  · exact ⟨_, t.ez⟩
  · exact ⟨_, t.eT⟩
  · exact ⟨_, t.eO⟩
  · exact ⟨_, t.e1⟩
  · exact ⟨_, t.e2⟩
theorem Track.old {X : Cx} {H1 H : Hp} {z Ti To i1 i2 a b : Addr} (t : Track X H1 H z Ti To i1 i2 a b) {c : Addr} {o : HO} (h : H c = some o) (ne : ∀ φ, o ≠ .ext φ) : H1 c = some o := by
  by_cases hc : c ∈ [z, Ti, To, i1, i2]
  · obtain ⟨φ, e⟩ := t.ext hc
    rw [h] at e
    exact absurd (Option.some.inj e) (ne φ)
  · rw [← t.oth c hc]; exact h
theorem Track.up {X : Cx} {H1 H : Hp} {z Ti To i1 i2 a b : Addr} (t : Track X H1 H z Ti To i1 i2 a b) {c : Addr} {o : HO} (h : H1 c = some o) : H c = some o := by
  have hc : c ∉ [z, Ti, To, i1, i2] := fun hc => by rw [t.non c hc] at h; cases h
  rw [t.oth c hc]; exact h
section
variable {X : Cx} {pins : List (Addr × Obj)} {σ : L2.St} {H H1 : Hp} {s : Shared} {z Ti To i1 i2 a b : Addr}
/-- the five objects are forgotten -/
theorem Inv.forget5 (I : Inv X pins σ H s) (t : Track X H1 H z Ti To i1 i2 a b) : Inv X pins σ H1 s := by
  have u : Un X.fs [] H H1 s.heap s.heap := {
    keep := fun b o q _ _ _ => q
    slot := fun b o q _ _ _ => ⟨o.slots, q⟩
    free := fun b o q n _ => by
      by_cases hc : b ∈ [z, Ti, To, i1, i2]
      · exact t.non b hc
      · rw [← t.oth b hc]; exact n
    there := fun b o q _ => ⟨o, q⟩
    tups := fun b xs q => t.old q fun φ e => nomatch e
    frzs := fun b o u q => t.old q fun φ e => nomatch e
    tbls := fun b ps q => ⟨#[], by rw [t.old q fun φ e => nomatch e]; simp⟩ }
  have hok : HOk X.prog X.w H1 s.heap := fun c o e => (I.hok c o (t.up e)).stay (fun _ _ _ q => q) (fun b q => t.old q fun φ e => nomatch e) fun b xs q => t.old q fun φ e => nomatch e
  exact I.un (t' := s.toks) u hok
def iName (X : Cx) (i : Nat) : TI := fun σ H R => ∃ z Ti To i1 i2 a b H1, σ[i]? = some (some (.ref z)) ∧ Track X H1 H z Ti To i1 i2 a b ∧ R (ItzT X.K a b) H1
theorem pi_name {i : Nat} {x : Str} {p tpos : Pos} {elts : List Expr} {kk : Nat} (hN : X.N[i]? = some x) (hv : Vis X.env.scope x) (hd : (x == ("__debug__" : Str)) = false := by decide) (hcd : (x == ("__classdict__" : Str)) = false := by decide) :
    PI X (.Tuple elts kk tpos) (.Name x p) (iName X i) := by
  refine ⟨fun pins s σ H R I h => ?_⟩
  obtain ⟨z, Ti, To, i1, i2, a, b, H1, hz, t, q⟩ := h
  refine thn ((pe_var (i := i) hN hv hd hcd).run pins s σ H (fun v H' => v = .ref z ∧ H' = H) I ⟨_, hz, rfl, rfl⟩) fun v s1 ⟨x, H', I1, r1, e1, e2⟩ => ?_
  subst e1 e2
  cases r1
  have p1 : IsZip s1.heap z Ti To .none := (I1.hok _ _ t.ez).1
  have p2 : IsPair s1.heap Ti (.ref i1) (.ref i2) := (I1.hok _ _ t.eT).1
  have p3 : ∃ x y, IsPair s1.heap To x y := (I1.hok _ _ t.eO).1
  have p4 : s1.heap.IsTupleIter i1 a 0 := (I1.hok _ _ t.e1).1
  have p5 : s1.heap.IsTupleIter i2 b 0 := (I1.hok _ _ t.e2).1
  refine wpAny_pyIter_zip p1 ?_
  refine ⟨z, [z, Ti, To, i1, i2], _, _, H1, rfl, Inv.forget5 I1 t, turn_zipT t.ap, ⟨p1, p2, p3, p4, p5⟩, fun c hc => ?_, q⟩
  obtain ⟨φ, e⟩ := t.ext hc
  refine ⟨t.non c hc, ?_, (t.lo c hc).1, .inr (t.lo c hc).2, fun y d hy e2 => ?_, fun p hp e2 => ?_⟩
  · rintro rfl
    rw [I1.free] at e; cases e
  · subst e2
    rw [I1.freeC y _ hy] at e; cases e
  · subst e2
    rw [(I1.pin p hp).2.1] at e; cases e
def tZip (X : Cx) (ta : TA) : TE := fun σ H Q => ta σ H fun vs H1 => ∃ a b xs ys, vs = [.ref a, .ref b] ∧ SqT X.K H1 a xs ∧ SqT X.K H1 b ys ∧ ∀ z Ti To i1 i2 H5, Track X H1 H5 z Ti To i1 i2 a b → Q (.ref z) H5
theorem pe_zipV {e e2 : Expr} {ta : TA} {p pos : Pos} (hg : Gl X "zip") (hm : X.mg "zip" = none) (ha : PA X [e, e2] ta)
    (hs : starEach [e, e2] X.env = (false, eval e X.env) :: starEach [e2] X.env := by rfl) (hpl : (backTo pos (starEach [e2] X.env)).any (·.1) = false := by rfl) :
    PE X (.Call (.Name "zip" p) [e, e2] [] pos) (tZip X ta) := by
  refine ⟨fun pins s σ H Q I h => ?_⟩
  refine Call_ (ld_blt I hg hm PyProof.Rows.boot_zip (PyProof.Rows.callWith_type1 (thn (ha.run pos pins s σ H _ I h) fun us s1 ⟨vs, H1, I1, r1, q1⟩ => ?_) hs hpl))
  obtain ⟨a, b, xs, ys, ex, hqx, hqy, q⟩ := q1
  subst ex
  cases r1 with
  | cons r rr =>
    cases rr with
    | cons r' rr =>
      cases rr
      cases r
      cases r'
      obtain ⟨its, rv, p1, _⟩ := I1.tuple hqx
      obtain ⟨its2, rv2, p2, _⟩ := I1.tuple hqy
      obtain ⟨o1, ho1, _⟩ := id p1
      obtain ⟨o2, ho2, _⟩ := id p2
      refine call_zipT (show s1.heap.IsTuple a its.toArray from p1) (show s1.heap.IsTuple b its2.toArray from p2) fun h' hz hTI hTO h1 h2 hsz hk => ?_
      generalize hn : s1.heap.objs.size = n at hz hTI hTO h1 h2 hsz
      have fr : ∀ c, n ≤ c → H1 c = none := fun c hc => I1.hok.fresh (by rw [hn]; exact hc)
      let H5 : Hp := upd (upd (upd (upd (upd H1 (n + 4) (eZip (n + 4) (n + 2) (n + 3))) (n + 2) (ePair (n + 2) n (n + 1))) (n + 3) (eOut (n + 3))) n (eIt n a)) (n + 1) (eIt (n + 1) b)
      have mem : ∀ c, c ∈ [n + 4, n + 2, n + 3, n, n + 1] → n ≤ c := fun c hc => by
        have e' : c = n + 4 ∨ c = n + 2 ∨ c = n + 3 ∨ c = n ∨ c = n + 1 := by simpa using hc
        show n ≤ c
        rcases e' with z | z | z | z | z
        · rw [z]; exact Nat.le_add_right _ _
        · rw [z]; exact Nat.le_add_right _ _
        · rw [z]; exact Nat.le_add_right _ _
        · rw [z]; exact Nat.le_refl _
        · rw [z]; exact Nat.le_add_right _ _
      have g4 : H5 (n + 4) = some (eZip (n + 4) (n + 2) (n + 3)) := by
        show upd _ _ _ _ = _
        rw [upd_ne (show (n + 4 : Nat) ≠ n + 1 by omega), upd_ne (show (n + 4 : Nat) ≠ n by omega), upd_ne (show (n + 4 : Nat) ≠ n + 3 by omega), upd_ne (show (n + 4 : Nat) ≠ n + 2 by omega), upd_same]
      have g2 : H5 (n + 2) = some (ePair (n + 2) n (n + 1)) := by
        show upd _ _ _ _ = _
        rw [upd_ne (show (n + 2 : Nat) ≠ n + 1 by omega), upd_ne (show (n + 2 : Nat) ≠ n by omega), upd_ne (show (n + 2 : Nat) ≠ n + 3 by omega), upd_same]
      have g3 : H5 (n + 3) = some (eOut (n + 3)) := by
        show upd _ _ _ _ = _
        rw [upd_ne (show (n + 3 : Nat) ≠ n + 1 by omega), upd_ne (show (n + 3 : Nat) ≠ n by omega), upd_same]
      have g0' : H5 n = some (eIt n a) := by
        show upd _ _ _ _ = _
        rw [upd_ne (show (n : Nat) ≠ n + 1 by omega), upd_same]
      have g1 : H5 (n + 1) = some (eIt (n + 1) b) := upd_same
      have oth : ∀ c, c ∉ [n + 4, n + 2, n + 3, n, n + 1] → H5 c = H1 c := fun c hc => by
        simp only [List.mem_cons, List.not_mem_nil, or_false, not_or] at hc
        obtain ⟨a1, a2, a3, a4, a5⟩ := hc
        show upd _ _ _ _ = _
        rw [upd_ne a5, upd_ne a4, upd_ne a3, upd_ne a2, upd_ne a1]
      have t : Track X H1 H5 (n + 4) (n + 2) (n + 3) n (n + 1) a b :=
        ⟨oth, fun c hc => fr c (mem c hc), g4, g2, g3, g0', g1, fun c hc => ⟨I1.nofs (by rw [hn]; exact mem c hc), Nat.le_trans I1.sz (by rw [hn]; exact mem c hc)⟩,
          PySem.W.ktu_apart n a b (by rw [← hn]; exact Heap.lt_size ho1) (by rw [← hn]; exact Heap.lt_size ho2)⟩
      have old : ∀ c o, s1.heap.get? c = some o → c ∉ [n + 4, n + 2, n + 3, n, n + 1] := fun c o e hc => by
        have h1 := Heap.lt_size e
        have h2 := mem c hc
        rw [hn] at h1
        exact absurd (Nat.lt_of_lt_of_le h1 h2) (Nat.lt_irrefl _)
      have u : Un X.fs [] H1 H5 s1.heap h' := {
        keep := fun b o q _ _ _ => hk b o q
        slot := fun b o q _ _ _ => ⟨o.slots, hk b o q⟩
        free := fun b o q n _ => by rw [oth b (old b o q)]; exact n
        there := fun b o q _ => ⟨o, hk b o q⟩
        tups := fun b xs q => t.up q
        frzs := fun b o u q => t.up q
        tbls := fun b ps q => ⟨#[], by rw [t.up q]; simp⟩ }
      have hok : HOk X.prog X.w H5 h' := fun c o e => by
        by_cases hc : c ∈ [n + 4, n + 2, n + 3, n, n + 1]
        · have e' : c = n + 4 ∨ c = n + 2 ∨ c = n + 3 ∨ c = n ∨ c = n + 1 := by simpa using hc
          rcases e' with rfl | rfl | rfl | rfl | rfl
          · rw [g4] at e
            cases e
            exact ⟨hz, ⟨_, hz⟩, fun h1 h2 p k => k _ p⟩
          · rw [g2] at e
            cases e
            exact ⟨hTI, ⟨_, hTI⟩, fun h1 h2 p k => k _ p⟩
          · rw [g3] at e
            cases e
            exact ⟨⟨_, _, hTO⟩, ⟨_, hTO⟩, fun h1 h2 ⟨x, y, p⟩ k => ⟨x, y, k _ p⟩⟩
          · rw [g0'] at e
            cases e
            obtain ⟨o, ho, q⟩ := id h1
            exact ⟨h1, ⟨_, ho⟩, fun h1 h2 ⟨o, ho, q⟩ k => ⟨o, k _ ho, q⟩⟩
          · rw [g1] at e
            cases e
            obtain ⟨o, ho, q⟩ := id h2
            exact ⟨h2, ⟨_, ho⟩, fun h1 h2 ⟨o, ho, q⟩ k => ⟨o, k _ ho, q⟩⟩
        · rw [oth c hc] at e
          exact (I1.hok c o e).stay (fun b u _ q => hk b u q) (fun b q => t.up q) fun b xs q => t.up q
      exact ⟨.ref (n + 4), H5, I1.un (t' := s1.toks) u hok, rfl, q _ _ _ _ _ H5 t⟩
end
end NB

/-! HE -/
set_option Elab.async false
set_option linter.all false
set_option maxRecDepth 100000
set_option maxHeartbeats 1000000
namespace NB
open PySem PySem.Spec PyProof.Rows L2
section
variable {X : Cx} {K : PySem.W.Frag}
theorem lc_tail {J : It} {gd : Dl} {F1 H1 : Hp} {env : List Slot} {Φ : D → Prop} {ds : List D} {g : TG} {b : DB} {tt : DT} {te : DE} {vs : List Nat} (bo : BindOk K (· ∈ vs) g b) (σ : L2.St) (Q : VK) (hE1 : EnvOk K gd σ F1 H1 env) (φ1 : lcGo b tt te (wipeS env vs) Φ ds []) (wk : WalkOk K gd F1 J ds) (hz : ds.length ≤ sizeLine) (k1 : Then K gd F1 H1 Φ Q) :
    tLc (fun _ _ R => R J H1) g (liftT K tt) (lift K te) vs σ H1 Q := by
  intro L hL
  have b1 := hE1.b
  have nl : ∀ i ds, getS env i = .ow ds → σ[i]? ≠ some (some (.ref L)) := fun i ds e z => by
    have hs := hE1.sl i
    rw [e] at hs
    obtain ⟨q, us, e1, e2, _⟩ := hs
    rw [z] at e1
    cases e1
    rw [hL] at e2; cases e2
  refine ⟨fun i m H' => m = ds.length - i ∧ i ≤ ds.length ∧ ∃ F' accD acc, EnvOk K gd σ F' H' env ∧ Step gd F1 H1 F' H' ∧ H' L = some (.lst acc) ∧ F' L = none ∧ Ats K gd F' accD acc ∧ acc.length ≤ i ∧ lcGo b tt te (wipeS env vs) Φ (ds.drop i) accD, ⟨ds.length, ?_⟩, ?_⟩
  · have hn : notDl gd L := b1.notDl hL
    have st : Step gd F1 H1 F1 (upd H1 L (.lst [])) := ⟨Sub.refl _, fun p o e => by rw [upd_ne (ne_of_none (b1.sub _ _ e) hL)]; exact b1.sub _ _ e, fun p o e _ => by rw [upd_ne (ne_of_none e hL)]; exact e, fun p o e => .inl e, b1.dl.upd hn, b1.ln.updL (Nat.zero_le _)⟩
    exact ⟨by omega, Nat.zero_le _, F1, [], [], hE1.step st, st, upd_same, b1.free hL, rfl, Nat.le_refl _, φ1⟩
  · rintro i m H' ⟨rfl, hi, F', accD, acc, hE', st, hLs, hFL, ha, hal, hgo⟩
    have hn : notDl gd L := b1.notDl hL
    have b' := hE'.b
    have sF : Sub F1 F' := st.up
    by_cases hlt : i < ds.length
    · right
      have hd : ds[i]? = some ds[i] := List.getElem?_eq_getElem hlt
      rw [List.drop_eq_getElem_cons hlt] at hgo
      refine ⟨wk.go i H' (sF.trans b'.sub) hlt, fun H' => i + 1 ≤ ds.length ∧ ∃ F' accD acc, EnvOk K gd σ F' H' env ∧ Step gd F1 H1 F' H' ∧ H' L = some (.lst acc) ∧ F' L = none ∧ Ats K gd F' accD acc ∧ acc.length ≤ i + 1 ∧ lcGo b tt te (wipeS env vs) Φ (ds.drop (i + 1)) accD,
        fun H'' q => ⟨ds.length - (i + 1), by omega, rfl, q⟩, fun x H'' y => ?_⟩
      -- the item stands
      have item : ∃ F2, Step gd F' H' F2 H'' ∧ At K gd F2 ds[i] x ∧ F2 L = none := by
        rcases wk.yld i H' x H'' ds[i] (sF.trans b'.sub) hd y with ⟨rfl, a⟩ | ⟨T, us, es, e1, rfl, hT, rfl, a, hu⟩
        · exact ⟨F', b'.refl, At.mono sF _ _ a, hFL⟩
        · obtain ⟨s2, a2⟩ := b'.allocT hT hu (Ats.mono sF _ _ a)
          rw [e1]
          exact ⟨_, s2, a2, by rw [upd_ne (ne_of_none hLs hT)]; exact hFL⟩
      obtain ⟨F2, s2, a2, hF2⟩ := item
      have hE2 := hE'.step s2
      refine bo gd F2 H'' (fun σ2 env2 => EnvOk K gd σ2 F2 H'' env2 ∧ wipe σ2 vs = wipe σ vs) hE2.b (fun σ2 env2 j v d hj e a => ⟨e.1.set a, by rw [wipe_set hj]; exact e.2⟩) (wipe σ vs) (wipeS env vs) ds[i] x _ _ ⟨hE2.wipe vs, wipe_wipe⟩ a2 hgo fun σ2 env2 htt e2 => ⟨e2.2, ?_⟩
      refine ⟨gd, F2, env2, _, e2.1, htt, fun c F3 H3 φ3 s3 => ?_⟩
      have b3 := hE2.b.step s3
      have s13 := s2.trans b' s3
      cases c with
      | true =>
        refine iteT ⟨gd, F3, env2, _, e2.1.step s3, φ3, fun d4 v4 F4 H4 φ4 s4 a4 => ?_⟩
        have s14 := s13.trans b' s4
        have hL4 : H4 L = some (.lst acc) := s14.keep L _ hLs hn
        have hF4 : F4 L = none := s14.stay hLs hFL
        have hz2 : acc.length + 1 ≤ sizeLine := by omega
        refine ⟨acc, hL4, by omega, hlt, F4, accD ++ [d4], acc ++ [v4], ?_, ?_, upd_same, hF4, (Ats.mono s14.up _ _ ha).app (Ats.cons a4 Ats.nil), by simp; omega, φ4⟩
        · exact (hE'.step s14).updL hF4 hn nl (by simp; exact hz2)
        · exact (st.trans b1 s14).updNew hL hF4 hn (by simp; exact hz2)
      | false =>
        exact iteF ⟨hlt, F3, accD, acc, hE'.step s13, st.trans b1 s13, s13.keep L _ hLs hn, s13.stay hLs hFL, Ats.mono s13.up _ _ ha, by omega, φ3⟩
    · left
      have e : i = ds.length := by omega
      subst e
      rw [List.drop_length] at hgo
      refine ⟨wk.stop H' (sF.trans b'.sub), k1 (.lst accD) (.ref L) (upd F' L (.lst acc)) H' hgo (st.freeze hL hFL hLs) ?_⟩
      unfold At
      exact ⟨L, acc, rfl, upd_same, Ats.mono (sub_upd hFL) _ _ ha⟩
end
def topx (i : Nat) : Stmt := PySem.Challenge.pw_newsbehind_k58_whole_lives_hold_all_runs.main.body.getD i (.Pass ⟨0, 0, 0, 0⟩)
local macro_rules | `(tactic| walk_at "D") => `(tactic| simp only [dSeq, dRet, dNext, dSet, dAsg, dPar, dPar3, dParO1, dParO2, dNew, dFreeze, dNever, dApp, dExt, dIfS, dVar, dC, dOp, dCall, dCons, dNil, dAndV, dOrV, dNotV, dTst, dTAnd, dTOr, dTNot, dIf, dYes, dIx, dEq, dNe, dLt, dLe, dGt, dGe, dAdd, dSub, dMul, dDiv, dMod, dIn, dIsN, dNotN, dIsT, dEqD, dNeD, dCat, dLen, dMin, dMax, dSum, dAny, dAll, dTuple, dList, dSl, dPart, dNoPart, dTup, dLst, dIsi, dNeg, dChain, dRev, dRep, dRepT, dSizes, dStup, dSNil, dSCons, dSStar, dItems, dRange1, dRange2, dZip, dEnum, dLc, dFor, bName, bTup, bCons, bNil, rdI, rdI0, rdB0, rdEq, rdNe, rdIsN, rdNotN, rdIsT, rdIx, rdIn, rdCat, rdLen, rdMin, rdMax, rdSum, rdSorted, rdAny, rdAll, rdTuple, rdList, isTy, isNon, getS, setS, wipeS, startE, List.map, List.replicate, List.length_cons, List.length_nil, List.append, List.cons_append, List.nil_append, List.append_nil, Nat.sub_self, Nat.reduceSub, Nat.reduceAdd, Bool.not_true, Bool.not_false, encH, encs, atI0, atI1, atI2, atI3, strsOf, intsOf, Option.map_some, intsOf_iD, dq_is_hear, dq_is_least, dq_is_most, dq_is_add, dq_is_middle, dq_is_times, dq_is_part, dq_is_clip, dq_is_from, dq_is_bar, dq_is_row, dq_hear_is, dq_hear_least, dq_hear_most, dq_hear_add, dq_hear_middle, dq_hear_times, dq_hear_part, dq_hear_clip, dq_hear_from, dq_hear_bar, dq_hear_row, dq_least_is, dq_least_hear, dq_least_most, dq_least_add, dq_least_middle, dq_least_times, dq_least_part, dq_least_clip, dq_least_from, dq_least_bar, dq_least_row, dq_most_is, dq_most_hear, dq_most_least, dq_most_add, dq_most_middle, dq_most_times, dq_most_part, dq_most_clip, dq_most_from, dq_most_bar, dq_most_row, dq_add_is, dq_add_hear, dq_add_least, dq_add_most, dq_add_middle, dq_add_times, dq_add_part, dq_add_clip, dq_add_from, dq_add_bar, dq_add_row, dq_middle_is, dq_middle_hear, dq_middle_least, dq_middle_most, dq_middle_add, dq_middle_times, dq_middle_part, dq_middle_clip, dq_middle_from, dq_middle_bar, dq_middle_row, dq_times_is, dq_times_hear, dq_times_least, dq_times_most, dq_times_add, dq_times_middle, dq_times_part, dq_times_clip, dq_times_from, dq_times_bar, dq_times_row, dq_part_is, dq_part_hear, dq_part_least, dq_part_most, dq_part_add, dq_part_middle, dq_part_times, dq_part_clip, dq_part_from, dq_part_bar, dq_part_row, dq_clip_is, dq_clip_hear, dq_clip_least, dq_clip_most, dq_clip_add, dq_clip_middle, dq_clip_times, dq_clip_part, dq_clip_from, dq_clip_bar, dq_clip_row, dq_from_is, dq_from_hear, dq_from_least, dq_from_most, dq_from_add, dq_from_middle, dq_from_times, dq_from_part, dq_from_clip, dq_from_bar, dq_from_row, dq_bar_is, dq_bar_hear, dq_bar_least, dq_bar_most, dq_bar_add, dq_bar_middle, dq_bar_times, dq_bar_part, dq_bar_clip, dq_bar_from, dq_bar_row, dq_row_is, dq_row_hear, dq_row_least, dq_row_most, dq_row_add, dq_row_middle, dq_row_times, dq_row_part, dq_row_clip, dq_row_from, dq_row_bar, dq_none_both, dq_none_falls, dq_none_rises, dq_both_none, dq_both_falls, dq_both_rises, dq_falls_none, dq_falls_both, dq_falls_rises, dq_rises_none, dq_rises_both, dq_rises_falls, dq_wait_rule, dq_wait_house, dq_wait_seen, dq_rule_wait, dq_rule_house, dq_rule_seen, dq_house_wait, dq_house_rule, dq_house_seen, dq_seen_wait, dq_seen_rule, dq_seen_house, di_is, dj_is, dk_is, dl_is, di_hear, dj_hear, dk_hear, dl_hear, di_least, dj_least, dk_least, dl_least, di_most, dj_most, dk_most, dl_most, di_add, dj_add, dk_add, dl_add, di_middle, dj_middle, dk_middle, dl_middle, di_times, dj_times, dk_times, dl_times, di_part, dj_part, dk_part, dl_part, di_clip, dj_clip, dk_clip, dl_clip, di_from, dj_from, dk_from, dl_from, di_bar, dj_bar, dk_bar, dl_bar, di_row, dj_row, dk_row, dl_row, kt_int_int, kt_int_bool, kt_bool_int, kt_bool_bool, kt_tuple_tuple, kt_str_str, kt_int_tuple, kt_str_tuple, kt_tuple_int, kt_tuple_str, kt_NoneType_tuple, kt_str_int, dq_same, decide_true])
theorem zip_W : ∀ (bs : List Nat) (ws : List Way), zipD (natD bs) (ws.map encW) = (List.zip bs ws).map fun p => D.tup [.int (p.1 : Int), encW p.2]
  | [], ws => rfl
  | j :: bs, [] => rfl
  | j :: bs, w :: ws => by
    show D.tup [.int (j : Int), encW w] :: zipD (natD bs) (ws.map encW) = _
    rw [zip_W bs ws]; rfl
theorem heard_zip (near far : List Int) : ∀ (bs : List Nat) (ws : List Way), (List.zip bs ws).map (fun p => D.int (if p.2 = .falls then g0 far p.1 else g0 near p.1)) = iD (heardL bs ws near far)
  | [], ws => rfl
  | j :: bs, [] => rfl
  | j :: bs, w :: ws => by
    show D.int _ :: (List.zip bs ws).map _ = D.int _ :: iD (heardL bs ws near far)
    rw [heard_zip near far bs ws]
section
variable {P : Program} {w : World} {K : PySem.W.Frag} {mg : Str → Option Value} {base : Heap}
abbrev sHeardEnds : Stmt := top 44
abbrev NHeardEnds : List Str := ["net", "house", "words", "near", "far", "heard", "one", "word"]
theorem scHeardEnds : FnScope NHeardEnds ["net", "house", "words", "near", "far"] (defScope sHeardEnds) := ⟨rfl, rfl, rfl, by decide +kernel, rfl, by decide +kernel, by decide +kernel⟩
theorem fn_heard_ends (B : Bi mg) {k kb : Nat} (cb : Callee P w K mg base "branches" kb (r_branches 4)) (hk : kb ≤ k) (F : Stands K mg "heard_ends" sHeardEnds ["net", "house", "words", "near", "far"]) : Callee P w K mg base "heard_ends" (k + 1) r_heard_ends := by
  obtain ⟨f, fd, F, hm, hb⟩ := F
  refine ⟨f, fd, _, F.ok scHeardEnds (fun vs H Q E ⟨g, F0, ds, Φ, b, a, h, _⟩ => ?_) (fun cdv A outer s H vs Q E hr ⟨g, F0, ds, Φ, b, a, h, kk⟩ => ?_), hm, F.kp, hb⟩
  · obtain ⟨N, i, r, ws, near, far, rfl, _⟩ := h
    rw [← a.length]; rfl
  obtain ⟨N, i, r, ws, near, far, rfl, hN, e2, wl, l1, l2, hΦ⟩ := h
  have hr' := hr
  have a2 : L2.atI (encs N.2) (i : Int) = some (enc r) := atIn (by rw [encs_map, List.getElem?_map, e2]; rfl)
  have hrm : r ∈ N.2 := List.mem_of_getElem? e2
  have hn20 := hN.1.2.2.1
  refine ⟨_, pss_cons (ps_set (i := 5) scHeardEnds.nd rfl (Or.inl rfl) (pe_zipV rfl B.zip (wa_cons (we_fn cb hr hk rfl (wa_cons (we_ix (we_ix (we_var 0) we_int) (we_var 1)) wa_nil)) (wa_cons (we_var 2) wa_nil))))
    (pss_cons (ps_ret (pe_callTy call_tuple_of rfl B.tuple (by decide +kernel) (pa_cons (pe_lc (g := gTup K 2 (gCons (gName 6) (gCons (gName 7) gNil))) (tt := liftT K dYes) (te := lift K (dIf (dTst (dEq (dVar 7) (dC (.str "falls")))) (dIx (dVar 4) (dVar 6)) (dIx (dVar 3) (dVar 6)))) (own := [("one", 6), ("word", 7)]) rfl scHeardEnds.nd (pi_name (i := 5) rfl (Or.inl rfl)) (blkOk_by (N := NHeardEnds) (sc := defScope sHeardEnds) (own := [("one", 6), ("word", 7)]) (by decide +kernel))
      (fun _ _ _ _ _ => (pg_tup rfl (pgs_cons (pg_name (i := 6) scHeardEnds.nd rfl (by first | exact Or.inl rfl | exact Or.inr rfl)) (pgs_cons (pg_name (i := 7) scHeardEnds.nd rfl (by first | exact Or.inl rfl | exact Or.inr rfl)) pgs_nil))))
      (fun _ _ _ _ _ => wts_nil) (fun _ _ _ _ _ => (we_if (wt_eq (we_var 7) we_str) (we_ix (we_var 4) (we_var 6)) (we_ix (we_var 3) (we_var 6))))) pa_nil rfl))) pss_nil), ?_⟩
  have e0 := env_start (K := K) (N := NHeardEnds) b a (by show 5 ≤ 8; decide)
  refine ⟨g, F0, _, fun es => es = [.tup (natD (br r)), .tup (ws.map encW)], e0.e, ?_, fun es vs1 F1 H1 φ1 s1 as => ?_⟩
  · rw [show encN N = .tup [.tup (iD N.1), .tup (encs N.2)] from rfl]
    walk_at "D"
    rw [a2]
    exact ⟨_, r, rfl, wfs_get hN.1.2.2.2.2.1 e2, by omega, hN.1.2.2.2.2.2 r hrm, hN.2 r hrm, rfl⟩
  subst φ1
  obtain ⟨v1, r1, rfl, a1, as⟩ := as
  obtain ⟨v2, r2, rfl, a2', as⟩ := as
  cases as
  obtain ⟨pa, xs, rfl, hx, ax⟩ := a1
  obtain ⟨pb, ys, rfl, hy, ay⟩ := a2'
  have b1 := b.step s1
  refine ⟨pa, pb, xs, ys, rfl, b1.sub.sqt hx, b1.sub.sqt hy, fun z Ti To i1 i2 H5 t => ?_⟩
  have e1 := e0.e.step s1
  have hlen : (L2.start NHeardEnds vs).length = 8 := by rw [e0.e.len]; rfl
  have no5 : getS (startE NHeardEnds.length [encN N, .int (i : Int), .tup (ws.map encW), .tup (iD near), .tup (iD far)]) 5 = .no := rfl
  have e5 : EnvOk K g ((L2.start NHeardEnds vs).set 5 (some (.ref z))) F1 H1 (startE NHeardEnds.length [encN N, .int (i : Int), .tup (ws.map encW), .tup (iD near), .tup (iD far)]) := by
    refine ⟨e1.b, by rw [List.length_set]; exact e1.len, fun j => ?_, fun i' j ds es p q1 => ?_⟩
    · by_cases c : j = 5
      · subst c; rw [no5]; trivial
      · rw [List.getElem?_set, if_neg (fun z => c z.symm)]
        exact e1.sl j
    · unfold startE at q1
      rw [getS_start] at q1
      split at q1 <;> cases q1
  have hbr := hN.2 r hrm
  refine ⟨z, Ti, To, i1, i2, pa, pb, H1, ?_, t, ?_⟩
  · show ((L2.start NHeardEnds vs).set 5 (some (.ref z)))[5]? = _
    rw [List.getElem?_set, if_pos rfl, if_pos (by rw [hlen]; decide)]
  suffices q : tLc (fun _ _ R => R (RZ.ItzT K pa pb) H1) (gTup K 2 (gCons (gName 6) (gCons (gName 7) gNil))) (liftT K dYes) (lift K (dIf (dTst (dEq (dVar 7) (dC (.str "falls")))) (dIx (dVar 4) (dVar 6)) (dIx (dVar 3) (dVar 6)))) [6, 7] ((L2.start NHeardEnds vs).set 5 (some (.ref z))) H1
      (fun x H' => ∃ p ys, [x] = [.ref p] ∧ ((SqL K H' p ys ∧ ∀ l, H' l = none → Q (.ref l) (upd H' l (.tup ys))) ∨ (SqT K H' p ys ∧ Q (.ref p) H'))) from q
  refine lc_tail (vs := [6, 7]) (b := bTup (bCons (bName 6) (bCons (bName 7) bNil))) (g := gTup K 2 (gCons (gName 6) (gCons (gName 7) gNil))) (J := RZ.ItzT K pa pb) (ds := zipD (natD (br r)) (ws.map encW)) (Φ := fun d => d = .lst (iD (heardL (br r) ws near far))) (bo_tup (bo_cons (bo_name (by decide)) (bo_cons (bo_name (by decide)) bo_nil)) (bl_name (bl_name bl_nil))) _ _ e5 ?_ (walk_zt hx ax hy ay) ?_ ?_
  · rw [zip_W]
    refine lc_over (fun p : Nat × Way => D.tup [.int (p.1 : Int), encW p.2]) (fun p => .int (if p.2 = .falls then g0 far p.1 else g0 near p.1)) (List.zip (br r) ws) [] (fun p hp Ψ hΨ => ?_) ?_
    · obtain ⟨j, w⟩ := p
      have hj : j < N.1.length := br_lt (wfs_get hN.1.2.2.2.2.1 e2) (List.of_mem_zip hp).1
      have y1 : L2.atI (iD near) (j : Int) = some (.int (g0 near j)) := atIn (iD_get (g0_some (by omega)))
      have y2 : L2.atI (iD far) (j : Int) = some (.int (g0 far j)) := atIn (iD_get (g0_some (by omega)))
      cases w <;> (unfold encW; walk_at "D"; first | (rw [y1]; exact hΨ) | (rw [y2]; exact hΨ))
    · rw [List.nil_append, heard_zip]
  · have := zipD_len (natD (br r)) (ws.map encW)
    rw [sizeLine_eq]
    have h1 := natD_len (br r)
    omega
  · intro d v F2 H2 φ s2 av
    have b2 := b1.step s2
    refine cal_tuple g F2 H2 [v] [d] Φ Q b2 ⟨v, [], rfl, av, rfl⟩ ?_ ((kk.aft b s1).aft b1 s2)
    rw [φ]
    exact hΦ
end
end NB

/-! DR -/
set_option Elab.async false
set_option linter.all false
set_option maxRecDepth 100000
set_option maxHeartbeats 1000000
namespace NB
open PySem PySem.Spec PyProof.Rows L2
section
variable {X : Cx} {K : PySem.W.Frag} {a b : Expr} {wa wb : DE} {pos : Pos}
def rdAbs : RL := fun ds Φ => match ds with
  | [.int i] => Φ (.int (if i < 0 then -i else i))
  | _ => False
theorem cal_abs : CalD K (fun xs H Q => ∃ i, xs = [.int i] ∧ Q (.int (if i < 0 then -i else i)) H) rdAbs := by
  intro g F H vs ds Φ Q b a h k
  unfold rdAbs at h
  split at h
  · obtain ⟨v, r, rfl, av, ar⟩ := a
    cases av
    cases ar
    exact ⟨_, rfl, k.now b h rfl⟩
  · exact h.elim
def dPow (wa wb : DE) : DE := dOp (rdI CPow fun i j => i ^ j.toNat) wa wb
theorem we_pow (ha : PE X a (lift X.K wa)) (hb : PE X b (lift X.K wb)) : PE X (.BinOp a .Pow b pos) (lift X.K (dPow wa wb)) := we_bin op_pow opd_I ha hb
/-- what is laid out is short -/
theorem lens_of {pins : List (Addr × Obj)} {σ : L2.St} {H : Hp} {s : Shared} (I : Inv X pins σ H s) : Lens H := by
  have t : ∀ (a : Addr) (xs : List V), ObjOk X.prog X.w H s.heap a (.tup xs) → xs.length ≤ sizeLine := fun a xs h => h.1
  have l : ∀ (a : Addr) (xs : List V), ObjOk X.prog X.w H s.heap a (.lst xs) → xs.length ≤ sizeLine := fun a xs h => h.1
  intro a xs h
  rcases h with (h | ⟨o, h⟩) | (h | ⟨o, h⟩)
  · exact t a xs (I.hok _ _ h)
  · exact t a xs (I.hok _ _ h).2
  · exact l a xs (I.hok _ _ h)
  · exact l a xs (I.hok _ _ h).2
theorem pss_lens {ss : List Stmt} {t : TS} (h : PSs X ss t) : PSs X ss (fun D σ H => Lens H → t D σ H) := ⟨fun pins s σ H D I q => h.run pins s σ H D I (q (lens_of I))⟩
end
end NB

/-! DT -/
set_option Elab.async false
set_option linter.all false
set_option maxRecDepth 100000
set_option maxHeartbeats 1000000
namespace NB
open PySem PySem.Spec PyProof.Rows L2
local macro_rules | `(tactic| walk_at "D") => `(tactic| simp only [dSeq, dRet, dNext, dSet, dAsg, dPar, dPar3, dParO1, dParO2, dNew, dFreeze, dNever, dApp, dExt, dIfS, dVar, dC, dOp, dCall, dCons, dNil, dPow, dAndV, dOrV, dNotV, dTst, dTAnd, dTOr, dTNot, dIf, dYes, dIx, dEq, dNe, dLt, dLe, dGt, dGe, dAdd, dSub, dMul, dDiv, dMod, dIn, dIsN, dNotN, dIsT, dEqD, dNeD, dCat, dLen, dMin, dMax, dSum, dAny, dAll, dTuple, dList, dSl, dPart, dNoPart, dTup, dLst, dIsi, dNeg, dChain, dRev, dRep, dRepT, dSizes, dStup, dSNil, dSCons, dSStar, dItems, dRange1, dRange2, dZip, dEnum, dLc, dFor, bName, bTup, bCons, bNil, rdI, rdInt, rdAbs, rdI0, rdB0, rdEq, rdNe, rdIsN, rdNotN, rdIsT, rdIx, rdIn, rdCat, rdLen, rdMin, rdMax, rdSum, rdSorted, rdAny, rdAll, rdTuple, rdList, isTy, isNon, getS, setS, wipeS, startE, List.map, List.replicate, List.length_cons, List.length_nil, List.append, List.cons_append, List.nil_append, List.append_nil, Nat.sub_self, Nat.reduceSub, Nat.reduceAdd, Bool.not_true, Bool.not_false, encH, encs, atI0, atI1, atI2, atI3, strsOf, intsOf, Option.map_some, intsOf_iD, dq_is_hear, dq_is_least, dq_is_most, dq_is_add, dq_is_middle, dq_is_times, dq_is_part, dq_is_clip, dq_is_from, dq_is_bar, dq_is_row, dq_hear_is, dq_hear_least, dq_hear_most, dq_hear_add, dq_hear_middle, dq_hear_times, dq_hear_part, dq_hear_clip, dq_hear_from, dq_hear_bar, dq_hear_row, dq_least_is, dq_least_hear, dq_least_most, dq_least_add, dq_least_middle, dq_least_times, dq_least_part, dq_least_clip, dq_least_from, dq_least_bar, dq_least_row, dq_most_is, dq_most_hear, dq_most_least, dq_most_add, dq_most_middle, dq_most_times, dq_most_part, dq_most_clip, dq_most_from, dq_most_bar, dq_most_row, dq_add_is, dq_add_hear, dq_add_least, dq_add_most, dq_add_middle, dq_add_times, dq_add_part, dq_add_clip, dq_add_from, dq_add_bar, dq_add_row, dq_middle_is, dq_middle_hear, dq_middle_least, dq_middle_most, dq_middle_add, dq_middle_times, dq_middle_part, dq_middle_clip, dq_middle_from, dq_middle_bar, dq_middle_row, dq_times_is, dq_times_hear, dq_times_least, dq_times_most, dq_times_add, dq_times_middle, dq_times_part, dq_times_clip, dq_times_from, dq_times_bar, dq_times_row, dq_part_is, dq_part_hear, dq_part_least, dq_part_most, dq_part_add, dq_part_middle, dq_part_times, dq_part_clip, dq_part_from, dq_part_bar, dq_part_row, dq_clip_is, dq_clip_hear, dq_clip_least, dq_clip_most, dq_clip_add, dq_clip_middle, dq_clip_times, dq_clip_part, dq_clip_from, dq_clip_bar, dq_clip_row, dq_from_is, dq_from_hear, dq_from_least, dq_from_most, dq_from_add, dq_from_middle, dq_from_times, dq_from_part, dq_from_clip, dq_from_bar, dq_from_row, dq_bar_is, dq_bar_hear, dq_bar_least, dq_bar_most, dq_bar_add, dq_bar_middle, dq_bar_times, dq_bar_part, dq_bar_clip, dq_bar_from, dq_bar_row, dq_row_is, dq_row_hear, dq_row_least, dq_row_most, dq_row_add, dq_row_middle, dq_row_times, dq_row_part, dq_row_clip, dq_row_from, dq_row_bar, dq_none_both, dq_none_falls, dq_none_rises, dq_both_none, dq_both_falls, dq_both_rises, dq_falls_none, dq_falls_both, dq_falls_rises, dq_rises_none, dq_rises_both, dq_rises_falls, dq_wait_rule, dq_wait_house, dq_wait_seen, dq_rule_wait, dq_rule_house, dq_rule_seen, dq_house_wait, dq_house_rule, dq_house_seen, dq_seen_wait, dq_seen_rule, dq_seen_house, di_is, dj_is, dk_is, dl_is, di_hear, dj_hear, dk_hear, dl_hear, di_least, dj_least, dk_least, dl_least, di_most, dj_most, dk_most, dl_most, di_add, dj_add, dk_add, dl_add, di_middle, dj_middle, dk_middle, dl_middle, di_times, dj_times, dk_times, dl_times, di_part, dj_part, dk_part, dl_part, di_clip, dj_clip, dk_clip, dl_clip, di_from, dj_from, dk_from, dl_from, di_bar, dj_bar, dk_bar, dl_bar, di_row, dj_row, dk_row, dl_row, kt_int_int, kt_int_bool, kt_bool_int, kt_bool_bool, kt_tuple_tuple, kt_str_str, kt_int_tuple, kt_str_tuple, kt_tuple_int, kt_tuple_str, kt_NoneType_tuple, kt_str_int, dq_same, decide_true])
/- _law_draw: slots ['_law_script', '_law_salt', '_law_cells', '_law_blend', '_law_cell'] -/
def w_law_draw_tail  : DS :=
  (dSeq (dSet 3 (dAdd (dC (.int 7919)) (dMul (dC (.int 104729)) (dVar 1)))) (dSeq (dFor (dItems (dVar 2)) (bName 4) (dSeq (dSet 3 (dMod (dCall rdInt (dCons (dAdd (dAdd (dMul (dVar 3) (dC (.int 48271))) (dMod (dVar 4) (dC (.int 2147483549)))) (dC (.int 11))) dNil)) (dC (.int 2147483647)))) dNext)) (dSeq (dRet (dLst (dCons (dRev (dLc (dItems (dVar 2)) [4] (bName 4) (dTst (dGe (dVar 4) (dPow (dC (.int 10)) (dC (.int 18))))) (dVar 4))) (dCons (dVar 3) dNil)))) dNext)))


theorem p_draw_tail {cs : List Int} {Φ : D → Prop} (nn : ∀ c ∈ cs, 0 ≤ c) (hl : cs.length ≤ 48) (hΦ : ∀ (xs : List Int) (x : Int), (∀ c ∈ xs, 0 ≤ c) → xs.length ≤ 48 → 0 ≤ x → x < 2147483647 → Φ (.lst [.lst (iD xs), .int x])) :
    w_law_draw_tail (fun _ => False) Φ [.no, .im (.int 58), .im (.lst (iD cs)), .no, .no] := by
  unfold w_law_draw_tail
  walk_at "D"
  refine ⟨.inl ⟨by decide, by decide⟩, ?_⟩
  refine for_over D.int (fun _ env => ∃ (x : Int) (s4 : Slot), env = [.no, .im (.int 58), .im (.lst (iD cs)), .im (.int x), s4] ∧ 0 ≤ x ∧ x < 2147483647) cs _ ⟨_, .no, rfl, by decide, by decide⟩ ?_ ?_
  · rintro done c rest env C e ⟨x, s4, rfl, x0, x1⟩ hC
    walk_at "D"
    refine ⟨.inr ⟨by decide, by decide⟩, by decide, ?_⟩
    exact ⟨(show (0 : Int) < 2147483647 by decide), hC _ ⟨_, _, rfl, Int.emod_nonneg _ (by decide), Int.emod_lt_of_pos _ (by decide)⟩⟩
  · rintro env ⟨x, s4, rfl, x0, x1⟩
    walk_at "D"
    refine lc_filter D.int (fun c => decide ((10 : Int) ^ (18 : Int).toNat ≤ c)) D.int cs [] (fun c hc A B Ψ h1 h2 => ?_) ?_
    · walk_at "D"
      refine ⟨⟨by decide, by decide, by decide⟩, ?_⟩
      cases e : decide ((10 : Int) ^ (18 : Int).toNat ≤ c) with
      | true => exact h1 e
      | false => exact h2 e
    · walk_at "D"
      refine ⟨by decide, ?_⟩
      rw [show (cs.filter fun c => decide ((10 : Int) ^ (18 : Int).toNat ≤ c)).map D.int = iD (cs.filter fun c => decide ((10 : Int) ^ (18 : Int).toNat ≤ c)) from rfl]
      rw [show (iD (cs.filter fun c => decide ((10 : Int) ^ (18 : Int).toNat ≤ c))).reverse = iD (cs.filter fun c => decide ((10 : Int) ^ (18 : Int).toNat ≤ c)).reverse by unfold iD; rw [List.map_reverse]]
      refine hΦ _ x (fun c hc => nn c ((List.mem_filter.mp (List.mem_reverse.mp hc)).1)) ?_ x0 x1
      rw [List.length_reverse]
      exact Nat.le_trans (List.length_filter_le _ _) hl
section
variable {P : Program} {w : World} {K : PySem.W.Frag} {mg : Str → Option Value} {base : Heap}
abbrev sLawDraw : Stmt := top 63
abbrev NLawDraw : List Str := ["_law_script", "_law_salt", "_law_cells", "_law_blend", "_law_cell"]
theorem scLawDraw : FnScope NLawDraw ["_law_script", "_law_salt"] (defScope sLawDraw) := ⟨rfl, rfl, rfl, by decide +kernel, rfl, by decide +kernel, by decide +kernel⟩
theorem body_law_draw_tail (B : Bi mg) {k : Nat} (f : Addr) (cdv : Value) (A : Around) (outer : List Env) (s : Shared) (H : Hp) (E : XK) (hr : Room k (A.deeper (envOfC "_law_draw" (defScope sLawDraw) s.heap.objs.size f cdv))) :
    PSs (cxOf CX0 P w K mg base NLawDraw "_law_draw" (defScope sLawDraw) f cdv A outer s H E).nox ((defBody sLawDraw).drop 1) (liftS K (w_law_draw_tail )) :=
  (ws_cons (ws_set (i := 3) scLawDraw.nd rfl (by first | exact Or.inl rfl | exact Or.inr rfl) (we_add we_int (we_mul we_int (we_var 1)))) (ws_cons (ws_for (wi_any (we_var 2)) (pg_name (i := 4) scLawDraw.nd rfl (by first | exact Or.inl rfl | exact Or.inr rfl)) (bo_name trivial) (ws_cons (ws_set (i := 3) scLawDraw.nd rfl (by first | exact Or.inl rfl | exact Or.inr rfl) (we_mod (we_callTy call_int1 cal_int rfl B.int (wa_cons (we_add (we_add (we_mul (we_var 3) we_int) (we_mod (we_var 4) we_int)) we_int) wa_nil)) we_int)) ws_nil) PassesOwn.never) (ws_cons (ws_ret (we_lst (wa_cons (we_rev (we_lc (own := [("_law_cell", 4)]) (wi_any (we_var 2)) (blkOk_by (N := NLawDraw) (sc := defScope sLawDraw) (own := [("_law_cell", 4)]) (by decide +kernel)) (bo_name (by decide)) (fun _ _ _ _ _ => (pg_name (i := 4) scLawDraw.nd rfl (by first | exact Or.inl rfl | exact Or.inr rfl))) (fun _ _ _ _ _ => (wts_one (wt_ge (we_var 4) (we_pow we_int we_int)))) (fun _ _ _ _ _ => (we_var 4)) scLawDraw.nd)) (wa_cons (we_var 3) wa_nil)))) ws_nil)))


def spDraw (K : PySem.W.Frag) : Sp := fun vs H Q _ => ∃ (a : Addr) (ns : List Int), vs = [.ref a, .int 58] ∧ SqL K H a (ns.map V.int) ∧ ns.length ≤ 63 ∧ ∀ (p q : Addr) (xs : List Int) (x : Int) (H' : Hp), p ≠ q → H' p = some (.lst [.ref q, .int x]) → H' q = some (.lst (xs.map V.int)) → (∀ c ∈ xs, 0 ≤ c) → xs.length ≤ 48 → 0 ≤ x → x < 2147483647 → Q (.ref p) H'
theorem ats_ints {g : Dl} {F : Hp} : ∀ {xs : List Int} {vs : List V}, Ats K g F (iD xs) vs → vs = xs.map V.int
  | [], vs, h => h
  | x :: xs, vs, h => by
    obtain ⟨v, r, rfl, av, ar⟩ := h
    cases av
    rw [ats_ints ar]; rfl
theorem fn_law_draw (B : Bi mg) {f : Addr} {fd : FuncData} (F : L2.Fun K "_law_draw" "_law_draw" sLawDraw f fd) : FnOk P w K mg base CX0 1 f fd ["_law_script", "_law_salt"] (spDraw K) := by
  refine F.ok scLawDraw (fun vs H Q E ⟨a, ns, e, _⟩ => by rw [e]; rfl) fun cdv A outer s H vs Q E hr ⟨a, ns, e, hS, hn, hQ⟩ => ?_
  subst e
  refine ⟨_, pss_lens (pss_cons (ps_setLc (i := 2) (g := gName 4) (tt := liftT K dYes) (te := lift K (dCall rdAbs (dCons (dCall rdInt (dCons (dVar 4) dNil)) dNil))) (own := [("_law_cell", 4)]) rfl scLawDraw.nd rfl rfl (sw_true rfl rfl rfl (by decide +kernel)) (pi_any (pe_slice sl_list (pv 0) po_none (po_some pe_int))) (blkOk_by (N := NLawDraw) (sc := defScope sLawDraw) (own := [("_law_cell", 4)]) (by decide +kernel))
      (fun _ _ _ _ _ => (pg_name (i := 4) scLawDraw.nd rfl (by first | exact Or.inl rfl | exact Or.inr rfl))) (fun _ _ _ _ _ => wts_nil) (fun _ _ _ _ _ => (we_callB call_abs cal_abs rfl B.abs (wa_cons (we_callTy call_int1 cal_int rfl B.int (wa_cons (we_var 4) wa_nil)) wa_nil)))) (body_law_draw_tail B (k := 0) f cdv A outer s H E hr)), ?_⟩
  intro ln
  have ecut : cutV (ns.map V.int) none (some 48) = (ns.take 48).map V.int := by
    unfold cutV
    rw [HT.sIx_none, show (some (48 : Int)) = some ((48 : Nat) : Int) from rfl, HT.sIx_nat, List.drop_zero, List.length_map, Nat.sub_zero, ← List.map_take]
    by_cases h : 48 ≤ ns.length
    · rw [Nat.min_eq_left h]
    · rw [Nat.min_eq_right (by omega), List.take_of_length_le (Nat.le_refl _), List.take_of_length_le (by omega)]
  refine ⟨.ref a, rfl, 48, rfl, a, ns.map V.int, rfl, hS, fun p hp => ⟨p, rfl, .inl ⟨⟨_, SqL.of upd_same⟩, ?_⟩⟩⟩
  rw [ecut]
  have hl48 : (ns.take 48).length ≤ 48 := by rw [List.length_take]; omega
  let F1 : Hp := upd (fun _ => none) p (.lst ((ns.take 48).map V.int))
  have bs : Bs none F1 (upd H p (.lst ((ns.take 48).map V.int))) := by
    refine ⟨fun q o e => ?_, (fun _ _ e => by cases e), (fun _ _ e => by cases e), ln.updL (by rw [List.length_map]; exact small hl48)⟩
    by_cases c : q = p
    · subst c
      rw [show F1 q = some _ from upd_same] at e
      rw [upd_same]; exact e
    · rw [show F1 q = none by show upd _ _ _ _ = _; rw [upd_ne c]] at e
      cases e
  have e0 : EnvOk K none (L2.start NLawDraw [.ref a, .int 58]) F1 (upd H p (.lst ((ns.take 48).map V.int))) [.no, .im (.int 58), .no, .no, .no] := by
    refine ⟨bs, rfl, fun i => ?_, fun i j ds es p e => ?_⟩
    · match i with
      | 0 => trivial
      | 1 => exact ⟨.int 58, rfl, rfl⟩
      | 2 => trivial
      | 3 => trivial
      | 4 => trivial
      | n + 5 => trivial
    · match i, e with
      | 0, e => cases e
      | 1, e => cases e
      | 2, e => cases e
      | 3, e => cases e
      | 4, e => cases e
      | n + 5, e => cases e
  suffices q : tLc (fun _ _ R => R (Itl K p) (upd H p (.lst ((ns.take 48).map V.int)))) (gName 4) (liftT K dYes) (lift K (dCall rdAbs (dCons (dCall rdInt (dCons (dVar 4) dNil)) dNil))) [4] (L2.start NLawDraw [.ref a, .int 58]) (upd H p (.lst ((ns.take 48).map V.int)))
      (fun x H' => liftS K w_law_draw_tail { nx := fun x H' => Q V.non H', rt := Q } ((L2.start NLawDraw [.ref a, .int 58]).set 2 (some x)) H') from q
  refine lc_tail (vs := [4]) (b := bName 4) (g := gName 4) (J := Itl K p) (ds := iD (ns.take 48)) (Φ := fun d => ∃ cs : List Int, d = .lst (iD cs) ∧ (∀ c ∈ cs, 0 ≤ c) ∧ cs.length ≤ 48) (bo_name (by decide)) _ _ e0 ?_ (walk_l (show F1 p = some _ from upd_same) (at_ints K none F1 _)) (by rw [iD_len]; exact small hl48) ?_
  · unfold iD
    refine lc_over D.int (fun x => .int (if x < 0 then -x else x)) (ns.take 48) [] (fun x hx Ψ hΨ => ?_) ?_
    · walk_at "D"
      exact hΨ
    · refine ⟨(ns.take 48).map fun x => if x < 0 then -x else x, by rw [List.nil_append]; show D.lst _ = D.lst (List.map D.int _); rw [List.map_map]; rfl, fun c hc => ?_, by rw [List.length_map]; exact hl48⟩
      obtain ⟨x, _, rfl⟩ := List.mem_map.mp hc
      show 0 ≤ if x < 0 then -x else x
      split <;> omega
  · rintro d v F2 H2 ⟨cs, rfl, nn, hl⟩ s2 av
    have e2 := (e0.step s2).set (i := 2) av
    refine ⟨none, F2, H2, F2, _, fun _ => False, fun d => ∃ (xs : List Int) (x : Int), d = .lst [.lst (iD xs), .int x] ∧ (∀ c ∈ xs, 0 ≤ c) ∧ xs.length ≤ 48 ∧ 0 ≤ x ∧ x < 2147483647, EnvS.of e2 fun i ds e => ?_, p_draw_tail nn hl fun xs x h1 h2 h3 h4 => ⟨xs, x, rfl, h1, h2, h3, h4⟩, fun _ _ _ _ h => h.elim, ?_⟩
    · match i, e with
      | 0, e => cases e
      | 1, e => cases e
      | 2, e => cases e
      | 3, e => cases e
      | 4, e => cases e
      | n + 5, e => cases e
    · rintro d v F3 H3 ⟨xs, x, rfl, h1, h2, h3, h4⟩ s3 a3
      obtain ⟨p1, vs1, rfl, f1, a4⟩ := a3
      obtain ⟨v1, r1, rfl, a5, a6⟩ := a4
      obtain ⟨q1, vs2, rfl, f2, a7⟩ := a5
      obtain ⟨v2, r2, rfl, a8, a9⟩ := a6
      cases a8
      cases a9
      rw [ats_ints a7] at f2
      refine hQ p1 q1 xs x H3 (fun e => ?_) (s3.sub _ _ f1) (s3.sub _ _ f2) h1 h2 h3 h4
      subst e
      rw [f1] at f2
      have := HO.lst.inj (Option.some.inj f2)
      cases xs with
      | nil => cases this
      | cons y ys => cases this
end
end NB

/-! B1 -/
set_option Elab.async false
set_option linter.all false
set_option maxRecDepth 100000
set_option maxHeartbeats 1000000
namespace NB
open PySem PySem.Spec PyProof.Rows L2
section
variable {P : Program} {w : World} {K : PySem.W.Frag} {mg : Str → Option Value} {base : Heap}
abbrev sIsInteger : Stmt := top 5
abbrev NIsInteger : List Str := ["value"]
theorem scIsInteger : FnScope NIsInteger ["value"] (defScope sIsInteger) := ⟨rfl, rfl, rfl, by decide +kernel, rfl, by decide +kernel, by decide +kernel⟩
theorem body_is_integer (B : Bi mg) {k : Nat} (f : Addr) (cdv : Value) (A : Around) (outer : List Env) (s : Shared) (H : Hp) (E : XK) (hr : Room k (A.deeper (envOfC "is_integer" (defScope sIsInteger) s.heap.objs.size f cdv))) :
    PSs (cxOf CX0 P w K mg base NIsInteger "is_integer" (defScope sIsInteger) f cdv A outer s H E).nox (defBody sIsInteger) (liftS K (w_is_integer )) :=
  (ws_cons (ws_ret (we_and (we_isi (T := "int") rfl B.isi (we_var 0) rfl B.int) (we_one (we_not (we_isi (T := "bool") rfl B.isi (we_var 0) rfl B.bool))))) ws_nil)

abbrev sIsNumber : Stmt := top 6
abbrev NIsNumber : List Str := ["value"]
theorem scIsNumber : FnScope NIsNumber ["value"] (defScope sIsNumber) := ⟨rfl, rfl, rfl, by decide +kernel, rfl, by decide +kernel, by decide +kernel⟩
theorem body_is_number (B : Bi mg) {k : Nat} {k_is_integer : Nat} {r_is_integer : RL} (c_is_integer : Callee P w K mg base "is_integer" k_is_integer r_is_integer) (h_is_integer : k_is_integer ≤ k) (f : Addr) (cdv : Value) (A : Around) (outer : List Env) (s : Shared) (H : Hp) (E : XK) (hr : Room k (A.deeper (envOfC "is_number" (defScope sIsNumber) s.heap.objs.size f cdv))) :
    PSs (cxOf CX0 P w K mg base NIsNumber "is_number" (defScope sIsNumber) f cdv A outer s H E).nox (defBody sIsNumber) (liftS K (w_is_number r_is_integer)) :=
  (ws_cons (ws_ret (we_and (we_fn c_is_integer hr h_is_integer rfl (wa_cons (we_var 0) wa_nil)) (we_one (we_ge (we_var 0) we_int)))) ws_nil)

abbrev sIsIndex : Stmt := top 7
abbrev NIsIndex : List Str := ["value", "many"]
theorem scIsIndex : FnScope NIsIndex ["value", "many"] (defScope sIsIndex) := ⟨rfl, rfl, rfl, by decide +kernel, rfl, by decide +kernel, by decide +kernel⟩
theorem body_is_index (B : Bi mg) {k : Nat} {k_is_number : Nat} {r_is_number : RL} (c_is_number : Callee P w K mg base "is_number" k_is_number r_is_number) (h_is_number : k_is_number ≤ k) (f : Addr) (cdv : Value) (A : Around) (outer : List Env) (s : Shared) (H : Hp) (E : XK) (hr : Room k (A.deeper (envOfC "is_index" (defScope sIsIndex) s.heap.objs.size f cdv))) :
    PSs (cxOf CX0 P w K mg base NIsIndex "is_index" (defScope sIsIndex) f cdv A outer s H E).nox (defBody sIsIndex) (liftS K (w_is_index r_is_number)) :=
  (ws_cons (ws_ret (we_and (we_fn c_is_number hr h_is_number rfl (wa_cons (we_var 0) wa_nil)) (we_one (we_lt (we_var 0) (we_var 1))))) ws_nil)

abbrev sIsRowOf : Stmt := top 8
abbrev NIsRowOf : List Str := ["value", "sizes"]
theorem scIsRowOf : FnScope NIsRowOf ["value", "sizes"] (defScope sIsRowOf) := ⟨rfl, rfl, rfl, by decide +kernel, rfl, by decide +kernel, by decide +kernel⟩
theorem body_is_row_of (B : Bi mg) {k : Nat} (f : Addr) (cdv : Value) (A : Around) (outer : List Env) (s : Shared) (H : Hp) (E : XK) (hr : Room k (A.deeper (envOfC "is_row_of" (defScope sIsRowOf) s.heap.objs.size f cdv))) :
    PSs (cxOf CX0 P w K mg base NIsRowOf "is_row_of" (defScope sIsRowOf) f cdv A outer s H E).nox (defBody sIsRowOf) (liftS K (w_is_row_of )) :=
  (ws_cons (ws_ret (we_and (we_isi (T := "tuple") rfl B.isi (we_var 0) rfl B.tuple) (we_one (we_in (we_callB call_len_seq cal_len rfl B.len (wa_cons (we_var 0) wa_nil)) (we_var 1))))) ws_nil)

abbrev sIsWordOf : Stmt := top 9
abbrev NIsWordOf : List Str := ["value", "words"]
theorem scIsWordOf : FnScope NIsWordOf ["value", "words"] (defScope sIsWordOf) := ⟨rfl, rfl, rfl, by decide +kernel, rfl, by decide +kernel, by decide +kernel⟩
theorem body_is_word_of (B : Bi mg) {k : Nat} (f : Addr) (cdv : Value) (A : Around) (outer : List Env) (s : Shared) (H : Hp) (E : XK) (hr : Room k (A.deeper (envOfC "is_word_of" (defScope sIsWordOf) s.heap.objs.size f cdv))) :
    PSs (cxOf CX0 P w K mg base NIsWordOf "is_word_of" (defScope sIsWordOf) f cdv A outer s H E).nox (defBody sIsWordOf) (liftS K (w_is_word_of )) :=
  (ws_cons (ws_ret (we_and (we_isi (T := "str") rfl B.isi (we_var 0) rfl B.str) (we_one (we_in (we_var 0) (we_var 1))))) ws_nil)

abbrev sIsWorth : Stmt := top 16
abbrev NIsWorth : List Str := ["value"]
theorem scIsWorth : FnScope NIsWorth ["value"] (defScope sIsWorth) := ⟨rfl, rfl, rfl, by decide +kernel, rfl, by decide +kernel, by decide +kernel⟩
theorem body_is_worth (B : Bi mg) {k : Nat} {k_is_index : Nat} {r_is_index : RL} (c_is_index : Callee P w K mg base "is_index" k_is_index r_is_index) (h_is_index : k_is_index ≤ k) (m_MOST_rules : ∃ t, mg "MOST_rules" = some (.int 1001 t)) (f : Addr) (cdv : Value) (A : Around) (outer : List Env) (s : Shared) (H : Hp) (E : XK) (hr : Room k (A.deeper (envOfC "is_worth" (defScope sIsWorth) s.heap.objs.size f cdv))) :
    PSs (cxOf CX0 P w K mg base NIsWorth "is_worth" (defScope sIsWorth) f cdv A outer s H E).nox (defBody sIsWorth) (liftS K (w_is_worth r_is_index)) :=
  (ws_cons (ws_ret (we_fn c_is_index hr h_is_index rfl (wa_cons (we_var 0) (wa_cons (we_gi rfl m_MOST_rules) wa_nil)))) ws_nil)

abbrev sIsHead : Stmt := top 17
abbrev NIsHead : List Str := ["value", "one"]
theorem scIsHead : FnScope NIsHead ["value"] (defScope sIsHead) := ⟨rfl, rfl, rfl, by decide +kernel, rfl, by decide +kernel, by decide +kernel⟩
theorem body_is_head (B : Bi mg) {k : Nat} {k_is_worth : Nat} {r_is_worth : RL} (c_is_worth : Callee P w K mg base "is_worth" k_is_worth r_is_worth) (h_is_worth : k_is_worth ≤ k) (m_MOST_ROW : ∃ t, mg "MOST_ROW" = some (.int 64 t)) (f : Addr) (cdv : Value) (A : Around) (outer : List Env) (s : Shared) (H : Hp) (E : XK) (hr : Room k (A.deeper (envOfC "is_head" (defScope sIsHead) s.heap.objs.size f cdv))) :
    PSs (cxOf CX0 P w K mg base NIsHead "is_head" (defScope sIsHead) f cdv A outer s H E).nox (defBody sIsHead) (liftS K (w_is_head r_is_worth)) :=
  (ws_cons (ws_if (wt_eq (we_ix (we_var 0) we_int) we_str) (ws_cons (ws_ret (we_and (we_eq (we_callB call_len_seq cal_len rfl B.len (wa_cons (we_var 0) wa_nil)) we_int) (we_one (we_fn c_is_worth hr h_is_worth rfl (wa_cons (we_ix (we_var 0) we_int) wa_nil))))) ws_nil) ws_nil) (ws_cons (ws_if (wt_eq (we_ix (we_var 0) we_int) we_str) (ws_cons (ws_ret (we_and (we_eq (we_callB call_len_seq cal_len rfl B.len (wa_cons (we_var 0) wa_nil)) we_int) (we_and (we_fn c_is_worth hr h_is_worth rfl (wa_cons (we_ix (we_var 0) we_int) wa_nil)) (we_one (we_gt (we_ix (we_var 0) we_int) we_int))))) ws_nil) ws_nil) (ws_cons (ws_if (wt_eq (we_ix (we_var 0) we_int) we_str) (ws_cons (ws_ret (we_and (we_eq (we_callB call_len_seq cal_len rfl B.len (wa_cons (we_var 0) wa_nil)) we_int) (we_and (we_fn c_is_worth hr h_is_worth rfl (wa_cons (we_ix (we_var 0) we_int) wa_nil)) (we_and (we_fn c_is_worth hr h_is_worth rfl (wa_cons (we_ix (we_var 0) we_int) wa_nil)) (we_one (we_le (we_ix (we_var 0) we_int) (we_ix (we_var 0) we_int))))))) ws_nil) ws_nil) (ws_cons (ws_if (wt_eq (we_ix (we_var 0) we_int) we_str) (ws_cons (ws_ret (we_and (we_eq (we_callB call_len_seq cal_len rfl B.len (wa_cons (we_var 0) wa_nil)) we_int) (we_one (we_fn c_is_worth hr h_is_worth rfl (wa_cons (we_ix (we_var 0) we_int) wa_nil))))) ws_nil) ws_nil) (ws_cons (ws_if (wt_eq (we_ix (we_var 0) we_int) we_str) (ws_cons (ws_ret (we_and (we_eq (we_callB call_len_seq cal_len rfl B.len (wa_cons (we_var 0) wa_nil)) we_int) (we_and (we_fn c_is_worth hr h_is_worth rfl (wa_cons (we_ix (we_var 0) we_int) wa_nil)) (we_and (we_fn c_is_worth hr h_is_worth rfl (wa_cons (we_ix (we_var 0) we_int) wa_nil)) (we_one (we_fn c_is_worth hr h_is_worth rfl (wa_cons (we_ix (we_var 0) we_int) wa_nil))))))) ws_nil) ws_nil) (ws_cons (ws_if (PW.pt (wt_or (wt_ne (we_ix (we_var 0) we_int) we_str) (wt_or (wt_ne (we_callB call_len_seq cal_len rfl B.len (wa_cons (we_var 0) wa_nil)) we_int) (wt_or1 (wt_not (wt_val (we_isi (T := "tuple") rfl B.isi (we_ix (we_var 0) we_int) rfl B.tuple))))))) (ws_cons (ws_ret we_bl) ws_nil) ws_nil) (ws_cons (ws_ret (we_and (we_chain op_le op_le opd_B0 opd_B0 we_int (we_callB call_len_seq cal_len rfl B.len (wa_cons (we_ix (we_var 0) we_int) wa_nil)) (we_gi rfl m_MOST_ROW)) (we_one (we_callB (cr_all rfl) cal_all rfl B.al (wa_cons (we_lc (own := [("one", 1)]) (wi_any (we_ix (we_var 0) we_int)) (blkOk_by (N := NIsHead) (sc := defScope sIsHead) (own := [("one", 1)]) (by decide +kernel)) (bo_name (by decide)) (fun _ _ _ _ _ => (pg_name (i := 1) scIsHead.nd rfl (by first | exact Or.inl rfl | exact Or.inr rfl))) (fun _ _ _ _ _ => wts_nil) (fun _ _ _ _ _ => (we_fn c_is_worth hr h_is_worth rfl (wa_cons (we_var 1) wa_nil))) scIsHead.nd) wa_nil))))) ws_nil)))))))

abbrev sPartsOf : Stmt := top 18
abbrev NPartsOf : List Str := ["value"]
theorem scPartsOf : FnScope NPartsOf ["value"] (defScope sPartsOf) := ⟨rfl, rfl, rfl, by decide +kernel, rfl, by decide +kernel, by decide +kernel⟩
theorem body_parts_of (B : Bi mg) {k : Nat} {k_is_worth : Nat} {r_is_worth : RL} {k_is_head : Nat} {r_is_head : RL} (c_is_worth : Callee P w K mg base "is_worth" k_is_worth r_is_worth) (h_is_worth : k_is_worth ≤ k) (c_is_head : Callee P w K mg base "is_head" k_is_head r_is_head) (h_is_head : k_is_head ≤ k) (f : Addr) (cdv : Value) (A : Around) (outer : List Env) (s : Shared) (H : Hp) (E : XK) (hr : Room k (A.deeper (envOfC "parts_of" (defScope sPartsOf) s.heap.objs.size f cdv))) :
    PSs (cxOf CX0 P w K mg base NPartsOf "parts_of" (defScope sPartsOf) f cdv A outer s H E).nox (defBody sPartsOf) (liftS K (w_parts_of r_is_worth r_is_head)) :=
  (ws_cons (ws_if (PW.pt (wt_or (wt_not (wt_val (we_isi (T := "tuple") rfl B.isi (we_var 0) rfl B.tuple))) (wt_or (wt_lt (we_callB call_len_seq cal_len rfl B.len (wa_cons (we_var 0) wa_nil)) we_int) (wt_or1 (wt_not (wt_val (we_isi (T := "str") rfl B.isi (we_ix (we_var 0) we_int) rfl B.str))))))) (ws_cons (ws_ret we_non) ws_nil) ws_nil) (ws_cons (ws_if (wt_eq (we_ix (we_var 0) we_int) we_str) (ws_cons (ws_ret (we_if (PW.pt (wt_and (wt_eq (we_callB call_len_seq cal_len rfl B.len (wa_cons (we_var 0) wa_nil)) we_int) (wt_and1 (wt_val (we_fn c_is_worth hr h_is_worth rfl (wa_cons (we_ix (we_var 0) we_int) wa_nil)))))) (we_tup wa_nil) we_non)) ws_nil) ws_nil) (ws_cons (ws_if (wt_eq (we_ix (we_var 0) we_int) we_str) (ws_cons (ws_ret (we_if (PW.pt (wt_and (wt_eq (we_callB call_len_seq cal_len rfl B.len (wa_cons (we_var 0) wa_nil)) we_int) (wt_and1 (wt_val (we_fn c_is_worth hr h_is_worth rfl (wa_cons (we_ix (we_var 0) we_int) wa_nil)))))) (we_tup wa_nil) we_non)) ws_nil) ws_nil) (ws_cons (ws_if (wt_in (we_ix (we_var 0) we_int) (we_tup (wa_cons we_str (wa_cons we_str (wa_cons we_str wa_nil))))) (ws_cons (ws_ret (we_if (PW.pt (wt_and (wt_eq (we_callB call_len_seq cal_len rfl B.len (wa_cons (we_var 0) wa_nil)) we_int) (wt_and (wt_val (we_isi (T := "tuple") rfl B.isi (we_ix (we_var 0) we_int) rfl B.tuple)) (wt_and1 (wt_gt (we_callB call_len_seq cal_len rfl B.len (wa_cons (we_ix (we_var 0) we_int) wa_nil)) we_int))))) (we_ix (we_var 0) we_int) we_non)) ws_nil) ws_nil) (ws_cons (ws_if (wt_eq (we_ix (we_var 0) we_int) we_str) (ws_cons (ws_ret (we_if (wt_eq (we_callB call_len_seq cal_len rfl B.len (wa_cons (we_var 0) wa_nil)) we_int) (we_slice (we_var 0) (wo_some we_int) wo_none) we_non)) ws_nil) ws_nil) (ws_cons (ws_ret (we_if (wt_val (we_fn c_is_head hr h_is_head rfl (wa_cons (we_var 0) wa_nil))) (we_slice (we_var 0) (wo_some (we_neg we_int)) wo_none) we_non)) ws_nil))))))

end
end NB

/-! B2 -/
set_option Elab.async false
set_option linter.all false
set_option maxRecDepth 100000
set_option maxHeartbeats 1000000
namespace NB
open PySem PySem.Spec PyProof.Rows L2
section
variable {P : Program} {w : World} {K : PySem.W.Frag} {mg : Str → Option Value} {base : Heap}
abbrev sCounted : Stmt := top 19
abbrev NCounted : List Str := ["value", "deep", "parts", "part", "many", "heard", "told_part"]
theorem scCounted : FnScope NCounted ["value", "deep"] (defScope sCounted) := ⟨rfl, rfl, rfl, by decide +kernel, rfl, by decide +kernel, by decide +kernel⟩
theorem body_counted (B : Bi mg) {k : Nat} {k_parts_of : Nat} {r_parts_of : RL} {k_counted : Nat} {r_counted : RL} (c_parts_of : Callee P w K mg base "parts_of" k_parts_of r_parts_of) (h_parts_of : k_parts_of ≤ k) (c_counted : Callee P w K mg base "counted" k_counted r_counted) (h_counted : k_counted ≤ k) (m_MOST_PARTS : ∃ t, mg "MOST_PARTS" = some (.int 60 t)) (f : Addr) (cdv : Value) (A : Around) (outer : List Env) (s : Shared) (H : Hp) (E : XK) (hr : Room k (A.deeper (envOfC "counted" (defScope sCounted) s.heap.objs.size f cdv))) :
    PSs (cxOf CX0 P w K mg base NCounted "counted" (defScope sCounted) f cdv A outer s H E).nox (defBody sCounted) (liftS K (w_counted r_parts_of r_counted)) :=
  (ws_cons (ws_set (i := 2) scCounted.nd rfl (by first | exact Or.inl rfl | exact Or.inr rfl) (we_fn c_parts_of hr h_parts_of rfl (wa_cons (we_var 0) wa_nil))) (ws_cons (ws_if (PW.pt (wt_or (wt_isN (we_var 2) we_non) (wt_or (wt_eq (we_var 1) we_int) (wt_or1 (wt_gt (we_callB call_len_seq cal_len rfl B.len (wa_cons (we_var 2) wa_nil)) (we_gi rfl m_MOST_PARTS)))))) (ws_cons (ws_ret we_non) ws_nil) ws_nil) (ws_cons (ws_par (i := 4) (j := 5) scCounted.nd rfl rfl (by decide) rfl rfl we_int (we_if (wt_eq (we_ix (we_var 0) we_int) we_str) we_int we_int)) (ws_cons (ws_for (wi_any (we_var 2)) (pg_name (i := 3) scCounted.nd rfl (by first | exact Or.inl rfl | exact Or.inr rfl)) (bo_name trivial) (ws_cons (ws_set (i := 6) scCounted.nd rfl (by first | exact Or.inl rfl | exact Or.inr rfl) (we_fn c_counted hr h_counted rfl (wa_cons (we_var 3) (wa_cons (we_sub (we_var 1) we_int) wa_nil)))) (ws_cons (ws_if (wt_isN (we_var 6) we_non) (ws_cons (ws_ret we_non) ws_nil) ws_nil) (ws_cons (ws_par (i := 4) (j := 5) scCounted.nd rfl rfl (by decide) rfl rfl (we_add (we_var 4) (we_ix (we_var 6) we_int)) (we_add (we_var 5) (we_ix (we_var 6) we_int))) ws_nil))) PassesOwn.never) (ws_cons (ws_ret (we_tup (wa_cons (we_var 4) (wa_cons (we_var 5) wa_nil)))) ws_nil)))))

abbrev sIsRule : Stmt := top 20
abbrev NIsRule : List Str := ["value", "count"]
theorem scIsRule : FnScope NIsRule ["value"] (defScope sIsRule) := ⟨rfl, rfl, rfl, by decide +kernel, rfl, by decide +kernel, by decide +kernel⟩
theorem body_is_rule (B : Bi mg) {k : Nat} {k_counted : Nat} {r_counted : RL} (c_counted : Callee P w K mg base "counted" k_counted r_counted) (h_counted : k_counted ≤ k) (m_MOST_DEEP : ∃ t, mg "MOST_DEEP" = some (.int 8 t)) (m_MOST_PARTS : ∃ t, mg "MOST_PARTS" = some (.int 60 t)) (m_MOST_BRANCHES : ∃ t, mg "MOST_BRANCHES" = some (.int 12 t)) (f : Addr) (cdv : Value) (A : Around) (outer : List Env) (s : Shared) (H : Hp) (E : XK) (hr : Room k (A.deeper (envOfC "is_rule" (defScope sIsRule) s.heap.objs.size f cdv))) :
    PSs (cxOf CX0 P w K mg base NIsRule "is_rule" (defScope sIsRule) f cdv A outer s H E).nox (defBody sIsRule) (liftS K (w_is_rule r_counted)) :=
  (ws_cons (ws_set (i := 1) scIsRule.nd rfl (by first | exact Or.inl rfl | exact Or.inr rfl) (we_fn c_counted hr h_counted rfl (wa_cons (we_var 0) (wa_cons (we_gi rfl m_MOST_DEEP) wa_nil)))) (ws_cons (ws_ret (we_and (we_notN (we_var 1) we_non) (we_and (we_le (we_ix (we_var 1) we_int) (we_gi rfl m_MOST_PARTS)) (we_one (we_le (we_ix (we_var 1) we_int) (we_gi rfl m_MOST_BRANCHES)))))) ws_nil))

abbrev sBranches : Stmt := top 21
abbrev NBranches : List Str := ["rule", "found", "part"]
theorem scBranches : FnScope NBranches ["rule"] (defScope sBranches) := ⟨rfl, rfl, rfl, by decide +kernel, rfl, by decide +kernel, by decide +kernel⟩
theorem body_branches (B : Bi mg) {k : Nat} {k_parts_of : Nat} {r_parts_of : RL} {k_branches : Nat} {r_branches : RL} (c_parts_of : Callee P w K mg base "parts_of" k_parts_of r_parts_of) (h_parts_of : k_parts_of ≤ k) (c_branches : Callee P w K mg base "branches" k_branches r_branches) (h_branches : k_branches ≤ k) (f : Addr) (cdv : Value) (A : Around) (outer : List Env) (s : Shared) (H : Hp) (E : XK) (hr : Room k (A.deeper (envOfC "branches" (defScope sBranches) s.heap.objs.size f cdv))) :
    PSs (cxOf CX0 P w K mg base NBranches "branches" (defScope sBranches) f cdv A outer s H E).nox (defBody sBranches) (liftS K (w_branches r_parts_of r_branches)) :=
  (ws_cons (ws_if (wt_eq (we_ix (we_var 0) we_int) we_str) (ws_cons (ws_ret (we_tup (wa_cons (we_ix (we_var 0) we_int) wa_nil))) ws_nil) ws_nil) (ws_cons (ws_new (i := 1) scBranches.nd rfl (by first | exact Or.inl rfl | exact Or.inr rfl)) (ws_cons (ws_for (wi_any (we_fn c_parts_of hr h_parts_of rfl (wa_cons (we_var 0) wa_nil))) (pg_name (i := 2) scBranches.nd rfl (by first | exact Or.inl rfl | exact Or.inr rfl)) (bo_name trivial) (ws_cons (ws_ext (i := 1) rfl (by first | exact Or.inl rfl | exact Or.inr (Or.inl rfl) | exact Or.inr (Or.inr rfl)) (we_fn c_branches hr h_branches rfl (wa_cons (we_var 2) wa_nil))) ws_nil) PassesOwn.never) (ws_freeze 1 (ws_cons (ws_ret (we_callTy call_tuple_of cal_tuple rfl B.tuple (wa_cons (we_var 1) wa_nil))) ws_nil)))))

abbrev sMade : Stmt := top 22
abbrev NMade : List Str := ["rule", "values"]
theorem scMade : FnScope NMade ["rule", "values"] (defScope sMade) := ⟨rfl, rfl, rfl, by decide +kernel, rfl, by decide +kernel, by decide +kernel⟩
theorem body_made (B : Bi mg) {k : Nat} (f : Addr) (cdv : Value) (A : Around) (outer : List Env) (s : Shared) (H : Hp) (E : XK) (hr : Room k (A.deeper (envOfC "made" (defScope sMade) s.heap.objs.size f cdv))) :
    PSs (cxOf CX0 P w K mg base NMade "made" (defScope sMade) f cdv A outer s H E).nox (defBody sMade) (liftS K (w_made )) :=
  (ws_cons (ws_if (wt_eq (we_ix (we_var 0) we_int) we_str) (ws_cons (ws_ret (we_callB (cr_minA rfl) cal_min rfl B.mn (wa_cons (we_var 1) wa_nil))) ws_nil) ws_nil) (ws_cons (ws_if (wt_eq (we_ix (we_var 0) we_int) we_str) (ws_cons (ws_ret (we_callB (cr_maxA rfl) cal_max rfl B.mx (wa_cons (we_var 1) wa_nil))) ws_nil) ws_nil) (ws_cons (ws_if (wt_eq (we_ix (we_var 0) we_int) we_str) (ws_cons (ws_ret (we_ix (we_callB cr_sorted cal_sorted rfl B.sorted (wa_cons (we_var 1) wa_nil)) we_int)) ws_nil) ws_nil) (ws_cons (ws_if (wt_eq (we_ix (we_var 0) we_int) we_str) (ws_cons (ws_ret (we_callB (cr_sum rfl) cal_sum rfl B.sm (wa_cons (we_var 1) wa_nil))) ws_nil) ws_nil) (ws_cons (ws_if (wt_eq (we_ix (we_var 0) we_int) we_str) (ws_cons (ws_ret (we_mul (we_ix (we_var 0) we_int) (we_ix (we_var 1) we_int))) ws_nil) ws_nil) (ws_cons (ws_if (wt_eq (we_ix (we_var 0) we_int) we_str) (ws_cons (ws_ret (we_div (we_ix (we_var 1) we_int) (we_ix (we_var 0) we_int))) ws_nil) ws_nil) (ws_cons (ws_if (wt_eq (we_ix (we_var 0) we_int) we_str) (ws_cons (ws_ret (we_callB (cr_minA rfl) cal_min rfl B.mn (wa_cons (we_callB (cr_maxA rfl) cal_max rfl B.mx (wa_cons (we_ix (we_var 1) we_int) (wa_cons (we_ix (we_var 0) we_int) wa_nil))) (wa_cons (we_ix (we_var 0) we_int) wa_nil)))) ws_nil) ws_nil) (ws_cons (ws_if (wt_eq (we_ix (we_var 0) we_int) we_str) (ws_cons (ws_ret (we_callB (cr_maxA rfl) cal_max rfl B.mx (wa_cons we_int (wa_cons (we_sub (we_ix (we_var 0) we_int) (we_ix (we_var 1) we_int)) wa_nil)))) ws_nil) ws_nil) (ws_cons (ws_if (wt_eq (we_ix (we_var 0) we_int) we_str) (ws_cons (ws_ret (we_if (wt_ge (we_ix (we_var 1) we_int) (we_ix (we_var 0) we_int)) (we_ix (we_var 0) we_int) (we_ix (we_var 0) we_int))) ws_nil) ws_nil) (ws_cons (ws_ret (we_ix (we_ix (we_var 0) we_int) (we_callB (cr_minA rfl) cal_min rfl B.mn (wa_cons (we_ix (we_var 1) we_int) (wa_cons (we_sub (we_callB call_len_seq cal_len rfl B.len (wa_cons (we_ix (we_var 0) we_int) wa_nil)) we_int) wa_nil))))) ws_nil))))))))))

abbrev sToldBy : Stmt := top 23
abbrev NToldBy : List Str := ["rule", "heard", "at", "values", "part", "value"]
theorem scToldBy : FnScope NToldBy ["rule", "heard", "at"] (defScope sToldBy) := ⟨rfl, rfl, rfl, by decide +kernel, rfl, by decide +kernel, by decide +kernel⟩
theorem body_told_by (B : Bi mg) {k : Nat} {k_parts_of : Nat} {r_parts_of : RL} {k_told_by : Nat} {r_told_by : RL} {k_made : Nat} {r_made : RL} (c_parts_of : Callee P w K mg base "parts_of" k_parts_of r_parts_of) (h_parts_of : k_parts_of ≤ k) (c_told_by : Callee P w K mg base "told_by" k_told_by r_told_by) (h_told_by : k_told_by ≤ k) (c_made : Callee P w K mg base "made" k_made r_made) (h_made : k_made ≤ k) (f : Addr) (cdv : Value) (A : Around) (outer : List Env) (s : Shared) (H : Hp) (E : XK) (hr : Room k (A.deeper (envOfC "told_by" (defScope sToldBy) s.heap.objs.size f cdv))) :
    PSs (cxOf CX0 P w K mg base NToldBy "told_by" (defScope sToldBy) f cdv A outer s H E).nox (defBody sToldBy) (liftS K (w_told_by r_parts_of r_told_by r_made)) :=
  (ws_cons (ws_if (wt_eq (we_ix (we_var 0) we_int) we_str) (ws_cons (ws_ret (we_tup (wa_cons (we_ix (we_var 0) we_int) (wa_cons (we_var 2) wa_nil)))) ws_nil) ws_nil) (ws_cons (ws_if (wt_eq (we_ix (we_var 0) we_int) we_str) (ws_cons (ws_ret (we_tup (wa_cons (we_ix (we_var 1) (we_var 2)) (wa_cons (we_add (we_var 2) we_int) wa_nil)))) ws_nil) ws_nil) (ws_cons (ws_new (i := 3) scToldBy.nd rfl (by first | exact Or.inl rfl | exact Or.inr rfl)) (ws_cons (ws_for (wi_any (we_fn c_parts_of hr h_parts_of rfl (wa_cons (we_var 0) wa_nil))) (pg_name (i := 4) scToldBy.nd rfl (by first | exact Or.inl rfl | exact Or.inr rfl)) (bo_name trivial) (ws_cons (ws_asg (we_fn c_told_by hr h_told_by rfl (wa_cons (we_var 4) (wa_cons (we_var 1) (wa_cons (we_var 2) wa_nil)))) (pg_tup rfl (pgs_cons (pg_name (i := 5) scToldBy.nd rfl (by first | exact Or.inl rfl | exact Or.inr rfl)) (pgs_cons (pg_name (i := 2) scToldBy.nd rfl (by first | exact Or.inl rfl | exact Or.inr rfl)) pgs_nil))) (bo_tup (bo_cons (bo_name trivial) (bo_cons (bo_name trivial) bo_nil)) (bl_name (bl_name bl_nil)))) (ws_cons (ws_app (i := 3) rfl (by first | exact Or.inl rfl | exact Or.inr (Or.inl rfl) | exact Or.inr (Or.inr rfl)) (we_var 5)) ws_nil)) PassesOwn.never) (ws_freeze 3 (ws_cons (ws_ret (we_tup (wa_cons (we_fn c_made hr h_made rfl (wa_cons (we_var 0) (wa_cons (we_var 3) wa_nil))) (wa_cons (we_var 2) wa_nil)))) ws_nil))))))

abbrev sTold : Stmt := top 24
abbrev NTold : List Str := ["rule", "heard"]
theorem scTold : FnScope NTold ["rule", "heard"] (defScope sTold) := ⟨rfl, rfl, rfl, by decide +kernel, rfl, by decide +kernel, by decide +kernel⟩
theorem body_told (B : Bi mg) {k : Nat} {k_told_by : Nat} {r_told_by : RL} (c_told_by : Callee P w K mg base "told_by" k_told_by r_told_by) (h_told_by : k_told_by ≤ k) (f : Addr) (cdv : Value) (A : Around) (outer : List Env) (s : Shared) (H : Hp) (E : XK) (hr : Room k (A.deeper (envOfC "told" (defScope sTold) s.heap.objs.size f cdv))) :
    PSs (cxOf CX0 P w K mg base NTold "told" (defScope sTold) f cdv A outer s H E).nox (defBody sTold) (liftS K (w_told r_told_by)) :=
  (ws_cons (ws_ret (we_ix (we_fn c_told_by hr h_told_by rfl (wa_cons (we_var 0) (wa_cons (we_var 1) (wa_cons we_int wa_nil)))) we_int)) ws_nil)

end
end NB

/-! B3 -/
set_option Elab.async false
set_option linter.all false
set_option maxRecDepth 100000
set_option maxHeartbeats 1000000
namespace NB
open PySem PySem.Spec PyProof.Rows L2
section
variable {P : Program} {w : World} {K : PySem.W.Frag} {mg : Str → Option Value} {base : Heap}
abbrev sAreTops : Stmt := top 27
abbrev NAreTops : List Str := ["value", "one"]
theorem scAreTops : FnScope NAreTops ["value"] (defScope sAreTops) := ⟨rfl, rfl, rfl, by decide +kernel, rfl, by decide +kernel, by decide +kernel⟩
theorem body_are_tops (B : Bi mg) {k : Nat} {k_is_worth : Nat} {r_is_worth : RL} (c_is_worth : Callee P w K mg base "is_worth" k_is_worth r_is_worth) (h_is_worth : k_is_worth ≤ k) (m_MOST_nets : ∃ t, mg "MOST_nets" = some (.int 20 t)) (f : Addr) (cdv : Value) (A : Around) (outer : List Env) (s : Shared) (H : Hp) (E : XK) (hr : Room k (A.deeper (envOfC "are_tops" (defScope sAreTops) s.heap.objs.size f cdv))) :
    PSs (cxOf CX0 P w K mg base NAreTops "are_tops" (defScope sAreTops) f cdv A outer s H E).nox (defBody sAreTops) (liftS K (w_are_tops r_is_worth)) :=
  (ws_cons (ws_ret (we_and (we_isi (T := "tuple") rfl B.isi (we_var 0) rfl B.tuple) (we_and (we_chain op_le op_le opd_B0 opd_B0 we_int (we_callB call_len_seq cal_len rfl B.len (wa_cons (we_var 0) wa_nil)) (we_gi rfl m_MOST_nets)) (we_one (we_callB (cr_all rfl) cal_all rfl B.al (wa_cons (we_lc (own := [("one", 1)]) (wi_any (we_var 0)) (blkOk_by (N := NAreTops) (sc := defScope sAreTops) (own := [("one", 1)]) (by decide +kernel)) (bo_name (by decide)) (fun _ _ _ _ _ => (pg_name (i := 1) scAreTops.nd rfl (by first | exact Or.inl rfl | exact Or.inr rfl))) (fun _ _ _ _ _ => wts_nil) (fun _ _ _ _ _ => (we_fn c_is_worth hr h_is_worth rfl (wa_cons (we_var 1) wa_nil))) scAreTops.nd) wa_nil)))))) ws_nil)

abbrev sAreRules : Stmt := top 28
abbrev NAreRules : List Str := ["value", "many", "one", "house"]
theorem scAreRules : FnScope NAreRules ["value", "many"] (defScope sAreRules) := ⟨rfl, rfl, rfl, by decide +kernel, rfl, by decide +kernel, by decide +kernel⟩
theorem body_are_rules (B : Bi mg) {k : Nat} {k_is_rule : Nat} {r_is_rule : RL} {k_branches : Nat} {r_branches : RL} (c_is_rule : Callee P w K mg base "is_rule" k_is_rule r_is_rule) (h_is_rule : k_is_rule ≤ k) (c_branches : Callee P w K mg base "branches" k_branches r_branches) (h_branches : k_branches ≤ k) (f : Addr) (cdv : Value) (A : Around) (outer : List Env) (s : Shared) (H : Hp) (E : XK) (hr : Room k (A.deeper (envOfC "are_rules" (defScope sAreRules) s.heap.objs.size f cdv))) :
    PSs (cxOf CX0 P w K mg base NAreRules "are_rules" (defScope sAreRules) f cdv A outer s H E).nox (defBody sAreRules) (liftS K (w_are_rules r_is_rule r_branches)) :=
  (ws_cons (ws_if (PW.pt (wt_or (wt_not (wt_val (we_isi (T := "tuple") rfl B.isi (we_var 0) rfl B.tuple))) (wt_or (wt_ne (we_callB call_len_seq cal_len rfl B.len (wa_cons (we_var 0) wa_nil)) (we_var 1)) (wt_or1 (wt_not (wt_val (we_callB (cr_all rfl) cal_all rfl B.al (wa_cons (we_lc (own := [("one", 2)]) (wi_any (we_var 0)) (blkOk_by (N := NAreRules) (sc := defScope sAreRules) (own := [("one", 2)]) (by decide +kernel)) (bo_name (by decide)) (fun _ _ _ _ _ => (pg_name (i := 2) scAreRules.nd rfl (by first | exact Or.inl rfl | exact Or.inr rfl))) (fun _ _ _ _ _ => wts_nil) (fun _ _ _ _ _ => (we_fn c_is_rule hr h_is_rule rfl (wa_cons (we_var 2) wa_nil))) scAreRules.nd) wa_nil)))))))) (ws_cons (ws_ret we_bl) ws_nil) ws_nil) (ws_cons (ws_ret (we_callB (cr_all rfl) cal_all rfl B.al (wa_cons (we_lc (own := [("one", 2)]) (wi_any (we_var 0)) (blkOk_by (N := NAreRules) (sc := defScope sAreRules) (own := [("one", 2)]) (by decide +kernel)) (bo_name (by decide)) (fun _ _ _ _ _ => (pg_name (i := 2) scAreRules.nd rfl (by first | exact Or.inl rfl | exact Or.inr rfl))) (fun _ _ _ _ _ => wts_nil) (fun _ _ _ _ _ => (we_callB (cr_all rfl) cal_all rfl B.al (wa_cons (we_lc (own := [("house", 3)]) (wi_any (we_fn c_branches hr h_branches rfl (wa_cons (we_var 2) wa_nil))) (blkOk_by (by kernel_rfl)) (bo_name (by decide)) (fun _ _ _ _ _ => (pg_name (i := 3) scAreRules.nd rfl (by first | exact Or.inl rfl | exact Or.inr rfl))) (fun _ _ _ _ _ => wts_nil) (fun _ _ _ _ _ => (we_lt (we_var 3) (we_var 1))) scAreRules.nd) wa_nil))) scAreRules.nd) wa_nil))) ws_nil))

abbrev sIsNet : Stmt := top 29
abbrev NIsNet : List Str := ["value"]
theorem scIsNet : FnScope NIsNet ["value"] (defScope sIsNet) := ⟨rfl, rfl, rfl, by decide +kernel, rfl, by decide +kernel, by decide +kernel⟩
theorem body_is_net (B : Bi mg) {k : Nat} {k_are_tops : Nat} {r_are_tops : RL} {k_are_rules : Nat} {r_are_rules : RL} (c_are_tops : Callee P w K mg base "are_tops" k_are_tops r_are_tops) (h_are_tops : k_are_tops ≤ k) (c_are_rules : Callee P w K mg base "are_rules" k_are_rules r_are_rules) (h_are_rules : k_are_rules ≤ k) (f : Addr) (cdv : Value) (A : Around) (outer : List Env) (s : Shared) (H : Hp) (E : XK) (hr : Room k (A.deeper (envOfC "is_net" (defScope sIsNet) s.heap.objs.size f cdv))) :
    PSs (cxOf CX0 P w K mg base NIsNet "is_net" (defScope sIsNet) f cdv A outer s H E).nox (defBody sIsNet) (liftS K (w_is_net r_are_tops r_are_rules)) :=
  (ws_cons (ws_if (PW.pt (wt_or (wt_not (wt_val (we_isi (T := "tuple") rfl B.isi (we_var 0) rfl B.tuple))) (wt_or (wt_ne (we_callB call_len_seq cal_len rfl B.len (wa_cons (we_var 0) wa_nil)) we_int) (wt_or1 (wt_not (wt_val (we_fn c_are_tops hr h_are_tops rfl (wa_cons (we_ix (we_var 0) we_int) wa_nil)))))))) (ws_cons (ws_ret we_bl) ws_nil) ws_nil) (ws_cons (ws_ret (we_fn c_are_rules hr h_are_rules rfl (wa_cons (we_ix (we_var 0) we_int) (wa_cons (we_callB call_len_seq cal_len rfl B.len (wa_cons (we_ix (we_var 0) we_int) wa_nil)) wa_nil)))) ws_nil))

abbrev sWanted : Stmt := top 30
abbrev NWanted : List Str := ["net", "house", "heard"]
theorem scWanted : FnScope NWanted ["net", "house", "heard"] (defScope sWanted) := ⟨rfl, rfl, rfl, by decide +kernel, rfl, by decide +kernel, by decide +kernel⟩
theorem body_wanted (B : Bi mg) {k : Nat} {k_told : Nat} {r_told : RL} (c_told : Callee P w K mg base "told" k_told r_told) (h_told : k_told ≤ k) (f : Addr) (cdv : Value) (A : Around) (outer : List Env) (s : Shared) (H : Hp) (E : XK) (hr : Room k (A.deeper (envOfC "wanted" (defScope sWanted) s.heap.objs.size f cdv))) :
    PSs (cxOf CX0 P w K mg base NWanted "wanted" (defScope sWanted) f cdv A outer s H E).nox (defBody sWanted) (liftS K (w_wanted r_told)) :=
  (ws_cons (ws_ret (we_callB (cr_minA rfl) cal_min rfl B.mn (wa_cons (we_ix (we_ix (we_var 0) we_int) (we_var 1)) (wa_cons (we_fn c_told hr h_told rfl (wa_cons (we_ix (we_ix (we_var 0) we_int) (we_var 1)) (wa_cons (we_var 2) wa_nil))) wa_nil)))) ws_nil)

abbrev sWithRule : Stmt := top 31
abbrev NWithRule : List Str := ["net", "house", "rule"]
theorem scWithRule : FnScope NWithRule ["net", "house", "rule"] (defScope sWithRule) := ⟨rfl, rfl, rfl, by decide +kernel, rfl, by decide +kernel, by decide +kernel⟩
theorem body_with_rule (B : Bi mg) {k : Nat} (f : Addr) (cdv : Value) (A : Around) (outer : List Env) (s : Shared) (H : Hp) (E : XK) (hr : Room k (A.deeper (envOfC "with_rule" (defScope sWithRule) s.heap.objs.size f cdv))) :
    PSs (cxOf CX0 P w K mg base NWithRule "with_rule" (defScope sWithRule) f cdv A outer s H E).nox (defBody sWithRule) (liftS K (w_with_rule )) :=
  (ws_cons (ws_ret (we_tup (wa_cons (we_ix (we_var 0) we_int) (wa_cons (we_stup (wsa_star (we_slice (we_ix (we_var 0) we_int) wo_none (wo_some (we_var 1))) (wsa_cons (we_var 2) (wsa_star (we_slice (we_ix (we_var 0) we_int) (wo_some (we_add (we_var 1) we_int)) wo_none) wsa_nil)))) wa_nil)))) ws_nil)

abbrev sEntriesFor : Stmt := top 33
abbrev NEntriesFor : List Str := ["worths", "low", "high"]
theorem scEntriesFor : FnScope NEntriesFor ["worths", "low", "high"] (defScope sEntriesFor) := ⟨rfl, rfl, rfl, by decide +kernel, rfl, by decide +kernel, by decide +kernel⟩
theorem body_entries_for (B : Bi mg) {k : Nat} (f : Addr) (cdv : Value) (A : Around) (outer : List Env) (s : Shared) (H : Hp) (E : XK) (hr : Room k (A.deeper (envOfC "entries_for" (defScope sEntriesFor) s.heap.objs.size f cdv))) :
    PSs (cxOf CX0 P w K mg base NEntriesFor "entries_for" (defScope sEntriesFor) f cdv A outer s H E).nox (defBody sEntriesFor) (liftS K (w_entries_for )) :=
  (ws_cons (ws_ret (we_slice (we_var 0) (wo_some (we_callB (cr_minA rfl) cal_min rfl B.mn (wa_cons (we_var 1) (wa_cons (we_sub (we_callB call_len_seq cal_len rfl B.len (wa_cons (we_var 0) wa_nil)) we_int) wa_nil)))) (wo_some (we_add (we_var 2) we_int)))) ws_nil)

abbrev sRangeOf : Stmt := top 34
abbrev NRangeOf : List Str := ["net", "rule", "inner", "ends", "some", "part", "low", "high"]
theorem scRangeOf : FnScope NRangeOf ["net", "rule"] (defScope sRangeOf) := ⟨rfl, rfl, rfl, by decide +kernel, rfl, by decide +kernel, by decide +kernel⟩
theorem body_range_of (B : Bi mg) {k : Nat} {k_parts_of : Nat} {r_parts_of : RL} {k_range_of : Nat} {r_range_of : RL} {k_entries_for : Nat} {r_entries_for : RL} {k_made : Nat} {r_made : RL} (c_parts_of : Callee P w K mg base "parts_of" k_parts_of r_parts_of) (h_parts_of : k_parts_of ≤ k) (c_range_of : Callee P w K mg base "range_of" k_range_of r_range_of) (h_range_of : k_range_of ≤ k) (c_entries_for : Callee P w K mg base "entries_for" k_entries_for r_entries_for) (h_entries_for : k_entries_for ≤ k) (c_made : Callee P w K mg base "made" k_made r_made) (h_made : k_made ≤ k) (f : Addr) (cdv : Value) (A : Around) (outer : List Env) (s : Shared) (H : Hp) (E : XK) (hr : Room k (A.deeper (envOfC "range_of" (defScope sRangeOf) s.heap.objs.size f cdv))) :
    PSs (cxOf CX0 P w K mg base NRangeOf "range_of" (defScope sRangeOf) f cdv A outer s H E).nox (defBody sRangeOf) (liftS K (w_range_of r_parts_of r_range_of r_entries_for r_made)) :=
  (ws_cons (ws_if (wt_eq (we_ix (we_var 1) we_int) we_str) (ws_cons (ws_ret (we_tup (wa_cons (we_ix (we_var 1) we_int) (wa_cons (we_ix (we_var 1) we_int) wa_nil)))) ws_nil) ws_nil) (ws_cons (ws_if (wt_eq (we_ix (we_var 1) we_int) we_str) (ws_cons (ws_ret (we_tup (wa_cons we_int (wa_cons (we_ix (we_ix (we_var 0) we_int) (we_ix (we_var 1) we_int)) wa_nil)))) ws_nil) ws_nil) (ws_cons (ws_setLc (i := 2) scRangeOf.nd rfl rfl (sw_true rfl rfl rfl (by decide +kernel)) (own := [("part", 5)]) (wi_any (we_fn c_parts_of hr h_parts_of rfl (wa_cons (we_var 1) wa_nil))) (blkOk_by (N := NRangeOf) (sc := defScope sRangeOf) (own := [("part", 5)]) (by decide +kernel)) (bo_name (by decide)) (fun _ _ _ _ _ => (pg_name (i := 5) scRangeOf.nd rfl (by first | exact Or.inl rfl | exact Or.inr rfl))) (fun _ _ _ _ _ => wts_nil) (fun _ _ _ _ _ => (we_fn c_range_of hr h_range_of rfl (wa_cons (we_var 0) (wa_cons (we_var 5) wa_nil))))) (ws_cons (ws_if (wt_eq (we_ix (we_var 1) we_int) we_str) (ws_cons (ws_set (i := 4) scRangeOf.nd rfl (by first | exact Or.inl rfl | exact Or.inr rfl) (we_fn c_entries_for hr h_entries_for rfl (wa_cons (we_ix (we_var 1) we_int) (wa_cons (we_ix (we_ix (we_var 2) we_int) we_int) (wa_cons (we_ix (we_ix (we_var 2) we_int) we_int) wa_nil))))) (ws_cons (ws_ret (we_tup (wa_cons (we_callB (cr_minA rfl) cal_min rfl B.mn (wa_cons (we_var 4) wa_nil)) (wa_cons (we_callB (cr_maxA rfl) cal_max rfl B.mx (wa_cons (we_var 4) wa_nil)) wa_nil)))) ws_nil)) ws_nil) (ws_cons (ws_set (i := 3) scRangeOf.nd rfl (by first | exact Or.inl rfl | exact Or.inr rfl) (we_tup (wa_cons (we_fn c_made hr h_made rfl (wa_cons (we_var 1) (wa_cons (we_lc (own := [("low", 6), ("high", 7)]) (wi_any (we_var 2)) (blkOk_by (N := NRangeOf) (sc := defScope sRangeOf) (own := [("low", 6), ("high", 7)]) (by decide +kernel)) (bo_tup (bo_cons (bo_name (by decide)) (bo_cons (bo_name (by decide)) bo_nil)) (bl_name (bl_name bl_nil))) (fun _ _ _ _ _ => (pg_tup rfl (pgs_cons (pg_name (i := 6) scRangeOf.nd rfl (by first | exact Or.inl rfl | exact Or.inr rfl)) (pgs_cons (pg_name (i := 7) scRangeOf.nd rfl (by first | exact Or.inl rfl | exact Or.inr rfl)) pgs_nil)))) (fun _ _ _ _ _ => wts_nil) (fun _ _ _ _ _ => (we_var 6)) scRangeOf.nd) wa_nil))) (wa_cons (we_fn c_made hr h_made rfl (wa_cons (we_var 1) (wa_cons (we_lc (own := [("low", 6), ("high", 7)]) (wi_any (we_var 2)) (blkOk_by (N := NRangeOf) (sc := defScope sRangeOf) (own := [("low", 6), ("high", 7)]) (by decide +kernel)) (bo_tup (bo_cons (bo_name (by decide)) (bo_cons (bo_name (by decide)) bo_nil)) (bl_name (bl_name bl_nil))) (fun _ _ _ _ _ => (pg_tup rfl (pgs_cons (pg_name (i := 6) scRangeOf.nd rfl (by first | exact Or.inl rfl | exact Or.inr rfl)) (pgs_cons (pg_name (i := 7) scRangeOf.nd rfl (by first | exact Or.inl rfl | exact Or.inr rfl)) pgs_nil)))) (fun _ _ _ _ _ => wts_nil) (fun _ _ _ _ _ => (we_var 7)) scRangeOf.nd) wa_nil))) wa_nil)))) (ws_cons (ws_ret (we_tup (wa_cons (we_callB (cr_minA rfl) cal_min rfl B.mn (wa_cons (we_var 3) wa_nil)) (wa_cons (we_callB (cr_maxA rfl) cal_max rfl B.mx (wa_cons (we_var 3) wa_nil)) wa_nil)))) ws_nil))))))

end
end NB

/-! B4 -/
set_option Elab.async false
set_option linter.all false
set_option maxRecDepth 100000
set_option maxHeartbeats 1000000
namespace NB
open PySem PySem.Spec PyProof.Rows L2
section
variable {P : Program} {w : World} {K : PySem.W.Frag} {mg : Str → Option Value} {base : Heap}
abbrev sHouseRange : Stmt := top 35
abbrev NHouseRange : List Str := ["net", "house", "low", "high"]
theorem scHouseRange : FnScope NHouseRange ["net", "house"] (defScope sHouseRange) := ⟨rfl, rfl, rfl, by decide +kernel, rfl, by decide +kernel, by decide +kernel⟩
theorem body_house_range (B : Bi mg) {k : Nat} {k_range_of : Nat} {r_range_of : RL} (c_range_of : Callee P w K mg base "range_of" k_range_of r_range_of) (h_range_of : k_range_of ≤ k) (f : Addr) (cdv : Value) (A : Around) (outer : List Env) (s : Shared) (H : Hp) (E : XK) (hr : Room k (A.deeper (envOfC "house_range" (defScope sHouseRange) s.heap.objs.size f cdv))) :
    PSs (cxOf CX0 P w K mg base NHouseRange "house_range" (defScope sHouseRange) f cdv A outer s H E).nox (defBody sHouseRange) (liftS K (w_house_range r_range_of)) :=
  (ws_cons (ws_asg (we_fn c_range_of hr h_range_of rfl (wa_cons (we_var 0) (wa_cons (we_ix (we_ix (we_var 0) we_int) (we_var 1)) wa_nil))) (pg_tup rfl (pgs_cons (pg_name (i := 2) scHouseRange.nd rfl (by first | exact Or.inl rfl | exact Or.inr rfl)) (pgs_cons (pg_name (i := 3) scHouseRange.nd rfl (by first | exact Or.inl rfl | exact Or.inr rfl)) pgs_nil))) (bo_tup (bo_cons (bo_name trivial) (bo_cons (bo_name trivial) bo_nil)) (bl_name (bl_name bl_nil)))) (ws_cons (ws_ret (we_tup (wa_cons (we_callB (cr_minA rfl) cal_min rfl B.mn (wa_cons (we_var 2) (wa_cons (we_ix (we_ix (we_var 0) we_int) (we_var 1)) wa_nil))) (wa_cons (we_callB (cr_minA rfl) cal_min rfl B.mn (wa_cons (we_var 3) (wa_cons (we_ix (we_ix (we_var 0) we_int) (we_var 1)) wa_nil))) wa_nil)))) ws_nil))

abbrev sIsRisingRow : Stmt := top 37
abbrev NIsRisingRow : List Str := ["row", "at"]
theorem scIsRisingRow : FnScope NIsRisingRow ["row"] (defScope sIsRisingRow) := ⟨rfl, rfl, rfl, by decide +kernel, rfl, by decide +kernel, by decide +kernel⟩
theorem body_is_rising_row (B : Bi mg) {k : Nat} (f : Addr) (cdv : Value) (A : Around) (outer : List Env) (s : Shared) (H : Hp) (E : XK) (hr : Room k (A.deeper (envOfC "is_rising_row" (defScope sIsRisingRow) s.heap.objs.size f cdv))) :
    PSs (cxOf CX0 P w K mg base NIsRisingRow "is_rising_row" (defScope sIsRisingRow) f cdv A outer s H E).nox (defBody sIsRisingRow) (liftS K (w_is_rising_row )) :=
  (ws_cons (ws_ret (we_callB (cr_all rfl) cal_all rfl B.al (wa_cons (we_lc (own := [("at", 1)]) (wi_range2 rfl B.range we_int (we_callB call_len_seq cal_len rfl B.len (wa_cons (we_var 0) wa_nil))) (blkOk_by (N := NIsRisingRow) (sc := defScope sIsRisingRow) (own := [("at", 1)]) (by decide +kernel)) (bo_name (by decide)) (fun _ _ _ _ _ => (pg_name (i := 1) scIsRisingRow.nd rfl (by first | exact Or.inl rfl | exact Or.inr rfl))) (fun _ _ _ _ _ => wts_nil) (fun _ _ _ _ _ => (we_le (we_ix (we_var 0) (we_sub (we_var 1) we_int)) (we_ix (we_var 0) (we_var 1)))) scIsRisingRow.nd) wa_nil))) ws_nil)

abbrev sTurnOf : Stmt := top 38
abbrev NTurnOf : List Str := ["net", "rule", "some", "low", "high"]
theorem scTurnOf : FnScope NTurnOf ["net", "rule"] (defScope sTurnOf) := ⟨rfl, rfl, rfl, by decide +kernel, rfl, by decide +kernel, by decide +kernel⟩
theorem body_turn_of (B : Bi mg) {k : Nat} {k_range_of : Nat} {r_range_of : RL} {k_entries_for : Nat} {r_entries_for : RL} {k_is_rising_row : Nat} {r_is_rising_row : RL} (c_range_of : Callee P w K mg base "range_of" k_range_of r_range_of) (h_range_of : k_range_of ≤ k) (c_entries_for : Callee P w K mg base "entries_for" k_entries_for r_entries_for) (h_entries_for : k_entries_for ≤ k) (c_is_rising_row : Callee P w K mg base "is_rising_row" k_is_rising_row r_is_rising_row) (h_is_rising_row : k_is_rising_row ≤ k) (f : Addr) (cdv : Value) (A : Around) (outer : List Env) (s : Shared) (H : Hp) (E : XK) (hr : Room k (A.deeper (envOfC "turn_of" (defScope sTurnOf) s.heap.objs.size f cdv))) :
    PSs (cxOf CX0 P w K mg base NTurnOf "turn_of" (defScope sTurnOf) f cdv A outer s H E).nox (defBody sTurnOf) (liftS K (w_turn_of r_range_of r_entries_for r_is_rising_row)) :=
  (ws_cons (ws_if (wt_eq (we_ix (we_var 1) we_int) we_str) (ws_cons (ws_asg (we_fn c_range_of hr h_range_of rfl (wa_cons (we_var 0) (wa_cons (we_ix (we_var 1) we_int) wa_nil))) (pg_tup rfl (pgs_cons (pg_name (i := 3) scTurnOf.nd rfl (by first | exact Or.inl rfl | exact Or.inr rfl)) (pgs_cons (pg_name (i := 4) scTurnOf.nd rfl (by first | exact Or.inl rfl | exact Or.inr rfl)) pgs_nil))) (bo_tup (bo_cons (bo_name trivial) (bo_cons (bo_name trivial) bo_nil)) (bl_name (bl_name bl_nil)))) (ws_cons (ws_set (i := 2) scTurnOf.nd rfl (by first | exact Or.inl rfl | exact Or.inr rfl) (we_fn c_entries_for hr h_entries_for rfl (wa_cons (we_ix (we_var 1) we_int) (wa_cons (we_var 3) (wa_cons (we_var 4) wa_nil))))) (ws_cons (ws_if (wt_val (we_fn c_is_rising_row hr h_is_rising_row rfl (wa_cons (we_var 2) wa_nil))) (ws_cons (ws_ret we_bl) ws_nil) ws_nil) (ws_cons (ws_ret (we_if (wt_val (we_fn c_is_rising_row hr h_is_rising_row rfl (wa_cons (we_rev (we_var 2)) wa_nil))) we_bl we_non)) ws_nil)))) ws_nil) (ws_cons (ws_ret (we_or (we_eq (we_ix (we_var 1) we_int) we_str) (we_one (we_and (we_eq (we_ix (we_var 1) we_int) we_str) (we_one (we_gt (we_ix (we_var 1) we_int) (we_ix (we_var 1) we_int))))))) ws_nil))

abbrev sWordsWithin : Stmt := top 39
abbrev NWordsWithin : List Str := ["net", "rule", "is_still", "is_both", "falls", "still", "part", "low", "high", "turn", "found"]
theorem scWordsWithin : FnScope NWordsWithin ["net", "rule", "is_still", "is_both", "falls"] (defScope sWordsWithin) := ⟨rfl, rfl, rfl, by decide +kernel, rfl, by decide +kernel, by decide +kernel⟩
theorem body_words_within (B : Bi mg) {k : Nat} {k_range_of : Nat} {r_range_of : RL} {k_turn_of : Nat} {r_turn_of : RL} {k_parts_of : Nat} {r_parts_of : RL} {k_words_within : Nat} {r_words_within : RL} (c_range_of : Callee P w K mg base "range_of" k_range_of r_range_of) (h_range_of : k_range_of ≤ k) (c_turn_of : Callee P w K mg base "turn_of" k_turn_of r_turn_of) (h_turn_of : k_turn_of ≤ k) (c_parts_of : Callee P w K mg base "parts_of" k_parts_of r_parts_of) (h_parts_of : k_parts_of ≤ k) (c_words_within : Callee P w K mg base "words_within" k_words_within r_words_within) (h_words_within : k_words_within ≤ k) (f : Addr) (cdv : Value) (A : Around) (outer : List Env) (s : Shared) (H : Hp) (E : XK) (hr : Room k (A.deeper (envOfC "words_within" (defScope sWordsWithin) s.heap.objs.size f cdv))) :
    PSs (cxOf CX0 P w K mg base NWordsWithin "words_within" (defScope sWordsWithin) f cdv A outer s H E).nox (defBody sWordsWithin) (liftS K (w_words_within r_range_of r_turn_of r_parts_of r_words_within)) :=
  (ws_cons (ws_asg (we_fn c_range_of hr h_range_of rfl (wa_cons (we_var 0) (wa_cons (we_var 1) wa_nil))) (pg_tup rfl (pgs_cons (pg_name (i := 7) scWordsWithin.nd rfl (by first | exact Or.inl rfl | exact Or.inr rfl)) (pgs_cons (pg_name (i := 8) scWordsWithin.nd rfl (by first | exact Or.inl rfl | exact Or.inr rfl)) pgs_nil))) (bo_tup (bo_cons (bo_name trivial) (bo_cons (bo_name trivial) bo_nil)) (bl_name (bl_name bl_nil)))) (ws_cons (ws_set (i := 5) scWordsWithin.nd rfl (by first | exact Or.inl rfl | exact Or.inr rfl) (we_or (we_var 2) (we_one (we_eq (we_var 7) (we_var 8))))) (ws_cons (ws_if (wt_eq (we_ix (we_var 1) we_int) we_str) (ws_cons (ws_ret (we_lst (wa_cons (we_if (wt_val (we_var 5)) we_str (we_if (wt_val (we_var 3)) we_str (we_if (wt_val (we_var 4)) we_str we_str))) wa_nil))) ws_nil) ws_nil) (ws_cons (ws_parO2 (i := 9) (j := 10) scWordsWithin.nd rfl rfl (by decide) rfl rfl (we_fn c_turn_of hr h_turn_of rfl (wa_cons (we_var 0) (wa_cons (we_var 1) wa_nil)))) (ws_cons (ws_for (wi_any (we_fn c_parts_of hr h_parts_of rfl (wa_cons (we_var 1) wa_nil))) (pg_name (i := 6) scWordsWithin.nd rfl (by first | exact Or.inl rfl | exact Or.inr rfl)) (bo_name trivial) (ws_cons (ws_ext (i := 10) rfl (by first | exact Or.inl rfl | exact Or.inr (Or.inl rfl) | exact Or.inr (Or.inr rfl)) (we_fn c_words_within hr h_words_within rfl (wa_cons (we_var 0) (wa_cons (we_var 6) (wa_cons (we_var 5) (wa_cons (we_or (we_var 3) (we_one (we_isN (we_var 9) we_non))) (wa_cons (we_ne (we_var 4) (we_isT (we_var 9) we_bl)) wa_nil))))))) ws_nil) PassesOwn.never) (ws_freeze 10 (ws_cons (ws_ret (we_var 10)) ws_nil)))))))

abbrev sWays : Stmt := top 40
abbrev NWays : List Str := ["net", "house", "low", "high"]
theorem scWays : FnScope NWays ["net", "house"] (defScope sWays) := ⟨rfl, rfl, rfl, by decide +kernel, rfl, by decide +kernel, by decide +kernel⟩
theorem body_ways (B : Bi mg) {k : Nat} {k_house_range : Nat} {r_house_range : RL} {k_words_within : Nat} {r_words_within : RL} (c_house_range : Callee P w K mg base "house_range" k_house_range r_house_range) (h_house_range : k_house_range ≤ k) (c_words_within : Callee P w K mg base "words_within" k_words_within r_words_within) (h_words_within : k_words_within ≤ k) (f : Addr) (cdv : Value) (A : Around) (outer : List Env) (s : Shared) (H : Hp) (E : XK) (hr : Room k (A.deeper (envOfC "ways" (defScope sWays) s.heap.objs.size f cdv))) :
    PSs (cxOf CX0 P w K mg base NWays "ways" (defScope sWays) f cdv A outer s H E).nox (defBody sWays) (liftS K (w_ways r_house_range r_words_within)) :=
  (ws_cons (ws_asg (we_fn c_house_range hr h_house_range rfl (wa_cons (we_var 0) (wa_cons (we_var 1) wa_nil))) (pg_tup rfl (pgs_cons (pg_name (i := 2) scWays.nd rfl (by first | exact Or.inl rfl | exact Or.inr rfl)) (pgs_cons (pg_name (i := 3) scWays.nd rfl (by first | exact Or.inl rfl | exact Or.inr rfl)) pgs_nil))) (bo_tup (bo_cons (bo_name trivial) (bo_cons (bo_name trivial) bo_nil)) (bl_name (bl_name bl_nil)))) (ws_cons (ws_ret (we_callTy call_tuple_of cal_tuple rfl B.tuple (wa_cons (we_fn c_words_within hr h_words_within rfl (wa_cons (we_var 0) (wa_cons (we_ix (we_ix (we_var 0) we_int) (we_var 1)) (wa_cons (we_eq (we_var 2) (we_var 3)) (wa_cons we_bl (wa_cons we_bl wa_nil)))))) wa_nil))) ws_nil))

abbrev sAreOneWay : Stmt := top 41
abbrev NAreOneWay : List Str := ["net", "house"]
theorem scAreOneWay : FnScope NAreOneWay ["net"] (defScope sAreOneWay) := ⟨rfl, rfl, rfl, by decide +kernel, rfl, by decide +kernel, by decide +kernel⟩
theorem body_are_one_way (B : Bi mg) {k : Nat} {k_ways : Nat} {r_ways : RL} (c_ways : Callee P w K mg base "ways" k_ways r_ways) (h_ways : k_ways ≤ k) (f : Addr) (cdv : Value) (A : Around) (outer : List Env) (s : Shared) (H : Hp) (E : XK) (hr : Room k (A.deeper (envOfC "are_one_way" (defScope sAreOneWay) s.heap.objs.size f cdv))) :
    PSs (cxOf CX0 P w K mg base NAreOneWay "are_one_way" (defScope sAreOneWay) f cdv A outer s H E).nox (defBody sAreOneWay) (liftS K (w_are_one_way r_ways)) :=
  (ws_cons (ws_ret (we_not (we_callB (cr_any rfl) cal_any rfl B.an (wa_cons (we_lc (own := [("house", 1)]) (wi_range1 rfl B.range (we_callB call_len_seq cal_len rfl B.len (wa_cons (we_ix (we_var 0) we_int) wa_nil))) (blkOk_by (N := NAreOneWay) (sc := defScope sAreOneWay) (own := [("house", 1)]) (by decide +kernel)) (bo_name (by decide)) (fun _ _ _ _ _ => (pg_name (i := 1) scAreOneWay.nd rfl (by first | exact Or.inl rfl | exact Or.inr rfl))) (fun _ _ _ _ _ => wts_nil) (fun _ _ _ _ _ => (we_in we_str (we_fn c_ways hr h_ways rfl (wa_cons (we_var 0) (wa_cons (we_var 1) wa_nil))))) scAreOneWay.nd) wa_nil)))) ws_nil)

abbrev sOneWay : Stmt := top 43
abbrev NOneWay : List Str := ["net", "found", "house", "words"]
theorem scOneWay : FnScope NOneWay ["net"] (defScope sOneWay) := ⟨rfl, rfl, rfl, by decide +kernel, rfl, by decide +kernel, by decide +kernel⟩
theorem body_one_way (B : Bi mg) {k : Nat} {k_ways : Nat} {r_ways : RL} (c_ways : Callee P w K mg base "ways" k_ways r_ways) (h_ways : k_ways ≤ k) (f : Addr) (cdv : Value) (A : Around) (outer : List Env) (s : Shared) (H : Hp) (E : XK) (hr : Room k (A.deeper (envOfC "one_way" (defScope sOneWay) s.heap.objs.size f cdv))) :
    PSs (cxOf CX0 P w K mg base NOneWay "one_way" (defScope sOneWay) f cdv A outer s H E).nox (defBody sOneWay) (liftS K (w_one_way r_ways)) :=
  (ws_cons (ws_setLc (i := 1) scOneWay.nd rfl rfl (sw_true rfl rfl rfl (by decide +kernel)) (own := [("house", 2)]) (wi_range1 rfl B.range (we_callB call_len_seq cal_len rfl B.len (wa_cons (we_ix (we_var 0) we_int) wa_nil))) (blkOk_by (N := NOneWay) (sc := defScope sOneWay) (own := [("house", 2)]) (by decide +kernel)) (bo_name (by decide)) (fun _ _ _ _ _ => (pg_name (i := 2) scOneWay.nd rfl (by first | exact Or.inl rfl | exact Or.inr rfl))) (fun _ _ _ _ _ => wts_nil) (fun _ _ _ _ _ => (we_fn c_ways hr h_ways rfl (wa_cons (we_var 0) (wa_cons (we_var 2) wa_nil))))) (ws_cons (ws_for (wi_enum rfl B.enumerate (we_var 1)) (pg_tup rfl (pgs_cons (pg_name (i := 2) scOneWay.nd rfl (by first | exact Or.inl rfl | exact Or.inr rfl)) (pgs_cons (pg_name (i := 3) scOneWay.nd rfl (by first | exact Or.inl rfl | exact Or.inr rfl)) pgs_nil))) (bo_tup (bo_cons (bo_name trivial) (bo_cons (bo_name trivial) bo_nil)) (bl_name (bl_name bl_nil))) (ws_cons (ws_if (wt_in we_str (we_var 3)) (ws_cons ws_never ws_nil) ws_nil) ws_nil) PassesOwn.never) (ws_cons (ws_ret (we_var 1)) ws_nil)))

end
end NB

/-! B5 -/
set_option Elab.async false
set_option linter.all false
set_option maxRecDepth 100000
set_option maxHeartbeats 1000000
namespace NB
open PySem PySem.Spec PyProof.Rows L2
section
variable {P : Program} {w : World} {K : PySem.W.Frag} {mg : Str → Option Value} {base : Heap}
abbrev sStepped : Stmt := top 45
abbrev NStepped : List Str := ["net", "found", "ends", "low", "high", "lows", "highs", "house", "words"]
theorem scStepped : FnScope NStepped ["net", "found", "ends"] (defScope sStepped) := ⟨rfl, rfl, rfl, by decide +kernel, rfl, by decide +kernel, by decide +kernel⟩
theorem body_stepped (B : Bi mg) {k : Nat} {k_heard_ends : Nat} {r_heard_ends : RL} {k_wanted : Nat} {r_wanted : RL} (c_heard_ends : Callee P w K mg base "heard_ends" k_heard_ends r_heard_ends) (h_heard_ends : k_heard_ends ≤ k) (c_wanted : Callee P w K mg base "wanted" k_wanted r_wanted) (h_wanted : k_wanted ≤ k) (f : Addr) (cdv : Value) (A : Around) (outer : List Env) (s : Shared) (H : Hp) (E : XK) (hr : Room k (A.deeper (envOfC "stepped" (defScope sStepped) s.heap.objs.size f cdv))) :
    PSs (cxOf CX0 P w K mg base NStepped "stepped" (defScope sStepped) f cdv A outer s H E).nox (defBody sStepped) (liftS K (w_stepped r_heard_ends r_wanted)) :=
  (ws_cons (ws_asg (we_var 2) (pg_tup rfl (pgs_cons (pg_name (i := 5) scStepped.nd rfl (by first | exact Or.inl rfl | exact Or.inr rfl)) (pgs_cons (pg_name (i := 6) scStepped.nd rfl (by first | exact Or.inl rfl | exact Or.inr rfl)) pgs_nil))) (bo_tup (bo_cons (bo_name trivial) (bo_cons (bo_name trivial) bo_nil)) (bl_name (bl_name bl_nil)))) (ws_cons (ws_setLc (i := 3) scStepped.nd rfl rfl (sw_true rfl rfl rfl (by decide +kernel)) (own := [("house", 7), ("words", 8)]) (wi_enum rfl B.enumerate (we_var 1)) (blkOk_by (N := NStepped) (sc := defScope sStepped) (own := [("house", 7), ("words", 8)]) (by decide +kernel)) (bo_tup (bo_cons (bo_name (by decide)) (bo_cons (bo_name (by decide)) bo_nil)) (bl_name (bl_name bl_nil))) (fun _ _ _ _ _ => (pg_tup rfl (pgs_cons (pg_name (i := 7) scStepped.nd rfl (by first | exact Or.inl rfl | exact Or.inr rfl)) (pgs_cons (pg_name (i := 8) scStepped.nd rfl (by first | exact Or.inl rfl | exact Or.inr rfl)) pgs_nil)))) (fun _ _ _ _ _ => wts_nil) (fun _ _ _ _ _ => (we_fn c_wanted hr h_wanted rfl (wa_cons (we_var 0) (wa_cons (we_var 7) (wa_cons (we_fn c_heard_ends hr h_heard_ends rfl (wa_cons (we_var 0) (wa_cons (we_var 7) (wa_cons (we_var 8) (wa_cons (we_var 5) (wa_cons (we_var 6) wa_nil)))))) wa_nil)))))) (ws_cons (ws_setLc (i := 4) scStepped.nd rfl rfl (sw_true rfl rfl rfl (by decide +kernel)) (own := [("house", 7), ("words", 8)]) (wi_enum rfl B.enumerate (we_var 1)) (blkOk_by (N := NStepped) (sc := defScope sStepped) (own := [("house", 7), ("words", 8)]) (by decide +kernel)) (bo_tup (bo_cons (bo_name (by decide)) (bo_cons (bo_name (by decide)) bo_nil)) (bl_name (bl_name bl_nil))) (fun _ _ _ _ _ => (pg_tup rfl (pgs_cons (pg_name (i := 7) scStepped.nd rfl (by first | exact Or.inl rfl | exact Or.inr rfl)) (pgs_cons (pg_name (i := 8) scStepped.nd rfl (by first | exact Or.inl rfl | exact Or.inr rfl)) pgs_nil)))) (fun _ _ _ _ _ => wts_nil) (fun _ _ _ _ _ => (we_fn c_wanted hr h_wanted rfl (wa_cons (we_var 0) (wa_cons (we_var 7) (wa_cons (we_fn c_heard_ends hr h_heard_ends rfl (wa_cons (we_var 0) (wa_cons (we_var 7) (wa_cons (we_var 8) (wa_cons (we_var 6) (wa_cons (we_var 5) wa_nil)))))) wa_nil)))))) (ws_cons (ws_ret (we_tup (wa_cons (we_callTy call_tuple_of cal_tuple rfl B.tuple (wa_cons (we_var 3) wa_nil)) (wa_cons (we_callTy call_tuple_of cal_tuple rfl B.tuple (wa_cons (we_var 4) wa_nil)) wa_nil)))) ws_nil))))

abbrev sNextEnds : Stmt := top 46
abbrev NNextEnds : List Str := ["net", "ends"]
theorem scNextEnds : FnScope NNextEnds ["net", "ends"] (defScope sNextEnds) := ⟨rfl, rfl, rfl, by decide +kernel, rfl, by decide +kernel, by decide +kernel⟩
theorem body_next_ends (B : Bi mg) {k : Nat} {k_one_way : Nat} {r_one_way : RL} {k_stepped : Nat} {r_stepped : RL} (c_one_way : Callee P w K mg base "one_way" k_one_way r_one_way) (h_one_way : k_one_way ≤ k) (c_stepped : Callee P w K mg base "stepped" k_stepped r_stepped) (h_stepped : k_stepped ≤ k) (f : Addr) (cdv : Value) (A : Around) (outer : List Env) (s : Shared) (H : Hp) (E : XK) (hr : Room k (A.deeper (envOfC "next_ends" (defScope sNextEnds) s.heap.objs.size f cdv))) :
    PSs (cxOf CX0 P w K mg base NNextEnds "next_ends" (defScope sNextEnds) f cdv A outer s H E).nox (defBody sNextEnds) (liftS K (w_next_ends r_one_way r_stepped)) :=
  (ws_cons (ws_ret (we_fn c_stepped hr h_stepped rfl (wa_cons (we_var 0) (wa_cons (we_fn c_one_way hr h_one_way rfl (wa_cons (we_var 0) wa_nil)) (wa_cons (we_var 1) wa_nil))))) ws_nil)

abbrev sHull : Stmt := top 48
abbrev NHull : List Str := ["ends", "others", "lows", "one", "other"]
theorem scHull : FnScope NHull ["ends", "others"] (defScope sHull) := ⟨rfl, rfl, rfl, by decide +kernel, rfl, by decide +kernel, by decide +kernel⟩
theorem body_hull (B : Bi mg) {k : Nat} (f : Addr) (cdv : Value) (A : Around) (outer : List Env) (s : Shared) (H : Hp) (E : XK) (hr : Room k (A.deeper (envOfC "hull" (defScope sHull) s.heap.objs.size f cdv))) :
    PSs (cxOf CX0 P w K mg base NHull "hull" (defScope sHull) f cdv A outer s H E).nox (defBody sHull) (liftS K (w_hull )) :=
  (ws_cons (ws_set (i := 2) scHull.nd rfl (by first | exact Or.inl rfl | exact Or.inr rfl) (we_callTy call_tuple_of cal_tuple rfl B.tuple (wa_cons (we_lc (own := [("one", 3), ("other", 4)]) (wi_zip rfl B.zip (we_ix (we_var 0) we_int) (we_ix (we_var 1) we_int)) (blkOk_by (N := NHull) (sc := defScope sHull) (own := [("one", 3), ("other", 4)]) (by decide +kernel)) (bo_tup (bo_cons (bo_name (by decide)) (bo_cons (bo_name (by decide)) bo_nil)) (bl_name (bl_name bl_nil))) (fun _ _ _ _ _ => (pg_tup rfl (pgs_cons (pg_name (i := 3) scHull.nd rfl (by first | exact Or.inl rfl | exact Or.inr rfl)) (pgs_cons (pg_name (i := 4) scHull.nd rfl (by first | exact Or.inl rfl | exact Or.inr rfl)) pgs_nil)))) (fun _ _ _ _ _ => wts_nil) (fun _ _ _ _ _ => (we_callB (cr_minA rfl) cal_min rfl B.mn (wa_cons (we_var 3) (wa_cons (we_var 4) wa_nil)))) scHull.nd) wa_nil))) (ws_cons (ws_ret (we_tup (wa_cons (we_var 2) (wa_cons (we_callTy call_tuple_of cal_tuple rfl B.tuple (wa_cons (we_lc (own := [("one", 3), ("other", 4)]) (wi_zip rfl B.zip (we_ix (we_var 0) we_int) (we_ix (we_var 1) we_int)) (blkOk_by (N := NHull) (sc := defScope sHull) (own := [("one", 3), ("other", 4)]) (by decide +kernel)) (bo_tup (bo_cons (bo_name (by decide)) (bo_cons (bo_name (by decide)) bo_nil)) (bl_name (bl_name bl_nil))) (fun _ _ _ _ _ => (pg_tup rfl (pgs_cons (pg_name (i := 3) scHull.nd rfl (by first | exact Or.inl rfl | exact Or.inr rfl)) (pgs_cons (pg_name (i := 4) scHull.nd rfl (by first | exact Or.inl rfl | exact Or.inr rfl)) pgs_nil)))) (fun _ _ _ _ _ => wts_nil) (fun _ _ _ _ _ => (we_callB (cr_maxA rfl) cal_max rfl B.mx (wa_cons (we_var 3) (wa_cons (we_var 4) wa_nil)))) scHull.nd) wa_nil)) wa_nil)))) ws_nil))

abbrev sClosed : Stmt := top 49
abbrev NClosed : List Str := ["net", "ends", "later"]
theorem scClosed : FnScope NClosed ["net", "ends"] (defScope sClosed) := ⟨rfl, rfl, rfl, by decide +kernel, rfl, by decide +kernel, by decide +kernel⟩
theorem body_closed (B : Bi mg) {k : Nat} {k_next_ends : Nat} {r_next_ends : RL} {k_hull : Nat} {r_hull : RL} (c_next_ends : Callee P w K mg base "next_ends" k_next_ends r_next_ends) (h_next_ends : k_next_ends ≤ k) (c_hull : Callee P w K mg base "hull" k_hull r_hull) (h_hull : k_hull ≤ k) (f : Addr) (cdv : Value) (A : Around) (outer : List Env) (s : Shared) (H : Hp) (E : XK) (hr : Room k (A.deeper (envOfC "closed" (defScope sClosed) s.heap.objs.size f cdv))) :
    PSs (cxOf CX0 P w K mg base NClosed "closed" (defScope sClosed) f cdv A outer s H E).nox (defBody sClosed) (liftS K (w_closed r_next_ends r_hull)) :=
  (ws_cons (ws_set (i := 2) scClosed.nd rfl (by first | exact Or.inl rfl | exact Or.inr rfl) (we_fn c_hull hr h_hull rfl (wa_cons (we_var 1) (wa_cons (we_fn c_next_ends hr h_next_ends rfl (wa_cons (we_var 0) (wa_cons (we_var 1) wa_nil))) wa_nil)))) (ws_cons (ws_while (wt_neD hr.units (we_var 2) (we_var 1)) (ws_cons (ws_set (i := 1) scClosed.nd rfl (by first | exact Or.inl rfl | exact Or.inr rfl) (we_var 2)) (ws_cons (ws_set (i := 2) scClosed.nd rfl (by first | exact Or.inl rfl | exact Or.inr rfl) (we_fn c_hull hr h_hull rfl (wa_cons (we_var 1) (wa_cons (we_fn c_next_ends hr h_next_ends rfl (wa_cons (we_var 0) (wa_cons (we_var 1) wa_nil))) wa_nil)))) ws_nil)) PassesOwn.never) (ws_cons (ws_ret (we_var 1)) ws_nil)))

abbrev sLed : Stmt := top 50
abbrev NLed : List Str := ["net", "ends", "rounds", "found", "later"]
theorem scLed : FnScope NLed ["net", "ends", "rounds"] (defScope sLed) := ⟨rfl, rfl, rfl, by decide +kernel, rfl, by decide +kernel, by decide +kernel⟩
theorem body_led (B : Bi mg) {k : Nat} {k_next_ends : Nat} {r_next_ends : RL} (c_next_ends : Callee P w K mg base "next_ends" k_next_ends r_next_ends) (h_next_ends : k_next_ends ≤ k) (f : Addr) (cdv : Value) (A : Around) (outer : List Env) (s : Shared) (H : Hp) (E : XK) (hr : Room k (A.deeper (envOfC "led" (defScope sLed) s.heap.objs.size f cdv))) :
    PSs (cxOf CX0 P w K mg base NLed "led" (defScope sLed) f cdv A outer s H E).nox (defBody sLed) (liftS K (w_led r_next_ends)) :=
  (ws_cons (ws_set (i := 3) scLed.nd rfl (by first | exact Or.inl rfl | exact Or.inr rfl) we_int) (ws_cons (ws_while (PW.pt (wt_or (wt_isN (we_var 2) we_non) (wt_or1 (wt_lt (we_var 3) (we_var 2))))) (ws_cons (ws_set (i := 4) scLed.nd rfl (by first | exact Or.inl rfl | exact Or.inr rfl) (we_fn c_next_ends hr h_next_ends rfl (wa_cons (we_var 0) (wa_cons (we_var 1) wa_nil)))) (ws_cons (ws_if (wt_eqD hr.units (we_var 4) (we_var 1)) (ws_cons (ws_ret (we_tup (wa_cons (we_var 1) (wa_cons (we_var 3) wa_nil)))) ws_nil) ws_nil) (ws_cons (ws_par (i := 1) (j := 3) scLed.nd rfl rfl (by decide) rfl rfl (we_var 4) (we_add (we_var 3) we_int)) ws_nil))) PassesOwn.never) (ws_cons (ws_ret (we_tup (wa_cons (we_var 1) (wa_cons (we_var 3) wa_nil)))) ws_nil)))

abbrev sKnown : Stmt := top 51
abbrev NKnown : List Str := ["life", "net", "d", "ends", "age"]
theorem scKnown : FnScope NKnown ["life"] (defScope sKnown) := ⟨rfl, rfl, rfl, by decide +kernel, rfl, by decide +kernel, by decide +kernel⟩
theorem body_known (B : Bi mg) {k : Nat} {k_led : Nat} {r_led : RL} (c_led : Callee P w K mg base "led" k_led r_led) (h_led : k_led ≤ k) (f : Addr) (cdv : Value) (A : Around) (outer : List Env) (s : Shared) (H : Hp) (E : XK) (hr : Room k (A.deeper (envOfC "known" (defScope sKnown) s.heap.objs.size f cdv))) :
    PSs (cxOf CX0 P w K mg base NKnown "known" (defScope sKnown) f cdv A outer s H E).nox (defBody sKnown) (liftS K (w_known r_led)) :=
  (ws_cons (ws_asg (we_var 0) (pg_tup rfl (pgs_cons (pg_name (i := 1) scKnown.nd rfl (by first | exact Or.inl rfl | exact Or.inr rfl)) (pgs_cons (pg_name (i := 2) scKnown.nd rfl (by first | exact Or.inl rfl | exact Or.inr rfl)) (pgs_cons (pg_name (i := 3) scKnown.nd rfl (by first | exact Or.inl rfl | exact Or.inr rfl)) (pgs_cons (pg_name (i := 4) scKnown.nd rfl (by first | exact Or.inl rfl | exact Or.inr rfl)) pgs_nil))))) (bo_tup (bo_cons (bo_name trivial) (bo_cons (bo_name trivial) (bo_cons (bo_name trivial) (bo_cons (bo_name trivial) bo_nil)))) (bl_name (bl_name (bl_name (bl_name bl_nil)))))) (ws_cons (ws_ret (we_ix (we_fn c_led hr h_led rfl (wa_cons (we_var 1) (wa_cons (we_var 3) (wa_cons (we_div (we_var 4) (we_var 2)) wa_nil)))) we_int)) ws_nil))

abbrev sRestsIn : Stmt := top 52
abbrev NRestsIn : List Str := ["life", "net", "d", "ends", "age", "last", "rounds"]
theorem scRestsIn : FnScope NRestsIn ["life"] (defScope sRestsIn) := ⟨rfl, rfl, rfl, by decide +kernel, rfl, by decide +kernel, by decide +kernel⟩
theorem body_rests_in (B : Bi mg) {k : Nat} {k_led : Nat} {r_led : RL} (c_led : Callee P w K mg base "led" k_led r_led) (h_led : k_led ≤ k) (f : Addr) (cdv : Value) (A : Around) (outer : List Env) (s : Shared) (H : Hp) (E : XK) (hr : Room k (A.deeper (envOfC "rests_in" (defScope sRestsIn) s.heap.objs.size f cdv))) :
    PSs (cxOf CX0 P w K mg base NRestsIn "rests_in" (defScope sRestsIn) f cdv A outer s H E).nox (defBody sRestsIn) (liftS K (w_rests_in r_led)) :=
  (ws_cons (ws_asg (we_var 0) (pg_tup rfl (pgs_cons (pg_name (i := 1) scRestsIn.nd rfl (by first | exact Or.inl rfl | exact Or.inr rfl)) (pgs_cons (pg_name (i := 2) scRestsIn.nd rfl (by first | exact Or.inl rfl | exact Or.inr rfl)) (pgs_cons (pg_name (i := 3) scRestsIn.nd rfl (by first | exact Or.inl rfl | exact Or.inr rfl)) (pgs_cons (pg_name (i := 4) scRestsIn.nd rfl (by first | exact Or.inl rfl | exact Or.inr rfl)) pgs_nil))))) (bo_tup (bo_cons (bo_name trivial) (bo_cons (bo_name trivial) (bo_cons (bo_name trivial) (bo_cons (bo_name trivial) bo_nil)))) (bl_name (bl_name (bl_name (bl_name bl_nil)))))) (ws_cons (ws_asg (we_fn c_led hr h_led rfl (wa_cons (we_var 1) (wa_cons (we_var 3) (wa_cons we_non wa_nil)))) (pg_tup rfl (pgs_cons (pg_name (i := 5) scRestsIn.nd rfl (by first | exact Or.inl rfl | exact Or.inr rfl)) (pgs_cons (pg_name (i := 6) scRestsIn.nd rfl (by first | exact Or.inl rfl | exact Or.inr rfl)) pgs_nil))) (bo_tup (bo_cons (bo_name trivial) (bo_cons (bo_name trivial) bo_nil)) (bl_name (bl_name bl_nil)))) (ws_cons (ws_ret (we_if (wt_eqD hr.units (we_ix (we_var 5) we_int) (we_ix (we_var 5) we_int)) (we_callB (cr_maxA rfl) cal_max rfl B.mx (wa_cons we_int (wa_cons (we_sub (we_mul (we_var 2) (we_var 6)) (we_var 4)) wa_nil))) we_non)) ws_nil)))

abbrev sNetBehind : Stmt := top 57
abbrev NNetBehind : List Str := ["net", "change"]
theorem scNetBehind : FnScope NNetBehind ["net", "change"] (defScope sNetBehind) := ⟨rfl, rfl, rfl, by decide +kernel, rfl, by decide +kernel, by decide +kernel⟩
theorem body_net_behind (B : Bi mg) {k : Nat} {k_with_rule : Nat} {r_with_rule : RL} (c_with_rule : Callee P w K mg base "with_rule" k_with_rule r_with_rule) (h_with_rule : k_with_rule ≤ k) (f : Addr) (cdv : Value) (A : Around) (outer : List Env) (s : Shared) (H : Hp) (E : XK) (hr : Room k (A.deeper (envOfC "net_behind" (defScope sNetBehind) s.heap.objs.size f cdv))) :
    PSs (cxOf CX0 P w K mg base NNetBehind "net_behind" (defScope sNetBehind) f cdv A outer s H E).nox (defBody sNetBehind) (liftS K (w_net_behind r_with_rule)) :=
  (ws_cons (ws_if (wt_eq (we_ix (we_var 1) we_int) we_str) (ws_cons (ws_ret (we_fn c_with_rule hr h_with_rule rfl (wa_cons (we_var 0) (wa_cons (we_ix (we_var 1) we_int) (wa_cons (we_ix (we_var 1) we_int) wa_nil))))) ws_nil) ws_nil) (ws_cons (ws_if (wt_eq (we_ix (we_var 1) we_int) we_str) (ws_cons (ws_ret (we_tup (wa_cons (we_stup (wsa_star (we_ix (we_var 0) we_int) (wsa_cons (we_ix (we_var 1) we_int) wsa_nil))) (wa_cons (we_stup (wsa_star (we_ix (we_var 0) we_int) (wsa_cons (we_ix (we_var 1) we_int) wsa_nil))) wa_nil)))) ws_nil) ws_nil) (ws_cons (ws_ret (we_var 0)) ws_nil)))

end
end NB

/-! B6 -/
set_option Elab.async false
set_option linter.all false
set_option maxRecDepth 100000
set_option maxHeartbeats 1000000
namespace NB
open PySem PySem.Spec PyProof.Rows L2
section
variable {P : Program} {w : World} {K : PySem.W.Frag} {mg : Str → Option Value} {base : Heap}
abbrev sIsSight : Stmt := top 58
abbrev NIsSight : List Str := ["life", "value", "lows", "highs"]
theorem scIsSight : FnScope NIsSight ["life", "value"] (defScope sIsSight) := ⟨rfl, rfl, rfl, by decide +kernel, rfl, by decide +kernel, by decide +kernel⟩
theorem body_is_sight (B : Bi mg) {k : Nat} {k_known : Nat} {r_known : RL} {k_is_index : Nat} {r_is_index : RL} {k_is_number : Nat} {r_is_number : RL} (c_known : Callee P w K mg base "known" k_known r_known) (h_known : k_known ≤ k) (c_is_index : Callee P w K mg base "is_index" k_is_index r_is_index) (h_is_index : k_is_index ≤ k) (c_is_number : Callee P w K mg base "is_number" k_is_number r_is_number) (h_is_number : k_is_number ≤ k) (f : Addr) (cdv : Value) (A : Around) (outer : List Env) (s : Shared) (H : Hp) (E : XK) (hr : Room k (A.deeper (envOfC "is_sight" (defScope sIsSight) s.heap.objs.size f cdv))) :
    PSs (cxOf CX0 P w K mg base NIsSight "is_sight" (defScope sIsSight) f cdv A outer s H E).nox (defBody sIsSight) (liftS K (w_is_sight r_known r_is_index r_is_number)) :=
  (ws_cons (ws_asg (we_fn c_known hr h_known rfl (wa_cons (we_var 0) wa_nil)) (pg_tup rfl (pgs_cons (pg_name (i := 2) scIsSight.nd rfl (by first | exact Or.inl rfl | exact Or.inr rfl)) (pgs_cons (pg_name (i := 3) scIsSight.nd rfl (by first | exact Or.inl rfl | exact Or.inr rfl)) pgs_nil))) (bo_tup (bo_cons (bo_name trivial) (bo_cons (bo_name trivial) bo_nil)) (bl_name (bl_name bl_nil)))) (ws_cons (ws_if (PW.pt (wt_or (wt_not (wt_val (we_fn c_is_index hr h_is_index rfl (wa_cons (we_ix (we_var 1) we_int) (wa_cons (we_callB call_len_seq cal_len rfl B.len (wa_cons (we_var 2) wa_nil)) wa_nil))))) (wt_or (wt_not (wt_val (we_fn c_is_number hr h_is_number rfl (wa_cons (we_ix (we_var 1) we_int) wa_nil)))) (wt_or1 (wt_not (wt_val (we_fn c_is_number hr h_is_number rfl (wa_cons (we_ix (we_var 1) we_int) wa_nil)))))))) (ws_cons (ws_ret we_bl) ws_nil) ws_nil) (ws_cons (ws_ret (we_le (we_callB (cr_maxA rfl) cal_max rfl B.mx (wa_cons (we_ix (we_var 2) (we_ix (we_var 1) we_int)) (wa_cons (we_ix (we_var 1) we_int) wa_nil))) (we_callB (cr_minA rfl) cal_min rfl B.mn (wa_cons (we_ix (we_var 3) (we_ix (we_var 1) we_int)) (wa_cons (we_ix (we_var 1) we_int) wa_nil))))) ws_nil)))

abbrev sIsChange : Stmt := top 59
abbrev NIsChange : List Str := ["life", "value", "net"]
theorem scIsChange : FnScope NIsChange ["life", "value"] (defScope sIsChange) := ⟨rfl, rfl, rfl, by decide +kernel, rfl, by decide +kernel, by decide +kernel⟩
theorem body_is_change (B : Bi mg) {k : Nat} {k_is_word_of : Nat} {r_is_word_of : RL} {k_is_row_of : Nat} {r_is_row_of : RL} {k_is_index : Nat} {r_is_index : RL} {k_is_sight : Nat} {r_is_sight : RL} {k_net_behind : Nat} {r_net_behind : RL} {k_is_net : Nat} {r_is_net : RL} {k_are_one_way : Nat} {r_are_one_way : RL} (c_is_word_of : Callee P w K mg base "is_word_of" k_is_word_of r_is_word_of) (h_is_word_of : k_is_word_of ≤ k) (c_is_row_of : Callee P w K mg base "is_row_of" k_is_row_of r_is_row_of) (h_is_row_of : k_is_row_of ≤ k) (c_is_index : Callee P w K mg base "is_index" k_is_index r_is_index) (h_is_index : k_is_index ≤ k) (c_is_sight : Callee P w K mg base "is_sight" k_is_sight r_is_sight) (h_is_sight : k_is_sight ≤ k) (c_net_behind : Callee P w K mg base "net_behind" k_net_behind r_net_behind) (h_net_behind : k_net_behind ≤ k) (c_is_net : Callee P w K mg base "is_net" k_is_net r_is_net) (h_is_net : k_is_net ≤ k) (c_are_one_way : Callee P w K mg base "are_one_way" k_are_one_way r_are_one_way) (h_are_one_way : k_are_one_way ≤ k) (m_MOST_WAIT : ∃ t, mg "MOST_WAIT" = some (.int 10000 t)) (m_WORDS : WordsOk K mg) (m_SIZES : SizesOk K w mg) (f : Addr) (cdv : Value) (A : Around) (outer : List Env) (s : Shared) (H : Hp) (E : XK) (hr : Room k (A.deeper (envOfC "is_change" (defScope sIsChange) s.heap.objs.size f cdv))) :
    PSs (cxOf CX0 P w K mg base NIsChange "is_change" (defScope sIsChange) f cdv A outer s H E).nox (defBody sIsChange) (liftS K (w_is_change r_is_word_of r_is_row_of r_is_index r_is_sight r_net_behind r_is_net r_are_one_way)) :=
  (ws_cons (ws_if (PW.pt (wt_or (wt_not (wt_val (we_isi (T := "tuple") rfl B.isi (we_var 1) rfl B.tuple))) (wt_or (wt_eq (we_callB call_len_seq cal_len rfl B.len (wa_cons (we_var 1) wa_nil)) we_int) (wt_or1 (wt_not (wt_val (we_fn c_is_word_of hr h_is_word_of rfl (wa_cons (we_ix (we_var 1) we_int) (wa_cons (we_words rfl m_WORDS) wa_nil))))))))) (ws_cons (ws_ret we_bl) ws_nil) ws_nil) (ws_cons (ws_if (wt_not (wt_val (we_fn c_is_row_of hr h_is_row_of rfl (wa_cons (we_var 1) (wa_cons (we_tup (wa_cons (we_sizes rfl m_SIZES (we_ix (we_var 1) we_int)) wa_nil)) wa_nil))))) (ws_cons (ws_ret we_bl) ws_nil) ws_nil) (ws_cons (ws_if (wt_eq (we_ix (we_var 1) we_int) we_str) (ws_cons (ws_ret (we_fn c_is_index hr h_is_index rfl (wa_cons (we_ix (we_var 1) we_int) (wa_cons (we_add (we_gi rfl m_MOST_WAIT) we_int) wa_nil)))) ws_nil) ws_nil) (ws_cons (ws_if (wt_eq (we_ix (we_var 1) we_int) we_str) (ws_cons (ws_ret (we_fn c_is_sight hr h_is_sight rfl (wa_cons (we_var 0) (wa_cons (we_var 1) wa_nil)))) ws_nil) ws_nil) (ws_cons (ws_if (PW.pt (wt_and (wt_eq (we_ix (we_var 1) we_int) we_str) (wt_and1 (wt_not (wt_val (we_fn c_is_index hr h_is_index rfl (wa_cons (we_ix (we_var 1) we_int) (wa_cons (we_callB call_len_seq cal_len rfl B.len (wa_cons (we_ix (we_ix (we_var 0) we_int) we_int) wa_nil)) wa_nil)))))))) (ws_cons (ws_ret we_bl) ws_nil) ws_nil) (ws_cons (ws_set (i := 2) scIsChange.nd rfl (by first | exact Or.inl rfl | exact Or.inr rfl) (we_fn c_net_behind hr h_net_behind rfl (wa_cons (we_ix (we_var 0) we_int) (wa_cons (we_var 1) wa_nil)))) (ws_cons (ws_ret (we_and (we_fn c_is_net hr h_is_net rfl (wa_cons (we_var 2) wa_nil)) (we_one (we_fn c_are_one_way hr h_are_one_way rfl (wa_cons (we_var 2) wa_nil))))) ws_nil)))))))

abbrev sPlaced : Stmt := top 60
abbrev NPlaced : List Str := ["row", "at", "value"]
theorem scPlaced : FnScope NPlaced ["row", "at", "value"] (defScope sPlaced) := ⟨rfl, rfl, rfl, by decide +kernel, rfl, by decide +kernel, by decide +kernel⟩
theorem body_placed (B : Bi mg) {k : Nat} (f : Addr) (cdv : Value) (A : Around) (outer : List Env) (s : Shared) (H : Hp) (E : XK) (hr : Room k (A.deeper (envOfC "placed" (defScope sPlaced) s.heap.objs.size f cdv))) :
    PSs (cxOf CX0 P w K mg base NPlaced "placed" (defScope sPlaced) f cdv A outer s H E).nox (defBody sPlaced) (liftS K (w_placed )) :=
  (ws_cons (ws_ret (we_stup (wsa_star (we_slice (we_var 0) wo_none (wo_some (we_var 1))) (wsa_cons (we_var 2) (wsa_star (we_slice (we_var 0) (wo_some (we_add (we_var 1) we_int)) wo_none) wsa_nil))))) ws_nil)

abbrev sChanged : Stmt := top 61
abbrev NChanged : List Str := ["life", "change", "net", "lows", "highs", "house", "low", "high"]
theorem scChanged : FnScope NChanged ["life", "change"] (defScope sChanged) := ⟨rfl, rfl, rfl, by decide +kernel, rfl, by decide +kernel, by decide +kernel⟩
theorem body_changed (B : Bi mg) {k : Nat} {k_is_change : Nat} {r_is_change : RL} {k_known : Nat} {r_known : RL} {k_net_behind : Nat} {r_net_behind : RL} {k_placed : Nat} {r_placed : RL} {k_closed : Nat} {r_closed : RL} (c_is_change : Callee P w K mg base "is_change" k_is_change r_is_change) (h_is_change : k_is_change ≤ k) (c_known : Callee P w K mg base "known" k_known r_known) (h_known : k_known ≤ k) (c_net_behind : Callee P w K mg base "net_behind" k_net_behind r_net_behind) (h_net_behind : k_net_behind ≤ k) (c_placed : Callee P w K mg base "placed" k_placed r_placed) (h_placed : k_placed ≤ k) (c_closed : Callee P w K mg base "closed" k_closed r_closed) (h_closed : k_closed ≤ k) (f : Addr) (cdv : Value) (A : Around) (outer : List Env) (s : Shared) (H : Hp) (E : XK) (hr : Room k (A.deeper (envOfC "changed" (defScope sChanged) s.heap.objs.size f cdv))) :
    PSs (cxOf CX0 P w K mg base NChanged "changed" (defScope sChanged) f cdv A outer s H E).nox (defBody sChanged) (liftS K (w_changed r_is_change r_known r_net_behind r_placed r_closed)) :=
  (ws_cons (ws_if (wt_not (wt_val (we_fn c_is_change hr h_is_change rfl (wa_cons (we_var 0) (wa_cons (we_var 1) wa_nil))))) (ws_cons ws_never ws_nil) ws_nil) (ws_cons (ws_if (wt_eq (we_ix (we_var 1) we_int) we_str) (ws_cons (ws_ret (we_stup (wsa_star (we_slice (we_var 0) wo_none (wo_some we_int)) (wsa_cons (we_add (we_ix (we_var 0) we_int) (we_ix (we_var 1) we_int)) wsa_nil)))) ws_nil) ws_nil) (ws_cons (ws_asg (we_tup (wa_cons (we_fn c_net_behind hr h_net_behind rfl (wa_cons (we_ix (we_var 0) we_int) (wa_cons (we_var 1) wa_nil))) (wa_cons (we_fn c_known hr h_known rfl (wa_cons (we_var 0) wa_nil)) wa_nil))) (pg_tup rfl (pgs_cons (pg_name (i := 2) scChanged.nd rfl (by first | exact Or.inl rfl | exact Or.inr rfl)) (pgs_cons (pg_tup rfl (pgs_cons (pg_name (i := 3) scChanged.nd rfl (by first | exact Or.inl rfl | exact Or.inr rfl)) (pgs_cons (pg_name (i := 4) scChanged.nd rfl (by first | exact Or.inl rfl | exact Or.inr rfl)) pgs_nil))) pgs_nil))) (bo_tup (bo_cons (bo_name trivial) (bo_cons (bo_tup (bo_cons (bo_name trivial) (bo_cons (bo_name trivial) bo_nil)) (bl_name (bl_name bl_nil))) bo_nil)) (bl_name (bl_two bl_nil)))) (ws_cons (ws_if (wt_eq (we_ix (we_var 1) we_int) we_str) (ws_cons (ws_par (i := 3) (j := 4) scChanged.nd rfl rfl (by decide) rfl rfl (we_stup (wsa_star (we_var 3) (wsa_cons we_int wsa_nil))) (we_stup (wsa_star (we_var 4) (wsa_cons (we_ix (we_var 1) we_int) wsa_nil)))) ws_nil) ws_nil) (ws_cons (ws_if (wt_eq (we_ix (we_var 1) we_int) we_str) (ws_cons (ws_asg (we_slice (we_var 1) (wo_some we_int) wo_none) (pg_tup rfl (pgs_cons (pg_name (i := 5) scChanged.nd rfl (by first | exact Or.inl rfl | exact Or.inr rfl)) (pgs_cons (pg_name (i := 6) scChanged.nd rfl (by first | exact Or.inl rfl | exact Or.inr rfl)) (pgs_cons (pg_name (i := 7) scChanged.nd rfl (by first | exact Or.inl rfl | exact Or.inr rfl)) pgs_nil)))) (bo_tup (bo_cons (bo_name trivial) (bo_cons (bo_name trivial) (bo_cons (bo_name trivial) bo_nil))) (bl_name (bl_name (bl_name bl_nil))))) (ws_cons (ws_par (i := 3) (j := 4) scChanged.nd rfl rfl (by decide) rfl rfl (we_fn c_placed hr h_placed rfl (wa_cons (we_var 3) (wa_cons (we_var 5) (wa_cons (we_callB (cr_maxA rfl) cal_max rfl B.mx (wa_cons (we_ix (we_var 3) (we_var 5)) (wa_cons (we_var 6) wa_nil))) wa_nil)))) (we_fn c_placed hr h_placed rfl (wa_cons (we_var 4) (wa_cons (we_var 5) (wa_cons (we_callB (cr_minA rfl) cal_min rfl B.mn (wa_cons (we_ix (we_var 4) (we_var 5)) (wa_cons (we_var 7) wa_nil))) wa_nil))))) ws_nil)) ws_nil) (ws_cons (ws_ret (we_tup (wa_cons (we_var 2) (wa_cons (we_ix (we_var 0) we_int) (wa_cons (we_fn c_closed hr h_closed rfl (wa_cons (we_var 2) (wa_cons (we_tup (wa_cons (we_var 3) (wa_cons (we_var 4) wa_nil))) wa_nil))) (wa_cons we_int wa_nil)))))) ws_nil))))))

abbrev sLawOf : Stmt := top 65
abbrev NLawOf : List Str := ["_law_deal", "_law_some"]
theorem scLawOf : FnScope NLawOf ["_law_deal", "_law_some"] (defScope sLawOf) := ⟨rfl, rfl, rfl, by decide +kernel, rfl, by decide +kernel, by decide +kernel⟩
theorem body_law_of (B : Bi mg) {k : Nat} {k_law_any : Nat} {r_law_any : RL} (c_law_any : Callee P w K mg base "_law_any" k_law_any r_law_any) (h_law_any : k_law_any ≤ k) (f : Addr) (cdv : Value) (A : Around) (outer : List Env) (s : Shared) (H : Hp) (E : XK) (hr : Room k (A.deeper (envOfC "_law_of" (defScope sLawOf) s.heap.objs.size f cdv))) :
    PSs (cxOf CX0 P w K mg base NLawOf "_law_of" (defScope sLawOf) f cdv A outer s H E).nox (defBody sLawOf) (liftS K (w_law_of r_law_any)) :=
  (ws_cons (ws_ret (we_ix (we_var 1) (we_fn c_law_any hr h_law_any rfl (wa_cons (we_var 0) (wa_cons (we_callB call_len_seq cal_len rfl B.len (wa_cons (we_var 1) wa_nil)) wa_nil))))) ws_nil)

abbrev sLawRule : Stmt := top 67
abbrev NLawRule : List Str := ["_law_deal", "_law_n", "_law_top", "_law_deep", "_law_any_row", "_law_form", "_law_inner", "_law_parts_here", "_law_low", "_law_row", "_law_turn_here"]
theorem scLawRule : FnScope NLawRule ["_law_deal", "_law_n", "_law_top", "_law_deep", "_law_any_row"] (defScope sLawRule) := ⟨rfl, rfl, rfl, by decide +kernel, rfl, by decide +kernel, by decide +kernel⟩
theorem body_law_rule (B : Bi mg) {k : Nat} {k_law_any : Nat} {r_law_any : RL} {k_law_rule : Nat} {r_law_rule : RL} {k_law_of : Nat} {r_law_of : RL} (c_law_any : Callee P w K mg base "_law_any" k_law_any r_law_any) (h_law_any : k_law_any ≤ k) (c_law_rule : Callee P w K mg base "_law_rule" k_law_rule r_law_rule) (h_law_rule : k_law_rule ≤ k) (c_law_of : Callee P w K mg base "_law_of" k_law_of r_law_of) (h_law_of : k_law_of ≤ k) (f : Addr) (cdv : Value) (A : Around) (outer : List Env) (s : Shared) (H : Hp) (E : XK) (hr : Room k (A.deeper (envOfC "_law_rule" (defScope sLawRule) s.heap.objs.size f cdv))) :
    PSs (cxOf CX0 P w K mg base NLawRule "_law_rule" (defScope sLawRule) f cdv A outer s H E).nox (defBody sLawRule) (liftS K (w_law_rule r_law_any r_law_rule r_law_of)) :=
  (ws_cons (ws_set (i := 5) scLawRule.nd rfl (by first | exact Or.inl rfl | exact Or.inr rfl) (we_if (wt_gt (we_var 3) we_int) (we_fn c_law_any hr h_law_any rfl (wa_cons (we_var 0) (wa_cons we_int wa_nil))) (we_fn c_law_any hr h_law_any rfl (wa_cons (we_var 0) (wa_cons we_int wa_nil))))) (ws_cons (ws_if (wt_eq (we_var 5) we_int) (ws_cons (ws_ret (we_tup (wa_cons we_str (wa_cons (we_fn c_law_any hr h_law_any rfl (wa_cons (we_var 0) (wa_cons (we_add (we_var 2) we_int) wa_nil))) wa_nil)))) ws_nil) ws_nil) (ws_cons (ws_if (wt_lt (we_var 5) we_int) (ws_cons (ws_ret (we_tup (wa_cons we_str (wa_cons (we_fn c_law_any hr h_law_any rfl (wa_cons (we_var 0) (wa_cons (we_var 1) wa_nil))) wa_nil)))) ws_nil) ws_nil) (ws_cons (ws_if (wt_lt (we_var 5) we_int) (ws_cons (ws_set (i := 7) scLawRule.nd rfl (by first | exact Or.inl rfl | exact Or.inr rfl) (we_callTy call_tuple_of cal_tuple rfl B.tuple (wa_cons (we_lc (own := [("_law_turn_here", 10)]) (wi_range1 rfl B.range (we_add we_int (we_fn c_law_any hr h_law_any rfl (wa_cons (we_var 0) (wa_cons we_int wa_nil))))) (blkOk_by (N := NLawRule) (sc := defScope sLawRule) (own := [("_law_turn_here", 10)]) (by decide +kernel)) (bo_name (by decide)) (fun _ _ _ _ _ => (pg_name (i := 10) scLawRule.nd rfl (by first | exact Or.inl rfl | exact Or.inr rfl))) (fun _ _ _ _ _ => wts_nil) (fun _ _ _ _ _ => (we_fn c_law_rule hr h_law_rule rfl (wa_cons (we_var 0) (wa_cons (we_var 1) (wa_cons (we_var 2) (wa_cons (we_sub (we_var 3) we_int) (wa_cons (we_var 4) wa_nil))))))) scLawRule.nd) wa_nil))) (ws_cons (ws_ret (we_tup (wa_cons (we_fn c_law_of hr h_law_of rfl (wa_cons (we_var 0) (wa_cons (we_lst (wa_cons we_str (wa_cons we_str (wa_cons we_str wa_nil)))) wa_nil))) (wa_cons (we_var 7) wa_nil)))) ws_nil)) ws_nil) (ws_cons (ws_if (PW.pt (wt_and (wt_eq (we_var 5) we_int) (wt_and1 (wt_eq (we_var 3) we_int)))) (ws_cons (ws_ret (we_cat (we_tup (wa_cons we_str wa_nil)) (we_callTy call_tuple_of cal_tuple rfl B.tuple (wa_cons (we_lc (own := [("_law_turn_here", 10)]) (wi_range1 rfl B.range we_int) (blkOk_by (N := NLawRule) (sc := defScope sLawRule) (own := [("_law_turn_here", 10)]) (by decide +kernel)) (bo_name (by decide)) (fun _ _ _ _ _ => (pg_name (i := 10) scLawRule.nd rfl (by first | exact Or.inl rfl | exact Or.inr rfl))) (fun _ _ _ _ _ => wts_nil) (fun _ _ _ _ _ => (we_fn c_law_rule hr h_law_rule rfl (wa_cons (we_var 0) (wa_cons (we_var 1) (wa_cons (we_var 2) (wa_cons we_int (wa_cons (we_var 4) wa_nil))))))) scLawRule.nd) wa_nil)))) ws_nil) ws_nil) (ws_cons (ws_set (i := 6) scLawRule.nd rfl (by first | exact Or.inl rfl | exact Or.inr rfl) (we_fn c_law_rule hr h_law_rule rfl (wa_cons (we_var 0) (wa_cons (we_var 1) (wa_cons (we_var 2) (wa_cons (we_sub (we_var 3) we_int) (wa_cons (we_var 4) wa_nil))))))) (ws_cons (ws_if (wt_eq (we_var 5) we_int) (ws_cons (ws_ret (we_tup (wa_cons we_str (wa_cons (we_fn c_law_any hr h_law_any rfl (wa_cons (we_var 0) (wa_cons we_int wa_nil))) (wa_cons (we_var 6) wa_nil))))) ws_nil) ws_nil) (ws_cons (ws_if (wt_eq (we_var 5) we_int) (ws_cons (ws_ret (we_tup (wa_cons we_str (wa_cons (we_add we_int (we_fn c_law_any hr h_law_any rfl (wa_cons (we_var 0) (wa_cons we_int wa_nil)))) (wa_cons (we_var 6) wa_nil))))) ws_nil) ws_nil) (ws_cons (ws_if (wt_eq (we_var 5) we_int) (ws_cons (ws_set (i := 8) scLawRule.nd rfl (by first | exact Or.inl rfl | exact Or.inr rfl) (we_fn c_law_any hr h_law_any rfl (wa_cons (we_var 0) (wa_cons (we_add (we_var 2) we_int) wa_nil)))) (ws_cons (ws_ret (we_tup (wa_cons we_str (wa_cons (we_var 8) (wa_cons (we_add (we_var 8) (we_fn c_law_any hr h_law_any rfl (wa_cons (we_var 0) (wa_cons we_int wa_nil)))) (wa_cons (we_var 6) wa_nil)))))) ws_nil)) ws_nil) (ws_cons (ws_if (wt_eq (we_var 5) we_int) (ws_cons (ws_ret (we_tup (wa_cons we_str (wa_cons (we_fn c_law_any hr h_law_any rfl (wa_cons (we_var 0) (wa_cons (we_add (we_var 2) we_int) wa_nil))) (wa_cons (we_fn c_law_any hr h_law_any rfl (wa_cons (we_var 0) (wa_cons (we_add (we_var 2) we_int) wa_nil))) (wa_cons (we_fn c_law_any hr h_law_any rfl (wa_cons (we_var 0) (wa_cons (we_add (we_var 2) we_int) wa_nil))) (wa_cons (we_var 6) wa_nil))))))) ws_nil) ws_nil) (ws_cons (ws_if (wt_eq (we_var 5) we_int) (ws_cons (ws_setLc (i := 9) scLawRule.nd rfl rfl (sw_true rfl rfl rfl (by decide +kernel)) (own := [("_law_turn_here", 10)]) (wi_range1 rfl B.range (we_add we_int (we_fn c_law_any hr h_law_any rfl (wa_cons (we_var 0) (wa_cons (we_add (we_var 2) we_int) wa_nil))))) (blkOk_by (N := NLawRule) (sc := defScope sLawRule) (own := [("_law_turn_here", 10)]) (by decide +kernel)) (bo_name (by decide)) (fun _ _ _ _ _ => (pg_name (i := 10) scLawRule.nd rfl (by first | exact Or.inl rfl | exact Or.inr rfl))) (fun _ _ _ _ _ => wts_nil) (fun _ _ _ _ _ => (we_fn c_law_any hr h_law_any rfl (wa_cons (we_var 0) (wa_cons (we_add (we_var 2) we_int) wa_nil))))) (ws_cons (ws_ret (we_tup (wa_cons we_str (wa_cons (we_callTy call_tuple_of cal_tuple rfl B.tuple (wa_cons (we_if (wt_val (we_var 4)) (we_var 9) (we_callB cr_sorted cal_sorted rfl B.sorted (wa_cons (we_var 9) wa_nil))) wa_nil)) (wa_cons (we_var 6) wa_nil))))) ws_nil)) ws_nil) (ws_cons (ws_ret (we_tup (wa_cons we_str (wa_cons (we_fn c_law_any hr h_law_any rfl (wa_cons (we_var 0) (wa_cons (we_add (we_var 2) we_int) wa_nil))) (wa_cons (we_var 6) wa_nil))))) ws_nil))))))))))))

abbrev sLawNet : Stmt := top 68
abbrev NLawNet : List Str := ["_law_deal", "_law_most", "_law_top", "_law_any_row", "_law_n", "_law_tops", "_law_house"]
theorem scLawNet : FnScope NLawNet ["_law_deal", "_law_most", "_law_top", "_law_any_row"] (defScope sLawNet) := ⟨rfl, rfl, rfl, by decide +kernel, rfl, by decide +kernel, by decide +kernel⟩
theorem body_law_net (B : Bi mg) {k : Nat} {k_law_any : Nat} {r_law_any : RL} {k_law_rule : Nat} {r_law_rule : RL} (c_law_any : Callee P w K mg base "_law_any" k_law_any r_law_any) (h_law_any : k_law_any ≤ k) (c_law_rule : Callee P w K mg base "_law_rule" k_law_rule r_law_rule) (h_law_rule : k_law_rule ≤ k) (f : Addr) (cdv : Value) (A : Around) (outer : List Env) (s : Shared) (H : Hp) (E : XK) (hr : Room k (A.deeper (envOfC "_law_net" (defScope sLawNet) s.heap.objs.size f cdv))) :
    PSs (cxOf CX0 P w K mg base NLawNet "_law_net" (defScope sLawNet) f cdv A outer s H E).nox (defBody sLawNet) (liftS K (w_law_net r_law_any r_law_rule)) :=
  (ws_cons (ws_set (i := 4) scLawNet.nd rfl (by first | exact Or.inl rfl | exact Or.inr rfl) (we_add we_int (we_fn c_law_any hr h_law_any rfl (wa_cons (we_var 0) (wa_cons (we_var 1) wa_nil))))) (ws_cons (ws_set (i := 5) scLawNet.nd rfl (by first | exact Or.inl rfl | exact Or.inr rfl) (we_callTy call_tuple_of cal_tuple rfl B.tuple (wa_cons (we_lc (own := [("_law_house", 6)]) (wi_range1 rfl B.range (we_var 4)) (blkOk_by (N := NLawNet) (sc := defScope sLawNet) (own := [("_law_house", 6)]) (by decide +kernel)) (bo_name (by decide)) (fun _ _ _ _ _ => (pg_name (i := 6) scLawNet.nd rfl (by first | exact Or.inl rfl | exact Or.inr rfl))) (fun _ _ _ _ _ => wts_nil) (fun _ _ _ _ _ => (we_add we_int (we_fn c_law_any hr h_law_any rfl (wa_cons (we_var 0) (wa_cons (we_var 2) wa_nil))))) scLawNet.nd) wa_nil))) (ws_cons (ws_ret (we_tup (wa_cons (we_var 5) (wa_cons (we_callTy call_tuple_of cal_tuple rfl B.tuple (wa_cons (we_lc (own := [("_law_house", 6)]) (wi_range1 rfl B.range (we_var 4)) (blkOk_by (N := NLawNet) (sc := defScope sLawNet) (own := [("_law_house", 6)]) (by decide +kernel)) (bo_name (by decide)) (fun _ _ _ _ _ => (pg_name (i := 6) scLawNet.nd rfl (by first | exact Or.inl rfl | exact Or.inr rfl))) (fun _ _ _ _ _ => wts_nil) (fun _ _ _ _ _ => (we_fn c_law_rule hr h_law_rule rfl (wa_cons (we_var 0) (wa_cons (we_var 4) (wa_cons (we_var 2) (wa_cons (we_fn c_law_any hr h_law_any rfl (wa_cons (we_var 0) (wa_cons we_int wa_nil))) (wa_cons (we_var 3) wa_nil))))))) scLawNet.nd) wa_nil)) wa_nil)))) ws_nil)))

end
end NB

/-! B7 -/
set_option Elab.async false
set_option linter.all false
set_option maxRecDepth 100000
set_option maxHeartbeats 1000000
namespace NB
open PySem PySem.Spec PyProof.Rows L2
section
variable {P : Program} {w : World} {K : PySem.W.Frag} {mg : Str → Option Value} {base : Heap}
abbrev sLawParts : Stmt := top 69
abbrev NLawParts : List Str := ["_law_rule_here"]
theorem scLawParts : FnScope NLawParts ["_law_rule_here"] (defScope sLawParts) := ⟨rfl, rfl, rfl, by decide +kernel, rfl, by decide +kernel, by decide +kernel⟩
theorem body_law_parts (B : Bi mg) {k : Nat} (f : Addr) (cdv : Value) (A : Around) (outer : List Env) (s : Shared) (H : Hp) (E : XK) (hr : Room k (A.deeper (envOfC "_law_parts" (defScope sLawParts) s.heap.objs.size f cdv))) :
    PSs (cxOf CX0 P w K mg base NLawParts "_law_parts" (defScope sLawParts) f cdv A outer s H E).nox (defBody sLawParts) (liftS K (w_law_parts )) :=
  (ws_cons (ws_if (wt_in (we_ix (we_var 0) we_int) (we_lst (wa_cons we_str (wa_cons we_str wa_nil)))) (ws_cons (ws_ret (we_lst wa_nil)) ws_nil) ws_nil) (ws_cons (ws_if (wt_in (we_ix (we_var 0) we_int) (we_lst (wa_cons we_str (wa_cons we_str (wa_cons we_str wa_nil))))) (ws_cons (ws_ret (we_callTy call_list_of cal_list rfl B.list (wa_cons (we_ix (we_var 0) we_int) wa_nil))) ws_nil) ws_nil) (ws_cons (ws_ret (we_if (wt_eq (we_ix (we_var 0) we_int) we_str) (we_callTy call_list_of cal_list rfl B.list (wa_cons (we_slice (we_var 0) (wo_some we_int) wo_none) wa_nil)) (we_lst (wa_cons (we_ix (we_var 0) (we_neg we_int)) wa_nil)))) ws_nil)))

abbrev sLawBranches : Stmt := top 70
abbrev NLawBranches : List Str := ["_law_rule_here", "_law_found", "_law_part"]
theorem scLawBranches : FnScope NLawBranches ["_law_rule_here"] (defScope sLawBranches) := ⟨rfl, rfl, rfl, by decide +kernel, rfl, by decide +kernel, by decide +kernel⟩
theorem body_law_branches (B : Bi mg) {k : Nat} {k_law_parts : Nat} {r_law_parts : RL} {k_law_branches : Nat} {r_law_branches : RL} (c_law_parts : Callee P w K mg base "_law_parts" k_law_parts r_law_parts) (h_law_parts : k_law_parts ≤ k) (c_law_branches : Callee P w K mg base "_law_branches" k_law_branches r_law_branches) (h_law_branches : k_law_branches ≤ k) (f : Addr) (cdv : Value) (A : Around) (outer : List Env) (s : Shared) (H : Hp) (E : XK) (hr : Room k (A.deeper (envOfC "_law_branches" (defScope sLawBranches) s.heap.objs.size f cdv))) :
    PSs (cxOf CX0 P w K mg base NLawBranches "_law_branches" (defScope sLawBranches) f cdv A outer s H E).nox (defBody sLawBranches) (liftS K (w_law_branches r_law_parts r_law_branches)) :=
  (ws_cons (ws_set (i := 1) scLawBranches.nd rfl (by first | exact Or.inl rfl | exact Or.inr rfl) (we_if (wt_eq (we_ix (we_var 0) we_int) we_str) (we_lst (wa_cons (we_ix (we_var 0) we_int) wa_nil)) (we_lst wa_nil))) (ws_cons (ws_for (wi_any (we_fn c_law_parts hr h_law_parts rfl (wa_cons (we_var 0) wa_nil))) (pg_name (i := 2) scLawBranches.nd rfl (by first | exact Or.inl rfl | exact Or.inr rfl)) (bo_name trivial) (ws_cons (ws_set (i := 1) scLawBranches.nd rfl (by first | exact Or.inl rfl | exact Or.inr rfl) (we_cat (we_var 1) (we_fn c_law_branches hr h_law_branches rfl (wa_cons (we_var 2) wa_nil)))) ws_nil) PassesOwn.never) (ws_cons (ws_ret (we_var 1)) ws_nil)))

abbrev sLawMade : Stmt := top 71
abbrev NLawMade : List Str := ["_law_rule_here", "_law_some", "_law_word", "_law_a"]
theorem scLawMade : FnScope NLawMade ["_law_rule_here", "_law_some"] (defScope sLawMade) := ⟨rfl, rfl, rfl, by decide +kernel, rfl, by decide +kernel, by decide +kernel⟩
theorem body_law_made (B : Bi mg) {k : Nat} (f : Addr) (cdv : Value) (A : Around) (outer : List Env) (s : Shared) (H : Hp) (E : XK) (hr : Room k (A.deeper (envOfC "_law_made" (defScope sLawMade) s.heap.objs.size f cdv))) :
    PSs (cxOf CX0 P w K mg base NLawMade "_law_made" (defScope sLawMade) f cdv A outer s H E).nox (defBody sLawMade) (liftS K (w_law_made )) :=
  (ws_cons (ws_par (i := 2) (j := 3) scLawMade.nd rfl rfl (by decide) rfl rfl (we_ix (we_var 0) we_int) (we_ix (we_var 1) we_int)) (ws_cons (ws_if (wt_in (we_var 2) (we_lst (wa_cons we_str (wa_cons we_str (wa_cons we_str (wa_cons we_str wa_nil)))))) (ws_cons (ws_ret (we_if (wt_eq (we_var 2) we_str) (we_callB (cr_minA rfl) cal_min rfl B.mn (wa_cons (we_var 1) wa_nil)) (we_if (wt_eq (we_var 2) we_str) (we_callB (cr_maxA rfl) cal_max rfl B.mx (wa_cons (we_var 1) wa_nil)) (we_if (wt_eq (we_var 2) we_str) (we_callB (cr_sum rfl) cal_sum rfl B.sm (wa_cons (we_var 1) wa_nil)) (we_ix (we_callB cr_sorted cal_sorted rfl B.sorted (wa_cons (we_var 1) wa_nil)) we_int))))) ws_nil) ws_nil) (ws_cons (ws_if (wt_in (we_var 2) (we_lst (wa_cons we_str (wa_cons we_str wa_nil)))) (ws_cons (ws_ret (we_if (wt_eq (we_var 2) we_str) (we_mul (we_ix (we_var 0) we_int) (we_var 3)) (we_div (we_var 3) (we_ix (we_var 0) we_int)))) ws_nil) ws_nil) (ws_cons (ws_if (wt_eq (we_var 2) we_str) (ws_cons (ws_ret (we_if (wt_lt (we_var 3) (we_ix (we_var 0) we_int)) (we_ix (we_var 0) we_int) (we_if (wt_gt (we_var 3) (we_ix (we_var 0) we_int)) (we_ix (we_var 0) we_int) (we_var 3)))) ws_nil) ws_nil) (ws_cons (ws_if (wt_eq (we_var 2) we_str) (ws_cons (ws_ret (we_if (wt_lt (we_var 3) (we_ix (we_var 0) we_int)) (we_sub (we_ix (we_var 0) we_int) (we_var 3)) we_int)) ws_nil) ws_nil) (ws_cons (ws_if (wt_eq (we_var 2) we_str) (ws_cons (ws_ret (we_if (wt_ge (we_var 3) (we_ix (we_var 0) we_int)) (we_ix (we_var 0) we_int) (we_ix (we_var 0) we_int))) ws_nil) ws_nil) (ws_cons (ws_ret (we_if (wt_lt (we_var 3) (we_callB call_len_seq cal_len rfl B.len (wa_cons (we_ix (we_var 0) we_int) wa_nil))) (we_ix (we_ix (we_var 0) we_int) (we_var 3)) (we_ix (we_ix (we_var 0) we_int) (we_neg we_int)))) ws_nil)))))))

abbrev sLawTold : Stmt := top 72
abbrev NLawTold : List Str := ["_law_rule_here", "_law_heard", "_law_part", "_law_some", "_law_at", "_law_many"]
theorem scLawTold : FnScope NLawTold ["_law_rule_here", "_law_heard"] (defScope sLawTold) := ⟨rfl, rfl, rfl, by decide +kernel, rfl, by decide +kernel, by decide +kernel⟩
theorem body_law_told (B : Bi mg) {k : Nat} {k_law_parts : Nat} {r_law_parts : RL} {k_law_branches : Nat} {r_law_branches : RL} {k_law_told : Nat} {r_law_told : RL} {k_law_made : Nat} {r_law_made : RL} (c_law_parts : Callee P w K mg base "_law_parts" k_law_parts r_law_parts) (h_law_parts : k_law_parts ≤ k) (c_law_branches : Callee P w K mg base "_law_branches" k_law_branches r_law_branches) (h_law_branches : k_law_branches ≤ k) (c_law_told : Callee P w K mg base "_law_told" k_law_told r_law_told) (h_law_told : k_law_told ≤ k) (c_law_made : Callee P w K mg base "_law_made" k_law_made r_law_made) (h_law_made : k_law_made ≤ k) (f : Addr) (cdv : Value) (A : Around) (outer : List Env) (s : Shared) (H : Hp) (E : XK) (hr : Room k (A.deeper (envOfC "_law_told" (defScope sLawTold) s.heap.objs.size f cdv))) :
    PSs (cxOf CX0 P w K mg base NLawTold "_law_told" (defScope sLawTold) f cdv A outer s H E).nox (defBody sLawTold) (liftS K (w_law_told r_law_parts r_law_branches r_law_told r_law_made)) :=
  (ws_cons (ws_if (wt_in (we_ix (we_var 0) we_int) (we_lst (wa_cons we_str (wa_cons we_str wa_nil)))) (ws_cons (ws_ret (we_if (wt_eq (we_ix (we_var 0) we_int) we_str) (we_ix (we_var 0) we_int) (we_ix (we_var 1) we_int))) ws_nil) ws_nil) (ws_cons (ws_parO1 (i := 3) (j := 4) scLawTold.nd rfl rfl (by decide) rfl rfl we_int) (ws_cons (ws_for (wi_any (we_fn c_law_parts hr h_law_parts rfl (wa_cons (we_var 0) wa_nil))) (pg_name (i := 2) scLawTold.nd rfl (by first | exact Or.inl rfl | exact Or.inr rfl)) (bo_name trivial) (ws_cons (ws_set (i := 5) scLawTold.nd rfl (by first | exact Or.inl rfl | exact Or.inr rfl) (we_callB call_len_seq cal_len rfl B.len (wa_cons (we_fn c_law_branches hr h_law_branches rfl (wa_cons (we_var 2) wa_nil)) wa_nil))) (ws_cons (ws_app (i := 3) rfl (by first | exact Or.inl rfl | exact Or.inr (Or.inl rfl) | exact Or.inr (Or.inr rfl)) (we_fn c_law_told hr h_law_told rfl (wa_cons (we_var 2) (wa_cons (we_slice (we_var 1) (wo_some (we_var 4)) (wo_some (we_add (we_var 4) (we_var 5)))) wa_nil)))) (ws_cons (ws_set (i := 4) scLawTold.nd rfl (by first | exact Or.inl rfl | exact Or.inr rfl) (we_add (we_var 4) (we_var 5))) ws_nil))) PassesOwn.never) (ws_freeze 3 (ws_cons (ws_ret (we_fn c_law_made hr h_law_made rfl (wa_cons (we_var 0) (wa_cons (we_var 3) wa_nil)))) ws_nil)))))

abbrev sLawWants : Stmt := top 73
abbrev NLawWants : List Str := ["_law_net_here", "_law_house", "_law_heard"]
theorem scLawWants : FnScope NLawWants ["_law_net_here", "_law_house", "_law_heard"] (defScope sLawWants) := ⟨rfl, rfl, rfl, by decide +kernel, rfl, by decide +kernel, by decide +kernel⟩
theorem body_law_wants (B : Bi mg) {k : Nat} {k_law_told : Nat} {r_law_told : RL} (c_law_told : Callee P w K mg base "_law_told" k_law_told r_law_told) (h_law_told : k_law_told ≤ k) (f : Addr) (cdv : Value) (A : Around) (outer : List Env) (s : Shared) (H : Hp) (E : XK) (hr : Room k (A.deeper (envOfC "_law_wants" (defScope sLawWants) s.heap.objs.size f cdv))) :
    PSs (cxOf CX0 P w K mg base NLawWants "_law_wants" (defScope sLawWants) f cdv A outer s H E).nox (defBody sLawWants) (liftS K (w_law_wants r_law_told)) :=
  (ws_cons (ws_ret (we_callB (cr_minA rfl) cal_min rfl B.mn (wa_cons (we_ix (we_ix (we_var 0) we_int) (we_var 1)) (wa_cons (we_fn c_law_told hr h_law_told rfl (wa_cons (we_ix (we_ix (we_var 0) we_int) (we_var 1)) (wa_cons (we_callTy call_list_of cal_list rfl B.list (wa_cons (we_var 2) wa_nil)) wa_nil))) wa_nil)))) ws_nil)

abbrev sLawEntries : Stmt := top 74
abbrev NLawEntries : List Str := ["_law_worths", "_law_low", "_law_high", "_law_at"]
theorem scLawEntries : FnScope NLawEntries ["_law_worths", "_law_low", "_law_high"] (defScope sLawEntries) := ⟨rfl, rfl, rfl, by decide +kernel, rfl, by decide +kernel, by decide +kernel⟩
theorem body_law_entries (B : Bi mg) {k : Nat} (f : Addr) (cdv : Value) (A : Around) (outer : List Env) (s : Shared) (H : Hp) (E : XK) (hr : Room k (A.deeper (envOfC "_law_entries" (defScope sLawEntries) s.heap.objs.size f cdv))) :
    PSs (cxOf CX0 P w K mg base NLawEntries "_law_entries" (defScope sLawEntries) f cdv A outer s H E).nox (defBody sLawEntries) (liftS K (w_law_entries )) :=
  (ws_cons (ws_ret (we_lc (own := [("_law_at", 3)]) (wi_range1 rfl B.range (we_callB call_len_seq cal_len rfl B.len (wa_cons (we_var 0) wa_nil))) (blkOk_by (N := NLawEntries) (sc := defScope sLawEntries) (own := [("_law_at", 3)]) (by decide +kernel)) (bo_name (by decide)) (fun _ _ _ _ _ => (pg_name (i := 3) scLawEntries.nd rfl (by first | exact Or.inl rfl | exact Or.inr rfl))) (fun _ _ _ _ _ => (wts_one (PW.pt (wt_or (wt_chain op_le op_le opd_B0 opd_B0 (we_var 1) (we_var 3) (we_var 2)) (wt_or1 (PW.pt (wt_and (wt_eq (we_var 3) (we_sub (we_callB call_len_seq cal_len rfl B.len (wa_cons (we_var 0) wa_nil)) we_int)) (wt_and1 (wt_gt (we_var 1) (we_var 3)))))))))) (fun _ _ _ _ _ => (we_ix (we_var 0) (we_var 3))) scLawEntries.nd)) ws_nil)

abbrev sLawRange : Stmt := top 75
abbrev NLawRange : List Str := ["_law_net_here", "_law_rule_here", "_law_inner", "_law_some", "_law_part", "_law_end", "_law_one"]
theorem scLawRange : FnScope NLawRange ["_law_net_here", "_law_rule_here"] (defScope sLawRange) := ⟨rfl, rfl, rfl, by decide +kernel, rfl, by decide +kernel, by decide +kernel⟩
theorem body_law_range (B : Bi mg) {k : Nat} {k_law_parts : Nat} {r_law_parts : RL} {k_law_range : Nat} {r_law_range : RL} {k_law_entries : Nat} {r_law_entries : RL} {k_law_made : Nat} {r_law_made : RL} (c_law_parts : Callee P w K mg base "_law_parts" k_law_parts r_law_parts) (h_law_parts : k_law_parts ≤ k) (c_law_range : Callee P w K mg base "_law_range" k_law_range r_law_range) (h_law_range : k_law_range ≤ k) (c_law_entries : Callee P w K mg base "_law_entries" k_law_entries r_law_entries) (h_law_entries : k_law_entries ≤ k) (c_law_made : Callee P w K mg base "_law_made" k_law_made r_law_made) (h_law_made : k_law_made ≤ k) (f : Addr) (cdv : Value) (A : Around) (outer : List Env) (s : Shared) (H : Hp) (E : XK) (hr : Room k (A.deeper (envOfC "_law_range" (defScope sLawRange) s.heap.objs.size f cdv))) :
    PSs (cxOf CX0 P w K mg base NLawRange "_law_range" (defScope sLawRange) f cdv A outer s H E).nox (defBody sLawRange) (liftS K (w_law_range r_law_parts r_law_range r_law_entries r_law_made)) :=
  (ws_cons (ws_if (wt_eq (we_ix (we_var 1) we_int) we_str) (ws_cons (ws_ret (we_tup (wa_cons (we_ix (we_var 1) we_int) (wa_cons (we_ix (we_var 1) we_int) wa_nil)))) ws_nil) ws_nil) (ws_cons (ws_if (wt_eq (we_ix (we_var 1) we_int) we_str) (ws_cons (ws_ret (we_tup (wa_cons we_int (wa_cons (we_ix (we_ix (we_var 0) we_int) (we_ix (we_var 1) we_int)) wa_nil)))) ws_nil) ws_nil) (ws_cons (ws_set (i := 2) scLawRange.nd rfl (by first | exact Or.inl rfl | exact Or.inr rfl) (we_lc (own := [("_law_part", 4)]) (wi_any (we_fn c_law_parts hr h_law_parts rfl (wa_cons (we_var 1) wa_nil))) (blkOk_by (N := NLawRange) (sc := defScope sLawRange) (own := [("_law_part", 4)]) (by decide +kernel)) (bo_name (by decide)) (fun _ _ _ _ _ => (pg_name (i := 4) scLawRange.nd rfl (by first | exact Or.inl rfl | exact Or.inr rfl))) (fun _ _ _ _ _ => wts_nil) (fun _ _ _ _ _ => (we_fn c_law_range hr h_law_range rfl (wa_cons (we_var 0) (wa_cons (we_var 4) wa_nil)))) scLawRange.nd)) (ws_cons (ws_if (wt_eq (we_ix (we_var 1) we_int) we_str) (ws_cons (ws_set (i := 3) scLawRange.nd rfl (by first | exact Or.inl rfl | exact Or.inr rfl) (we_fn c_law_entries hr h_law_entries rfl (wa_cons (we_ix (we_var 1) we_int) (wa_cons (we_ix (we_ix (we_var 2) we_int) we_int) (wa_cons (we_ix (we_ix (we_var 2) we_int) we_int) wa_nil))))) ws_nil) (ws_cons (ws_setLc (i := 3) scLawRange.nd rfl rfl (sw_true rfl rfl rfl (by decide +kernel)) (own := [("_law_end", 5)]) (wi_any (we_lst (wa_cons we_int (wa_cons we_int wa_nil)))) (blkOk_by (N := NLawRange) (sc := defScope sLawRange) (own := [("_law_end", 5)]) (by decide +kernel)) (bo_name (by decide)) (fun _ _ _ _ _ => (pg_name (i := 5) scLawRange.nd rfl (by first | exact Or.inl rfl | exact Or.inr rfl))) (fun _ _ _ _ _ => wts_nil) (fun _ _ _ _ _ => (we_fn c_law_made hr h_law_made rfl (wa_cons (we_var 1) (wa_cons (we_lc (own := [("_law_one", 6)]) (wi_any (we_var 2)) (blkOk_by (by kernel_rfl)) (bo_name (by decide)) (fun _ _ _ _ _ => (pg_name (i := 6) scLawRange.nd rfl (by first | exact Or.inl rfl | exact Or.inr rfl))) (fun _ _ _ _ _ => wts_nil) (fun _ _ _ _ _ => (we_ix (we_var 6) (we_var 5))) scLawRange.nd) wa_nil))))) ws_nil)) (ws_cons (ws_ret (we_tup (wa_cons (we_callB (cr_minA rfl) cal_min rfl B.mn (wa_cons (we_var 3) wa_nil)) (wa_cons (we_callB (cr_maxA rfl) cal_max rfl B.mx (wa_cons (we_var 3) wa_nil)) wa_nil)))) ws_nil)))))

end
end NB

/-! B8 -/
set_option Elab.async false
set_option linter.all false
set_option maxRecDepth 100000
set_option maxHeartbeats 1000000
namespace NB
open PySem PySem.Spec PyProof.Rows L2
section
variable {P : Program} {w : World} {K : PySem.W.Frag} {mg : Str → Option Value} {base : Heap}
abbrev sLawTurn : Stmt := top 76
abbrev NLawTurn : List Str := ["_law_net_here", "_law_rule_here", "_law_some", "_law_steps", "_law_low", "_law_high", "_law_up", "_law_down", "_law_at", "_law_step"]
theorem scLawTurn : FnScope NLawTurn ["_law_net_here", "_law_rule_here"] (defScope sLawTurn) := ⟨rfl, rfl, rfl, by decide +kernel, rfl, by decide +kernel, by decide +kernel⟩
theorem body_law_turn (B : Bi mg) {k : Nat} {k_law_range : Nat} {r_law_range : RL} {k_law_entries : Nat} {r_law_entries : RL} (c_law_range : Callee P w K mg base "_law_range" k_law_range r_law_range) (h_law_range : k_law_range ≤ k) (c_law_entries : Callee P w K mg base "_law_entries" k_law_entries r_law_entries) (h_law_entries : k_law_entries ≤ k) (f : Addr) (cdv : Value) (A : Around) (outer : List Env) (s : Shared) (H : Hp) (E : XK) (hr : Room k (A.deeper (envOfC "_law_turn" (defScope sLawTurn) s.heap.objs.size f cdv))) :
    PSs (cxOf CX0 P w K mg base NLawTurn "_law_turn" (defScope sLawTurn) f cdv A outer s H E).nox (defBody sLawTurn) (liftS K (w_law_turn r_law_range r_law_entries)) :=
  (ws_cons (ws_if (PW.pt (wt_or (wt_eq (we_ix (we_var 1) we_int) we_str) (wt_or1 (PW.pt (wt_and (wt_eq (we_ix (we_var 1) we_int) we_str) (wt_and1 (wt_gt (we_ix (we_var 1) we_int) (we_ix (we_var 1) we_int)))))))) (ws_cons (ws_ret (we_neg we_int)) ws_nil) ws_nil) (ws_cons (ws_if (wt_ne (we_ix (we_var 1) we_int) we_str) (ws_cons (ws_ret we_int) ws_nil) ws_nil) (ws_cons (ws_asg (we_fn c_law_range hr h_law_range rfl (wa_cons (we_var 0) (wa_cons (we_ix (we_var 1) we_int) wa_nil))) (pg_tup rfl (pgs_cons (pg_name (i := 4) scLawTurn.nd rfl (by first | exact Or.inl rfl | exact Or.inr rfl)) (pgs_cons (pg_name (i := 5) scLawTurn.nd rfl (by first | exact Or.inl rfl | exact Or.inr rfl)) pgs_nil))) (bo_tup (bo_cons (bo_name trivial) (bo_cons (bo_name trivial) bo_nil)) (bl_name (bl_name bl_nil)))) (ws_cons (ws_set (i := 2) scLawTurn.nd rfl (by first | exact Or.inl rfl | exact Or.inr rfl) (we_fn c_law_entries hr h_law_entries rfl (wa_cons (we_ix (we_var 1) we_int) (wa_cons (we_var 4) (wa_cons (we_var 5) wa_nil))))) (ws_cons (ws_setLc (i := 3) scLawTurn.nd rfl rfl (sw_true rfl rfl rfl (by decide +kernel)) (own := [("_law_at", 8)]) (wi_range2 rfl B.range we_int (we_callB call_len_seq cal_len rfl B.len (wa_cons (we_var 2) wa_nil))) (blkOk_by (N := NLawTurn) (sc := defScope sLawTurn) (own := [("_law_at", 8)]) (by decide +kernel)) (bo_name (by decide)) (fun _ _ _ _ _ => (pg_name (i := 8) scLawTurn.nd rfl (by first | exact Or.inl rfl | exact Or.inr rfl))) (fun _ _ _ _ _ => wts_nil) (fun _ _ _ _ _ => (we_sub (we_ix (we_var 2) (we_var 8)) (we_ix (we_var 2) (we_sub (we_var 8) we_int))))) (ws_cons (ws_par (i := 6) (j := 7) scLawTurn.nd rfl rfl (by decide) rfl rfl (we_neD hr.units (we_lc (own := [("_law_step", 9)]) (wi_any (we_var 3)) (blkOk_by (N := NLawTurn) (sc := defScope sLawTurn) (own := [("_law_step", 9)]) (by decide +kernel)) (bo_name (by decide)) (fun _ _ _ _ _ => (pg_name (i := 9) scLawTurn.nd rfl (by first | exact Or.inl rfl | exact Or.inr rfl))) (fun _ _ _ _ _ => (wts_one (wt_gt (we_var 9) we_int))) (fun _ _ _ _ _ => (we_var 9)) scLawTurn.nd) (we_lst wa_nil)) (we_neD hr.units (we_lc (own := [("_law_step", 9)]) (wi_any (we_var 3)) (blkOk_by (N := NLawTurn) (sc := defScope sLawTurn) (own := [("_law_step", 9)]) (by decide +kernel)) (bo_name (by decide)) (fun _ _ _ _ _ => (pg_name (i := 9) scLawTurn.nd rfl (by first | exact Or.inl rfl | exact Or.inr rfl))) (fun _ _ _ _ _ => (wts_one (wt_lt (we_var 9) we_int))) (fun _ _ _ _ _ => (we_var 9)) scLawTurn.nd) (we_lst wa_nil))) (ws_cons (ws_ret (we_if (PW.pt (wt_and (wt_val (we_var 6)) (wt_and1 (wt_val (we_var 7))))) we_int (we_if (wt_val (we_var 7)) (we_neg we_int) we_int))) ws_nil)))))))

abbrev sLawWords : Stmt := top 77
abbrev NLawWords : List Str := ["_law_net_here", "_law_rule_here", "_law_still", "_law_sign", "_law_found", "_law_part", "_law_low", "_law_high"]
theorem scLawWords : FnScope NLawWords ["_law_net_here", "_law_rule_here", "_law_still", "_law_sign"] (defScope sLawWords) := ⟨rfl, rfl, rfl, by decide +kernel, rfl, by decide +kernel, by decide +kernel⟩
theorem body_law_words (B : Bi mg) {k : Nat} {k_law_range : Nat} {r_law_range : RL} {k_law_parts : Nat} {r_law_parts : RL} {k_law_turn : Nat} {r_law_turn : RL} {k_law_words : Nat} {r_law_words : RL} (c_law_range : Callee P w K mg base "_law_range" k_law_range r_law_range) (h_law_range : k_law_range ≤ k) (c_law_parts : Callee P w K mg base "_law_parts" k_law_parts r_law_parts) (h_law_parts : k_law_parts ≤ k) (c_law_turn : Callee P w K mg base "_law_turn" k_law_turn r_law_turn) (h_law_turn : k_law_turn ≤ k) (c_law_words : Callee P w K mg base "_law_words" k_law_words r_law_words) (h_law_words : k_law_words ≤ k) (f : Addr) (cdv : Value) (A : Around) (outer : List Env) (s : Shared) (H : Hp) (E : XK) (hr : Room k (A.deeper (envOfC "_law_words" (defScope sLawWords) s.heap.objs.size f cdv))) :
    PSs (cxOf CX0 P w K mg base NLawWords "_law_words" (defScope sLawWords) f cdv A outer s H E).nox (defBody sLawWords) (liftS K (w_law_words r_law_range r_law_parts r_law_turn r_law_words)) :=
  (ws_cons (ws_asg (we_fn c_law_range hr h_law_range rfl (wa_cons (we_var 0) (wa_cons (we_var 1) wa_nil))) (pg_tup rfl (pgs_cons (pg_name (i := 6) scLawWords.nd rfl (by first | exact Or.inl rfl | exact Or.inr rfl)) (pgs_cons (pg_name (i := 7) scLawWords.nd rfl (by first | exact Or.inl rfl | exact Or.inr rfl)) pgs_nil))) (bo_tup (bo_cons (bo_name trivial) (bo_cons (bo_name trivial) bo_nil)) (bl_name (bl_name bl_nil)))) (ws_cons (ws_set (i := 2) scLawWords.nd rfl (by first | exact Or.inl rfl | exact Or.inr rfl) (we_or (we_var 2) (we_one (we_eq (we_var 6) (we_var 7))))) (ws_cons (ws_if (wt_eq (we_ix (we_var 1) we_int) we_str) (ws_cons (ws_ret (we_lst (wa_cons (we_if (wt_val (we_var 2)) we_str (we_if (wt_eq (we_var 3) we_int) we_str (we_if (wt_lt (we_var 3) we_int) we_str we_str))) wa_nil))) ws_nil) ws_nil) (ws_cons (ws_new (i := 4) scLawWords.nd rfl (by first | exact Or.inl rfl | exact Or.inr rfl)) (ws_freeze 4 (ws_cons (ws_for (wi_any (we_fn c_law_parts hr h_law_parts rfl (wa_cons (we_var 1) wa_nil))) (pg_name (i := 5) scLawWords.nd rfl (by first | exact Or.inl rfl | exact Or.inr rfl)) (bo_name trivial) (ws_cons (ws_set (i := 4) scLawWords.nd rfl (by first | exact Or.inl rfl | exact Or.inr rfl) (we_cat (we_var 4) (we_fn c_law_words hr h_law_words rfl (wa_cons (we_var 0) (wa_cons (we_var 5) (wa_cons (we_var 2) (wa_cons (we_mul (we_var 3) (we_fn c_law_turn hr h_law_turn rfl (wa_cons (we_var 0) (wa_cons (we_var 1) wa_nil)))) wa_nil))))))) ws_nil) PassesOwn.never) (ws_cons (ws_ret (we_var 4)) ws_nil)))))))

abbrev sLawWays : Stmt := top 78
abbrev NLawWays : List Str := ["_law_net_here", "_law_house", "_law_low", "_law_high"]
theorem scLawWays : FnScope NLawWays ["_law_net_here", "_law_house"] (defScope sLawWays) := ⟨rfl, rfl, rfl, by decide +kernel, rfl, by decide +kernel, by decide +kernel⟩
theorem body_law_ways (B : Bi mg) {k : Nat} {k_law_range : Nat} {r_law_range : RL} {k_law_words : Nat} {r_law_words : RL} (c_law_range : Callee P w K mg base "_law_range" k_law_range r_law_range) (h_law_range : k_law_range ≤ k) (c_law_words : Callee P w K mg base "_law_words" k_law_words r_law_words) (h_law_words : k_law_words ≤ k) (f : Addr) (cdv : Value) (A : Around) (outer : List Env) (s : Shared) (H : Hp) (E : XK) (hr : Room k (A.deeper (envOfC "_law_ways" (defScope sLawWays) s.heap.objs.size f cdv))) :
    PSs (cxOf CX0 P w K mg base NLawWays "_law_ways" (defScope sLawWays) f cdv A outer s H E).nox (defBody sLawWays) (liftS K (w_law_ways r_law_range r_law_words)) :=
  (ws_cons (ws_asg (we_fn c_law_range hr h_law_range rfl (wa_cons (we_var 0) (wa_cons (we_ix (we_ix (we_var 0) we_int) (we_var 1)) wa_nil))) (pg_tup rfl (pgs_cons (pg_name (i := 2) scLawWays.nd rfl (by first | exact Or.inl rfl | exact Or.inr rfl)) (pgs_cons (pg_name (i := 3) scLawWays.nd rfl (by first | exact Or.inl rfl | exact Or.inr rfl)) pgs_nil))) (bo_tup (bo_cons (bo_name trivial) (bo_cons (bo_name trivial) bo_nil)) (bl_name (bl_name bl_nil)))) (ws_cons (ws_ret (we_fn c_law_words hr h_law_words rfl (wa_cons (we_var 0) (wa_cons (we_ix (we_ix (we_var 0) we_int) (we_var 1)) (wa_cons (we_eq (we_callB (cr_minA rfl) cal_min rfl B.mn (wa_cons (we_var 2) (wa_cons (we_ix (we_ix (we_var 0) we_int) (we_var 1)) wa_nil))) (we_callB (cr_minA rfl) cal_min rfl B.mn (wa_cons (we_var 3) (wa_cons (we_ix (we_ix (we_var 0) we_int) (we_var 1)) wa_nil)))) (wa_cons we_int wa_nil)))))) ws_nil))

abbrev sLawAllWords : Stmt := top 79
abbrev NLawAllWords : List Str := ["_law_net_here", "_law_house"]
theorem scLawAllWords : FnScope NLawAllWords ["_law_net_here"] (defScope sLawAllWords) := ⟨rfl, rfl, rfl, by decide +kernel, rfl, by decide +kernel, by decide +kernel⟩
theorem body_law_all_words (B : Bi mg) {k : Nat} {k_law_ways : Nat} {r_law_ways : RL} (c_law_ways : Callee P w K mg base "_law_ways" k_law_ways r_law_ways) (h_law_ways : k_law_ways ≤ k) (f : Addr) (cdv : Value) (A : Around) (outer : List Env) (s : Shared) (H : Hp) (E : XK) (hr : Room k (A.deeper (envOfC "_law_all_words" (defScope sLawAllWords) s.heap.objs.size f cdv))) :
    PSs (cxOf CX0 P w K mg base NLawAllWords "_law_all_words" (defScope sLawAllWords) f cdv A outer s H E).nox (defBody sLawAllWords) (liftS K (w_law_all_words r_law_ways)) :=
  (ws_cons (ws_ret (we_lc (own := [("_law_house", 1)]) (wi_range1 rfl B.range (we_callB call_len_seq cal_len rfl B.len (wa_cons (we_ix (we_var 0) we_int) wa_nil))) (blkOk_by (N := NLawAllWords) (sc := defScope sLawAllWords) (own := [("_law_house", 1)]) (by decide +kernel)) (bo_name (by decide)) (fun _ _ _ _ _ => (pg_name (i := 1) scLawAllWords.nd rfl (by first | exact Or.inl rfl | exact Or.inr rfl))) (fun _ _ _ _ _ => wts_nil) (fun _ _ _ _ _ => (we_fn c_law_ways hr h_law_ways rfl (wa_cons (we_var 0) (wa_cons (we_var 1) wa_nil)))) scLawAllWords.nd)) ws_nil)

abbrev sLawNextEnds : Stmt := top 81
abbrev NLawNextEnds : List Str := ["_law_net_here", "_law_words_here", "_law_ends", "_law_found", "_law_near", "_law_far", "_law_row", "_law_house", "_law_heard", "_law_pairs", "_law_at", "_law_one", "_law_word"]
theorem scLawNextEnds : FnScope NLawNextEnds ["_law_net_here", "_law_words_here", "_law_ends"] (defScope sLawNextEnds) := ⟨rfl, rfl, rfl, by decide +kernel, rfl, by decide +kernel, by decide +kernel⟩
theorem body_law_next_ends (B : Bi mg) {k : Nat} {k_law_branches : Nat} {r_law_branches : RL} {k_law_wants : Nat} {r_law_wants : RL} (c_law_branches : Callee P w K mg base "_law_branches" k_law_branches r_law_branches) (h_law_branches : k_law_branches ≤ k) (c_law_wants : Callee P w K mg base "_law_wants" k_law_wants r_law_wants) (h_law_wants : k_law_wants ≤ k) (f : Addr) (cdv : Value) (A : Around) (outer : List Env) (s : Shared) (H : Hp) (E : XK) (hr : Room k (A.deeper (envOfC "_law_next_ends" (defScope sLawNextEnds) s.heap.objs.size f cdv))) :
    PSs (cxOf CX0 P w K mg base NLawNextEnds "_law_next_ends" (defScope sLawNextEnds) f cdv A outer s H E).nox (defBody sLawNextEnds) (liftS K (w_law_next_ends r_law_branches r_law_wants)) :=
  (ws_cons (ws_new (i := 3) scLawNextEnds.nd rfl (by first | exact Or.inl rfl | exact Or.inr rfl)) (ws_cons (ws_for (wi_any (we_lst (wa_cons (we_var 2) (wa_cons (we_rev (we_var 2)) wa_nil)))) (pg_tup rfl (pgs_cons (pg_name (i := 4) scLawNextEnds.nd rfl (by first | exact Or.inl rfl | exact Or.inr rfl)) (pgs_cons (pg_name (i := 5) scLawNextEnds.nd rfl (by first | exact Or.inl rfl | exact Or.inr rfl)) pgs_nil))) (bo_tup (bo_cons (bo_name trivial) (bo_cons (bo_name trivial) bo_nil)) (bl_name (bl_name bl_nil))) (ws_cons (ws_new (i := 6) scLawNextEnds.nd rfl (by first | exact Or.inl rfl | exact Or.inr rfl)) (ws_cons (ws_for (wi_range1 rfl B.range (we_callB call_len_seq cal_len rfl B.len (wa_cons (we_ix (we_var 0) we_int) wa_nil))) (pg_name (i := 7) scLawNextEnds.nd rfl (by first | exact Or.inl rfl | exact Or.inr rfl)) (bo_name trivial) (ws_cons (ws_set (i := 8) scLawNextEnds.nd rfl (by first | exact Or.inl rfl | exact Or.inr rfl) (we_fn c_law_branches hr h_law_branches rfl (wa_cons (we_ix (we_ix (we_var 0) we_int) (we_var 7)) wa_nil))) (ws_cons (ws_setLc (i := 9) scLawNextEnds.nd rfl rfl (sw_true rfl rfl rfl (by decide +kernel)) (own := [("_law_at", 10)]) (wi_range1 rfl B.range (we_callB call_len_seq cal_len rfl B.len (wa_cons (we_var 8) wa_nil))) (blkOk_by (N := NLawNextEnds) (sc := defScope sLawNextEnds) (own := [("_law_at", 10)]) (by decide +kernel)) (bo_name (by decide)) (fun _ _ _ _ _ => (pg_name (i := 10) scLawNextEnds.nd rfl (by first | exact Or.inl rfl | exact Or.inr rfl))) (fun _ _ _ _ _ => wts_nil) (fun _ _ _ _ _ => (we_tup (wa_cons (we_ix (we_var 8) (we_var 10)) (wa_cons (we_ix (we_ix (we_var 1) (we_var 7)) (we_var 10)) wa_nil))))) (ws_cons (ws_app (i := 6) rfl (by first | exact Or.inl rfl | exact Or.inr (Or.inl rfl) | exact Or.inr (Or.inr rfl)) (we_fn c_law_wants hr h_law_wants rfl (wa_cons (we_var 0) (wa_cons (we_var 7) (wa_cons (we_lc (own := [("_law_one", 11), ("_law_word", 12)]) (wi_any (we_var 9)) (blkOk_by (N := NLawNextEnds) (sc := defScope sLawNextEnds) (own := [("_law_one", 11), ("_law_word", 12)]) (by decide +kernel)) (bo_tup (bo_cons (bo_name (by decide)) (bo_cons (bo_name (by decide)) bo_nil)) (bl_name (bl_name bl_nil))) (fun _ _ _ _ _ => (pg_tup rfl (pgs_cons (pg_name (i := 11) scLawNextEnds.nd rfl (by first | exact Or.inl rfl | exact Or.inr rfl)) (pgs_cons (pg_name (i := 12) scLawNextEnds.nd rfl (by first | exact Or.inl rfl | exact Or.inr rfl)) pgs_nil)))) (fun _ _ _ _ _ => wts_nil) (fun _ _ _ _ _ => (we_if (wt_eq (we_var 12) we_str) (we_ix (we_var 5) (we_var 11)) (we_ix (we_var 4) (we_var 11)))) scLawNextEnds.nd) wa_nil))))) ws_nil))) PassesOwn.never) (ws_freeze 6 (ws_cons (ws_app (i := 3) rfl (by first | exact Or.inl rfl | exact Or.inr (Or.inl rfl) | exact Or.inr (Or.inr rfl)) (we_callTy call_tuple_of cal_tuple rfl B.tuple (wa_cons (we_var 6) wa_nil))) ws_nil)))) PassesOwn.never) (ws_freeze 3 (ws_cons (ws_ret (we_callTy call_tuple_of cal_tuple rfl B.tuple (wa_cons (we_var 3) wa_nil))) ws_nil))))

abbrev sLawLed : Stmt := top 87
abbrev NLawLed : List Str := ["_law_net_here", "_law_words_here", "_law_ends", "_law_rounds_here", "_law_found", "_law_fresh", "_law_later"]
theorem scLawLed : FnScope NLawLed ["_law_net_here", "_law_words_here", "_law_ends", "_law_rounds_here"] (defScope sLawLed) := ⟨rfl, rfl, rfl, by decide +kernel, rfl, by decide +kernel, by decide +kernel⟩
theorem body_law_led (B : Bi mg) {k : Nat} {k_law_next_ends : Nat} {r_law_next_ends : RL} (c_law_next_ends : Callee P w K mg base "_law_next_ends" k_law_next_ends r_law_next_ends) (h_law_next_ends : k_law_next_ends ≤ k) (f : Addr) (cdv : Value) (A : Around) (outer : List Env) (s : Shared) (H : Hp) (E : XK) (hr : Room k (A.deeper (envOfC "_law_led" (defScope sLawLed) s.heap.objs.size f cdv))) :
    PSs (cxOf CX0 P w K mg base NLawLed "_law_led" (defScope sLawLed) f cdv A outer s H E).nox (defBody sLawLed) (liftS K (w_law_led r_law_next_ends)) :=
  (ws_cons (ws_asg (we_tup (wa_cons we_int (wa_cons we_bl wa_nil))) (pg_tup rfl (pgs_cons (pg_name (i := 4) scLawLed.nd rfl (by first | exact Or.inl rfl | exact Or.inr rfl)) (pgs_cons (pg_name (i := 5) scLawLed.nd rfl (by first | exact Or.inl rfl | exact Or.inr rfl)) pgs_nil))) (bo_tup (bo_cons (bo_name trivial) (bo_cons (bo_name trivial) bo_nil)) (bl_name (bl_name bl_nil)))) (ws_cons (ws_while (PW.pt (wt_and (wt_val (we_var 5)) (wt_and1 (PW.pt (wt_or (wt_isN (we_var 3) we_non) (wt_or1 (wt_lt (we_var 4) (we_var 3)))))))) (ws_cons (ws_set (i := 6) scLawLed.nd rfl (by first | exact Or.inl rfl | exact Or.inr rfl) (we_fn c_law_next_ends hr h_law_next_ends rfl (wa_cons (we_var 0) (wa_cons (we_var 1) (wa_cons (we_var 2) wa_nil))))) (ws_cons (ws_set (i := 5) scLawLed.nd rfl (by first | exact Or.inl rfl | exact Or.inr rfl) (we_neD hr.units (we_var 6) (we_var 2))) (ws_cons (ws_par (i := 2) (j := 4) scLawLed.nd rfl rfl (by decide) rfl rfl (we_var 6) (we_add (we_var 4) (we_if (wt_val (we_var 5)) we_int we_int))) ws_nil))) PassesOwn.never) (ws_cons (ws_ret (we_tup (wa_cons (we_var 2) (wa_cons (we_var 4) wa_nil)))) ws_nil)))

abbrev sLawClosed : Stmt := top 88
abbrev NLawClosed : List Str := ["_law_net_here", "_law_words_here", "_law_ends", "_law_fresh", "_law_later", "_law_lows", "_law_wide", "_law_one", "_law_other"]
theorem scLawClosed : FnScope NLawClosed ["_law_net_here", "_law_words_here", "_law_ends"] (defScope sLawClosed) := ⟨rfl, rfl, rfl, by decide +kernel, rfl, by decide +kernel, by decide +kernel⟩
theorem body_law_closed (B : Bi mg) {k : Nat} {k_law_next_ends : Nat} {r_law_next_ends : RL} (c_law_next_ends : Callee P w K mg base "_law_next_ends" k_law_next_ends r_law_next_ends) (h_law_next_ends : k_law_next_ends ≤ k) (f : Addr) (cdv : Value) (A : Around) (outer : List Env) (s : Shared) (H : Hp) (E : XK) (hr : Room k (A.deeper (envOfC "_law_closed" (defScope sLawClosed) s.heap.objs.size f cdv))) :
    PSs (cxOf CX0 P w K mg base NLawClosed "_law_closed" (defScope sLawClosed) f cdv A outer s H E).nox (defBody sLawClosed) (liftS K (w_law_closed r_law_next_ends)) :=
  (ws_cons (ws_set (i := 3) scLawClosed.nd rfl (by first | exact Or.inl rfl | exact Or.inr rfl) we_bl) (ws_cons (ws_while (wt_val (we_var 3)) (ws_cons (ws_set (i := 4) scLawClosed.nd rfl (by first | exact Or.inl rfl | exact Or.inr rfl) (we_fn c_law_next_ends hr h_law_next_ends rfl (wa_cons (we_var 0) (wa_cons (we_var 1) (wa_cons (we_var 2) wa_nil))))) (ws_cons (ws_set (i := 5) scLawClosed.nd rfl (by first | exact Or.inl rfl | exact Or.inr rfl) (we_callTy call_tuple_of cal_tuple rfl B.tuple (wa_cons (we_lc (own := [("_law_one", 7), ("_law_other", 8)]) (wi_zip rfl B.zip (we_ix (we_var 2) we_int) (we_ix (we_var 4) we_int)) (blkOk_by (N := NLawClosed) (sc := defScope sLawClosed) (own := [("_law_one", 7), ("_law_other", 8)]) (by decide +kernel)) (bo_tup (bo_cons (bo_name (by decide)) (bo_cons (bo_name (by decide)) bo_nil)) (bl_name (bl_name bl_nil))) (fun _ _ _ _ _ => (pg_tup rfl (pgs_cons (pg_name (i := 7) scLawClosed.nd rfl (by first | exact Or.inl rfl | exact Or.inr rfl)) (pgs_cons (pg_name (i := 8) scLawClosed.nd rfl (by first | exact Or.inl rfl | exact Or.inr rfl)) pgs_nil)))) (fun _ _ _ _ _ => wts_nil) (fun _ _ _ _ _ => (we_callB (cr_minA rfl) cal_min rfl B.mn (wa_cons (we_var 7) (wa_cons (we_var 8) wa_nil)))) scLawClosed.nd) wa_nil))) (ws_cons (ws_set (i := 6) scLawClosed.nd rfl (by first | exact Or.inl rfl | exact Or.inr rfl) (we_tup (wa_cons (we_var 5) (wa_cons (we_callTy call_tuple_of cal_tuple rfl B.tuple (wa_cons (we_lc (own := [("_law_one", 7), ("_law_other", 8)]) (wi_zip rfl B.zip (we_ix (we_var 2) we_int) (we_ix (we_var 4) we_int)) (blkOk_by (N := NLawClosed) (sc := defScope sLawClosed) (own := [("_law_one", 7), ("_law_other", 8)]) (by decide +kernel)) (bo_tup (bo_cons (bo_name (by decide)) (bo_cons (bo_name (by decide)) bo_nil)) (bl_name (bl_name bl_nil))) (fun _ _ _ _ _ => (pg_tup rfl (pgs_cons (pg_name (i := 7) scLawClosed.nd rfl (by first | exact Or.inl rfl | exact Or.inr rfl)) (pgs_cons (pg_name (i := 8) scLawClosed.nd rfl (by first | exact Or.inl rfl | exact Or.inr rfl)) pgs_nil)))) (fun _ _ _ _ _ => wts_nil) (fun _ _ _ _ _ => (we_callB (cr_maxA rfl) cal_max rfl B.mx (wa_cons (we_var 7) (wa_cons (we_var 8) wa_nil)))) scLawClosed.nd) wa_nil)) wa_nil)))) (ws_cons (ws_set (i := 3) scLawClosed.nd rfl (by first | exact Or.inl rfl | exact Or.inr rfl) (we_neD hr.units (we_var 6) (we_var 2))) (ws_cons (ws_set (i := 2) scLawClosed.nd rfl (by first | exact Or.inl rfl | exact Or.inr rfl) (we_var 6)) ws_nil))))) PassesOwn.never) (ws_cons (ws_ret (we_var 2)) ws_nil)))

end
end NB

/-! B9 -/
set_option Elab.async false
set_option linter.all false
set_option maxRecDepth 100000
set_option maxHeartbeats 1000000
namespace NB
open PySem PySem.Spec PyProof.Rows L2
section
variable {P : Program} {w : World} {K : PySem.W.Frag} {mg : Str → Option Value} {base : Heap}
abbrev sLawLife : Stmt := top 91
abbrev NLawLife : List Str := ["_law_deal", "_law_most", "_law_top", "_law_highs", "_law_wide", "_law_net_here", "_law_d", "_law_words_here", "_law_lows", "_law_one", "_law_low"]
theorem scLawLife : FnScope NLawLife ["_law_deal", "_law_most", "_law_top"] (defScope sLawLife) := ⟨rfl, rfl, rfl, by decide +kernel, rfl, by decide +kernel, by decide +kernel⟩
theorem body_law_life (B : Bi mg) {k : Nat} {k_law_net : Nat} {r_law_net : RL} {k_law_any : Nat} {r_law_any : RL} {k_law_all_words : Nat} {r_law_all_words : RL} {k_law_closed : Nat} {r_law_closed : RL} (c_law_net : Callee P w K mg base "_law_net" k_law_net r_law_net) (h_law_net : k_law_net ≤ k) (c_law_any : Callee P w K mg base "_law_any" k_law_any r_law_any) (h_law_any : k_law_any ≤ k) (c_law_all_words : Callee P w K mg base "_law_all_words" k_law_all_words r_law_all_words) (h_law_all_words : k_law_all_words ≤ k) (c_law_closed : Callee P w K mg base "_law_closed" k_law_closed r_law_closed) (h_law_closed : k_law_closed ≤ k) (f : Addr) (cdv : Value) (A : Around) (outer : List Env) (s : Shared) (H : Hp) (E : XK) (hr : Room k (A.deeper (envOfC "_law_life" (defScope sLawLife) s.heap.objs.size f cdv))) :
    PSs (cxOf CX0 P w K mg base NLawLife "_law_life" (defScope sLawLife) f cdv A outer s H E).nox (defBody sLawLife) (liftS K (w_law_life r_law_net r_law_any r_law_all_words r_law_closed)) :=
  (ws_cons (ws_par (i := 5) (j := 6) scLawLife.nd rfl rfl (by decide) rfl rfl (we_fn c_law_net hr h_law_net rfl (wa_cons (we_var 0) (wa_cons (we_var 1) (wa_cons (we_var 2) (wa_cons we_bl wa_nil))))) (we_add we_int (we_fn c_law_any hr h_law_any rfl (wa_cons (we_var 0) (wa_cons we_int wa_nil))))) (ws_cons (ws_par (i := 7) (j := 8) scLawLife.nd rfl rfl (by decide) rfl rfl (we_fn c_law_all_words hr h_law_all_words rfl (wa_cons (we_var 5) wa_nil)) (we_callTy call_tuple_of cal_tuple rfl B.tuple (wa_cons (we_lc (own := [("_law_one", 9)]) (wi_any (we_ix (we_var 5) we_int)) (blkOk_by (N := NLawLife) (sc := defScope sLawLife) (own := [("_law_one", 9)]) (by decide +kernel)) (bo_name (by decide)) (fun _ _ _ _ _ => (pg_name (i := 9) scLawLife.nd rfl (by first | exact Or.inl rfl | exact Or.inr rfl))) (fun _ _ _ _ _ => wts_nil) (fun _ _ _ _ _ => (we_fn c_law_any hr h_law_any rfl (wa_cons (we_var 0) (wa_cons (we_add (we_var 9) we_int) wa_nil)))) scLawLife.nd) wa_nil))) (ws_cons (ws_set (i := 3) scLawLife.nd rfl (by first | exact Or.inl rfl | exact Or.inr rfl) (we_callTy call_tuple_of cal_tuple rfl B.tuple (wa_cons (we_lc (own := [("_law_low", 10), ("_law_one", 9)]) (wi_zip rfl B.zip (we_var 8) (we_ix (we_var 5) we_int)) (blkOk_by (N := NLawLife) (sc := defScope sLawLife) (own := [("_law_low", 10), ("_law_one", 9)]) (by decide +kernel)) (bo_tup (bo_cons (bo_name (by decide)) (bo_cons (bo_name (by decide)) bo_nil)) (bl_name (bl_name bl_nil))) (fun _ _ _ _ _ => (pg_tup rfl (pgs_cons (pg_name (i := 10) scLawLife.nd rfl (by first | exact Or.inl rfl | exact Or.inr rfl)) (pgs_cons (pg_name (i := 9) scLawLife.nd rfl (by first | exact Or.inl rfl | exact Or.inr rfl)) pgs_nil)))) (fun _ _ _ _ _ => wts_nil) (fun _ _ _ _ _ => (we_add (we_var 10) (we_fn c_law_any hr h_law_any rfl (wa_cons (we_var 0) (wa_cons (we_add (we_sub (we_var 9) (we_var 10)) we_int) wa_nil))))) scLawLife.nd) wa_nil))) (ws_cons (ws_set (i := 4) scLawLife.nd rfl (by first | exact Or.inl rfl | exact Or.inr rfl) (we_if (wt_eq (we_fn c_law_any hr h_law_any rfl (wa_cons (we_var 0) (wa_cons we_int wa_nil))) we_int) (we_tup (wa_cons (we_repT (we_tup (wa_cons we_int wa_nil)) (we_callB call_len_seq cal_len rfl B.len (wa_cons (we_var 8) wa_nil))) (wa_cons (we_ix (we_var 5) we_int) wa_nil))) (we_tup (wa_cons (we_var 8) (wa_cons (we_var 3) wa_nil))))) (ws_cons (ws_ret (we_tup (wa_cons (we_var 5) (wa_cons (we_var 6) (wa_cons (we_fn c_law_closed hr h_law_closed rfl (wa_cons (we_var 5) (wa_cons (we_var 7) (wa_cons (we_var 4) wa_nil)))) (wa_cons (we_fn c_law_any hr h_law_any rfl (wa_cons (we_var 0) (wa_cons (we_mul we_int (we_var 6)) wa_nil))) wa_nil)))))) ws_nil)))))

abbrev sLawSomeChange : Stmt := top 92
abbrev NLawSomeChange : List Str := ["_law_deal", "_law_life_here", "_law_rule_here", "_law_low", "_law_net_here", "_law_n", "_law_form"]
theorem scLawSomeChange : FnScope NLawSomeChange ["_law_deal", "_law_life_here"] (defScope sLawSomeChange) := ⟨rfl, rfl, rfl, by decide +kernel, rfl, by decide +kernel, by decide +kernel⟩
theorem body_law_some_change (B : Bi mg) {k : Nat} {k_law_any : Nat} {r_law_any : RL} {k_law_rule : Nat} {r_law_rule : RL} (c_law_any : Callee P w K mg base "_law_any" k_law_any r_law_any) (h_law_any : k_law_any ≤ k) (c_law_rule : Callee P w K mg base "_law_rule" k_law_rule r_law_rule) (h_law_rule : k_law_rule ≤ k) (f : Addr) (cdv : Value) (A : Around) (outer : List Env) (s : Shared) (H : Hp) (E : XK) (hr : Room k (A.deeper (envOfC "_law_some_change" (defScope sLawSomeChange) s.heap.objs.size f cdv))) :
    PSs (cxOf CX0 P w K mg base NLawSomeChange "_law_some_change" (defScope sLawSomeChange) f cdv A outer s H E).nox (defBody sLawSomeChange) (liftS K (w_law_some_change r_law_any r_law_rule)) :=
  (ws_cons (ws_par3 (i := 4) (j := 5) (l := 6) scLawSomeChange.nd rfl rfl rfl (by decide) (by decide) (by decide) rfl rfl rfl (we_ix (we_var 1) we_int) (we_callB call_len_seq cal_len rfl B.len (wa_cons (we_ix (we_ix (we_var 1) we_int) we_int) wa_nil)) (we_fn c_law_any hr h_law_any rfl (wa_cons (we_var 0) (wa_cons we_int wa_nil)))) (ws_cons (ws_if (wt_lt (we_var 6) we_int) (ws_cons (ws_ret (we_tup (wa_cons we_str (wa_cons (we_fn c_law_any hr h_law_any rfl (wa_cons (we_var 0) (wa_cons (we_mul we_int (we_ix (we_var 1) we_int)) wa_nil))) wa_nil)))) ws_nil) ws_nil) (ws_cons (ws_set (i := 2) scLawSomeChange.nd rfl (by first | exact Or.inl rfl | exact Or.inr rfl) (we_fn c_law_rule hr h_law_rule rfl (wa_cons (we_var 0) (wa_cons (we_if (wt_lt (we_var 6) we_int) (we_var 5) (we_add (we_var 5) we_int)) (wa_cons we_int (wa_cons (we_fn c_law_any hr h_law_any rfl (wa_cons (we_var 0) (wa_cons we_int wa_nil))) (wa_cons (we_eq (we_fn c_law_any hr h_law_any rfl (wa_cons (we_var 0) (wa_cons we_int wa_nil))) we_int) wa_nil))))))) (ws_cons (ws_if (wt_lt (we_var 6) we_int) (ws_cons (ws_ret (we_tup (wa_cons we_str (wa_cons (we_fn c_law_any hr h_law_any rfl (wa_cons (we_var 0) (wa_cons (we_add (we_var 5) (we_if (wt_eq (we_var 6) we_int) we_int we_int)) wa_nil))) (wa_cons (we_var 2) wa_nil))))) ws_nil) ws_nil) (ws_cons (ws_if (wt_eq (we_var 6) we_int) (ws_cons (ws_ret (we_tup (wa_cons we_str (wa_cons (we_add we_int (we_fn c_law_any hr h_law_any rfl (wa_cons (we_var 0) (wa_cons we_int wa_nil)))) (wa_cons (we_var 2) wa_nil))))) ws_nil) ws_nil) (ws_cons (ws_set (i := 3) scLawSomeChange.nd rfl (by first | exact Or.inl rfl | exact Or.inr rfl) (we_fn c_law_any hr h_law_any rfl (wa_cons (we_var 0) (wa_cons we_int wa_nil)))) (ws_cons (ws_ret (we_tup (wa_cons we_str (wa_cons (we_fn c_law_any hr h_law_any rfl (wa_cons (we_var 0) (wa_cons (we_var 5) wa_nil))) (wa_cons (we_var 3) (wa_cons (we_add (we_var 3) (we_fn c_law_any hr h_law_any rfl (wa_cons (we_var 0) (wa_cons we_int wa_nil)))) wa_nil)))))) ws_nil)))))))

abbrev sLawLateness : Stmt := top 93
abbrev NLawLateness : List Str := ["_law_deal", "_law_net_here", "_law_d", "_law_last", "_law_found", "_law_house", "_law_row", "_law_at"]
theorem scLawLateness : FnScope NLawLateness ["_law_deal", "_law_net_here", "_law_d", "_law_last"] (defScope sLawLateness) := ⟨rfl, rfl, rfl, by decide +kernel, rfl, by decide +kernel, by decide +kernel⟩
theorem body_law_lateness (B : Bi mg) {k : Nat} {k_law_branches : Nat} {r_law_branches : RL} {k_law_any : Nat} {r_law_any : RL} (c_law_branches : Callee P w K mg base "_law_branches" k_law_branches r_law_branches) (h_law_branches : k_law_branches ≤ k) (c_law_any : Callee P w K mg base "_law_any" k_law_any r_law_any) (h_law_any : k_law_any ≤ k) (f : Addr) (cdv : Value) (A : Around) (outer : List Env) (s : Shared) (H : Hp) (E : XK) (hr : Room k (A.deeper (envOfC "_law_lateness" (defScope sLawLateness) s.heap.objs.size f cdv))) :
    PSs (cxOf CX0 P w K mg base NLawLateness "_law_lateness" (defScope sLawLateness) f cdv A outer s H E).nox (defBody sLawLateness) (liftS K (w_law_lateness r_law_branches r_law_any)) :=
  (ws_cons (ws_new (i := 4) scLawLateness.nd rfl (by first | exact Or.inl rfl | exact Or.inr rfl)) (ws_cons (ws_for (wi_range1 rfl B.range (we_callB call_len_seq cal_len rfl B.len (wa_cons (we_ix (we_var 1) we_int) wa_nil))) (pg_name (i := 5) scLawLateness.nd rfl (by first | exact Or.inl rfl | exact Or.inr rfl)) (bo_name trivial) (ws_cons (ws_new (i := 6) scLawLateness.nd rfl (by first | exact Or.inl rfl | exact Or.inr rfl)) (ws_cons (ws_for (wi_range1 rfl B.range (we_callB call_len_seq cal_len rfl B.len (wa_cons (we_fn c_law_branches hr h_law_branches rfl (wa_cons (we_ix (we_ix (we_var 1) we_int) (we_var 5)) wa_nil)) wa_nil))) (pg_name (i := 7) scLawLateness.nd rfl (by first | exact Or.inl rfl | exact Or.inr rfl)) (bo_name trivial) (ws_cons (ws_app (i := 6) rfl (by first | exact Or.inl rfl | exact Or.inr (Or.inl rfl) | exact Or.inr (Or.inr rfl)) (we_add we_int (we_fn c_law_any hr h_law_any rfl (wa_cons (we_var 0) (wa_cons (we_if (wt_isN (we_var 3) we_non) (we_var 2) (we_callB (cr_minA rfl) cal_min rfl B.mn (wa_cons (we_var 2) (wa_cons (we_add (we_ix (we_ix (we_var 3) (we_var 5)) (we_var 7)) we_int) wa_nil)))) wa_nil))))) ws_nil) PassesOwn.never) (ws_freeze 6 (ws_cons (ws_app (i := 4) rfl (by first | exact Or.inl rfl | exact Or.inr (Or.inl rfl) | exact Or.inr (Or.inr rfl)) (we_callTy call_tuple_of cal_tuple rfl B.tuple (wa_cons (we_var 6) wa_nil))) ws_nil)))) PassesOwn.never) (ws_freeze 4 (ws_cons (ws_ret (we_callTy call_tuple_of cal_tuple rfl B.tuple (wa_cons (we_var 4) wa_nil))) ws_nil))))

abbrev sLawBeat : Stmt := top 94
abbrev NLawBeat : List Str := ["_law_deal", "_law_net_here", "_law_d", "_law_states", "_law_last", "_law_house", "_law_lateness_here", "_law_found", "_law_heard", "_law_at"]
theorem scLawBeat : FnScope NLawBeat ["_law_deal", "_law_net_here", "_law_d", "_law_states", "_law_last"] (defScope sLawBeat) := ⟨rfl, rfl, rfl, by decide +kernel, rfl, by decide +kernel, by decide +kernel⟩
theorem body_law_beat (B : Bi mg) {k : Nat} {k_law_lateness : Nat} {r_law_lateness : RL} {k_law_branches : Nat} {r_law_branches : RL} {k_law_wants : Nat} {r_law_wants : RL} (c_law_lateness : Callee P w K mg base "_law_lateness" k_law_lateness r_law_lateness) (h_law_lateness : k_law_lateness ≤ k) (c_law_branches : Callee P w K mg base "_law_branches" k_law_branches r_law_branches) (h_law_branches : k_law_branches ≤ k) (c_law_wants : Callee P w K mg base "_law_wants" k_law_wants r_law_wants) (h_law_wants : k_law_wants ≤ k) (f : Addr) (cdv : Value) (A : Around) (outer : List Env) (s : Shared) (H : Hp) (E : XK) (hr : Room k (A.deeper (envOfC "_law_beat" (defScope sLawBeat) s.heap.objs.size f cdv))) :
    PSs (cxOf CX0 P w K mg base NLawBeat "_law_beat" (defScope sLawBeat) f cdv A outer s H E).nox (defBody sLawBeat) (liftS K (w_law_beat r_law_lateness r_law_branches r_law_wants)) :=
  (ws_cons (ws_asgO2 (i := 6) (j := 7) scLawBeat.nd rfl rfl (by decide) (by first | exact Or.inl rfl | exact Or.inr rfl) (by first | exact Or.inl rfl | exact Or.inr rfl) (we_fn c_law_lateness hr h_law_lateness rfl (wa_cons (we_var 0) (wa_cons (we_var 1) (wa_cons (we_var 2) (wa_cons (we_var 4) wa_nil)))))) (ws_cons (ws_for (wi_range1 rfl B.range (we_callB call_len_seq cal_len rfl B.len (wa_cons (we_ix (we_var 1) we_int) wa_nil))) (pg_name (i := 5) scLawBeat.nd rfl (by first | exact Or.inl rfl | exact Or.inr rfl)) (bo_name trivial) (ws_cons (ws_set (i := 8) scLawBeat.nd rfl (by first | exact Or.inl rfl | exact Or.inr rfl) (we_fn c_law_branches hr h_law_branches rfl (wa_cons (we_ix (we_ix (we_var 1) we_int) (we_var 5)) wa_nil))) (ws_cons (ws_app (i := 7) rfl (by first | exact Or.inl rfl | exact Or.inr (Or.inl rfl) | exact Or.inr (Or.inr rfl)) (we_fn c_law_wants hr h_law_wants rfl (wa_cons (we_var 1) (wa_cons (we_var 5) (wa_cons (we_lc (own := [("_law_at", 9)]) (wi_range1 rfl B.range (we_callB call_len_seq cal_len rfl B.len (wa_cons (we_var 8) wa_nil))) (blkOk_by (N := NLawBeat) (sc := defScope sLawBeat) (own := [("_law_at", 9)]) (by decide +kernel)) (bo_name (by decide)) (fun _ _ _ _ _ => (pg_name (i := 9) scLawBeat.nd rfl (by first | exact Or.inl rfl | exact Or.inr rfl))) (fun _ _ _ _ _ => wts_nil) (fun _ _ _ _ _ => (we_ix (we_ix (we_var 3) (we_sub (we_callB call_len_seq cal_len rfl B.len (wa_cons (we_var 3) wa_nil)) (we_ix (we_ix (we_var 6) (we_var 5)) (we_var 9)))) (we_ix (we_var 8) (we_var 9)))) scLawBeat.nd) wa_nil))))) ws_nil)) PassesOwn.never) (ws_freeze 7 (ws_cons (ws_ret (we_tup (wa_cons (we_cat (we_var 3) (we_lst (wa_cons (we_callTy call_tuple_of cal_tuple rfl B.tuple (wa_cons (we_var 7) wa_nil)) wa_nil))) (wa_cons (we_var 6) wa_nil)))) ws_nil))))

abbrev sLawHolds : Stmt := top 95
abbrev NLawHolds : List Str := ["_law_life_here", "_law_states", "_law_state", "_law_lows", "_law_highs", "_law_at"]
theorem scLawHolds : FnScope NLawHolds ["_law_life_here", "_law_states"] (defScope sLawHolds) := ⟨rfl, rfl, rfl, by decide +kernel, rfl, by decide +kernel, by decide +kernel⟩
theorem body_law_holds (B : Bi mg) {k : Nat} {k_known : Nat} {r_known : RL} (c_known : Callee P w K mg base "known" k_known r_known) (h_known : k_known ≤ k) (f : Addr) (cdv : Value) (A : Around) (outer : List Env) (s : Shared) (H : Hp) (E : XK) (hr : Room k (A.deeper (envOfC "_law_holds" (defScope sLawHolds) s.heap.objs.size f cdv))) :
    PSs (cxOf CX0 P w K mg base NLawHolds "_law_holds" (defScope sLawHolds) f cdv A outer s H E).nox (defBody sLawHolds) (liftS K (w_law_holds r_known)) :=
  (ws_cons (ws_asg (we_fn c_known hr h_known rfl (wa_cons (we_var 0) wa_nil)) (pg_tup rfl (pgs_cons (pg_name (i := 3) scLawHolds.nd rfl (by first | exact Or.inl rfl | exact Or.inr rfl)) (pgs_cons (pg_name (i := 4) scLawHolds.nd rfl (by first | exact Or.inl rfl | exact Or.inr rfl)) pgs_nil))) (bo_tup (bo_cons (bo_name trivial) (bo_cons (bo_name trivial) bo_nil)) (bl_name (bl_name bl_nil)))) (ws_cons (ws_for (wi_any (we_slice (we_var 1) (wo_some (we_sub (we_callB call_len_seq cal_len rfl B.len (wa_cons (we_var 1) wa_nil)) (we_ix (we_var 0) we_int))) wo_none)) (pg_name (i := 2) scLawHolds.nd rfl (by first | exact Or.inl rfl | exact Or.inr rfl)) (bo_name trivial) (ws_cons (ws_if (wt_neD hr.units (we_lc (own := [("_law_at", 5)]) (wi_range1 rfl B.range (we_callB call_len_seq cal_len rfl B.len (wa_cons (we_var 3) wa_nil))) (blkOk_by (N := NLawHolds) (sc := defScope sLawHolds) (own := [("_law_at", 5)]) (by decide +kernel)) (bo_name (by decide)) (fun _ _ _ _ _ => (pg_name (i := 5) scLawHolds.nd rfl (by first | exact Or.inl rfl | exact Or.inr rfl))) (fun _ _ _ _ _ => (wts_one (wt_not (wt_chain op_le op_le opd_B0 opd_B0 (we_ix (we_var 3) (we_var 5)) (we_ix (we_var 2) (we_var 5)) (we_ix (we_var 4) (we_var 5)))))) (fun _ _ _ _ _ => (we_var 5)) scLawHolds.nd) (we_lst wa_nil)) (ws_cons (ws_ret we_bl) ws_nil) ws_nil) ws_nil) PassesOwn.never) (ws_cons (ws_ret we_bl) ws_nil)))

end
end NB

/-! BL -/
set_option Elab.async false
set_option linter.all false
set_option maxRecDepth 100000
set_option maxHeartbeats 1000000
namespace NB
open PySem PySem.Spec PyProof.Rows L2
section
variable {P : Program} {w : World} {K : PySem.W.Frag} {mg : Str → Option Value} {base : Heap}
abbrev sLaw : Stmt := top 96
abbrev NLaw : List Str := ["_law_script", "_law_deal", "_law_life_here", "_law_states", "_law_turn_here", "_law_net_here", "_law_d", "_law_ends", "_law_age", "_law_again", "_law_change", "_law_beats", "_law_last", "_law_words_here", "_law_shown", "_law_lows", "_law_highs", "_law_state", "_law_low", "_law_high"]
theorem scLaw : FnScope NLaw ["_law_script"] (defScope sLaw) := ⟨rfl, rfl, rfl, by decide +kernel, rfl, by decide +kernel, by decide +kernel⟩
theorem body_law_tail (B : Bi mg) {k : Nat} {k_law_life : Nat} {r_law_life : RL} {k_law_any : Nat} {r_law_any : RL} {k_law_beat : Nat} {r_law_beat : RL} {k_changed : Nat} {r_changed : RL} {k_law_holds : Nat} {r_law_holds : RL} {k_law_some_change : Nat} {r_law_some_change : RL} {k_is_change : Nat} {r_is_change : RL} {k_rests_in : Nat} {r_rests_in : RL} {k_law_all_words : Nat} {r_law_all_words : RL} {k_law_led : Nat} {r_law_led : RL} {k_law_next_ends : Nat} {r_law_next_ends : RL} {k_known : Nat} {r_known : RL} (c_law_life : Callee P w K mg base "_law_life" k_law_life r_law_life) (h_law_life : k_law_life ≤ k) (c_law_any : Callee P w K mg base "_law_any" k_law_any r_law_any) (h_law_any : k_law_any ≤ k) (c_law_beat : Callee P w K mg base "_law_beat" k_law_beat r_law_beat) (h_law_beat : k_law_beat ≤ k) (c_changed : Callee P w K mg base "changed" k_changed r_changed) (h_changed : k_changed ≤ k) (c_law_holds : Callee P w K mg base "_law_holds" k_law_holds r_law_holds) (h_law_holds : k_law_holds ≤ k) (c_law_some_change : Callee P w K mg base "_law_some_change" k_law_some_change r_law_some_change) (h_law_some_change : k_law_some_change ≤ k) (c_is_change : Callee P w K mg base "is_change" k_is_change r_is_change) (h_is_change : k_is_change ≤ k) (c_rests_in : Callee P w K mg base "rests_in" k_rests_in r_rests_in) (h_rests_in : k_rests_in ≤ k) (c_law_all_words : Callee P w K mg base "_law_all_words" k_law_all_words r_law_all_words) (h_law_all_words : k_law_all_words ≤ k) (c_law_led : Callee P w K mg base "_law_led" k_law_led r_law_led) (h_law_led : k_law_led ≤ k) (c_law_next_ends : Callee P w K mg base "_law_next_ends" k_law_next_ends r_law_next_ends) (h_law_next_ends : k_law_next_ends ≤ k) (c_known : Callee P w K mg base "known" k_known r_known) (h_known : k_known ≤ k) (f : Addr) (cdv : Value) (A : Around) (outer : List Env) (s : Shared) (H : Hp) (E : XK) (hr : Room k (A.deeper (envOfC "law" (defScope sLaw) s.heap.objs.size f cdv))) :
    PSs (cxOf CX0 P w K mg base NLaw "law" (defScope sLaw) f cdv A outer s H E).nox ((defBody sLaw).drop 1) (liftS K (w_law_tail r_law_life r_law_any r_law_beat r_changed r_law_holds r_law_some_change r_is_change r_rests_in r_law_all_words r_law_led r_law_next_ends r_known)) :=
  (ws_cons (ws_set (i := 2) scLaw.nd rfl (by first | exact Or.inl rfl | exact Or.inr rfl) (we_fn c_law_life hr h_law_life rfl (wa_cons (we_var 1) (wa_cons we_int (wa_cons we_int wa_nil))))) (ws_cons (ws_set (i := 2) scLaw.nd rfl (by first | exact Or.inl rfl | exact Or.inr rfl) (we_cat (we_slice (we_var 2) wo_none (wo_some we_int)) (we_tup (wa_cons we_int wa_nil)))) (ws_cons (ws_asg (we_var 2) (pg_tup rfl (pgs_cons (pg_name (i := 5) scLaw.nd rfl (by first | exact Or.inl rfl | exact Or.inr rfl)) (pgs_cons (pg_name (i := 6) scLaw.nd rfl (by first | exact Or.inl rfl | exact Or.inr rfl)) (pgs_cons (pg_name (i := 7) scLaw.nd rfl (by first | exact Or.inl rfl | exact Or.inr rfl)) (pgs_cons (pg_name (i := 8) scLaw.nd rfl (by first | exact Or.inl rfl | exact Or.inr rfl)) pgs_nil))))) (bo_tup (bo_cons (bo_name trivial) (bo_cons (bo_name trivial) (bo_cons (bo_name trivial) (bo_cons (bo_name trivial) bo_nil)))) (bl_name (bl_name (bl_name (bl_name bl_nil)))))) (ws_cons (ws_new (i := 3) scLaw.nd rfl (by first | exact Or.inl rfl | exact Or.inr rfl)) (ws_cons (ws_for (wi_range1 rfl B.range (we_var 6)) (pg_name (i := 4) scLaw.nd rfl (by first | exact Or.inl rfl | exact Or.inr rfl)) (bo_name trivial) (ws_cons (ws_app (i := 3) rfl (by first | exact Or.inl rfl | exact Or.inr (Or.inl rfl) | exact Or.inr (Or.inr rfl)) (we_callTy call_tuple_of cal_tuple rfl B.tuple (wa_cons (we_lc (own := [("_law_low", 18), ("_law_high", 19)]) (wi_zip rfl B.zip (we_ix (we_var 7) we_int) (we_ix (we_var 7) we_int)) (blkOk_by (N := NLaw) (sc := defScope sLaw) (own := [("_law_low", 18), ("_law_high", 19)]) (by decide +kernel)) (bo_tup (bo_cons (bo_name (by decide)) (bo_cons (bo_name (by decide)) bo_nil)) (bl_name (bl_name bl_nil))) (fun _ _ _ _ _ => (pg_tup rfl (pgs_cons (pg_name (i := 18) scLaw.nd rfl (by first | exact Or.inl rfl | exact Or.inr rfl)) (pgs_cons (pg_name (i := 19) scLaw.nd rfl (by first | exact Or.inl rfl | exact Or.inr rfl)) pgs_nil)))) (fun _ _ _ _ _ => wts_nil) (fun _ _ _ _ _ => (we_add (we_var 18) (we_fn c_law_any hr h_law_any rfl (wa_cons (we_var 1) (wa_cons (we_add (we_sub (we_var 19) (we_var 18)) we_int) wa_nil))))) scLaw.nd) wa_nil))) ws_nil) PassesOwn.never) (ws_freeze 3 (ws_cons (ws_for (wi_range1 rfl B.range we_int) (pg_name (i := 4) scLaw.nd rfl (by first | exact Or.inl rfl | exact Or.inr rfl)) (bo_name trivial) (ws_cons (ws_par (i := 11) (j := 12) scLaw.nd rfl rfl (by decide) rfl rfl (we_fn c_law_any hr h_law_any rfl (wa_cons (we_var 1) (wa_cons (we_add (we_mul we_int (we_var 6)) we_int) wa_nil))) we_non) (ws_cons (ws_for (wi_range1 rfl B.range (we_var 11)) (pg_name (i := 9) scLaw.nd rfl (by first | exact Or.inl rfl | exact Or.inr rfl)) (bo_name trivial) (ws_cons (ws_asg (we_fn c_law_beat hr h_law_beat rfl (wa_cons (we_var 1) (wa_cons (we_ix (we_var 2) we_int) (wa_cons (we_var 6) (wa_cons (we_var 3) (wa_cons (we_var 12) wa_nil)))))) (pg_tup rfl (pgs_cons (pg_name (i := 3) scLaw.nd rfl (by first | exact Or.inl rfl | exact Or.inr rfl)) (pgs_cons (pg_name (i := 12) scLaw.nd rfl (by first | exact Or.inl rfl | exact Or.inr rfl)) pgs_nil))) (bo_tup (bo_cons (bo_name trivial) (bo_cons (bo_name trivial) bo_nil)) (bl_name (bl_name bl_nil)))) ws_nil) PassesOwn.never) (ws_cons (ws_set (i := 2) scLaw.nd rfl (by first | exact Or.inl rfl | exact Or.inr rfl) (we_fn c_changed hr h_changed rfl (wa_cons (we_var 2) (wa_cons (we_tup (wa_cons we_str (wa_cons (we_var 11) wa_nil))) wa_nil)))) (ws_cons (ws_if (wt_not (wt_val (we_fn c_law_holds hr h_law_holds rfl (wa_cons (we_var 2) (wa_cons (we_var 3) wa_nil))))) (ws_cons (ws_ret we_bl) ws_nil) ws_nil) (ws_cons (ws_set (i := 10) scLaw.nd rfl (by first | exact Or.inl rfl | exact Or.inr rfl) (we_fn c_law_some_change hr h_law_some_change rfl (wa_cons (we_var 1) (wa_cons (we_var 2) wa_nil)))) (ws_cons (ws_if (wt_eq (we_ix (we_var 10) we_int) we_str) (ws_cons (ws_setLc (i := 14) scLaw.nd rfl rfl (sw_true rfl rfl rfl (by decide +kernel)) (own := [("_law_state", 17)]) (wi_any (we_slice (we_var 3) (wo_some (we_sub (we_callB call_len_seq cal_len rfl B.len (wa_cons (we_var 3) wa_nil)) (we_var 6))) wo_none)) (blkOk_by (N := NLaw) (sc := defScope sLaw) (own := [("_law_state", 17)]) (by decide +kernel)) (bo_name (by decide)) (fun _ _ _ _ _ => (pg_name (i := 17) scLaw.nd rfl (by first | exact Or.inl rfl | exact Or.inr rfl))) (fun _ _ _ _ _ => wts_nil) (fun _ _ _ _ _ => (we_ix (we_var 17) (we_ix (we_var 10) we_int)))) (ws_cons (ws_set (i := 10) scLaw.nd rfl (by first | exact Or.inl rfl | exact Or.inr rfl) (we_tup (wa_cons we_str (wa_cons (we_ix (we_var 10) we_int) (wa_cons (we_callB (cr_minA rfl) cal_min rfl B.mn (wa_cons (we_var 14) wa_nil)) (wa_cons (we_callB (cr_maxA rfl) cal_max rfl B.mx (wa_cons (we_var 14) wa_nil)) wa_nil)))))) ws_nil)) ws_nil) (ws_cons (ws_if (PW.pt (wt_and (wt_ne (we_ix (we_var 10) we_int) we_str) (wt_and (wt_lt (we_callB call_len_seq cal_len rfl B.len (wa_cons (we_ix (we_ix (we_var 2) we_int) we_int) wa_nil)) we_int) (wt_and1 (wt_val (we_fn c_is_change hr h_is_change rfl (wa_cons (we_var 2) (wa_cons (we_var 10) wa_nil)))))))) (ws_cons (ws_if (wt_eq (we_ix (we_var 10) we_int) we_str) (ws_cons (ws_setLc (i := 3) scLaw.nd rfl rfl (sw_true rfl rfl rfl (by decide +kernel)) (own := [("_law_state", 17)]) (wi_any (we_var 3)) (blkOk_by (N := NLaw) (sc := defScope sLaw) (own := [("_law_state", 17)]) (by decide +kernel)) (bo_name (by decide)) (fun _ _ _ _ _ => (pg_name (i := 17) scLaw.nd rfl (by first | exact Or.inl rfl | exact Or.inr rfl))) (fun _ _ _ _ _ => wts_nil) (fun _ _ _ _ _ => (we_cat (we_var 17) (we_tup (wa_cons (we_fn c_law_any hr h_law_any rfl (wa_cons (we_var 1) (wa_cons (we_add (we_ix (we_var 10) we_int) we_int) wa_nil))) wa_nil))))) ws_nil) ws_nil) (ws_cons (ws_set (i := 2) scLaw.nd rfl (by first | exact Or.inl rfl | exact Or.inr rfl) (we_fn c_changed hr h_changed rfl (wa_cons (we_var 2) (wa_cons (we_var 10) wa_nil)))) (ws_cons (ws_if (wt_not (wt_val (we_fn c_law_holds hr h_law_holds rfl (wa_cons (we_var 2) (wa_cons (we_var 3) wa_nil))))) (ws_cons (ws_ret we_bl) ws_nil) ws_nil) ws_nil))) ws_nil) ws_nil))))))) PassesOwn.never) (ws_cons (ws_par (i := 11) (j := 12) scLaw.nd rfl rfl (by decide) rfl rfl (we_fn c_rests_in hr h_rests_in rfl (wa_cons (we_var 2) wa_nil)) we_non) (ws_cons (ws_if (wt_isN (we_var 11) we_non) (ws_cons (ws_set (i := 13) scLaw.nd rfl (by first | exact Or.inl rfl | exact Or.inr rfl) (we_fn c_law_all_words hr h_law_all_words rfl (wa_cons (we_ix (we_var 2) we_int) wa_nil))) (ws_cons (ws_asg (we_ix (we_fn c_law_led hr h_law_led rfl (wa_cons (we_ix (we_var 2) we_int) (wa_cons (we_var 13) (wa_cons (we_ix (we_var 2) we_int) (wa_cons we_non wa_nil))))) we_int) (pg_tup rfl (pgs_cons (pg_name (i := 15) scLaw.nd rfl (by first | exact Or.inl rfl | exact Or.inr rfl)) (pgs_cons (pg_name (i := 16) scLaw.nd rfl (by first | exact Or.inl rfl | exact Or.inr rfl)) pgs_nil))) (bo_tup (bo_cons (bo_name trivial) (bo_cons (bo_name trivial) bo_nil)) (bl_name (bl_name bl_nil)))) (ws_cons (ws_ret (we_and (we_neD hr.units (we_var 15) (we_var 16)) (we_one (we_eqD hr.units (we_fn c_law_next_ends hr h_law_next_ends rfl (wa_cons (we_ix (we_var 2) we_int) (wa_cons (we_var 13) (wa_cons (we_tup (wa_cons (we_var 15) (wa_cons (we_var 16) wa_nil))) wa_nil)))) (we_tup (wa_cons (we_var 15) (wa_cons (we_var 16) wa_nil))))))) ws_nil))) ws_nil) (ws_cons (ws_for (wi_range1 rfl B.range (we_callB (cr_minA rfl) cal_min rfl B.mn (wa_cons (we_var 11) (wa_cons we_int wa_nil)))) (pg_name (i := 4) scLaw.nd rfl (by first | exact Or.inl rfl | exact Or.inr rfl)) (bo_name trivial) (ws_cons (ws_asg (we_fn c_law_beat hr h_law_beat rfl (wa_cons (we_var 1) (wa_cons (we_ix (we_var 2) we_int) (wa_cons (we_var 6) (wa_cons (we_var 3) (wa_cons (we_var 12) wa_nil)))))) (pg_tup rfl (pgs_cons (pg_name (i := 3) scLaw.nd rfl (by first | exact Or.inl rfl | exact Or.inr rfl)) (pgs_cons (pg_name (i := 12) scLaw.nd rfl (by first | exact Or.inl rfl | exact Or.inr rfl)) pgs_nil))) (bo_tup (bo_cons (bo_name trivial) (bo_cons (bo_name trivial) bo_nil)) (bl_name (bl_name bl_nil)))) ws_nil) PassesOwn.never) (ws_cons (ws_ret (we_or (we_gt (we_var 11) we_int) (we_one (we_eqD hr.units (we_slice (we_var 3) (wo_some (we_sub (we_callB call_len_seq cal_len rfl B.len (wa_cons (we_var 3) wa_nil)) (we_var 6))) wo_none) (we_rep (we_lst (wa_cons (we_ix (we_fn c_known hr h_known rfl (wa_cons (we_fn c_changed hr h_changed rfl (wa_cons (we_var 2) (wa_cons (we_tup (wa_cons we_str (wa_cons (we_var 11) wa_nil))) wa_nil))) wa_nil)) we_int) wa_nil)) (we_var 6)))))) ws_nil)))))))))))

end
end NB

/-! CH -/
set_option Elab.async false
set_option linter.all false
set_option maxRecDepth 100000
set_option maxHeartbeats 1000000
namespace NB
open PySem PySem.Spec PyProof.Rows L2
theorem dep_pos (r : Rule) : 1 ≤ dep r := by
  cases r
  unfold dep
  omega
theorem no_counted (ds : List D) (Φ : D → Prop) : ¬ r_counted 0 ds Φ := by
  rintro ⟨_, r, _, rfl, _, _, h, _⟩
  have := dep_pos r
  omega
theorem no_branches (ds : List D) (Φ : D → Prop) : ¬ r_branches 0 ds Φ := by
  rintro ⟨_, r, rfl, _, _, h, _⟩
  have := dep_pos r
  omega
theorem no_told_by (ds : List D) (Φ : D → Prop) : ¬ r_told_by 0 ds Φ := by
  rintro ⟨_, r, _, _, rfl, _, _, h, _⟩
  have := dep_pos r
  omega
theorem no_range_of (ds : List D) (Φ : D → Prop) : ¬ r_range_of 0 ds Φ := by
  rintro ⟨_, r, rfl, _, _, h, _⟩
  have := dep_pos r
  omega
theorem no_words_within (ds : List D) (Φ : D → Prop) : ¬ r_words_within 0 ds Φ := by
  rintro ⟨_, r, _, _, _, rfl, _, _, h, _⟩
  have := dep_pos r
  omega
theorem no_law_branches (ds : List D) (Φ : D → Prop) : ¬ r_law_branches 0 ds Φ := by
  rintro ⟨_, r, rfl, _, h, _⟩
  have := dep_pos r
  omega
theorem no_law_told (ds : List D) (Φ : D → Prop) : ¬ r_law_told 0 ds Φ := by
  rintro ⟨_, r, _, rfl, _, h, _⟩
  have := dep_pos r
  omega
theorem no_law_range (ds : List D) (Φ : D → Prop) : ¬ r_law_range 0 ds Φ := by
  rintro ⟨_, r, rfl, _, _, h, _⟩
  have := dep_pos r
  omega
theorem no_law_words (ds : List D) (Φ : D → Prop) : ¬ r_law_words 0 ds Φ := by
  rintro ⟨_, r, _, _, rfl, _, _, _, h, _⟩
  have := dep_pos r
  omega
theorem no_law_rule (ds : List D) (Φ : D → Prop) : ¬ r_law_rule 0 ds Φ := by
  rintro ⟨_, _, _, rfl, _, _, h, _⟩
  omega
section
variable {P : Program} {w : World} {K : PySem.W.Frag} {mg : Str → Option Value} {base : Heap}
def spLaw (K : PySem.W.Frag) : Sp := fun vs H Q _ => ∃ (a : Addr) (ns : List Int), vs = [.ref a] ∧ SqL K H a (ns.map V.int) ∧ ns.length ≤ 63 ∧ ∀ H', Q (.bl true) H'
theorem fn_law (B : Bi mg) {k : Nat} {k_law_life : Nat} (c_law_life : Callee P w K mg base "_law_life" k_law_life r_law_life) (h_law_life : k_law_life ≤ k) {k_law_any : Nat} (c_law_any : Callee P w K mg base "_law_any" k_law_any r_law_any) (h_law_any : k_law_any ≤ k) {k_law_beat : Nat} (c_law_beat : Callee P w K mg base "_law_beat" k_law_beat r_law_beat) (h_law_beat : k_law_beat ≤ k) {k_changed : Nat} (c_changed : Callee P w K mg base "changed" k_changed r_changed) (h_changed : k_changed ≤ k) {k_law_holds : Nat} (c_law_holds : Callee P w K mg base "_law_holds" k_law_holds r_law_holds) (h_law_holds : k_law_holds ≤ k) {k_law_some_change : Nat} (c_law_some_change : Callee P w K mg base "_law_some_change" k_law_some_change r_law_some_change) (h_law_some_change : k_law_some_change ≤ k) {k_is_change : Nat} (c_is_change : Callee P w K mg base "is_change" k_is_change r_is_change) (h_is_change : k_is_change ≤ k) {k_rests_in : Nat} (c_rests_in : Callee P w K mg base "rests_in" k_rests_in r_rests_in) (h_rests_in : k_rests_in ≤ k) {k_law_all_words : Nat} (c_law_all_words : Callee P w K mg base "_law_all_words" k_law_all_words r_law_all_words) (h_law_all_words : k_law_all_words ≤ k) {k_law_led : Nat} (c_law_led : Callee P w K mg base "_law_led" k_law_led r_law_led) (h_law_led : k_law_led ≤ k) {k_law_next_ends : Nat} (c_law_next_ends : Callee P w K mg base "_law_next_ends" k_law_next_ends r_law_next_ends) (h_law_next_ends : k_law_next_ends ≤ k) {k_known : Nat} (c_known : Callee P w K mg base "known" k_known r_known) (h_known : k_known ≤ k) (hk1 : 1 ≤ k) {fD : Addr} {fdD : FuncData} (G : FnOk P w K mg base CX0 1 fD fdD ["_law_script", "_law_salt"] (spDraw K)) (mD : mg "_law_draw" = some (.ref fD)) (kD : PySem.W.keepIn K (.ref fD) = true) (bD : Binds K fdD ["_law_script", "_law_salt"] []) {f : Addr} {fd : FuncData} (F : L2.Fun K "law" "law" sLaw f fd) : FnOk P w K mg base CX0 (k + 1) f fd ["_law_script"] (spLaw K) := by
  refine F.ok scLaw (fun vs H Q E ⟨a, ns, e, _⟩ => by rw [e]; rfl) fun cdv A outer s H vs Q E hr ⟨a, ns, e, hS, hn, hQ⟩ => ?_
  subst e
  refine ⟨_, pss_cons (ps_set (i := 1) scLaw.nd rfl (by first | exact Or.inl rfl | exact Or.inr rfl) (pe_call G (hr.mono hk1) rfl mD kD bD .nil pass0 (pa_cons (pv 0) (pa_cons pe_int pa_nil rfl) rfl))) (pss_lens (body_law_tail B c_law_life h_law_life c_law_any h_law_any c_law_beat h_law_beat c_changed h_changed c_law_holds h_law_holds c_law_some_change h_law_some_change c_is_change h_is_change c_rests_in h_rests_in c_law_all_words h_law_all_words c_law_led h_law_led c_law_next_ends h_law_next_ends c_known h_known f cdv A outer s H E hr)), ?_⟩
  refine ⟨_, rfl, a, ns, rfl, hS, hn, fun p q xs x H' hne hp hq nn hl x0 x1 => ?_⟩
  intro ln
  have bs : Bs (some (p, q)) (fun _ => none) H' := by
    refine ⟨fun _ _ e => (by cases e), fun a b e => ?_, fun _ _ _ => ⟨rfl, rfl⟩, ln⟩
    cases e
    exact ⟨hne, xs, x, hp, hq, nn, x0, x1, hl⟩
  have e0 : EnvOk K (some (p, q)) ((L2.start NLaw [.ref a]).set 1 (some (.ref p))) (fun _ => none) H' [.no, .im .deal, .no, .no, .no, .no, .no, .no, .no, .no, .no, .no, .no, .no, .no, .no, .no, .no, .no, .no] := by
    refine ⟨bs, rfl, fun i => ?_, fun i j ds es p e => ?_⟩
    · match i with
      | 0 => trivial
      | 1 => exact ⟨.ref p, rfl, p, q, rfl, rfl⟩
      | 2 => trivial
      | 3 => trivial
      | 4 => trivial
      | 5 => trivial
      | 6 => trivial
      | 7 => trivial
      | 8 => trivial
      | 9 => trivial
      | 10 => trivial
      | 11 => trivial
      | 12 => trivial
      | 13 => trivial
      | 14 => trivial
      | 15 => trivial
      | 16 => trivial
      | 17 => trivial
      | 18 => trivial
      | 19 => trivial
      | n + 20 => trivial
    · match i, e with
      | 0, e => cases e
      | 1, e => cases e
      | 2, e => cases e
      | 3, e => cases e
      | 4, e => cases e
      | 5, e => cases e
      | 6, e => cases e
      | 7, e => cases e
      | 8, e => cases e
      | 9, e => cases e
      | 10, e => cases e
      | 11, e => cases e
      | 12, e => cases e
      | 13, e => cases e
      | 14, e => cases e
      | 15, e => cases e
      | 16, e => cases e
      | 17, e => cases e
      | 18, e => cases e
      | 19, e => cases e
      | n + 20, e => cases e
  refine ⟨some (p, q), _, H', _, _, fun _ => False, fun d => d = .bl true, EnvS.of e0 fun i ds e => ?_, p_law_tail, fun _ _ _ _ h => h.elim, ?_⟩
  · match i, e with
    | 0, e => cases e
    | 1, e => cases e
    | 2, e => cases e
    | 3, e => cases e
    | 4, e => cases e
    | 5, e => cases e
    | 6, e => cases e
    | 7, e => cases e
    | 8, e => cases e
    | 9, e => cases e
    | 10, e => cases e
    | 11, e => cases e
    | 12, e => cases e
    | 13, e => cases e
    | 14, e => cases e
    | 15, e => cases e
    | 16, e => cases e
    | 17, e => cases e
    | 18, e => cases e
    | 19, e => cases e
    | n + 20, e => cases e
  · rintro d v F2 H2 rfl s2 av
    cases av
    exact hQ H2
theorem chain (B : Bi mg) (F_is_integer : Stands K mg "is_integer" sIsInteger ["value"]) (F_is_number : Stands K mg "is_number" sIsNumber ["value"]) (F_is_index : Stands K mg "is_index" sIsIndex ["value", "many"]) (F_is_row_of : Stands K mg "is_row_of" sIsRowOf ["value", "sizes"]) (F_is_word_of : Stands K mg "is_word_of" sIsWordOf ["value", "words"]) (F_is_worth : Stands K mg "is_worth" sIsWorth ["value"]) (F_is_head : Stands K mg "is_head" sIsHead ["value"]) (F_parts_of : Stands K mg "parts_of" sPartsOf ["value"]) (F_counted : Stands K mg "counted" sCounted ["value", "deep"]) (F_is_rule : Stands K mg "is_rule" sIsRule ["value"]) (F_branches : Stands K mg "branches" sBranches ["rule"]) (F_made : Stands K mg "made" sMade ["rule", "values"]) (F_told_by : Stands K mg "told_by" sToldBy ["rule", "heard", "at"]) (F_told : Stands K mg "told" sTold ["rule", "heard"]) (F_are_tops : Stands K mg "are_tops" sAreTops ["value"]) (F_are_rules : Stands K mg "are_rules" sAreRules ["value", "many"]) (F_is_net : Stands K mg "is_net" sIsNet ["value"]) (F_wanted : Stands K mg "wanted" sWanted ["net", "house", "heard"]) (F_with_rule : Stands K mg "with_rule" sWithRule ["net", "house", "rule"]) (F_entries_for : Stands K mg "entries_for" sEntriesFor ["worths", "low", "high"]) (F_range_of : Stands K mg "range_of" sRangeOf ["net", "rule"]) (F_house_range : Stands K mg "house_range" sHouseRange ["net", "house"]) (F_is_rising_row : Stands K mg "is_rising_row" sIsRisingRow ["row"]) (F_turn_of : Stands K mg "turn_of" sTurnOf ["net", "rule"]) (F_words_within : Stands K mg "words_within" sWordsWithin ["net", "rule", "is_still", "is_both", "falls"]) (F_ways : Stands K mg "ways" sWays ["net", "house"]) (F_are_one_way : Stands K mg "are_one_way" sAreOneWay ["net"]) (F_one_way : Stands K mg "one_way" sOneWay ["net"]) (F_stepped : Stands K mg "stepped" sStepped ["net", "found", "ends"]) (F_next_ends : Stands K mg "next_ends" sNextEnds ["net", "ends"]) (F_hull : Stands K mg "hull" sHull ["ends", "others"]) (F_closed : Stands K mg "closed" sClosed ["net", "ends"]) (F_led : Stands K mg "led" sLed ["net", "ends", "rounds"]) (F_known : Stands K mg "known" sKnown ["life"]) (F_rests_in : Stands K mg "rests_in" sRestsIn ["life"]) (F_net_behind : Stands K mg "net_behind" sNetBehind ["net", "change"]) (F_is_sight : Stands K mg "is_sight" sIsSight ["life", "value"]) (F_is_change : Stands K mg "is_change" sIsChange ["life", "value"]) (F_placed : Stands K mg "placed" sPlaced ["row", "at", "value"]) (F_changed : Stands K mg "changed" sChanged ["life", "change"]) (F_law_of : Stands K mg "_law_of" sLawOf ["_law_deal", "_law_some"]) (F_law_rule : Stands K mg "_law_rule" sLawRule ["_law_deal", "_law_n", "_law_top", "_law_deep", "_law_any_row"]) (F_law_net : Stands K mg "_law_net" sLawNet ["_law_deal", "_law_most", "_law_top", "_law_any_row"]) (F_law_parts : Stands K mg "_law_parts" sLawParts ["_law_rule_here"]) (F_law_branches : Stands K mg "_law_branches" sLawBranches ["_law_rule_here"]) (F_law_made : Stands K mg "_law_made" sLawMade ["_law_rule_here", "_law_some"]) (F_law_told : Stands K mg "_law_told" sLawTold ["_law_rule_here", "_law_heard"]) (F_law_wants : Stands K mg "_law_wants" sLawWants ["_law_net_here", "_law_house", "_law_heard"]) (F_law_entries : Stands K mg "_law_entries" sLawEntries ["_law_worths", "_law_low", "_law_high"]) (F_law_range : Stands K mg "_law_range" sLawRange ["_law_net_here", "_law_rule_here"]) (F_law_turn : Stands K mg "_law_turn" sLawTurn ["_law_net_here", "_law_rule_here"]) (F_law_words : Stands K mg "_law_words" sLawWords ["_law_net_here", "_law_rule_here", "_law_still", "_law_sign"]) (F_law_ways : Stands K mg "_law_ways" sLawWays ["_law_net_here", "_law_house"]) (F_law_all_words : Stands K mg "_law_all_words" sLawAllWords ["_law_net_here"]) (F_law_next_ends : Stands K mg "_law_next_ends" sLawNextEnds ["_law_net_here", "_law_words_here", "_law_ends"]) (F_law_led : Stands K mg "_law_led" sLawLed ["_law_net_here", "_law_words_here", "_law_ends", "_law_rounds_here"]) (F_law_closed : Stands K mg "_law_closed" sLawClosed ["_law_net_here", "_law_words_here", "_law_ends"]) (F_law_life : Stands K mg "_law_life" sLawLife ["_law_deal", "_law_most", "_law_top"]) (F_law_some_change : Stands K mg "_law_some_change" sLawSomeChange ["_law_deal", "_law_life_here"]) (F_law_lateness : Stands K mg "_law_lateness" sLawLateness ["_law_deal", "_law_net_here", "_law_d", "_law_last"]) (F_law_beat : Stands K mg "_law_beat" sLawBeat ["_law_deal", "_law_net_here", "_law_d", "_law_states", "_law_last"]) (F_law_holds : Stands K mg "_law_holds" sLawHolds ["_law_life_here", "_law_states"]) (F_heard_ends : Stands K mg "heard_ends" sHeardEnds ["net", "house", "words", "near", "far"]) (F_law_any : Stands K mg "_law_any" sLawAny ["_law_deal", "_law_bound"]) (m_MOST_rules : ∃ t, mg "MOST_rules" = some (.int 1001 t)) (m_MOST_ROW : ∃ t, mg "MOST_ROW" = some (.int 64 t)) (m_MOST_PARTS : ∃ t, mg "MOST_PARTS" = some (.int 60 t)) (m_MOST_DEEP : ∃ t, mg "MOST_DEEP" = some (.int 8 t)) (m_MOST_BRANCHES : ∃ t, mg "MOST_BRANCHES" = some (.int 12 t)) (m_MOST_nets : ∃ t, mg "MOST_nets" = some (.int 20 t)) (m_MOST_WAIT : ∃ t, mg "MOST_WAIT" = some (.int 10000 t)) (m_WORDS : WordsOk K mg) (m_SIZES : SizesOk K w mg) : True ∧ Callee P w K mg base "_law_life" 13 r_law_life ∧ Callee P w K mg base "_law_any" 1 r_law_any ∧ Callee P w K mg base "_law_beat" 11 r_law_beat ∧ Callee P w K mg base "changed" 23 r_changed ∧ Callee P w K mg base "_law_holds" 21 r_law_holds ∧ Callee P w K mg base "_law_some_change" 7 r_law_some_change ∧ Callee P w K mg base "is_change" 22 r_is_change ∧ Callee P w K mg base "rests_in" 20 r_rests_in ∧ Callee P w K mg base "_law_all_words" 12 r_law_all_words ∧ Callee P w K mg base "_law_led" 12 r_law_led ∧ Callee P w K mg base "_law_next_ends" 11 r_law_next_ends ∧ Callee P w K mg base "known" 20 r_known := by
  have c_law_any : Callee P w K mg base "_law_any" 1 r_law_any := fn_law_any B F_law_any
  have c_is_integer : Callee P w K mg base "is_integer" 1 r_is_integer := fn_C (k := 0) F_is_integer scIsInteger (fun ds Φ h => by first | (obtain ⟨rfl, _⟩ := h; rfl) | (obtain ⟨_, rfl, _⟩ := h; rfl) | (obtain ⟨_, _, rfl, _⟩ := h; rfl) | (obtain ⟨_, _, _, rfl, _⟩ := h; rfl) | (obtain ⟨_, _, _, _, rfl, _⟩ := h; rfl) | (obtain ⟨_, _, _, _, _, rfl, _⟩ := h; rfl) | (obtain ⟨_, _, _, _, _, _, rfl, _⟩ := h; rfl) | (obtain ⟨_, _, _, _, _, _, ⟨rfl, _⟩ | ⟨_, rfl, _⟩⟩ := h <;> rfl)) (by decide) (w_is_integer ) p_is_integer (fun f cdv A outer s H E hr => body_is_integer B f cdv A outer s H E hr)
  have c_is_number : Callee P w K mg base "is_number" 2 r_is_number := fn_C (k := 1) F_is_number scIsNumber (fun ds Φ h => by first | (obtain ⟨rfl, _⟩ := h; rfl) | (obtain ⟨_, rfl, _⟩ := h; rfl) | (obtain ⟨_, _, rfl, _⟩ := h; rfl) | (obtain ⟨_, _, _, rfl, _⟩ := h; rfl) | (obtain ⟨_, _, _, _, rfl, _⟩ := h; rfl) | (obtain ⟨_, _, _, _, _, rfl, _⟩ := h; rfl) | (obtain ⟨_, _, _, _, _, _, rfl, _⟩ := h; rfl) | (obtain ⟨_, _, _, _, _, _, ⟨rfl, _⟩ | ⟨_, rfl, _⟩⟩ := h <;> rfl)) (by decide) (w_is_number r_is_integer) p_is_number (fun f cdv A outer s H E hr => body_is_number B c_is_integer (by decide) f cdv A outer s H E hr)
  have c_is_index : Callee P w K mg base "is_index" 3 r_is_index := fn_C (k := 2) F_is_index scIsIndex (fun ds Φ h => by first | (obtain ⟨rfl, _⟩ := h; rfl) | (obtain ⟨_, rfl, _⟩ := h; rfl) | (obtain ⟨_, _, rfl, _⟩ := h; rfl) | (obtain ⟨_, _, _, rfl, _⟩ := h; rfl) | (obtain ⟨_, _, _, _, rfl, _⟩ := h; rfl) | (obtain ⟨_, _, _, _, _, rfl, _⟩ := h; rfl) | (obtain ⟨_, _, _, _, _, _, rfl, _⟩ := h; rfl) | (obtain ⟨_, _, _, _, _, _, ⟨rfl, _⟩ | ⟨_, rfl, _⟩⟩ := h <;> rfl)) (by decide) (w_is_index r_is_number) p_is_index (fun f cdv A outer s H E hr => body_is_index B c_is_number (by decide) f cdv A outer s H E hr)
  have c_is_row_of : Callee P w K mg base "is_row_of" 1 r_is_row_of := fn_C (k := 0) F_is_row_of scIsRowOf (fun ds Φ h => by first | (obtain ⟨rfl, _⟩ := h; rfl) | (obtain ⟨_, rfl, _⟩ := h; rfl) | (obtain ⟨_, _, rfl, _⟩ := h; rfl) | (obtain ⟨_, _, _, rfl, _⟩ := h; rfl) | (obtain ⟨_, _, _, _, rfl, _⟩ := h; rfl) | (obtain ⟨_, _, _, _, _, rfl, _⟩ := h; rfl) | (obtain ⟨_, _, _, _, _, _, rfl, _⟩ := h; rfl) | (obtain ⟨_, _, _, _, _, _, ⟨rfl, _⟩ | ⟨_, rfl, _⟩⟩ := h <;> rfl)) (by decide) (w_is_row_of ) p_is_row_of (fun f cdv A outer s H E hr => body_is_row_of B f cdv A outer s H E hr)
  have c_is_word_of : Callee P w K mg base "is_word_of" 1 r_is_word_of := fn_C (k := 0) F_is_word_of scIsWordOf (fun ds Φ h => by first | (obtain ⟨rfl, _⟩ := h; rfl) | (obtain ⟨_, rfl, _⟩ := h; rfl) | (obtain ⟨_, _, rfl, _⟩ := h; rfl) | (obtain ⟨_, _, _, rfl, _⟩ := h; rfl) | (obtain ⟨_, _, _, _, rfl, _⟩ := h; rfl) | (obtain ⟨_, _, _, _, _, rfl, _⟩ := h; rfl) | (obtain ⟨_, _, _, _, _, _, rfl, _⟩ := h; rfl) | (obtain ⟨_, _, _, _, _, _, ⟨rfl, _⟩ | ⟨_, rfl, _⟩⟩ := h <;> rfl)) (by decide) (w_is_word_of ) p_is_word_of (fun f cdv A outer s H E hr => body_is_word_of B f cdv A outer s H E hr)
  have c_is_worth : Callee P w K mg base "is_worth" 4 r_is_worth := fn_C (k := 3) F_is_worth scIsWorth (fun ds Φ h => by first | (obtain ⟨rfl, _⟩ := h; rfl) | (obtain ⟨_, rfl, _⟩ := h; rfl) | (obtain ⟨_, _, rfl, _⟩ := h; rfl) | (obtain ⟨_, _, _, rfl, _⟩ := h; rfl) | (obtain ⟨_, _, _, _, rfl, _⟩ := h; rfl) | (obtain ⟨_, _, _, _, _, rfl, _⟩ := h; rfl) | (obtain ⟨_, _, _, _, _, _, rfl, _⟩ := h; rfl) | (obtain ⟨_, _, _, _, _, _, ⟨rfl, _⟩ | ⟨_, rfl, _⟩⟩ := h <;> rfl)) (by decide) (w_is_worth r_is_index) p_is_worth (fun f cdv A outer s H E hr => body_is_worth B c_is_index (by decide) m_MOST_rules f cdv A outer s H E hr)
  have c_is_head : Callee P w K mg base "is_head" 5 r_is_head := fn_C (k := 4) F_is_head scIsHead (fun ds Φ h => by first | (obtain ⟨rfl, _⟩ := h; rfl) | (obtain ⟨_, rfl, _⟩ := h; rfl) | (obtain ⟨_, _, rfl, _⟩ := h; rfl) | (obtain ⟨_, _, _, rfl, _⟩ := h; rfl) | (obtain ⟨_, _, _, _, rfl, _⟩ := h; rfl) | (obtain ⟨_, _, _, _, _, rfl, _⟩ := h; rfl) | (obtain ⟨_, _, _, _, _, _, rfl, _⟩ := h; rfl) | (obtain ⟨_, _, _, _, _, _, ⟨rfl, _⟩ | ⟨_, rfl, _⟩⟩ := h <;> rfl)) (by decide) (w_is_head r_is_worth) p_is_head (fun f cdv A outer s H E hr => body_is_head B c_is_worth (by decide) m_MOST_ROW f cdv A outer s H E hr)
  have c_parts_of : Callee P w K mg base "parts_of" 6 r_parts_of := fn_C (k := 5) F_parts_of scPartsOf (fun ds Φ h => by first | (obtain ⟨rfl, _⟩ := h; rfl) | (obtain ⟨_, rfl, _⟩ := h; rfl) | (obtain ⟨_, _, rfl, _⟩ := h; rfl) | (obtain ⟨_, _, _, rfl, _⟩ := h; rfl) | (obtain ⟨_, _, _, _, rfl, _⟩ := h; rfl) | (obtain ⟨_, _, _, _, _, rfl, _⟩ := h; rfl) | (obtain ⟨_, _, _, _, _, _, rfl, _⟩ := h; rfl) | (obtain ⟨_, _, _, _, _, _, ⟨rfl, _⟩ | ⟨_, rfl, _⟩⟩ := h <;> rfl)) (by decide) (w_parts_of r_is_worth r_is_head) p_parts_of (fun f cdv A outer s H E hr => body_parts_of B c_is_worth (by decide) c_is_head (by decide) f cdv A outer s H E hr)
  have c_counted_0 : Callee P w K mg base "counted" 0 (r_counted 0) := callee_no F_counted no_counted
  have c_counted_1 : Callee P w K mg base "counted" 7 (r_counted 1) := fn_C (k := 6) F_counted scCounted (fun ds Φ h => by first | (obtain ⟨rfl, _⟩ := h; rfl) | (obtain ⟨_, rfl, _⟩ := h; rfl) | (obtain ⟨_, _, rfl, _⟩ := h; rfl) | (obtain ⟨_, _, _, rfl, _⟩ := h; rfl) | (obtain ⟨_, _, _, _, rfl, _⟩ := h; rfl) | (obtain ⟨_, _, _, _, _, rfl, _⟩ := h; rfl) | (obtain ⟨_, _, _, _, _, _, rfl, _⟩ := h; rfl) | (obtain ⟨_, _, _, _, _, _, ⟨rfl, _⟩ | ⟨_, rfl, _⟩⟩ := h <;> rfl)) (by decide) (w_counted r_parts_of (r_counted 0)) (p_counted 0) (fun f cdv A outer s H E hr => body_counted B c_parts_of (by decide) c_counted_0 (by decide) m_MOST_PARTS f cdv A outer s H E hr)
  have c_counted_2 : Callee P w K mg base "counted" 8 (r_counted 2) := fn_C (k := 7) F_counted scCounted (fun ds Φ h => by first | (obtain ⟨rfl, _⟩ := h; rfl) | (obtain ⟨_, rfl, _⟩ := h; rfl) | (obtain ⟨_, _, rfl, _⟩ := h; rfl) | (obtain ⟨_, _, _, rfl, _⟩ := h; rfl) | (obtain ⟨_, _, _, _, rfl, _⟩ := h; rfl) | (obtain ⟨_, _, _, _, _, rfl, _⟩ := h; rfl) | (obtain ⟨_, _, _, _, _, _, rfl, _⟩ := h; rfl) | (obtain ⟨_, _, _, _, _, _, ⟨rfl, _⟩ | ⟨_, rfl, _⟩⟩ := h <;> rfl)) (by decide) (w_counted r_parts_of (r_counted 1)) (p_counted 1) (fun f cdv A outer s H E hr => body_counted B c_parts_of (by decide) c_counted_1 (by decide) m_MOST_PARTS f cdv A outer s H E hr)
  have c_counted_3 : Callee P w K mg base "counted" 9 (r_counted 3) := fn_C (k := 8) F_counted scCounted (fun ds Φ h => by first | (obtain ⟨rfl, _⟩ := h; rfl) | (obtain ⟨_, rfl, _⟩ := h; rfl) | (obtain ⟨_, _, rfl, _⟩ := h; rfl) | (obtain ⟨_, _, _, rfl, _⟩ := h; rfl) | (obtain ⟨_, _, _, _, rfl, _⟩ := h; rfl) | (obtain ⟨_, _, _, _, _, rfl, _⟩ := h; rfl) | (obtain ⟨_, _, _, _, _, _, rfl, _⟩ := h; rfl) | (obtain ⟨_, _, _, _, _, _, ⟨rfl, _⟩ | ⟨_, rfl, _⟩⟩ := h <;> rfl)) (by decide) (w_counted r_parts_of (r_counted 2)) (p_counted 2) (fun f cdv A outer s H E hr => body_counted B c_parts_of (by decide) c_counted_2 (by decide) m_MOST_PARTS f cdv A outer s H E hr)
  have c_counted_4 : Callee P w K mg base "counted" 10 (r_counted 4) := fn_C (k := 9) F_counted scCounted (fun ds Φ h => by first | (obtain ⟨rfl, _⟩ := h; rfl) | (obtain ⟨_, rfl, _⟩ := h; rfl) | (obtain ⟨_, _, rfl, _⟩ := h; rfl) | (obtain ⟨_, _, _, rfl, _⟩ := h; rfl) | (obtain ⟨_, _, _, _, rfl, _⟩ := h; rfl) | (obtain ⟨_, _, _, _, _, rfl, _⟩ := h; rfl) | (obtain ⟨_, _, _, _, _, _, rfl, _⟩ := h; rfl) | (obtain ⟨_, _, _, _, _, _, ⟨rfl, _⟩ | ⟨_, rfl, _⟩⟩ := h <;> rfl)) (by decide) (w_counted r_parts_of (r_counted 3)) (p_counted 3) (fun f cdv A outer s H E hr => body_counted B c_parts_of (by decide) c_counted_3 (by decide) m_MOST_PARTS f cdv A outer s H E hr)
  have c_is_rule : Callee P w K mg base "is_rule" 11 r_is_rule := fn_C (k := 10) F_is_rule scIsRule (fun ds Φ h => by first | (obtain ⟨rfl, _⟩ := h; rfl) | (obtain ⟨_, rfl, _⟩ := h; rfl) | (obtain ⟨_, _, rfl, _⟩ := h; rfl) | (obtain ⟨_, _, _, rfl, _⟩ := h; rfl) | (obtain ⟨_, _, _, _, rfl, _⟩ := h; rfl) | (obtain ⟨_, _, _, _, _, rfl, _⟩ := h; rfl) | (obtain ⟨_, _, _, _, _, _, rfl, _⟩ := h; rfl) | (obtain ⟨_, _, _, _, _, _, ⟨rfl, _⟩ | ⟨_, rfl, _⟩⟩ := h <;> rfl)) (by decide) (w_is_rule (r_counted 4)) p_is_rule (fun f cdv A outer s H E hr => body_is_rule B c_counted_4 (by decide) m_MOST_DEEP m_MOST_PARTS m_MOST_BRANCHES f cdv A outer s H E hr)
  have c_branches_0 : Callee P w K mg base "branches" 0 (r_branches 0) := callee_no F_branches no_branches
  have c_branches_1 : Callee P w K mg base "branches" 7 (r_branches 1) := fn_C (k := 6) F_branches scBranches (fun ds Φ h => by first | (obtain ⟨rfl, _⟩ := h; rfl) | (obtain ⟨_, rfl, _⟩ := h; rfl) | (obtain ⟨_, _, rfl, _⟩ := h; rfl) | (obtain ⟨_, _, _, rfl, _⟩ := h; rfl) | (obtain ⟨_, _, _, _, rfl, _⟩ := h; rfl) | (obtain ⟨_, _, _, _, _, rfl, _⟩ := h; rfl) | (obtain ⟨_, _, _, _, _, _, rfl, _⟩ := h; rfl) | (obtain ⟨_, _, _, _, _, _, ⟨rfl, _⟩ | ⟨_, rfl, _⟩⟩ := h <;> rfl)) (by decide) (w_branches r_parts_of (r_branches 0)) (p_branches 0) (fun f cdv A outer s H E hr => body_branches B c_parts_of (by decide) c_branches_0 (by decide) f cdv A outer s H E hr)
  have c_branches_2 : Callee P w K mg base "branches" 8 (r_branches 2) := fn_C (k := 7) F_branches scBranches (fun ds Φ h => by first | (obtain ⟨rfl, _⟩ := h; rfl) | (obtain ⟨_, rfl, _⟩ := h; rfl) | (obtain ⟨_, _, rfl, _⟩ := h; rfl) | (obtain ⟨_, _, _, rfl, _⟩ := h; rfl) | (obtain ⟨_, _, _, _, rfl, _⟩ := h; rfl) | (obtain ⟨_, _, _, _, _, rfl, _⟩ := h; rfl) | (obtain ⟨_, _, _, _, _, _, rfl, _⟩ := h; rfl) | (obtain ⟨_, _, _, _, _, _, ⟨rfl, _⟩ | ⟨_, rfl, _⟩⟩ := h <;> rfl)) (by decide) (w_branches r_parts_of (r_branches 1)) (p_branches 1) (fun f cdv A outer s H E hr => body_branches B c_parts_of (by decide) c_branches_1 (by decide) f cdv A outer s H E hr)
  have c_branches_3 : Callee P w K mg base "branches" 9 (r_branches 3) := fn_C (k := 8) F_branches scBranches (fun ds Φ h => by first | (obtain ⟨rfl, _⟩ := h; rfl) | (obtain ⟨_, rfl, _⟩ := h; rfl) | (obtain ⟨_, _, rfl, _⟩ := h; rfl) | (obtain ⟨_, _, _, rfl, _⟩ := h; rfl) | (obtain ⟨_, _, _, _, rfl, _⟩ := h; rfl) | (obtain ⟨_, _, _, _, _, rfl, _⟩ := h; rfl) | (obtain ⟨_, _, _, _, _, _, rfl, _⟩ := h; rfl) | (obtain ⟨_, _, _, _, _, _, ⟨rfl, _⟩ | ⟨_, rfl, _⟩⟩ := h <;> rfl)) (by decide) (w_branches r_parts_of (r_branches 2)) (p_branches 2) (fun f cdv A outer s H E hr => body_branches B c_parts_of (by decide) c_branches_2 (by decide) f cdv A outer s H E hr)
  have c_branches_4 : Callee P w K mg base "branches" 10 (r_branches 4) := fn_C (k := 9) F_branches scBranches (fun ds Φ h => by first | (obtain ⟨rfl, _⟩ := h; rfl) | (obtain ⟨_, rfl, _⟩ := h; rfl) | (obtain ⟨_, _, rfl, _⟩ := h; rfl) | (obtain ⟨_, _, _, rfl, _⟩ := h; rfl) | (obtain ⟨_, _, _, _, rfl, _⟩ := h; rfl) | (obtain ⟨_, _, _, _, _, rfl, _⟩ := h; rfl) | (obtain ⟨_, _, _, _, _, _, rfl, _⟩ := h; rfl) | (obtain ⟨_, _, _, _, _, _, ⟨rfl, _⟩ | ⟨_, rfl, _⟩⟩ := h <;> rfl)) (by decide) (w_branches r_parts_of (r_branches 3)) (p_branches 3) (fun f cdv A outer s H E hr => body_branches B c_parts_of (by decide) c_branches_3 (by decide) f cdv A outer s H E hr)
  have c_made : Callee P w K mg base "made" 1 r_made := fn_C (k := 0) F_made scMade (fun ds Φ h => by first | (obtain ⟨rfl, _⟩ := h; rfl) | (obtain ⟨_, rfl, _⟩ := h; rfl) | (obtain ⟨_, _, rfl, _⟩ := h; rfl) | (obtain ⟨_, _, _, rfl, _⟩ := h; rfl) | (obtain ⟨_, _, _, _, rfl, _⟩ := h; rfl) | (obtain ⟨_, _, _, _, _, rfl, _⟩ := h; rfl) | (obtain ⟨_, _, _, _, _, _, rfl, _⟩ := h; rfl) | (obtain ⟨_, _, _, _, _, _, ⟨rfl, _⟩ | ⟨_, rfl, _⟩⟩ := h <;> rfl)) (by decide) (w_made ) p_made (fun f cdv A outer s H E hr => body_made B f cdv A outer s H E hr)
  have c_told_by_0 : Callee P w K mg base "told_by" 0 (r_told_by 0) := callee_no F_told_by no_told_by
  have c_told_by_1 : Callee P w K mg base "told_by" 7 (r_told_by 1) := fn_C (k := 6) F_told_by scToldBy (fun ds Φ h => by first | (obtain ⟨rfl, _⟩ := h; rfl) | (obtain ⟨_, rfl, _⟩ := h; rfl) | (obtain ⟨_, _, rfl, _⟩ := h; rfl) | (obtain ⟨_, _, _, rfl, _⟩ := h; rfl) | (obtain ⟨_, _, _, _, rfl, _⟩ := h; rfl) | (obtain ⟨_, _, _, _, _, rfl, _⟩ := h; rfl) | (obtain ⟨_, _, _, _, _, _, rfl, _⟩ := h; rfl) | (obtain ⟨_, _, _, _, _, _, ⟨rfl, _⟩ | ⟨_, rfl, _⟩⟩ := h <;> rfl)) (by decide) (w_told_by r_parts_of (r_told_by 0) r_made) (p_told_by 0) (fun f cdv A outer s H E hr => body_told_by B c_parts_of (by decide) c_told_by_0 (by decide) c_made (by decide) f cdv A outer s H E hr)
  have c_told_by_2 : Callee P w K mg base "told_by" 8 (r_told_by 2) := fn_C (k := 7) F_told_by scToldBy (fun ds Φ h => by first | (obtain ⟨rfl, _⟩ := h; rfl) | (obtain ⟨_, rfl, _⟩ := h; rfl) | (obtain ⟨_, _, rfl, _⟩ := h; rfl) | (obtain ⟨_, _, _, rfl, _⟩ := h; rfl) | (obtain ⟨_, _, _, _, rfl, _⟩ := h; rfl) | (obtain ⟨_, _, _, _, _, rfl, _⟩ := h; rfl) | (obtain ⟨_, _, _, _, _, _, rfl, _⟩ := h; rfl) | (obtain ⟨_, _, _, _, _, _, ⟨rfl, _⟩ | ⟨_, rfl, _⟩⟩ := h <;> rfl)) (by decide) (w_told_by r_parts_of (r_told_by 1) r_made) (p_told_by 1) (fun f cdv A outer s H E hr => body_told_by B c_parts_of (by decide) c_told_by_1 (by decide) c_made (by decide) f cdv A outer s H E hr)
  have c_told_by_3 : Callee P w K mg base "told_by" 9 (r_told_by 3) := fn_C (k := 8) F_told_by scToldBy (fun ds Φ h => by first | (obtain ⟨rfl, _⟩ := h; rfl) | (obtain ⟨_, rfl, _⟩ := h; rfl) | (obtain ⟨_, _, rfl, _⟩ := h; rfl) | (obtain ⟨_, _, _, rfl, _⟩ := h; rfl) | (obtain ⟨_, _, _, _, rfl, _⟩ := h; rfl) | (obtain ⟨_, _, _, _, _, rfl, _⟩ := h; rfl) | (obtain ⟨_, _, _, _, _, _, rfl, _⟩ := h; rfl) | (obtain ⟨_, _, _, _, _, _, ⟨rfl, _⟩ | ⟨_, rfl, _⟩⟩ := h <;> rfl)) (by decide) (w_told_by r_parts_of (r_told_by 2) r_made) (p_told_by 2) (fun f cdv A outer s H E hr => body_told_by B c_parts_of (by decide) c_told_by_2 (by decide) c_made (by decide) f cdv A outer s H E hr)
  have c_told_by_4 : Callee P w K mg base "told_by" 10 (r_told_by 4) := fn_C (k := 9) F_told_by scToldBy (fun ds Φ h => by first | (obtain ⟨rfl, _⟩ := h; rfl) | (obtain ⟨_, rfl, _⟩ := h; rfl) | (obtain ⟨_, _, rfl, _⟩ := h; rfl) | (obtain ⟨_, _, _, rfl, _⟩ := h; rfl) | (obtain ⟨_, _, _, _, rfl, _⟩ := h; rfl) | (obtain ⟨_, _, _, _, _, rfl, _⟩ := h; rfl) | (obtain ⟨_, _, _, _, _, _, rfl, _⟩ := h; rfl) | (obtain ⟨_, _, _, _, _, _, ⟨rfl, _⟩ | ⟨_, rfl, _⟩⟩ := h <;> rfl)) (by decide) (w_told_by r_parts_of (r_told_by 3) r_made) (p_told_by 3) (fun f cdv A outer s H E hr => body_told_by B c_parts_of (by decide) c_told_by_3 (by decide) c_made (by decide) f cdv A outer s H E hr)
  have c_told : Callee P w K mg base "told" 11 r_told := fn_C (k := 10) F_told scTold (fun ds Φ h => by first | (obtain ⟨rfl, _⟩ := h; rfl) | (obtain ⟨_, rfl, _⟩ := h; rfl) | (obtain ⟨_, _, rfl, _⟩ := h; rfl) | (obtain ⟨_, _, _, rfl, _⟩ := h; rfl) | (obtain ⟨_, _, _, _, rfl, _⟩ := h; rfl) | (obtain ⟨_, _, _, _, _, rfl, _⟩ := h; rfl) | (obtain ⟨_, _, _, _, _, _, rfl, _⟩ := h; rfl) | (obtain ⟨_, _, _, _, _, _, ⟨rfl, _⟩ | ⟨_, rfl, _⟩⟩ := h <;> rfl)) (by decide) (w_told (r_told_by 4)) p_told (fun f cdv A outer s H E hr => body_told B c_told_by_4 (by decide) f cdv A outer s H E hr)
  have c_are_tops : Callee P w K mg base "are_tops" 5 r_are_tops := fn_C (k := 4) F_are_tops scAreTops (fun ds Φ h => by first | (obtain ⟨rfl, _⟩ := h; rfl) | (obtain ⟨_, rfl, _⟩ := h; rfl) | (obtain ⟨_, _, rfl, _⟩ := h; rfl) | (obtain ⟨_, _, _, rfl, _⟩ := h; rfl) | (obtain ⟨_, _, _, _, rfl, _⟩ := h; rfl) | (obtain ⟨_, _, _, _, _, rfl, _⟩ := h; rfl) | (obtain ⟨_, _, _, _, _, _, rfl, _⟩ := h; rfl) | (obtain ⟨_, _, _, _, _, _, ⟨rfl, _⟩ | ⟨_, rfl, _⟩⟩ := h <;> rfl)) (by decide) (w_are_tops r_is_worth) p_are_tops (fun f cdv A outer s H E hr => body_are_tops B c_is_worth (by decide) m_MOST_nets f cdv A outer s H E hr)
  have c_are_rules : Callee P w K mg base "are_rules" 12 r_are_rules := fn_C (k := 11) F_are_rules scAreRules (fun ds Φ h => by first | (obtain ⟨rfl, _⟩ := h; rfl) | (obtain ⟨_, rfl, _⟩ := h; rfl) | (obtain ⟨_, _, rfl, _⟩ := h; rfl) | (obtain ⟨_, _, _, rfl, _⟩ := h; rfl) | (obtain ⟨_, _, _, _, rfl, _⟩ := h; rfl) | (obtain ⟨_, _, _, _, _, rfl, _⟩ := h; rfl) | (obtain ⟨_, _, _, _, _, _, rfl, _⟩ := h; rfl) | (obtain ⟨_, _, _, _, _, _, ⟨rfl, _⟩ | ⟨_, rfl, _⟩⟩ := h <;> rfl)) (by decide) (w_are_rules r_is_rule (r_branches 4)) p_are_rules (fun f cdv A outer s H E hr => body_are_rules B c_is_rule (by decide) c_branches_4 (by decide) f cdv A outer s H E hr)
  have c_is_net : Callee P w K mg base "is_net" 13 r_is_net := fn_C (k := 12) F_is_net scIsNet (fun ds Φ h => by first | (obtain ⟨rfl, _⟩ := h; rfl) | (obtain ⟨_, rfl, _⟩ := h; rfl) | (obtain ⟨_, _, rfl, _⟩ := h; rfl) | (obtain ⟨_, _, _, rfl, _⟩ := h; rfl) | (obtain ⟨_, _, _, _, rfl, _⟩ := h; rfl) | (obtain ⟨_, _, _, _, _, rfl, _⟩ := h; rfl) | (obtain ⟨_, _, _, _, _, _, rfl, _⟩ := h; rfl) | (obtain ⟨_, _, _, _, _, _, ⟨rfl, _⟩ | ⟨_, rfl, _⟩⟩ := h <;> rfl)) (by decide) (w_is_net r_are_tops r_are_rules) p_is_net (fun f cdv A outer s H E hr => body_is_net B c_are_tops (by decide) c_are_rules (by decide) f cdv A outer s H E hr)
  have c_wanted : Callee P w K mg base "wanted" 12 r_wanted := fn_C (k := 11) F_wanted scWanted (fun ds Φ h => by first | (obtain ⟨rfl, _⟩ := h; rfl) | (obtain ⟨_, rfl, _⟩ := h; rfl) | (obtain ⟨_, _, rfl, _⟩ := h; rfl) | (obtain ⟨_, _, _, rfl, _⟩ := h; rfl) | (obtain ⟨_, _, _, _, rfl, _⟩ := h; rfl) | (obtain ⟨_, _, _, _, _, rfl, _⟩ := h; rfl) | (obtain ⟨_, _, _, _, _, _, rfl, _⟩ := h; rfl) | (obtain ⟨_, _, _, _, _, _, ⟨rfl, _⟩ | ⟨_, rfl, _⟩⟩ := h <;> rfl)) (by decide) (w_wanted r_told) p_wanted (fun f cdv A outer s H E hr => body_wanted B c_told (by decide) f cdv A outer s H E hr)
  have c_with_rule : Callee P w K mg base "with_rule" 1 r_with_rule := fn_C (k := 0) F_with_rule scWithRule (fun ds Φ h => by first | (obtain ⟨rfl, _⟩ := h; rfl) | (obtain ⟨_, rfl, _⟩ := h; rfl) | (obtain ⟨_, _, rfl, _⟩ := h; rfl) | (obtain ⟨_, _, _, rfl, _⟩ := h; rfl) | (obtain ⟨_, _, _, _, rfl, _⟩ := h; rfl) | (obtain ⟨_, _, _, _, _, rfl, _⟩ := h; rfl) | (obtain ⟨_, _, _, _, _, _, rfl, _⟩ := h; rfl) | (obtain ⟨_, _, _, _, _, _, ⟨rfl, _⟩ | ⟨_, rfl, _⟩⟩ := h <;> rfl)) (by decide) (w_with_rule ) p_with_rule (fun f cdv A outer s H E hr => body_with_rule B f cdv A outer s H E hr)
  have c_entries_for : Callee P w K mg base "entries_for" 1 r_entries_for := fn_C (k := 0) F_entries_for scEntriesFor (fun ds Φ h => by first | (obtain ⟨rfl, _⟩ := h; rfl) | (obtain ⟨_, rfl, _⟩ := h; rfl) | (obtain ⟨_, _, rfl, _⟩ := h; rfl) | (obtain ⟨_, _, _, rfl, _⟩ := h; rfl) | (obtain ⟨_, _, _, _, rfl, _⟩ := h; rfl) | (obtain ⟨_, _, _, _, _, rfl, _⟩ := h; rfl) | (obtain ⟨_, _, _, _, _, _, rfl, _⟩ := h; rfl) | (obtain ⟨_, _, _, _, _, _, ⟨rfl, _⟩ | ⟨_, rfl, _⟩⟩ := h <;> rfl)) (by decide) (w_entries_for ) p_entries_for (fun f cdv A outer s H E hr => body_entries_for B f cdv A outer s H E hr)
  have c_range_of_0 : Callee P w K mg base "range_of" 0 (r_range_of 0) := callee_no F_range_of no_range_of
  have c_range_of_1 : Callee P w K mg base "range_of" 7 (r_range_of 1) := fn_C (k := 6) F_range_of scRangeOf (fun ds Φ h => by first | (obtain ⟨rfl, _⟩ := h; rfl) | (obtain ⟨_, rfl, _⟩ := h; rfl) | (obtain ⟨_, _, rfl, _⟩ := h; rfl) | (obtain ⟨_, _, _, rfl, _⟩ := h; rfl) | (obtain ⟨_, _, _, _, rfl, _⟩ := h; rfl) | (obtain ⟨_, _, _, _, _, rfl, _⟩ := h; rfl) | (obtain ⟨_, _, _, _, _, _, rfl, _⟩ := h; rfl) | (obtain ⟨_, _, _, _, _, _, ⟨rfl, _⟩ | ⟨_, rfl, _⟩⟩ := h <;> rfl)) (by decide) (w_range_of r_parts_of (r_range_of 0) r_entries_for r_made) (p_range_of 0) (fun f cdv A outer s H E hr => body_range_of B c_parts_of (by decide) c_range_of_0 (by decide) c_entries_for (by decide) c_made (by decide) f cdv A outer s H E hr)
  have c_range_of_2 : Callee P w K mg base "range_of" 8 (r_range_of 2) := fn_C (k := 7) F_range_of scRangeOf (fun ds Φ h => by first | (obtain ⟨rfl, _⟩ := h; rfl) | (obtain ⟨_, rfl, _⟩ := h; rfl) | (obtain ⟨_, _, rfl, _⟩ := h; rfl) | (obtain ⟨_, _, _, rfl, _⟩ := h; rfl) | (obtain ⟨_, _, _, _, rfl, _⟩ := h; rfl) | (obtain ⟨_, _, _, _, _, rfl, _⟩ := h; rfl) | (obtain ⟨_, _, _, _, _, _, rfl, _⟩ := h; rfl) | (obtain ⟨_, _, _, _, _, _, ⟨rfl, _⟩ | ⟨_, rfl, _⟩⟩ := h <;> rfl)) (by decide) (w_range_of r_parts_of (r_range_of 1) r_entries_for r_made) (p_range_of 1) (fun f cdv A outer s H E hr => body_range_of B c_parts_of (by decide) c_range_of_1 (by decide) c_entries_for (by decide) c_made (by decide) f cdv A outer s H E hr)
  have c_range_of_3 : Callee P w K mg base "range_of" 9 (r_range_of 3) := fn_C (k := 8) F_range_of scRangeOf (fun ds Φ h => by first | (obtain ⟨rfl, _⟩ := h; rfl) | (obtain ⟨_, rfl, _⟩ := h; rfl) | (obtain ⟨_, _, rfl, _⟩ := h; rfl) | (obtain ⟨_, _, _, rfl, _⟩ := h; rfl) | (obtain ⟨_, _, _, _, rfl, _⟩ := h; rfl) | (obtain ⟨_, _, _, _, _, rfl, _⟩ := h; rfl) | (obtain ⟨_, _, _, _, _, _, rfl, _⟩ := h; rfl) | (obtain ⟨_, _, _, _, _, _, ⟨rfl, _⟩ | ⟨_, rfl, _⟩⟩ := h <;> rfl)) (by decide) (w_range_of r_parts_of (r_range_of 2) r_entries_for r_made) (p_range_of 2) (fun f cdv A outer s H E hr => body_range_of B c_parts_of (by decide) c_range_of_2 (by decide) c_entries_for (by decide) c_made (by decide) f cdv A outer s H E hr)
  have c_range_of_4 : Callee P w K mg base "range_of" 10 (r_range_of 4) := fn_C (k := 9) F_range_of scRangeOf (fun ds Φ h => by first | (obtain ⟨rfl, _⟩ := h; rfl) | (obtain ⟨_, rfl, _⟩ := h; rfl) | (obtain ⟨_, _, rfl, _⟩ := h; rfl) | (obtain ⟨_, _, _, rfl, _⟩ := h; rfl) | (obtain ⟨_, _, _, _, rfl, _⟩ := h; rfl) | (obtain ⟨_, _, _, _, _, rfl, _⟩ := h; rfl) | (obtain ⟨_, _, _, _, _, _, rfl, _⟩ := h; rfl) | (obtain ⟨_, _, _, _, _, _, ⟨rfl, _⟩ | ⟨_, rfl, _⟩⟩ := h <;> rfl)) (by decide) (w_range_of r_parts_of (r_range_of 3) r_entries_for r_made) (p_range_of 3) (fun f cdv A outer s H E hr => body_range_of B c_parts_of (by decide) c_range_of_3 (by decide) c_entries_for (by decide) c_made (by decide) f cdv A outer s H E hr)
  have c_house_range : Callee P w K mg base "house_range" 11 r_house_range := fn_C (k := 10) F_house_range scHouseRange (fun ds Φ h => by first | (obtain ⟨rfl, _⟩ := h; rfl) | (obtain ⟨_, rfl, _⟩ := h; rfl) | (obtain ⟨_, _, rfl, _⟩ := h; rfl) | (obtain ⟨_, _, _, rfl, _⟩ := h; rfl) | (obtain ⟨_, _, _, _, rfl, _⟩ := h; rfl) | (obtain ⟨_, _, _, _, _, rfl, _⟩ := h; rfl) | (obtain ⟨_, _, _, _, _, _, rfl, _⟩ := h; rfl) | (obtain ⟨_, _, _, _, _, _, ⟨rfl, _⟩ | ⟨_, rfl, _⟩⟩ := h <;> rfl)) (by decide) (w_house_range (r_range_of 4)) p_house_range (fun f cdv A outer s H E hr => body_house_range B c_range_of_4 (by decide) f cdv A outer s H E hr)
  have c_is_rising_row : Callee P w K mg base "is_rising_row" 1 r_is_rising_row := fn_C (k := 0) F_is_rising_row scIsRisingRow (fun ds Φ h => by first | (obtain ⟨rfl, _⟩ := h; rfl) | (obtain ⟨_, rfl, _⟩ := h; rfl) | (obtain ⟨_, _, rfl, _⟩ := h; rfl) | (obtain ⟨_, _, _, rfl, _⟩ := h; rfl) | (obtain ⟨_, _, _, _, rfl, _⟩ := h; rfl) | (obtain ⟨_, _, _, _, _, rfl, _⟩ := h; rfl) | (obtain ⟨_, _, _, _, _, _, rfl, _⟩ := h; rfl) | (obtain ⟨_, _, _, _, _, _, ⟨rfl, _⟩ | ⟨_, rfl, _⟩⟩ := h <;> rfl)) (by decide) (w_is_rising_row ) p_is_rising_row (fun f cdv A outer s H E hr => body_is_rising_row B f cdv A outer s H E hr)
  have c_turn_of : Callee P w K mg base "turn_of" 11 r_turn_of := fn_C (k := 10) F_turn_of scTurnOf (fun ds Φ h => by first | (obtain ⟨rfl, _⟩ := h; rfl) | (obtain ⟨_, rfl, _⟩ := h; rfl) | (obtain ⟨_, _, rfl, _⟩ := h; rfl) | (obtain ⟨_, _, _, rfl, _⟩ := h; rfl) | (obtain ⟨_, _, _, _, rfl, _⟩ := h; rfl) | (obtain ⟨_, _, _, _, _, rfl, _⟩ := h; rfl) | (obtain ⟨_, _, _, _, _, _, rfl, _⟩ := h; rfl) | (obtain ⟨_, _, _, _, _, _, ⟨rfl, _⟩ | ⟨_, rfl, _⟩⟩ := h <;> rfl)) (by decide) (w_turn_of (r_range_of 4) r_entries_for r_is_rising_row) p_turn_of (fun f cdv A outer s H E hr => body_turn_of B c_range_of_4 (by decide) c_entries_for (by decide) c_is_rising_row (by decide) f cdv A outer s H E hr)
  have c_words_within_0 : Callee P w K mg base "words_within" 0 (r_words_within 0) := callee_no F_words_within no_words_within
  have c_words_within_1 : Callee P w K mg base "words_within" 12 (r_words_within 1) := fn_C (k := 11) F_words_within scWordsWithin (fun ds Φ h => by first | (obtain ⟨rfl, _⟩ := h; rfl) | (obtain ⟨_, rfl, _⟩ := h; rfl) | (obtain ⟨_, _, rfl, _⟩ := h; rfl) | (obtain ⟨_, _, _, rfl, _⟩ := h; rfl) | (obtain ⟨_, _, _, _, rfl, _⟩ := h; rfl) | (obtain ⟨_, _, _, _, _, rfl, _⟩ := h; rfl) | (obtain ⟨_, _, _, _, _, _, rfl, _⟩ := h; rfl) | (obtain ⟨_, _, _, _, _, _, ⟨rfl, _⟩ | ⟨_, rfl, _⟩⟩ := h <;> rfl)) (by decide) (w_words_within (r_range_of 4) r_turn_of r_parts_of (r_words_within 0)) (p_words_within 0) (fun f cdv A outer s H E hr => body_words_within B c_range_of_4 (by decide) c_turn_of (by decide) c_parts_of (by decide) c_words_within_0 (by decide) f cdv A outer s H E hr)
  have c_words_within_2 : Callee P w K mg base "words_within" 13 (r_words_within 2) := fn_C (k := 12) F_words_within scWordsWithin (fun ds Φ h => by first | (obtain ⟨rfl, _⟩ := h; rfl) | (obtain ⟨_, rfl, _⟩ := h; rfl) | (obtain ⟨_, _, rfl, _⟩ := h; rfl) | (obtain ⟨_, _, _, rfl, _⟩ := h; rfl) | (obtain ⟨_, _, _, _, rfl, _⟩ := h; rfl) | (obtain ⟨_, _, _, _, _, rfl, _⟩ := h; rfl) | (obtain ⟨_, _, _, _, _, _, rfl, _⟩ := h; rfl) | (obtain ⟨_, _, _, _, _, _, ⟨rfl, _⟩ | ⟨_, rfl, _⟩⟩ := h <;> rfl)) (by decide) (w_words_within (r_range_of 4) r_turn_of r_parts_of (r_words_within 1)) (p_words_within 1) (fun f cdv A outer s H E hr => body_words_within B c_range_of_4 (by decide) c_turn_of (by decide) c_parts_of (by decide) c_words_within_1 (by decide) f cdv A outer s H E hr)
  have c_words_within_3 : Callee P w K mg base "words_within" 14 (r_words_within 3) := fn_C (k := 13) F_words_within scWordsWithin (fun ds Φ h => by first | (obtain ⟨rfl, _⟩ := h; rfl) | (obtain ⟨_, rfl, _⟩ := h; rfl) | (obtain ⟨_, _, rfl, _⟩ := h; rfl) | (obtain ⟨_, _, _, rfl, _⟩ := h; rfl) | (obtain ⟨_, _, _, _, rfl, _⟩ := h; rfl) | (obtain ⟨_, _, _, _, _, rfl, _⟩ := h; rfl) | (obtain ⟨_, _, _, _, _, _, rfl, _⟩ := h; rfl) | (obtain ⟨_, _, _, _, _, _, ⟨rfl, _⟩ | ⟨_, rfl, _⟩⟩ := h <;> rfl)) (by decide) (w_words_within (r_range_of 4) r_turn_of r_parts_of (r_words_within 2)) (p_words_within 2) (fun f cdv A outer s H E hr => body_words_within B c_range_of_4 (by decide) c_turn_of (by decide) c_parts_of (by decide) c_words_within_2 (by decide) f cdv A outer s H E hr)
  have c_words_within_4 : Callee P w K mg base "words_within" 15 (r_words_within 4) := fn_C (k := 14) F_words_within scWordsWithin (fun ds Φ h => by first | (obtain ⟨rfl, _⟩ := h; rfl) | (obtain ⟨_, rfl, _⟩ := h; rfl) | (obtain ⟨_, _, rfl, _⟩ := h; rfl) | (obtain ⟨_, _, _, rfl, _⟩ := h; rfl) | (obtain ⟨_, _, _, _, rfl, _⟩ := h; rfl) | (obtain ⟨_, _, _, _, _, rfl, _⟩ := h; rfl) | (obtain ⟨_, _, _, _, _, _, rfl, _⟩ := h; rfl) | (obtain ⟨_, _, _, _, _, _, ⟨rfl, _⟩ | ⟨_, rfl, _⟩⟩ := h <;> rfl)) (by decide) (w_words_within (r_range_of 4) r_turn_of r_parts_of (r_words_within 3)) (p_words_within 3) (fun f cdv A outer s H E hr => body_words_within B c_range_of_4 (by decide) c_turn_of (by decide) c_parts_of (by decide) c_words_within_3 (by decide) f cdv A outer s H E hr)
  have c_ways : Callee P w K mg base "ways" 16 r_ways := fn_C (k := 15) F_ways scWays (fun ds Φ h => by first | (obtain ⟨rfl, _⟩ := h; rfl) | (obtain ⟨_, rfl, _⟩ := h; rfl) | (obtain ⟨_, _, rfl, _⟩ := h; rfl) | (obtain ⟨_, _, _, rfl, _⟩ := h; rfl) | (obtain ⟨_, _, _, _, rfl, _⟩ := h; rfl) | (obtain ⟨_, _, _, _, _, rfl, _⟩ := h; rfl) | (obtain ⟨_, _, _, _, _, _, rfl, _⟩ := h; rfl) | (obtain ⟨_, _, _, _, _, _, ⟨rfl, _⟩ | ⟨_, rfl, _⟩⟩ := h <;> rfl)) (by decide) (w_ways r_house_range (r_words_within 4)) p_ways (fun f cdv A outer s H E hr => body_ways B c_house_range (by decide) c_words_within_4 (by decide) f cdv A outer s H E hr)
  have c_are_one_way : Callee P w K mg base "are_one_way" 17 r_are_one_way := fn_C (k := 16) F_are_one_way scAreOneWay (fun ds Φ h => by first | (obtain ⟨rfl, _⟩ := h; rfl) | (obtain ⟨_, rfl, _⟩ := h; rfl) | (obtain ⟨_, _, rfl, _⟩ := h; rfl) | (obtain ⟨_, _, _, rfl, _⟩ := h; rfl) | (obtain ⟨_, _, _, _, rfl, _⟩ := h; rfl) | (obtain ⟨_, _, _, _, _, rfl, _⟩ := h; rfl) | (obtain ⟨_, _, _, _, _, _, rfl, _⟩ := h; rfl) | (obtain ⟨_, _, _, _, _, _, ⟨rfl, _⟩ | ⟨_, rfl, _⟩⟩ := h <;> rfl)) (by decide) (w_are_one_way r_ways) p_are_one_way (fun f cdv A outer s H E hr => body_are_one_way B c_ways (by decide) f cdv A outer s H E hr)
  have c_one_way : Callee P w K mg base "one_way" 17 r_one_way := fn_C (k := 16) F_one_way scOneWay (fun ds Φ h => by first | (obtain ⟨rfl, _⟩ := h; rfl) | (obtain ⟨_, rfl, _⟩ := h; rfl) | (obtain ⟨_, _, rfl, _⟩ := h; rfl) | (obtain ⟨_, _, _, rfl, _⟩ := h; rfl) | (obtain ⟨_, _, _, _, rfl, _⟩ := h; rfl) | (obtain ⟨_, _, _, _, _, rfl, _⟩ := h; rfl) | (obtain ⟨_, _, _, _, _, _, rfl, _⟩ := h; rfl) | (obtain ⟨_, _, _, _, _, _, ⟨rfl, _⟩ | ⟨_, rfl, _⟩⟩ := h <;> rfl)) (by decide) (w_one_way r_ways) p_one_way (fun f cdv A outer s H E hr => body_one_way B c_ways (by decide) f cdv A outer s H E hr)
  have c_hull : Callee P w K mg base "hull" 1 r_hull := fn_C (k := 0) F_hull scHull (fun ds Φ h => by first | (obtain ⟨rfl, _⟩ := h; rfl) | (obtain ⟨_, rfl, _⟩ := h; rfl) | (obtain ⟨_, _, rfl, _⟩ := h; rfl) | (obtain ⟨_, _, _, rfl, _⟩ := h; rfl) | (obtain ⟨_, _, _, _, rfl, _⟩ := h; rfl) | (obtain ⟨_, _, _, _, _, rfl, _⟩ := h; rfl) | (obtain ⟨_, _, _, _, _, _, rfl, _⟩ := h; rfl) | (obtain ⟨_, _, _, _, _, _, ⟨rfl, _⟩ | ⟨_, rfl, _⟩⟩ := h <;> rfl)) (by decide) (w_hull ) p_hull (fun f cdv A outer s H E hr => body_hull B f cdv A outer s H E hr)
  have c_net_behind : Callee P w K mg base "net_behind" 2 r_net_behind := fn_C (k := 1) F_net_behind scNetBehind (fun ds Φ h => by first | (obtain ⟨rfl, _⟩ := h; rfl) | (obtain ⟨_, rfl, _⟩ := h; rfl) | (obtain ⟨_, _, rfl, _⟩ := h; rfl) | (obtain ⟨_, _, _, rfl, _⟩ := h; rfl) | (obtain ⟨_, _, _, _, rfl, _⟩ := h; rfl) | (obtain ⟨_, _, _, _, _, rfl, _⟩ := h; rfl) | (obtain ⟨_, _, _, _, _, _, rfl, _⟩ := h; rfl) | (obtain ⟨_, _, _, _, _, _, ⟨rfl, _⟩ | ⟨_, rfl, _⟩⟩ := h <;> rfl)) (by decide) (w_net_behind r_with_rule) p_net_behind (fun f cdv A outer s H E hr => body_net_behind B c_with_rule (by decide) f cdv A outer s H E hr)
  have c_placed : Callee P w K mg base "placed" 1 r_placed := fn_C (k := 0) F_placed scPlaced (fun ds Φ h => by first | (obtain ⟨rfl, _⟩ := h; rfl) | (obtain ⟨_, rfl, _⟩ := h; rfl) | (obtain ⟨_, _, rfl, _⟩ := h; rfl) | (obtain ⟨_, _, _, rfl, _⟩ := h; rfl) | (obtain ⟨_, _, _, _, rfl, _⟩ := h; rfl) | (obtain ⟨_, _, _, _, _, rfl, _⟩ := h; rfl) | (obtain ⟨_, _, _, _, _, _, rfl, _⟩ := h; rfl) | (obtain ⟨_, _, _, _, _, _, ⟨rfl, _⟩ | ⟨_, rfl, _⟩⟩ := h <;> rfl)) (by decide) (w_placed ) p_placed (fun f cdv A outer s H E hr => body_placed B f cdv A outer s H E hr)
  have c_law_of : Callee P w K mg base "_law_of" 2 r_law_of := fn_C (k := 1) F_law_of scLawOf (fun ds Φ h => by first | (obtain ⟨rfl, _⟩ := h; rfl) | (obtain ⟨_, rfl, _⟩ := h; rfl) | (obtain ⟨_, _, rfl, _⟩ := h; rfl) | (obtain ⟨_, _, _, rfl, _⟩ := h; rfl) | (obtain ⟨_, _, _, _, rfl, _⟩ := h; rfl) | (obtain ⟨_, _, _, _, _, rfl, _⟩ := h; rfl) | (obtain ⟨_, _, _, _, _, _, rfl, _⟩ := h; rfl) | (obtain ⟨_, _, _, _, _, _, ⟨rfl, _⟩ | ⟨_, rfl, _⟩⟩ := h <;> rfl)) (by decide) (w_law_of r_law_any) p_law_of (fun f cdv A outer s H E hr => body_law_of B c_law_any (by decide) f cdv A outer s H E hr)
  have c_law_rule_0 : Callee P w K mg base "_law_rule" 0 (r_law_rule 0) := callee_no F_law_rule no_law_rule
  have c_law_rule_1 : Callee P w K mg base "_law_rule" 3 (r_law_rule 1) := fn_C (k := 2) F_law_rule scLawRule (fun ds Φ h => by first | (obtain ⟨rfl, _⟩ := h; rfl) | (obtain ⟨_, rfl, _⟩ := h; rfl) | (obtain ⟨_, _, rfl, _⟩ := h; rfl) | (obtain ⟨_, _, _, rfl, _⟩ := h; rfl) | (obtain ⟨_, _, _, _, rfl, _⟩ := h; rfl) | (obtain ⟨_, _, _, _, _, rfl, _⟩ := h; rfl) | (obtain ⟨_, _, _, _, _, _, rfl, _⟩ := h; rfl) | (obtain ⟨_, _, _, _, _, _, ⟨rfl, _⟩ | ⟨_, rfl, _⟩⟩ := h <;> rfl)) (by decide) (w_law_rule r_law_any (r_law_rule 0) r_law_of) (p_law_rule 0) (fun f cdv A outer s H E hr => body_law_rule B c_law_any (by decide) c_law_rule_0 (by decide) c_law_of (by decide) f cdv A outer s H E hr)
  have c_law_rule_2 : Callee P w K mg base "_law_rule" 4 (r_law_rule 2) := fn_C (k := 3) F_law_rule scLawRule (fun ds Φ h => by first | (obtain ⟨rfl, _⟩ := h; rfl) | (obtain ⟨_, rfl, _⟩ := h; rfl) | (obtain ⟨_, _, rfl, _⟩ := h; rfl) | (obtain ⟨_, _, _, rfl, _⟩ := h; rfl) | (obtain ⟨_, _, _, _, rfl, _⟩ := h; rfl) | (obtain ⟨_, _, _, _, _, rfl, _⟩ := h; rfl) | (obtain ⟨_, _, _, _, _, _, rfl, _⟩ := h; rfl) | (obtain ⟨_, _, _, _, _, _, ⟨rfl, _⟩ | ⟨_, rfl, _⟩⟩ := h <;> rfl)) (by decide) (w_law_rule r_law_any (r_law_rule 1) r_law_of) (p_law_rule 1) (fun f cdv A outer s H E hr => body_law_rule B c_law_any (by decide) c_law_rule_1 (by decide) c_law_of (by decide) f cdv A outer s H E hr)
  have c_law_rule_3 : Callee P w K mg base "_law_rule" 5 (r_law_rule 3) := fn_C (k := 4) F_law_rule scLawRule (fun ds Φ h => by first | (obtain ⟨rfl, _⟩ := h; rfl) | (obtain ⟨_, rfl, _⟩ := h; rfl) | (obtain ⟨_, _, rfl, _⟩ := h; rfl) | (obtain ⟨_, _, _, rfl, _⟩ := h; rfl) | (obtain ⟨_, _, _, _, rfl, _⟩ := h; rfl) | (obtain ⟨_, _, _, _, _, rfl, _⟩ := h; rfl) | (obtain ⟨_, _, _, _, _, _, rfl, _⟩ := h; rfl) | (obtain ⟨_, _, _, _, _, _, ⟨rfl, _⟩ | ⟨_, rfl, _⟩⟩ := h <;> rfl)) (by decide) (w_law_rule r_law_any (r_law_rule 2) r_law_of) (p_law_rule 2) (fun f cdv A outer s H E hr => body_law_rule B c_law_any (by decide) c_law_rule_2 (by decide) c_law_of (by decide) f cdv A outer s H E hr)
  have c_law_rule_4 : Callee P w K mg base "_law_rule" 6 (r_law_rule 4) := fn_C (k := 5) F_law_rule scLawRule (fun ds Φ h => by first | (obtain ⟨rfl, _⟩ := h; rfl) | (obtain ⟨_, rfl, _⟩ := h; rfl) | (obtain ⟨_, _, rfl, _⟩ := h; rfl) | (obtain ⟨_, _, _, rfl, _⟩ := h; rfl) | (obtain ⟨_, _, _, _, rfl, _⟩ := h; rfl) | (obtain ⟨_, _, _, _, _, rfl, _⟩ := h; rfl) | (obtain ⟨_, _, _, _, _, _, rfl, _⟩ := h; rfl) | (obtain ⟨_, _, _, _, _, _, ⟨rfl, _⟩ | ⟨_, rfl, _⟩⟩ := h <;> rfl)) (by decide) (w_law_rule r_law_any (r_law_rule 3) r_law_of) (p_law_rule 3) (fun f cdv A outer s H E hr => body_law_rule B c_law_any (by decide) c_law_rule_3 (by decide) c_law_of (by decide) f cdv A outer s H E hr)
  have c_law_net : Callee P w K mg base "_law_net" 7 r_law_net := fn_C (k := 6) F_law_net scLawNet (fun ds Φ h => by first | (obtain ⟨rfl, _⟩ := h; rfl) | (obtain ⟨_, rfl, _⟩ := h; rfl) | (obtain ⟨_, _, rfl, _⟩ := h; rfl) | (obtain ⟨_, _, _, rfl, _⟩ := h; rfl) | (obtain ⟨_, _, _, _, rfl, _⟩ := h; rfl) | (obtain ⟨_, _, _, _, _, rfl, _⟩ := h; rfl) | (obtain ⟨_, _, _, _, _, _, rfl, _⟩ := h; rfl) | (obtain ⟨_, _, _, _, _, _, ⟨rfl, _⟩ | ⟨_, rfl, _⟩⟩ := h <;> rfl)) (by decide) (w_law_net r_law_any (r_law_rule 4)) p_law_net (fun f cdv A outer s H E hr => body_law_net B c_law_any (by decide) c_law_rule_4 (by decide) f cdv A outer s H E hr)
  have c_law_parts : Callee P w K mg base "_law_parts" 1 r_law_parts := fn_C (k := 0) F_law_parts scLawParts (fun ds Φ h => by first | (obtain ⟨rfl, _⟩ := h; rfl) | (obtain ⟨_, rfl, _⟩ := h; rfl) | (obtain ⟨_, _, rfl, _⟩ := h; rfl) | (obtain ⟨_, _, _, rfl, _⟩ := h; rfl) | (obtain ⟨_, _, _, _, rfl, _⟩ := h; rfl) | (obtain ⟨_, _, _, _, _, rfl, _⟩ := h; rfl) | (obtain ⟨_, _, _, _, _, _, rfl, _⟩ := h; rfl) | (obtain ⟨_, _, _, _, _, _, ⟨rfl, _⟩ | ⟨_, rfl, _⟩⟩ := h <;> rfl)) (by decide) (w_law_parts ) p_law_parts (fun f cdv A outer s H E hr => body_law_parts B f cdv A outer s H E hr)
  have c_law_branches_0 : Callee P w K mg base "_law_branches" 0 (r_law_branches 0) := callee_no F_law_branches no_law_branches
  have c_law_branches_1 : Callee P w K mg base "_law_branches" 2 (r_law_branches 1) := fn_C (k := 1) F_law_branches scLawBranches (fun ds Φ h => by first | (obtain ⟨rfl, _⟩ := h; rfl) | (obtain ⟨_, rfl, _⟩ := h; rfl) | (obtain ⟨_, _, rfl, _⟩ := h; rfl) | (obtain ⟨_, _, _, rfl, _⟩ := h; rfl) | (obtain ⟨_, _, _, _, rfl, _⟩ := h; rfl) | (obtain ⟨_, _, _, _, _, rfl, _⟩ := h; rfl) | (obtain ⟨_, _, _, _, _, _, rfl, _⟩ := h; rfl) | (obtain ⟨_, _, _, _, _, _, ⟨rfl, _⟩ | ⟨_, rfl, _⟩⟩ := h <;> rfl)) (by decide) (w_law_branches r_law_parts (r_law_branches 0)) (p_law_branches 0) (fun f cdv A outer s H E hr => body_law_branches B c_law_parts (by decide) c_law_branches_0 (by decide) f cdv A outer s H E hr)
  have c_law_branches_2 : Callee P w K mg base "_law_branches" 3 (r_law_branches 2) := fn_C (k := 2) F_law_branches scLawBranches (fun ds Φ h => by first | (obtain ⟨rfl, _⟩ := h; rfl) | (obtain ⟨_, rfl, _⟩ := h; rfl) | (obtain ⟨_, _, rfl, _⟩ := h; rfl) | (obtain ⟨_, _, _, rfl, _⟩ := h; rfl) | (obtain ⟨_, _, _, _, rfl, _⟩ := h; rfl) | (obtain ⟨_, _, _, _, _, rfl, _⟩ := h; rfl) | (obtain ⟨_, _, _, _, _, _, rfl, _⟩ := h; rfl) | (obtain ⟨_, _, _, _, _, _, ⟨rfl, _⟩ | ⟨_, rfl, _⟩⟩ := h <;> rfl)) (by decide) (w_law_branches r_law_parts (r_law_branches 1)) (p_law_branches 1) (fun f cdv A outer s H E hr => body_law_branches B c_law_parts (by decide) c_law_branches_1 (by decide) f cdv A outer s H E hr)
  have c_law_branches_3 : Callee P w K mg base "_law_branches" 4 (r_law_branches 3) := fn_C (k := 3) F_law_branches scLawBranches (fun ds Φ h => by first | (obtain ⟨rfl, _⟩ := h; rfl) | (obtain ⟨_, rfl, _⟩ := h; rfl) | (obtain ⟨_, _, rfl, _⟩ := h; rfl) | (obtain ⟨_, _, _, rfl, _⟩ := h; rfl) | (obtain ⟨_, _, _, _, rfl, _⟩ := h; rfl) | (obtain ⟨_, _, _, _, _, rfl, _⟩ := h; rfl) | (obtain ⟨_, _, _, _, _, _, rfl, _⟩ := h; rfl) | (obtain ⟨_, _, _, _, _, _, ⟨rfl, _⟩ | ⟨_, rfl, _⟩⟩ := h <;> rfl)) (by decide) (w_law_branches r_law_parts (r_law_branches 2)) (p_law_branches 2) (fun f cdv A outer s H E hr => body_law_branches B c_law_parts (by decide) c_law_branches_2 (by decide) f cdv A outer s H E hr)
  have c_law_branches_4 : Callee P w K mg base "_law_branches" 5 (r_law_branches 4) := fn_C (k := 4) F_law_branches scLawBranches (fun ds Φ h => by first | (obtain ⟨rfl, _⟩ := h; rfl) | (obtain ⟨_, rfl, _⟩ := h; rfl) | (obtain ⟨_, _, rfl, _⟩ := h; rfl) | (obtain ⟨_, _, _, rfl, _⟩ := h; rfl) | (obtain ⟨_, _, _, _, rfl, _⟩ := h; rfl) | (obtain ⟨_, _, _, _, _, rfl, _⟩ := h; rfl) | (obtain ⟨_, _, _, _, _, _, rfl, _⟩ := h; rfl) | (obtain ⟨_, _, _, _, _, _, ⟨rfl, _⟩ | ⟨_, rfl, _⟩⟩ := h <;> rfl)) (by decide) (w_law_branches r_law_parts (r_law_branches 3)) (p_law_branches 3) (fun f cdv A outer s H E hr => body_law_branches B c_law_parts (by decide) c_law_branches_3 (by decide) f cdv A outer s H E hr)
  have c_law_made : Callee P w K mg base "_law_made" 1 r_law_made := fn_C (k := 0) F_law_made scLawMade (fun ds Φ h => by first | (obtain ⟨rfl, _⟩ := h; rfl) | (obtain ⟨_, rfl, _⟩ := h; rfl) | (obtain ⟨_, _, rfl, _⟩ := h; rfl) | (obtain ⟨_, _, _, rfl, _⟩ := h; rfl) | (obtain ⟨_, _, _, _, rfl, _⟩ := h; rfl) | (obtain ⟨_, _, _, _, _, rfl, _⟩ := h; rfl) | (obtain ⟨_, _, _, _, _, _, rfl, _⟩ := h; rfl) | (obtain ⟨_, _, _, _, _, _, ⟨rfl, _⟩ | ⟨_, rfl, _⟩⟩ := h <;> rfl)) (by decide) (w_law_made ) p_law_made (fun f cdv A outer s H E hr => body_law_made B f cdv A outer s H E hr)
  have c_law_told_0 : Callee P w K mg base "_law_told" 0 (r_law_told 0) := callee_no F_law_told no_law_told
  have c_law_told_1 : Callee P w K mg base "_law_told" 6 (r_law_told 1) := fn_C (k := 5) F_law_told scLawTold (fun ds Φ h => by first | (obtain ⟨rfl, _⟩ := h; rfl) | (obtain ⟨_, rfl, _⟩ := h; rfl) | (obtain ⟨_, _, rfl, _⟩ := h; rfl) | (obtain ⟨_, _, _, rfl, _⟩ := h; rfl) | (obtain ⟨_, _, _, _, rfl, _⟩ := h; rfl) | (obtain ⟨_, _, _, _, _, rfl, _⟩ := h; rfl) | (obtain ⟨_, _, _, _, _, _, rfl, _⟩ := h; rfl) | (obtain ⟨_, _, _, _, _, _, ⟨rfl, _⟩ | ⟨_, rfl, _⟩⟩ := h <;> rfl)) (by decide) (w_law_told r_law_parts (r_law_branches 4) (r_law_told 0) r_law_made) (p_law_told 0) (fun f cdv A outer s H E hr => body_law_told B c_law_parts (by decide) c_law_branches_4 (by decide) c_law_told_0 (by decide) c_law_made (by decide) f cdv A outer s H E hr)
  have c_law_told_2 : Callee P w K mg base "_law_told" 7 (r_law_told 2) := fn_C (k := 6) F_law_told scLawTold (fun ds Φ h => by first | (obtain ⟨rfl, _⟩ := h; rfl) | (obtain ⟨_, rfl, _⟩ := h; rfl) | (obtain ⟨_, _, rfl, _⟩ := h; rfl) | (obtain ⟨_, _, _, rfl, _⟩ := h; rfl) | (obtain ⟨_, _, _, _, rfl, _⟩ := h; rfl) | (obtain ⟨_, _, _, _, _, rfl, _⟩ := h; rfl) | (obtain ⟨_, _, _, _, _, _, rfl, _⟩ := h; rfl) | (obtain ⟨_, _, _, _, _, _, ⟨rfl, _⟩ | ⟨_, rfl, _⟩⟩ := h <;> rfl)) (by decide) (w_law_told r_law_parts (r_law_branches 4) (r_law_told 1) r_law_made) (p_law_told 1) (fun f cdv A outer s H E hr => body_law_told B c_law_parts (by decide) c_law_branches_4 (by decide) c_law_told_1 (by decide) c_law_made (by decide) f cdv A outer s H E hr)
  have c_law_told_3 : Callee P w K mg base "_law_told" 8 (r_law_told 3) := fn_C (k := 7) F_law_told scLawTold (fun ds Φ h => by first | (obtain ⟨rfl, _⟩ := h; rfl) | (obtain ⟨_, rfl, _⟩ := h; rfl) | (obtain ⟨_, _, rfl, _⟩ := h; rfl) | (obtain ⟨_, _, _, rfl, _⟩ := h; rfl) | (obtain ⟨_, _, _, _, rfl, _⟩ := h; rfl) | (obtain ⟨_, _, _, _, _, rfl, _⟩ := h; rfl) | (obtain ⟨_, _, _, _, _, _, rfl, _⟩ := h; rfl) | (obtain ⟨_, _, _, _, _, _, ⟨rfl, _⟩ | ⟨_, rfl, _⟩⟩ := h <;> rfl)) (by decide) (w_law_told r_law_parts (r_law_branches 4) (r_law_told 2) r_law_made) (p_law_told 2) (fun f cdv A outer s H E hr => body_law_told B c_law_parts (by decide) c_law_branches_4 (by decide) c_law_told_2 (by decide) c_law_made (by decide) f cdv A outer s H E hr)
  have c_law_told_4 : Callee P w K mg base "_law_told" 9 (r_law_told 4) := fn_C (k := 8) F_law_told scLawTold (fun ds Φ h => by first | (obtain ⟨rfl, _⟩ := h; rfl) | (obtain ⟨_, rfl, _⟩ := h; rfl) | (obtain ⟨_, _, rfl, _⟩ := h; rfl) | (obtain ⟨_, _, _, rfl, _⟩ := h; rfl) | (obtain ⟨_, _, _, _, rfl, _⟩ := h; rfl) | (obtain ⟨_, _, _, _, _, rfl, _⟩ := h; rfl) | (obtain ⟨_, _, _, _, _, _, rfl, _⟩ := h; rfl) | (obtain ⟨_, _, _, _, _, _, ⟨rfl, _⟩ | ⟨_, rfl, _⟩⟩ := h <;> rfl)) (by decide) (w_law_told r_law_parts (r_law_branches 4) (r_law_told 3) r_law_made) (p_law_told 3) (fun f cdv A outer s H E hr => body_law_told B c_law_parts (by decide) c_law_branches_4 (by decide) c_law_told_3 (by decide) c_law_made (by decide) f cdv A outer s H E hr)
  have c_law_wants : Callee P w K mg base "_law_wants" 10 r_law_wants := fn_C (k := 9) F_law_wants scLawWants (fun ds Φ h => by first | (obtain ⟨rfl, _⟩ := h; rfl) | (obtain ⟨_, rfl, _⟩ := h; rfl) | (obtain ⟨_, _, rfl, _⟩ := h; rfl) | (obtain ⟨_, _, _, rfl, _⟩ := h; rfl) | (obtain ⟨_, _, _, _, rfl, _⟩ := h; rfl) | (obtain ⟨_, _, _, _, _, rfl, _⟩ := h; rfl) | (obtain ⟨_, _, _, _, _, _, rfl, _⟩ := h; rfl) | (obtain ⟨_, _, _, _, _, _, ⟨rfl, _⟩ | ⟨_, rfl, _⟩⟩ := h <;> rfl)) (by decide) (w_law_wants (r_law_told 4)) p_law_wants (fun f cdv A outer s H E hr => body_law_wants B c_law_told_4 (by decide) f cdv A outer s H E hr)
  have c_law_entries : Callee P w K mg base "_law_entries" 1 r_law_entries := fn_C (k := 0) F_law_entries scLawEntries (fun ds Φ h => by first | (obtain ⟨rfl, _⟩ := h; rfl) | (obtain ⟨_, rfl, _⟩ := h; rfl) | (obtain ⟨_, _, rfl, _⟩ := h; rfl) | (obtain ⟨_, _, _, rfl, _⟩ := h; rfl) | (obtain ⟨_, _, _, _, rfl, _⟩ := h; rfl) | (obtain ⟨_, _, _, _, _, rfl, _⟩ := h; rfl) | (obtain ⟨_, _, _, _, _, _, rfl, _⟩ := h; rfl) | (obtain ⟨_, _, _, _, _, _, ⟨rfl, _⟩ | ⟨_, rfl, _⟩⟩ := h <;> rfl)) (by decide) (w_law_entries ) p_law_entries (fun f cdv A outer s H E hr => body_law_entries B f cdv A outer s H E hr)
  have c_law_range_0 : Callee P w K mg base "_law_range" 0 (r_law_range 0) := callee_no F_law_range no_law_range
  have c_law_range_1 : Callee P w K mg base "_law_range" 2 (r_law_range 1) := fn_C (k := 1) F_law_range scLawRange (fun ds Φ h => by first | (obtain ⟨rfl, _⟩ := h; rfl) | (obtain ⟨_, rfl, _⟩ := h; rfl) | (obtain ⟨_, _, rfl, _⟩ := h; rfl) | (obtain ⟨_, _, _, rfl, _⟩ := h; rfl) | (obtain ⟨_, _, _, _, rfl, _⟩ := h; rfl) | (obtain ⟨_, _, _, _, _, rfl, _⟩ := h; rfl) | (obtain ⟨_, _, _, _, _, _, rfl, _⟩ := h; rfl) | (obtain ⟨_, _, _, _, _, _, ⟨rfl, _⟩ | ⟨_, rfl, _⟩⟩ := h <;> rfl)) (by decide) (w_law_range r_law_parts (r_law_range 0) r_law_entries r_law_made) (p_law_range 0) (fun f cdv A outer s H E hr => body_law_range B c_law_parts (by decide) c_law_range_0 (by decide) c_law_entries (by decide) c_law_made (by decide) f cdv A outer s H E hr)
  have c_law_range_2 : Callee P w K mg base "_law_range" 3 (r_law_range 2) := fn_C (k := 2) F_law_range scLawRange (fun ds Φ h => by first | (obtain ⟨rfl, _⟩ := h; rfl) | (obtain ⟨_, rfl, _⟩ := h; rfl) | (obtain ⟨_, _, rfl, _⟩ := h; rfl) | (obtain ⟨_, _, _, rfl, _⟩ := h; rfl) | (obtain ⟨_, _, _, _, rfl, _⟩ := h; rfl) | (obtain ⟨_, _, _, _, _, rfl, _⟩ := h; rfl) | (obtain ⟨_, _, _, _, _, _, rfl, _⟩ := h; rfl) | (obtain ⟨_, _, _, _, _, _, ⟨rfl, _⟩ | ⟨_, rfl, _⟩⟩ := h <;> rfl)) (by decide) (w_law_range r_law_parts (r_law_range 1) r_law_entries r_law_made) (p_law_range 1) (fun f cdv A outer s H E hr => body_law_range B c_law_parts (by decide) c_law_range_1 (by decide) c_law_entries (by decide) c_law_made (by decide) f cdv A outer s H E hr)
  have c_law_range_3 : Callee P w K mg base "_law_range" 4 (r_law_range 3) := fn_C (k := 3) F_law_range scLawRange (fun ds Φ h => by first | (obtain ⟨rfl, _⟩ := h; rfl) | (obtain ⟨_, rfl, _⟩ := h; rfl) | (obtain ⟨_, _, rfl, _⟩ := h; rfl) | (obtain ⟨_, _, _, rfl, _⟩ := h; rfl) | (obtain ⟨_, _, _, _, rfl, _⟩ := h; rfl) | (obtain ⟨_, _, _, _, _, rfl, _⟩ := h; rfl) | (obtain ⟨_, _, _, _, _, _, rfl, _⟩ := h; rfl) | (obtain ⟨_, _, _, _, _, _, ⟨rfl, _⟩ | ⟨_, rfl, _⟩⟩ := h <;> rfl)) (by decide) (w_law_range r_law_parts (r_law_range 2) r_law_entries r_law_made) (p_law_range 2) (fun f cdv A outer s H E hr => body_law_range B c_law_parts (by decide) c_law_range_2 (by decide) c_law_entries (by decide) c_law_made (by decide) f cdv A outer s H E hr)
  have c_law_range_4 : Callee P w K mg base "_law_range" 5 (r_law_range 4) := fn_C (k := 4) F_law_range scLawRange (fun ds Φ h => by first | (obtain ⟨rfl, _⟩ := h; rfl) | (obtain ⟨_, rfl, _⟩ := h; rfl) | (obtain ⟨_, _, rfl, _⟩ := h; rfl) | (obtain ⟨_, _, _, rfl, _⟩ := h; rfl) | (obtain ⟨_, _, _, _, rfl, _⟩ := h; rfl) | (obtain ⟨_, _, _, _, _, rfl, _⟩ := h; rfl) | (obtain ⟨_, _, _, _, _, _, rfl, _⟩ := h; rfl) | (obtain ⟨_, _, _, _, _, _, ⟨rfl, _⟩ | ⟨_, rfl, _⟩⟩ := h <;> rfl)) (by decide) (w_law_range r_law_parts (r_law_range 3) r_law_entries r_law_made) (p_law_range 3) (fun f cdv A outer s H E hr => body_law_range B c_law_parts (by decide) c_law_range_3 (by decide) c_law_entries (by decide) c_law_made (by decide) f cdv A outer s H E hr)
  have c_law_turn : Callee P w K mg base "_law_turn" 6 r_law_turn := fn_C (k := 5) F_law_turn scLawTurn (fun ds Φ h => by first | (obtain ⟨rfl, _⟩ := h; rfl) | (obtain ⟨_, rfl, _⟩ := h; rfl) | (obtain ⟨_, _, rfl, _⟩ := h; rfl) | (obtain ⟨_, _, _, rfl, _⟩ := h; rfl) | (obtain ⟨_, _, _, _, rfl, _⟩ := h; rfl) | (obtain ⟨_, _, _, _, _, rfl, _⟩ := h; rfl) | (obtain ⟨_, _, _, _, _, _, rfl, _⟩ := h; rfl) | (obtain ⟨_, _, _, _, _, _, ⟨rfl, _⟩ | ⟨_, rfl, _⟩⟩ := h <;> rfl)) (by decide) (w_law_turn (r_law_range 4) r_law_entries) p_law_turn (fun f cdv A outer s H E hr => body_law_turn B c_law_range_4 (by decide) c_law_entries (by decide) f cdv A outer s H E hr)
  have c_law_words_0 : Callee P w K mg base "_law_words" 0 (r_law_words 0) := callee_no F_law_words no_law_words
  have c_law_words_1 : Callee P w K mg base "_law_words" 7 (r_law_words 1) := fn_C (k := 6) F_law_words scLawWords (fun ds Φ h => by first | (obtain ⟨rfl, _⟩ := h; rfl) | (obtain ⟨_, rfl, _⟩ := h; rfl) | (obtain ⟨_, _, rfl, _⟩ := h; rfl) | (obtain ⟨_, _, _, rfl, _⟩ := h; rfl) | (obtain ⟨_, _, _, _, rfl, _⟩ := h; rfl) | (obtain ⟨_, _, _, _, _, rfl, _⟩ := h; rfl) | (obtain ⟨_, _, _, _, _, _, rfl, _⟩ := h; rfl) | (obtain ⟨_, _, _, _, _, _, ⟨rfl, _⟩ | ⟨_, rfl, _⟩⟩ := h <;> rfl)) (by decide) (w_law_words (r_law_range 4) r_law_parts r_law_turn (r_law_words 0)) (p_law_words 0) (fun f cdv A outer s H E hr => body_law_words B c_law_range_4 (by decide) c_law_parts (by decide) c_law_turn (by decide) c_law_words_0 (by decide) f cdv A outer s H E hr)
  have c_law_words_2 : Callee P w K mg base "_law_words" 8 (r_law_words 2) := fn_C (k := 7) F_law_words scLawWords (fun ds Φ h => by first | (obtain ⟨rfl, _⟩ := h; rfl) | (obtain ⟨_, rfl, _⟩ := h; rfl) | (obtain ⟨_, _, rfl, _⟩ := h; rfl) | (obtain ⟨_, _, _, rfl, _⟩ := h; rfl) | (obtain ⟨_, _, _, _, rfl, _⟩ := h; rfl) | (obtain ⟨_, _, _, _, _, rfl, _⟩ := h; rfl) | (obtain ⟨_, _, _, _, _, _, rfl, _⟩ := h; rfl) | (obtain ⟨_, _, _, _, _, _, ⟨rfl, _⟩ | ⟨_, rfl, _⟩⟩ := h <;> rfl)) (by decide) (w_law_words (r_law_range 4) r_law_parts r_law_turn (r_law_words 1)) (p_law_words 1) (fun f cdv A outer s H E hr => body_law_words B c_law_range_4 (by decide) c_law_parts (by decide) c_law_turn (by decide) c_law_words_1 (by decide) f cdv A outer s H E hr)
  have c_law_words_3 : Callee P w K mg base "_law_words" 9 (r_law_words 3) := fn_C (k := 8) F_law_words scLawWords (fun ds Φ h => by first | (obtain ⟨rfl, _⟩ := h; rfl) | (obtain ⟨_, rfl, _⟩ := h; rfl) | (obtain ⟨_, _, rfl, _⟩ := h; rfl) | (obtain ⟨_, _, _, rfl, _⟩ := h; rfl) | (obtain ⟨_, _, _, _, rfl, _⟩ := h; rfl) | (obtain ⟨_, _, _, _, _, rfl, _⟩ := h; rfl) | (obtain ⟨_, _, _, _, _, _, rfl, _⟩ := h; rfl) | (obtain ⟨_, _, _, _, _, _, ⟨rfl, _⟩ | ⟨_, rfl, _⟩⟩ := h <;> rfl)) (by decide) (w_law_words (r_law_range 4) r_law_parts r_law_turn (r_law_words 2)) (p_law_words 2) (fun f cdv A outer s H E hr => body_law_words B c_law_range_4 (by decide) c_law_parts (by decide) c_law_turn (by decide) c_law_words_2 (by decide) f cdv A outer s H E hr)
  have c_law_words_4 : Callee P w K mg base "_law_words" 10 (r_law_words 4) := fn_C (k := 9) F_law_words scLawWords (fun ds Φ h => by first | (obtain ⟨rfl, _⟩ := h; rfl) | (obtain ⟨_, rfl, _⟩ := h; rfl) | (obtain ⟨_, _, rfl, _⟩ := h; rfl) | (obtain ⟨_, _, _, rfl, _⟩ := h; rfl) | (obtain ⟨_, _, _, _, rfl, _⟩ := h; rfl) | (obtain ⟨_, _, _, _, _, rfl, _⟩ := h; rfl) | (obtain ⟨_, _, _, _, _, _, rfl, _⟩ := h; rfl) | (obtain ⟨_, _, _, _, _, _, ⟨rfl, _⟩ | ⟨_, rfl, _⟩⟩ := h <;> rfl)) (by decide) (w_law_words (r_law_range 4) r_law_parts r_law_turn (r_law_words 3)) (p_law_words 3) (fun f cdv A outer s H E hr => body_law_words B c_law_range_4 (by decide) c_law_parts (by decide) c_law_turn (by decide) c_law_words_3 (by decide) f cdv A outer s H E hr)
  have c_law_ways : Callee P w K mg base "_law_ways" 11 r_law_ways := fn_C (k := 10) F_law_ways scLawWays (fun ds Φ h => by first | (obtain ⟨rfl, _⟩ := h; rfl) | (obtain ⟨_, rfl, _⟩ := h; rfl) | (obtain ⟨_, _, rfl, _⟩ := h; rfl) | (obtain ⟨_, _, _, rfl, _⟩ := h; rfl) | (obtain ⟨_, _, _, _, rfl, _⟩ := h; rfl) | (obtain ⟨_, _, _, _, _, rfl, _⟩ := h; rfl) | (obtain ⟨_, _, _, _, _, _, rfl, _⟩ := h; rfl) | (obtain ⟨_, _, _, _, _, _, ⟨rfl, _⟩ | ⟨_, rfl, _⟩⟩ := h <;> rfl)) (by decide) (w_law_ways (r_law_range 4) (r_law_words 4)) p_law_ways (fun f cdv A outer s H E hr => body_law_ways B c_law_range_4 (by decide) c_law_words_4 (by decide) f cdv A outer s H E hr)
  have c_law_all_words : Callee P w K mg base "_law_all_words" 12 r_law_all_words := fn_C (k := 11) F_law_all_words scLawAllWords (fun ds Φ h => by first | (obtain ⟨rfl, _⟩ := h; rfl) | (obtain ⟨_, rfl, _⟩ := h; rfl) | (obtain ⟨_, _, rfl, _⟩ := h; rfl) | (obtain ⟨_, _, _, rfl, _⟩ := h; rfl) | (obtain ⟨_, _, _, _, rfl, _⟩ := h; rfl) | (obtain ⟨_, _, _, _, _, rfl, _⟩ := h; rfl) | (obtain ⟨_, _, _, _, _, _, rfl, _⟩ := h; rfl) | (obtain ⟨_, _, _, _, _, _, ⟨rfl, _⟩ | ⟨_, rfl, _⟩⟩ := h <;> rfl)) (by decide) (w_law_all_words r_law_ways) p_law_all_words (fun f cdv A outer s H E hr => body_law_all_words B c_law_ways (by decide) f cdv A outer s H E hr)
  have c_law_next_ends : Callee P w K mg base "_law_next_ends" 11 r_law_next_ends := fn_C (k := 10) F_law_next_ends scLawNextEnds (fun ds Φ h => by first | (obtain ⟨rfl, _⟩ := h; rfl) | (obtain ⟨_, rfl, _⟩ := h; rfl) | (obtain ⟨_, _, rfl, _⟩ := h; rfl) | (obtain ⟨_, _, _, rfl, _⟩ := h; rfl) | (obtain ⟨_, _, _, _, rfl, _⟩ := h; rfl) | (obtain ⟨_, _, _, _, _, rfl, _⟩ := h; rfl) | (obtain ⟨_, _, _, _, _, _, rfl, _⟩ := h; rfl) | (obtain ⟨_, _, _, _, _, _, ⟨rfl, _⟩ | ⟨_, rfl, _⟩⟩ := h <;> rfl)) (by decide) (w_law_next_ends (r_law_branches 4) r_law_wants) p_law_next_ends (fun f cdv A outer s H E hr => body_law_next_ends B c_law_branches_4 (by decide) c_law_wants (by decide) f cdv A outer s H E hr)
  have c_law_led : Callee P w K mg base "_law_led" 12 r_law_led := fn_C (k := 11) F_law_led scLawLed (fun ds Φ h => by first | (obtain ⟨rfl, _⟩ := h; rfl) | (obtain ⟨_, rfl, _⟩ := h; rfl) | (obtain ⟨_, _, rfl, _⟩ := h; rfl) | (obtain ⟨_, _, _, rfl, _⟩ := h; rfl) | (obtain ⟨_, _, _, _, rfl, _⟩ := h; rfl) | (obtain ⟨_, _, _, _, _, rfl, _⟩ := h; rfl) | (obtain ⟨_, _, _, _, _, _, rfl, _⟩ := h; rfl) | (obtain ⟨_, _, _, _, _, _, ⟨rfl, _⟩ | ⟨_, rfl, _⟩⟩ := h <;> rfl)) (by decide) (w_law_led r_law_next_ends) p_law_led (fun f cdv A outer s H E hr => body_law_led B c_law_next_ends (by decide) f cdv A outer s H E hr)
  have c_law_closed : Callee P w K mg base "_law_closed" 12 r_law_closed := fn_C (k := 11) F_law_closed scLawClosed (fun ds Φ h => by first | (obtain ⟨rfl, _⟩ := h; rfl) | (obtain ⟨_, rfl, _⟩ := h; rfl) | (obtain ⟨_, _, rfl, _⟩ := h; rfl) | (obtain ⟨_, _, _, rfl, _⟩ := h; rfl) | (obtain ⟨_, _, _, _, rfl, _⟩ := h; rfl) | (obtain ⟨_, _, _, _, _, rfl, _⟩ := h; rfl) | (obtain ⟨_, _, _, _, _, _, rfl, _⟩ := h; rfl) | (obtain ⟨_, _, _, _, _, _, ⟨rfl, _⟩ | ⟨_, rfl, _⟩⟩ := h <;> rfl)) (by decide) (w_law_closed r_law_next_ends) p_law_closed (fun f cdv A outer s H E hr => body_law_closed B c_law_next_ends (by decide) f cdv A outer s H E hr)
  have c_law_life : Callee P w K mg base "_law_life" 13 r_law_life := fn_C (k := 12) F_law_life scLawLife (fun ds Φ h => by first | (obtain ⟨rfl, _⟩ := h; rfl) | (obtain ⟨_, rfl, _⟩ := h; rfl) | (obtain ⟨_, _, rfl, _⟩ := h; rfl) | (obtain ⟨_, _, _, rfl, _⟩ := h; rfl) | (obtain ⟨_, _, _, _, rfl, _⟩ := h; rfl) | (obtain ⟨_, _, _, _, _, rfl, _⟩ := h; rfl) | (obtain ⟨_, _, _, _, _, _, rfl, _⟩ := h; rfl) | (obtain ⟨_, _, _, _, _, _, ⟨rfl, _⟩ | ⟨_, rfl, _⟩⟩ := h <;> rfl)) (by decide) (w_law_life r_law_net r_law_any r_law_all_words r_law_closed) p_law_life (fun f cdv A outer s H E hr => body_law_life B c_law_net (by decide) c_law_any (by decide) c_law_all_words (by decide) c_law_closed (by decide) f cdv A outer s H E hr)
  have c_law_some_change : Callee P w K mg base "_law_some_change" 7 r_law_some_change := fn_C (k := 6) F_law_some_change scLawSomeChange (fun ds Φ h => by first | (obtain ⟨rfl, _⟩ := h; rfl) | (obtain ⟨_, rfl, _⟩ := h; rfl) | (obtain ⟨_, _, rfl, _⟩ := h; rfl) | (obtain ⟨_, _, _, rfl, _⟩ := h; rfl) | (obtain ⟨_, _, _, _, rfl, _⟩ := h; rfl) | (obtain ⟨_, _, _, _, _, rfl, _⟩ := h; rfl) | (obtain ⟨_, _, _, _, _, _, rfl, _⟩ := h; rfl) | (obtain ⟨_, _, _, _, _, _, ⟨rfl, _⟩ | ⟨_, rfl, _⟩⟩ := h <;> rfl)) (by decide) (w_law_some_change r_law_any (r_law_rule 4)) p_law_some_change (fun f cdv A outer s H E hr => body_law_some_change B c_law_any (by decide) c_law_rule_4 (by decide) f cdv A outer s H E hr)
  have c_law_lateness : Callee P w K mg base "_law_lateness" 6 r_law_lateness := fn_C (k := 5) F_law_lateness scLawLateness (fun ds Φ h => by first | (obtain ⟨rfl, _⟩ := h; rfl) | (obtain ⟨_, rfl, _⟩ := h; rfl) | (obtain ⟨_, _, rfl, _⟩ := h; rfl) | (obtain ⟨_, _, _, rfl, _⟩ := h; rfl) | (obtain ⟨_, _, _, _, rfl, _⟩ := h; rfl) | (obtain ⟨_, _, _, _, _, rfl, _⟩ := h; rfl) | (obtain ⟨_, _, _, _, _, _, rfl, _⟩ := h; rfl) | (obtain ⟨_, _, _, _, _, _, ⟨rfl, _⟩ | ⟨_, rfl, _⟩⟩ := h <;> rfl)) (by decide) (w_law_lateness (r_law_branches 4) r_law_any) p_law_lateness (fun f cdv A outer s H E hr => body_law_lateness B c_law_branches_4 (by decide) c_law_any (by decide) f cdv A outer s H E hr)
  have c_law_beat : Callee P w K mg base "_law_beat" 11 r_law_beat := fn_C (k := 10) F_law_beat scLawBeat (fun ds Φ h => by first | (obtain ⟨rfl, _⟩ := h; rfl) | (obtain ⟨_, rfl, _⟩ := h; rfl) | (obtain ⟨_, _, rfl, _⟩ := h; rfl) | (obtain ⟨_, _, _, rfl, _⟩ := h; rfl) | (obtain ⟨_, _, _, _, rfl, _⟩ := h; rfl) | (obtain ⟨_, _, _, _, _, rfl, _⟩ := h; rfl) | (obtain ⟨_, _, _, _, _, _, rfl, _⟩ := h; rfl) | (obtain ⟨_, _, _, _, _, _, ⟨rfl, _⟩ | ⟨_, rfl, _⟩⟩ := h <;> rfl)) (by decide) (w_law_beat r_law_lateness (r_law_branches 4) r_law_wants) p_law_beat (fun f cdv A outer s H E hr => body_law_beat B c_law_lateness (by decide) c_law_branches_4 (by decide) c_law_wants (by decide) f cdv A outer s H E hr)
  have c_heard_ends : Callee P w K mg base "heard_ends" 11 r_heard_ends := fn_heard_ends (k := 10) B c_branches_4 (by decide) F_heard_ends
  have c_stepped : Callee P w K mg base "stepped" 13 r_stepped := fn_C (k := 12) F_stepped scStepped (fun ds Φ h => by first | (obtain ⟨rfl, _⟩ := h; rfl) | (obtain ⟨_, rfl, _⟩ := h; rfl) | (obtain ⟨_, _, rfl, _⟩ := h; rfl) | (obtain ⟨_, _, _, rfl, _⟩ := h; rfl) | (obtain ⟨_, _, _, _, rfl, _⟩ := h; rfl) | (obtain ⟨_, _, _, _, _, rfl, _⟩ := h; rfl) | (obtain ⟨_, _, _, _, _, _, rfl, _⟩ := h; rfl) | (obtain ⟨_, _, _, _, _, _, ⟨rfl, _⟩ | ⟨_, rfl, _⟩⟩ := h <;> rfl)) (by decide) (w_stepped r_heard_ends r_wanted) p_stepped (fun f cdv A outer s H E hr => body_stepped B c_heard_ends (by decide) c_wanted (by decide) f cdv A outer s H E hr)
  have c_next_ends : Callee P w K mg base "next_ends" 18 r_next_ends := fn_C (k := 17) F_next_ends scNextEnds (fun ds Φ h => by first | (obtain ⟨rfl, _⟩ := h; rfl) | (obtain ⟨_, rfl, _⟩ := h; rfl) | (obtain ⟨_, _, rfl, _⟩ := h; rfl) | (obtain ⟨_, _, _, rfl, _⟩ := h; rfl) | (obtain ⟨_, _, _, _, rfl, _⟩ := h; rfl) | (obtain ⟨_, _, _, _, _, rfl, _⟩ := h; rfl) | (obtain ⟨_, _, _, _, _, _, rfl, _⟩ := h; rfl) | (obtain ⟨_, _, _, _, _, _, ⟨rfl, _⟩ | ⟨_, rfl, _⟩⟩ := h <;> rfl)) (by decide) (w_next_ends r_one_way r_stepped) p_next_ends (fun f cdv A outer s H E hr => body_next_ends B c_one_way (by decide) c_stepped (by decide) f cdv A outer s H E hr)
  have c_closed : Callee P w K mg base "closed" 19 r_closed := fn_C (k := 18) F_closed scClosed (fun ds Φ h => by first | (obtain ⟨rfl, _⟩ := h; rfl) | (obtain ⟨_, rfl, _⟩ := h; rfl) | (obtain ⟨_, _, rfl, _⟩ := h; rfl) | (obtain ⟨_, _, _, rfl, _⟩ := h; rfl) | (obtain ⟨_, _, _, _, rfl, _⟩ := h; rfl) | (obtain ⟨_, _, _, _, _, rfl, _⟩ := h; rfl) | (obtain ⟨_, _, _, _, _, _, rfl, _⟩ := h; rfl) | (obtain ⟨_, _, _, _, _, _, ⟨rfl, _⟩ | ⟨_, rfl, _⟩⟩ := h <;> rfl)) (by decide) (w_closed r_next_ends r_hull) p_closed (fun f cdv A outer s H E hr => body_closed B c_next_ends (by decide) c_hull (by decide) f cdv A outer s H E hr)
  have c_led : Callee P w K mg base "led" 19 r_led := fn_C (k := 18) F_led scLed (fun ds Φ h => by obtain ⟨_, _, _, _, _, _, h⟩ := h; rcases h with ⟨rfl, _⟩ | ⟨_, rfl, _⟩ <;> rfl) (by decide) (w_led r_next_ends) p_led (fun f cdv A outer s H E hr => body_led B c_next_ends (by decide) f cdv A outer s H E hr)
  have c_known : Callee P w K mg base "known" 20 r_known := fn_C (k := 19) F_known scKnown (fun ds Φ h => by first | (obtain ⟨rfl, _⟩ := h; rfl) | (obtain ⟨_, rfl, _⟩ := h; rfl) | (obtain ⟨_, _, rfl, _⟩ := h; rfl) | (obtain ⟨_, _, _, rfl, _⟩ := h; rfl) | (obtain ⟨_, _, _, _, rfl, _⟩ := h; rfl) | (obtain ⟨_, _, _, _, _, rfl, _⟩ := h; rfl) | (obtain ⟨_, _, _, _, _, _, rfl, _⟩ := h; rfl) | (obtain ⟨_, _, _, _, _, _, ⟨rfl, _⟩ | ⟨_, rfl, _⟩⟩ := h <;> rfl)) (by decide) (w_known r_led) p_known (fun f cdv A outer s H E hr => body_known B c_led (by decide) f cdv A outer s H E hr)
  have c_rests_in : Callee P w K mg base "rests_in" 20 r_rests_in := fn_C (k := 19) F_rests_in scRestsIn (fun ds Φ h => by first | (obtain ⟨rfl, _⟩ := h; rfl) | (obtain ⟨_, rfl, _⟩ := h; rfl) | (obtain ⟨_, _, rfl, _⟩ := h; rfl) | (obtain ⟨_, _, _, rfl, _⟩ := h; rfl) | (obtain ⟨_, _, _, _, rfl, _⟩ := h; rfl) | (obtain ⟨_, _, _, _, _, rfl, _⟩ := h; rfl) | (obtain ⟨_, _, _, _, _, _, rfl, _⟩ := h; rfl) | (obtain ⟨_, _, _, _, _, _, ⟨rfl, _⟩ | ⟨_, rfl, _⟩⟩ := h <;> rfl)) (by decide) (w_rests_in r_led) p_rests_in (fun f cdv A outer s H E hr => body_rests_in B c_led (by decide) f cdv A outer s H E hr)
  have c_is_sight : Callee P w K mg base "is_sight" 21 r_is_sight := fn_C (k := 20) F_is_sight scIsSight (fun ds Φ h => by first | (obtain ⟨rfl, _⟩ := h; rfl) | (obtain ⟨_, rfl, _⟩ := h; rfl) | (obtain ⟨_, _, rfl, _⟩ := h; rfl) | (obtain ⟨_, _, _, rfl, _⟩ := h; rfl) | (obtain ⟨_, _, _, _, rfl, _⟩ := h; rfl) | (obtain ⟨_, _, _, _, _, rfl, _⟩ := h; rfl) | (obtain ⟨_, _, _, _, _, _, rfl, _⟩ := h; rfl) | (obtain ⟨_, _, _, _, _, _, ⟨rfl, _⟩ | ⟨_, rfl, _⟩⟩ := h <;> rfl)) (by decide) (w_is_sight r_known r_is_index r_is_number) p_is_sight (fun f cdv A outer s H E hr => body_is_sight B c_known (by decide) c_is_index (by decide) c_is_number (by decide) f cdv A outer s H E hr)
  have c_is_change : Callee P w K mg base "is_change" 22 r_is_change := fn_C (k := 21) F_is_change scIsChange (fun ds Φ h => by first | (obtain ⟨rfl, _⟩ := h; rfl) | (obtain ⟨_, rfl, _⟩ := h; rfl) | (obtain ⟨_, _, rfl, _⟩ := h; rfl) | (obtain ⟨_, _, _, rfl, _⟩ := h; rfl) | (obtain ⟨_, _, _, _, rfl, _⟩ := h; rfl) | (obtain ⟨_, _, _, _, _, rfl, _⟩ := h; rfl) | (obtain ⟨_, _, _, _, _, _, rfl, _⟩ := h; rfl) | (obtain ⟨_, _, _, _, _, _, ⟨rfl, _⟩ | ⟨_, rfl, _⟩⟩ := h <;> rfl)) (by decide) (w_is_change r_is_word_of r_is_row_of r_is_index r_is_sight r_net_behind r_is_net r_are_one_way) p_is_change (fun f cdv A outer s H E hr => body_is_change B c_is_word_of (by decide) c_is_row_of (by decide) c_is_index (by decide) c_is_sight (by decide) c_net_behind (by decide) c_is_net (by decide) c_are_one_way (by decide) m_MOST_WAIT m_WORDS m_SIZES f cdv A outer s H E hr)
  have c_changed : Callee P w K mg base "changed" 23 r_changed := fn_C (k := 22) F_changed scChanged (fun ds Φ h => by first | (obtain ⟨rfl, _⟩ := h; rfl) | (obtain ⟨_, rfl, _⟩ := h; rfl) | (obtain ⟨_, _, rfl, _⟩ := h; rfl) | (obtain ⟨_, _, _, rfl, _⟩ := h; rfl) | (obtain ⟨_, _, _, _, rfl, _⟩ := h; rfl) | (obtain ⟨_, _, _, _, _, rfl, _⟩ := h; rfl) | (obtain ⟨_, _, _, _, _, _, rfl, _⟩ := h; rfl) | (obtain ⟨_, _, _, _, _, _, ⟨rfl, _⟩ | ⟨_, rfl, _⟩⟩ := h <;> rfl)) (by decide) (w_changed r_is_change r_known r_net_behind r_placed r_closed) p_changed (fun f cdv A outer s H E hr => body_changed B c_is_change (by decide) c_known (by decide) c_net_behind (by decide) c_placed (by decide) c_closed (by decide) f cdv A outer s H E hr)
  have c_law_holds : Callee P w K mg base "_law_holds" 21 r_law_holds := fn_C (k := 20) F_law_holds scLawHolds (fun ds Φ h => by first | (obtain ⟨rfl, _⟩ := h; rfl) | (obtain ⟨_, rfl, _⟩ := h; rfl) | (obtain ⟨_, _, rfl, _⟩ := h; rfl) | (obtain ⟨_, _, _, rfl, _⟩ := h; rfl) | (obtain ⟨_, _, _, _, rfl, _⟩ := h; rfl) | (obtain ⟨_, _, _, _, _, rfl, _⟩ := h; rfl) | (obtain ⟨_, _, _, _, _, _, rfl, _⟩ := h; rfl) | (obtain ⟨_, _, _, _, _, _, ⟨rfl, _⟩ | ⟨_, rfl, _⟩⟩ := h <;> rfl)) (by decide) (w_law_holds r_known) p_law_holds (fun f cdv A outer s H E hr => body_law_holds B c_known (by decide) f cdv A outer s H E hr)
  exact ⟨trivial, c_law_life, c_law_any, c_law_beat, c_changed, c_law_holds, c_law_some_change, c_is_change, c_rests_in, c_law_all_words, c_law_led, c_law_next_ends, c_known⟩
end
end NB

/-! MK -/
set_option Elab.async false
set_option linter.all false
set_option maxRecDepth 100000
set_option maxHeartbeats 1000000
namespace NB
open PySem PySem.Spec PyProof.Rows L2
section
theorem all_mk {l : PySem.W.OpenLaw} {w : World} {K : PySem.W.Frag} {h : Heap} {mg : Str → Option Value} {fa : Addr} (X : K.In h) (G : h.Ns mainGlobals mg) (hfa : mg "law" = some (.ref fa))
    {f0 : Addr} {od0 an0 : Option Addr} {sl0 : Array (Option Value)} {oc0 kV0 dc0 pm0 cd0 ct0 : Value} (a0 : PySem.W.nsIn K mainGlobals "is_integer" = some (some (.ref f0))) (l0 : K.lookup f0 = some ⟨oc0, od0, .func (PySem.W.fnOf "is_integer" "is_integer" (defArgs sIsInteger) (defBody sIsInteger) (defScope sIsInteger) .none kV0 dc0 pm0 an0 cd0 ct0), sl0⟩) (c0 : PySem.W.codeIn K cd0 "is_integer" = true) (k0 : PySem.W.keepIn K (.ref f0) = true)
    {f1 : Addr} {od1 an1 : Option Addr} {sl1 : Array (Option Value)} {oc1 kV1 dc1 pm1 cd1 ct1 : Value} (a1 : PySem.W.nsIn K mainGlobals "is_number" = some (some (.ref f1))) (l1 : K.lookup f1 = some ⟨oc1, od1, .func (PySem.W.fnOf "is_number" "is_number" (defArgs sIsNumber) (defBody sIsNumber) (defScope sIsNumber) .none kV1 dc1 pm1 an1 cd1 ct1), sl1⟩) (c1 : PySem.W.codeIn K cd1 "is_number" = true) (k1 : PySem.W.keepIn K (.ref f1) = true)
    {f2 : Addr} {od2 an2 : Option Addr} {sl2 : Array (Option Value)} {oc2 kV2 dc2 pm2 cd2 ct2 : Value} (a2 : PySem.W.nsIn K mainGlobals "is_index" = some (some (.ref f2))) (l2 : K.lookup f2 = some ⟨oc2, od2, .func (PySem.W.fnOf "is_index" "is_index" (defArgs sIsIndex) (defBody sIsIndex) (defScope sIsIndex) .none kV2 dc2 pm2 an2 cd2 ct2), sl2⟩) (c2 : PySem.W.codeIn K cd2 "is_index" = true) (k2 : PySem.W.keepIn K (.ref f2) = true)
    {f3 : Addr} {od3 an3 : Option Addr} {sl3 : Array (Option Value)} {oc3 kV3 dc3 pm3 cd3 ct3 : Value} (a3 : PySem.W.nsIn K mainGlobals "is_row_of" = some (some (.ref f3))) (l3 : K.lookup f3 = some ⟨oc3, od3, .func (PySem.W.fnOf "is_row_of" "is_row_of" (defArgs sIsRowOf) (defBody sIsRowOf) (defScope sIsRowOf) .none kV3 dc3 pm3 an3 cd3 ct3), sl3⟩) (c3 : PySem.W.codeIn K cd3 "is_row_of" = true) (k3 : PySem.W.keepIn K (.ref f3) = true)
    {f4 : Addr} {od4 an4 : Option Addr} {sl4 : Array (Option Value)} {oc4 kV4 dc4 pm4 cd4 ct4 : Value} (a4 : PySem.W.nsIn K mainGlobals "is_word_of" = some (some (.ref f4))) (l4 : K.lookup f4 = some ⟨oc4, od4, .func (PySem.W.fnOf "is_word_of" "is_word_of" (defArgs sIsWordOf) (defBody sIsWordOf) (defScope sIsWordOf) .none kV4 dc4 pm4 an4 cd4 ct4), sl4⟩) (c4 : PySem.W.codeIn K cd4 "is_word_of" = true) (k4 : PySem.W.keepIn K (.ref f4) = true)
    {f5 : Addr} {od5 an5 : Option Addr} {sl5 : Array (Option Value)} {oc5 kV5 dc5 pm5 cd5 ct5 : Value} (a5 : PySem.W.nsIn K mainGlobals "is_worth" = some (some (.ref f5))) (l5 : K.lookup f5 = some ⟨oc5, od5, .func (PySem.W.fnOf "is_worth" "is_worth" (defArgs sIsWorth) (defBody sIsWorth) (defScope sIsWorth) .none kV5 dc5 pm5 an5 cd5 ct5), sl5⟩) (c5 : PySem.W.codeIn K cd5 "is_worth" = true) (k5 : PySem.W.keepIn K (.ref f5) = true)
    {f6 : Addr} {od6 an6 : Option Addr} {sl6 : Array (Option Value)} {oc6 kV6 dc6 pm6 cd6 ct6 : Value} (a6 : PySem.W.nsIn K mainGlobals "is_head" = some (some (.ref f6))) (l6 : K.lookup f6 = some ⟨oc6, od6, .func (PySem.W.fnOf "is_head" "is_head" (defArgs sIsHead) (defBody sIsHead) (defScope sIsHead) .none kV6 dc6 pm6 an6 cd6 ct6), sl6⟩) (c6 : PySem.W.codeIn K cd6 "is_head" = true) (k6 : PySem.W.keepIn K (.ref f6) = true)
    {f7 : Addr} {od7 an7 : Option Addr} {sl7 : Array (Option Value)} {oc7 kV7 dc7 pm7 cd7 ct7 : Value} (a7 : PySem.W.nsIn K mainGlobals "parts_of" = some (some (.ref f7))) (l7 : K.lookup f7 = some ⟨oc7, od7, .func (PySem.W.fnOf "parts_of" "parts_of" (defArgs sPartsOf) (defBody sPartsOf) (defScope sPartsOf) .none kV7 dc7 pm7 an7 cd7 ct7), sl7⟩) (c7 : PySem.W.codeIn K cd7 "parts_of" = true) (k7 : PySem.W.keepIn K (.ref f7) = true)
    {f8 : Addr} {od8 an8 : Option Addr} {sl8 : Array (Option Value)} {oc8 kV8 dc8 pm8 cd8 ct8 : Value} (a8 : PySem.W.nsIn K mainGlobals "counted" = some (some (.ref f8))) (l8 : K.lookup f8 = some ⟨oc8, od8, .func (PySem.W.fnOf "counted" "counted" (defArgs sCounted) (defBody sCounted) (defScope sCounted) .none kV8 dc8 pm8 an8 cd8 ct8), sl8⟩) (c8 : PySem.W.codeIn K cd8 "counted" = true) (k8 : PySem.W.keepIn K (.ref f8) = true)
    {f9 : Addr} {od9 an9 : Option Addr} {sl9 : Array (Option Value)} {oc9 kV9 dc9 pm9 cd9 ct9 : Value} (a9 : PySem.W.nsIn K mainGlobals "is_rule" = some (some (.ref f9))) (l9 : K.lookup f9 = some ⟨oc9, od9, .func (PySem.W.fnOf "is_rule" "is_rule" (defArgs sIsRule) (defBody sIsRule) (defScope sIsRule) .none kV9 dc9 pm9 an9 cd9 ct9), sl9⟩) (c9 : PySem.W.codeIn K cd9 "is_rule" = true) (k9 : PySem.W.keepIn K (.ref f9) = true)
    {f10 : Addr} {od10 an10 : Option Addr} {sl10 : Array (Option Value)} {oc10 kV10 dc10 pm10 cd10 ct10 : Value} (a10 : PySem.W.nsIn K mainGlobals "branches" = some (some (.ref f10))) (l10 : K.lookup f10 = some ⟨oc10, od10, .func (PySem.W.fnOf "branches" "branches" (defArgs sBranches) (defBody sBranches) (defScope sBranches) .none kV10 dc10 pm10 an10 cd10 ct10), sl10⟩) (c10 : PySem.W.codeIn K cd10 "branches" = true) (k10 : PySem.W.keepIn K (.ref f10) = true)
    {f11 : Addr} {od11 an11 : Option Addr} {sl11 : Array (Option Value)} {oc11 kV11 dc11 pm11 cd11 ct11 : Value} (a11 : PySem.W.nsIn K mainGlobals "made" = some (some (.ref f11))) (l11 : K.lookup f11 = some ⟨oc11, od11, .func (PySem.W.fnOf "made" "made" (defArgs sMade) (defBody sMade) (defScope sMade) .none kV11 dc11 pm11 an11 cd11 ct11), sl11⟩) (c11 : PySem.W.codeIn K cd11 "made" = true) (k11 : PySem.W.keepIn K (.ref f11) = true)
    {f12 : Addr} {od12 an12 : Option Addr} {sl12 : Array (Option Value)} {oc12 kV12 dc12 pm12 cd12 ct12 : Value} (a12 : PySem.W.nsIn K mainGlobals "told_by" = some (some (.ref f12))) (l12 : K.lookup f12 = some ⟨oc12, od12, .func (PySem.W.fnOf "told_by" "told_by" (defArgs sToldBy) (defBody sToldBy) (defScope sToldBy) .none kV12 dc12 pm12 an12 cd12 ct12), sl12⟩) (c12 : PySem.W.codeIn K cd12 "told_by" = true) (k12 : PySem.W.keepIn K (.ref f12) = true)
    {f13 : Addr} {od13 an13 : Option Addr} {sl13 : Array (Option Value)} {oc13 kV13 dc13 pm13 cd13 ct13 : Value} (a13 : PySem.W.nsIn K mainGlobals "told" = some (some (.ref f13))) (l13 : K.lookup f13 = some ⟨oc13, od13, .func (PySem.W.fnOf "told" "told" (defArgs sTold) (defBody sTold) (defScope sTold) .none kV13 dc13 pm13 an13 cd13 ct13), sl13⟩) (c13 : PySem.W.codeIn K cd13 "told" = true) (k13 : PySem.W.keepIn K (.ref f13) = true)
    {f14 : Addr} {od14 an14 : Option Addr} {sl14 : Array (Option Value)} {oc14 kV14 dc14 pm14 cd14 ct14 : Value} (a14 : PySem.W.nsIn K mainGlobals "are_tops" = some (some (.ref f14))) (l14 : K.lookup f14 = some ⟨oc14, od14, .func (PySem.W.fnOf "are_tops" "are_tops" (defArgs sAreTops) (defBody sAreTops) (defScope sAreTops) .none kV14 dc14 pm14 an14 cd14 ct14), sl14⟩) (c14 : PySem.W.codeIn K cd14 "are_tops" = true) (k14 : PySem.W.keepIn K (.ref f14) = true)
    {f15 : Addr} {od15 an15 : Option Addr} {sl15 : Array (Option Value)} {oc15 kV15 dc15 pm15 cd15 ct15 : Value} (a15 : PySem.W.nsIn K mainGlobals "are_rules" = some (some (.ref f15))) (l15 : K.lookup f15 = some ⟨oc15, od15, .func (PySem.W.fnOf "are_rules" "are_rules" (defArgs sAreRules) (defBody sAreRules) (defScope sAreRules) .none kV15 dc15 pm15 an15 cd15 ct15), sl15⟩) (c15 : PySem.W.codeIn K cd15 "are_rules" = true) (k15 : PySem.W.keepIn K (.ref f15) = true)
    {f16 : Addr} {od16 an16 : Option Addr} {sl16 : Array (Option Value)} {oc16 kV16 dc16 pm16 cd16 ct16 : Value} (a16 : PySem.W.nsIn K mainGlobals "is_net" = some (some (.ref f16))) (l16 : K.lookup f16 = some ⟨oc16, od16, .func (PySem.W.fnOf "is_net" "is_net" (defArgs sIsNet) (defBody sIsNet) (defScope sIsNet) .none kV16 dc16 pm16 an16 cd16 ct16), sl16⟩) (c16 : PySem.W.codeIn K cd16 "is_net" = true) (k16 : PySem.W.keepIn K (.ref f16) = true)
    {f17 : Addr} {od17 an17 : Option Addr} {sl17 : Array (Option Value)} {oc17 kV17 dc17 pm17 cd17 ct17 : Value} (a17 : PySem.W.nsIn K mainGlobals "wanted" = some (some (.ref f17))) (l17 : K.lookup f17 = some ⟨oc17, od17, .func (PySem.W.fnOf "wanted" "wanted" (defArgs sWanted) (defBody sWanted) (defScope sWanted) .none kV17 dc17 pm17 an17 cd17 ct17), sl17⟩) (c17 : PySem.W.codeIn K cd17 "wanted" = true) (k17 : PySem.W.keepIn K (.ref f17) = true)
    {f18 : Addr} {od18 an18 : Option Addr} {sl18 : Array (Option Value)} {oc18 kV18 dc18 pm18 cd18 ct18 : Value} (a18 : PySem.W.nsIn K mainGlobals "with_rule" = some (some (.ref f18))) (l18 : K.lookup f18 = some ⟨oc18, od18, .func (PySem.W.fnOf "with_rule" "with_rule" (defArgs sWithRule) (defBody sWithRule) (defScope sWithRule) .none kV18 dc18 pm18 an18 cd18 ct18), sl18⟩) (c18 : PySem.W.codeIn K cd18 "with_rule" = true) (k18 : PySem.W.keepIn K (.ref f18) = true)
    {f19 : Addr} {od19 an19 : Option Addr} {sl19 : Array (Option Value)} {oc19 kV19 dc19 pm19 cd19 ct19 : Value} (a19 : PySem.W.nsIn K mainGlobals "entries_for" = some (some (.ref f19))) (l19 : K.lookup f19 = some ⟨oc19, od19, .func (PySem.W.fnOf "entries_for" "entries_for" (defArgs sEntriesFor) (defBody sEntriesFor) (defScope sEntriesFor) .none kV19 dc19 pm19 an19 cd19 ct19), sl19⟩) (c19 : PySem.W.codeIn K cd19 "entries_for" = true) (k19 : PySem.W.keepIn K (.ref f19) = true)
    {f20 : Addr} {od20 an20 : Option Addr} {sl20 : Array (Option Value)} {oc20 kV20 dc20 pm20 cd20 ct20 : Value} (a20 : PySem.W.nsIn K mainGlobals "range_of" = some (some (.ref f20))) (l20 : K.lookup f20 = some ⟨oc20, od20, .func (PySem.W.fnOf "range_of" "range_of" (defArgs sRangeOf) (defBody sRangeOf) (defScope sRangeOf) .none kV20 dc20 pm20 an20 cd20 ct20), sl20⟩) (c20 : PySem.W.codeIn K cd20 "range_of" = true) (k20 : PySem.W.keepIn K (.ref f20) = true)
    {f21 : Addr} {od21 an21 : Option Addr} {sl21 : Array (Option Value)} {oc21 kV21 dc21 pm21 cd21 ct21 : Value} (a21 : PySem.W.nsIn K mainGlobals "house_range" = some (some (.ref f21))) (l21 : K.lookup f21 = some ⟨oc21, od21, .func (PySem.W.fnOf "house_range" "house_range" (defArgs sHouseRange) (defBody sHouseRange) (defScope sHouseRange) .none kV21 dc21 pm21 an21 cd21 ct21), sl21⟩) (c21 : PySem.W.codeIn K cd21 "house_range" = true) (k21 : PySem.W.keepIn K (.ref f21) = true)
    {f22 : Addr} {od22 an22 : Option Addr} {sl22 : Array (Option Value)} {oc22 kV22 dc22 pm22 cd22 ct22 : Value} (a22 : PySem.W.nsIn K mainGlobals "is_rising_row" = some (some (.ref f22))) (l22 : K.lookup f22 = some ⟨oc22, od22, .func (PySem.W.fnOf "is_rising_row" "is_rising_row" (defArgs sIsRisingRow) (defBody sIsRisingRow) (defScope sIsRisingRow) .none kV22 dc22 pm22 an22 cd22 ct22), sl22⟩) (c22 : PySem.W.codeIn K cd22 "is_rising_row" = true) (k22 : PySem.W.keepIn K (.ref f22) = true)
    {f23 : Addr} {od23 an23 : Option Addr} {sl23 : Array (Option Value)} {oc23 kV23 dc23 pm23 cd23 ct23 : Value} (a23 : PySem.W.nsIn K mainGlobals "turn_of" = some (some (.ref f23))) (l23 : K.lookup f23 = some ⟨oc23, od23, .func (PySem.W.fnOf "turn_of" "turn_of" (defArgs sTurnOf) (defBody sTurnOf) (defScope sTurnOf) .none kV23 dc23 pm23 an23 cd23 ct23), sl23⟩) (c23 : PySem.W.codeIn K cd23 "turn_of" = true) (k23 : PySem.W.keepIn K (.ref f23) = true)
    {f24 : Addr} {od24 an24 : Option Addr} {sl24 : Array (Option Value)} {oc24 kV24 dc24 pm24 cd24 ct24 : Value} (a24 : PySem.W.nsIn K mainGlobals "words_within" = some (some (.ref f24))) (l24 : K.lookup f24 = some ⟨oc24, od24, .func (PySem.W.fnOf "words_within" "words_within" (defArgs sWordsWithin) (defBody sWordsWithin) (defScope sWordsWithin) .none kV24 dc24 pm24 an24 cd24 ct24), sl24⟩) (c24 : PySem.W.codeIn K cd24 "words_within" = true) (k24 : PySem.W.keepIn K (.ref f24) = true)
    {f25 : Addr} {od25 an25 : Option Addr} {sl25 : Array (Option Value)} {oc25 kV25 dc25 pm25 cd25 ct25 : Value} (a25 : PySem.W.nsIn K mainGlobals "ways" = some (some (.ref f25))) (l25 : K.lookup f25 = some ⟨oc25, od25, .func (PySem.W.fnOf "ways" "ways" (defArgs sWays) (defBody sWays) (defScope sWays) .none kV25 dc25 pm25 an25 cd25 ct25), sl25⟩) (c25 : PySem.W.codeIn K cd25 "ways" = true) (k25 : PySem.W.keepIn K (.ref f25) = true)
    {f26 : Addr} {od26 an26 : Option Addr} {sl26 : Array (Option Value)} {oc26 kV26 dc26 pm26 cd26 ct26 : Value} (a26 : PySem.W.nsIn K mainGlobals "are_one_way" = some (some (.ref f26))) (l26 : K.lookup f26 = some ⟨oc26, od26, .func (PySem.W.fnOf "are_one_way" "are_one_way" (defArgs sAreOneWay) (defBody sAreOneWay) (defScope sAreOneWay) .none kV26 dc26 pm26 an26 cd26 ct26), sl26⟩) (c26 : PySem.W.codeIn K cd26 "are_one_way" = true) (k26 : PySem.W.keepIn K (.ref f26) = true)
    {f27 : Addr} {od27 an27 : Option Addr} {sl27 : Array (Option Value)} {oc27 kV27 dc27 pm27 cd27 ct27 : Value} (a27 : PySem.W.nsIn K mainGlobals "one_way" = some (some (.ref f27))) (l27 : K.lookup f27 = some ⟨oc27, od27, .func (PySem.W.fnOf "one_way" "one_way" (defArgs sOneWay) (defBody sOneWay) (defScope sOneWay) .none kV27 dc27 pm27 an27 cd27 ct27), sl27⟩) (c27 : PySem.W.codeIn K cd27 "one_way" = true) (k27 : PySem.W.keepIn K (.ref f27) = true)
    {f28 : Addr} {od28 an28 : Option Addr} {sl28 : Array (Option Value)} {oc28 kV28 dc28 pm28 cd28 ct28 : Value} (a28 : PySem.W.nsIn K mainGlobals "stepped" = some (some (.ref f28))) (l28 : K.lookup f28 = some ⟨oc28, od28, .func (PySem.W.fnOf "stepped" "stepped" (defArgs sStepped) (defBody sStepped) (defScope sStepped) .none kV28 dc28 pm28 an28 cd28 ct28), sl28⟩) (c28 : PySem.W.codeIn K cd28 "stepped" = true) (k28 : PySem.W.keepIn K (.ref f28) = true)
    {f29 : Addr} {od29 an29 : Option Addr} {sl29 : Array (Option Value)} {oc29 kV29 dc29 pm29 cd29 ct29 : Value} (a29 : PySem.W.nsIn K mainGlobals "next_ends" = some (some (.ref f29))) (l29 : K.lookup f29 = some ⟨oc29, od29, .func (PySem.W.fnOf "next_ends" "next_ends" (defArgs sNextEnds) (defBody sNextEnds) (defScope sNextEnds) .none kV29 dc29 pm29 an29 cd29 ct29), sl29⟩) (c29 : PySem.W.codeIn K cd29 "next_ends" = true) (k29 : PySem.W.keepIn K (.ref f29) = true)
    {f30 : Addr} {od30 an30 : Option Addr} {sl30 : Array (Option Value)} {oc30 kV30 dc30 pm30 cd30 ct30 : Value} (a30 : PySem.W.nsIn K mainGlobals "hull" = some (some (.ref f30))) (l30 : K.lookup f30 = some ⟨oc30, od30, .func (PySem.W.fnOf "hull" "hull" (defArgs sHull) (defBody sHull) (defScope sHull) .none kV30 dc30 pm30 an30 cd30 ct30), sl30⟩) (c30 : PySem.W.codeIn K cd30 "hull" = true) (k30 : PySem.W.keepIn K (.ref f30) = true)
    {f31 : Addr} {od31 an31 : Option Addr} {sl31 : Array (Option Value)} {oc31 kV31 dc31 pm31 cd31 ct31 : Value} (a31 : PySem.W.nsIn K mainGlobals "closed" = some (some (.ref f31))) (l31 : K.lookup f31 = some ⟨oc31, od31, .func (PySem.W.fnOf "closed" "closed" (defArgs sClosed) (defBody sClosed) (defScope sClosed) .none kV31 dc31 pm31 an31 cd31 ct31), sl31⟩) (c31 : PySem.W.codeIn K cd31 "closed" = true) (k31 : PySem.W.keepIn K (.ref f31) = true)
    {f32 : Addr} {od32 an32 : Option Addr} {sl32 : Array (Option Value)} {oc32 kV32 dc32 pm32 cd32 ct32 : Value} (a32 : PySem.W.nsIn K mainGlobals "led" = some (some (.ref f32))) (l32 : K.lookup f32 = some ⟨oc32, od32, .func (PySem.W.fnOf "led" "led" (defArgs sLed) (defBody sLed) (defScope sLed) .none kV32 dc32 pm32 an32 cd32 ct32), sl32⟩) (c32 : PySem.W.codeIn K cd32 "led" = true) (k32 : PySem.W.keepIn K (.ref f32) = true)
    {f33 : Addr} {od33 an33 : Option Addr} {sl33 : Array (Option Value)} {oc33 kV33 dc33 pm33 cd33 ct33 : Value} (a33 : PySem.W.nsIn K mainGlobals "known" = some (some (.ref f33))) (l33 : K.lookup f33 = some ⟨oc33, od33, .func (PySem.W.fnOf "known" "known" (defArgs sKnown) (defBody sKnown) (defScope sKnown) .none kV33 dc33 pm33 an33 cd33 ct33), sl33⟩) (c33 : PySem.W.codeIn K cd33 "known" = true) (k33 : PySem.W.keepIn K (.ref f33) = true)
    {f34 : Addr} {od34 an34 : Option Addr} {sl34 : Array (Option Value)} {oc34 kV34 dc34 pm34 cd34 ct34 : Value} (a34 : PySem.W.nsIn K mainGlobals "rests_in" = some (some (.ref f34))) (l34 : K.lookup f34 = some ⟨oc34, od34, .func (PySem.W.fnOf "rests_in" "rests_in" (defArgs sRestsIn) (defBody sRestsIn) (defScope sRestsIn) .none kV34 dc34 pm34 an34 cd34 ct34), sl34⟩) (c34 : PySem.W.codeIn K cd34 "rests_in" = true) (k34 : PySem.W.keepIn K (.ref f34) = true)
    {f35 : Addr} {od35 an35 : Option Addr} {sl35 : Array (Option Value)} {oc35 kV35 dc35 pm35 cd35 ct35 : Value} (a35 : PySem.W.nsIn K mainGlobals "net_behind" = some (some (.ref f35))) (l35 : K.lookup f35 = some ⟨oc35, od35, .func (PySem.W.fnOf "net_behind" "net_behind" (defArgs sNetBehind) (defBody sNetBehind) (defScope sNetBehind) .none kV35 dc35 pm35 an35 cd35 ct35), sl35⟩) (c35 : PySem.W.codeIn K cd35 "net_behind" = true) (k35 : PySem.W.keepIn K (.ref f35) = true)
    {f36 : Addr} {od36 an36 : Option Addr} {sl36 : Array (Option Value)} {oc36 kV36 dc36 pm36 cd36 ct36 : Value} (a36 : PySem.W.nsIn K mainGlobals "is_sight" = some (some (.ref f36))) (l36 : K.lookup f36 = some ⟨oc36, od36, .func (PySem.W.fnOf "is_sight" "is_sight" (defArgs sIsSight) (defBody sIsSight) (defScope sIsSight) .none kV36 dc36 pm36 an36 cd36 ct36), sl36⟩) (c36 : PySem.W.codeIn K cd36 "is_sight" = true) (k36 : PySem.W.keepIn K (.ref f36) = true)
    {f37 : Addr} {od37 an37 : Option Addr} {sl37 : Array (Option Value)} {oc37 kV37 dc37 pm37 cd37 ct37 : Value} (a37 : PySem.W.nsIn K mainGlobals "is_change" = some (some (.ref f37))) (l37 : K.lookup f37 = some ⟨oc37, od37, .func (PySem.W.fnOf "is_change" "is_change" (defArgs sIsChange) (defBody sIsChange) (defScope sIsChange) .none kV37 dc37 pm37 an37 cd37 ct37), sl37⟩) (c37 : PySem.W.codeIn K cd37 "is_change" = true) (k37 : PySem.W.keepIn K (.ref f37) = true)
    {f38 : Addr} {od38 an38 : Option Addr} {sl38 : Array (Option Value)} {oc38 kV38 dc38 pm38 cd38 ct38 : Value} (a38 : PySem.W.nsIn K mainGlobals "placed" = some (some (.ref f38))) (l38 : K.lookup f38 = some ⟨oc38, od38, .func (PySem.W.fnOf "placed" "placed" (defArgs sPlaced) (defBody sPlaced) (defScope sPlaced) .none kV38 dc38 pm38 an38 cd38 ct38), sl38⟩) (c38 : PySem.W.codeIn K cd38 "placed" = true) (k38 : PySem.W.keepIn K (.ref f38) = true)
    {f39 : Addr} {od39 an39 : Option Addr} {sl39 : Array (Option Value)} {oc39 kV39 dc39 pm39 cd39 ct39 : Value} (a39 : PySem.W.nsIn K mainGlobals "changed" = some (some (.ref f39))) (l39 : K.lookup f39 = some ⟨oc39, od39, .func (PySem.W.fnOf "changed" "changed" (defArgs sChanged) (defBody sChanged) (defScope sChanged) .none kV39 dc39 pm39 an39 cd39 ct39), sl39⟩) (c39 : PySem.W.codeIn K cd39 "changed" = true) (k39 : PySem.W.keepIn K (.ref f39) = true)
    {f40 : Addr} {od40 an40 : Option Addr} {sl40 : Array (Option Value)} {oc40 kV40 dc40 pm40 cd40 ct40 : Value} (a40 : PySem.W.nsIn K mainGlobals "_law_of" = some (some (.ref f40))) (l40 : K.lookup f40 = some ⟨oc40, od40, .func (PySem.W.fnOf "_law_of" "_law_of" (defArgs sLawOf) (defBody sLawOf) (defScope sLawOf) .none kV40 dc40 pm40 an40 cd40 ct40), sl40⟩) (c40 : PySem.W.codeIn K cd40 "_law_of" = true) (k40 : PySem.W.keepIn K (.ref f40) = true)
    {f41 : Addr} {od41 an41 : Option Addr} {sl41 : Array (Option Value)} {oc41 kV41 dc41 pm41 cd41 ct41 : Value} (a41 : PySem.W.nsIn K mainGlobals "_law_rule" = some (some (.ref f41))) (l41 : K.lookup f41 = some ⟨oc41, od41, .func (PySem.W.fnOf "_law_rule" "_law_rule" (defArgs sLawRule) (defBody sLawRule) (defScope sLawRule) .none kV41 dc41 pm41 an41 cd41 ct41), sl41⟩) (c41 : PySem.W.codeIn K cd41 "_law_rule" = true) (k41 : PySem.W.keepIn K (.ref f41) = true)
    {f42 : Addr} {od42 an42 : Option Addr} {sl42 : Array (Option Value)} {oc42 kV42 dc42 pm42 cd42 ct42 : Value} (a42 : PySem.W.nsIn K mainGlobals "_law_net" = some (some (.ref f42))) (l42 : K.lookup f42 = some ⟨oc42, od42, .func (PySem.W.fnOf "_law_net" "_law_net" (defArgs sLawNet) (defBody sLawNet) (defScope sLawNet) .none kV42 dc42 pm42 an42 cd42 ct42), sl42⟩) (c42 : PySem.W.codeIn K cd42 "_law_net" = true) (k42 : PySem.W.keepIn K (.ref f42) = true)
    {f43 : Addr} {od43 an43 : Option Addr} {sl43 : Array (Option Value)} {oc43 kV43 dc43 pm43 cd43 ct43 : Value} (a43 : PySem.W.nsIn K mainGlobals "_law_parts" = some (some (.ref f43))) (l43 : K.lookup f43 = some ⟨oc43, od43, .func (PySem.W.fnOf "_law_parts" "_law_parts" (defArgs sLawParts) (defBody sLawParts) (defScope sLawParts) .none kV43 dc43 pm43 an43 cd43 ct43), sl43⟩) (c43 : PySem.W.codeIn K cd43 "_law_parts" = true) (k43 : PySem.W.keepIn K (.ref f43) = true)
    {f44 : Addr} {od44 an44 : Option Addr} {sl44 : Array (Option Value)} {oc44 kV44 dc44 pm44 cd44 ct44 : Value} (a44 : PySem.W.nsIn K mainGlobals "_law_branches" = some (some (.ref f44))) (l44 : K.lookup f44 = some ⟨oc44, od44, .func (PySem.W.fnOf "_law_branches" "_law_branches" (defArgs sLawBranches) (defBody sLawBranches) (defScope sLawBranches) .none kV44 dc44 pm44 an44 cd44 ct44), sl44⟩) (c44 : PySem.W.codeIn K cd44 "_law_branches" = true) (k44 : PySem.W.keepIn K (.ref f44) = true)
    {f45 : Addr} {od45 an45 : Option Addr} {sl45 : Array (Option Value)} {oc45 kV45 dc45 pm45 cd45 ct45 : Value} (a45 : PySem.W.nsIn K mainGlobals "_law_made" = some (some (.ref f45))) (l45 : K.lookup f45 = some ⟨oc45, od45, .func (PySem.W.fnOf "_law_made" "_law_made" (defArgs sLawMade) (defBody sLawMade) (defScope sLawMade) .none kV45 dc45 pm45 an45 cd45 ct45), sl45⟩) (c45 : PySem.W.codeIn K cd45 "_law_made" = true) (k45 : PySem.W.keepIn K (.ref f45) = true)
    {f46 : Addr} {od46 an46 : Option Addr} {sl46 : Array (Option Value)} {oc46 kV46 dc46 pm46 cd46 ct46 : Value} (a46 : PySem.W.nsIn K mainGlobals "_law_told" = some (some (.ref f46))) (l46 : K.lookup f46 = some ⟨oc46, od46, .func (PySem.W.fnOf "_law_told" "_law_told" (defArgs sLawTold) (defBody sLawTold) (defScope sLawTold) .none kV46 dc46 pm46 an46 cd46 ct46), sl46⟩) (c46 : PySem.W.codeIn K cd46 "_law_told" = true) (k46 : PySem.W.keepIn K (.ref f46) = true)
    {f47 : Addr} {od47 an47 : Option Addr} {sl47 : Array (Option Value)} {oc47 kV47 dc47 pm47 cd47 ct47 : Value} (a47 : PySem.W.nsIn K mainGlobals "_law_wants" = some (some (.ref f47))) (l47 : K.lookup f47 = some ⟨oc47, od47, .func (PySem.W.fnOf "_law_wants" "_law_wants" (defArgs sLawWants) (defBody sLawWants) (defScope sLawWants) .none kV47 dc47 pm47 an47 cd47 ct47), sl47⟩) (c47 : PySem.W.codeIn K cd47 "_law_wants" = true) (k47 : PySem.W.keepIn K (.ref f47) = true)
    {f48 : Addr} {od48 an48 : Option Addr} {sl48 : Array (Option Value)} {oc48 kV48 dc48 pm48 cd48 ct48 : Value} (a48 : PySem.W.nsIn K mainGlobals "_law_entries" = some (some (.ref f48))) (l48 : K.lookup f48 = some ⟨oc48, od48, .func (PySem.W.fnOf "_law_entries" "_law_entries" (defArgs sLawEntries) (defBody sLawEntries) (defScope sLawEntries) .none kV48 dc48 pm48 an48 cd48 ct48), sl48⟩) (c48 : PySem.W.codeIn K cd48 "_law_entries" = true) (k48 : PySem.W.keepIn K (.ref f48) = true)
    {f49 : Addr} {od49 an49 : Option Addr} {sl49 : Array (Option Value)} {oc49 kV49 dc49 pm49 cd49 ct49 : Value} (a49 : PySem.W.nsIn K mainGlobals "_law_range" = some (some (.ref f49))) (l49 : K.lookup f49 = some ⟨oc49, od49, .func (PySem.W.fnOf "_law_range" "_law_range" (defArgs sLawRange) (defBody sLawRange) (defScope sLawRange) .none kV49 dc49 pm49 an49 cd49 ct49), sl49⟩) (c49 : PySem.W.codeIn K cd49 "_law_range" = true) (k49 : PySem.W.keepIn K (.ref f49) = true)
    {f50 : Addr} {od50 an50 : Option Addr} {sl50 : Array (Option Value)} {oc50 kV50 dc50 pm50 cd50 ct50 : Value} (a50 : PySem.W.nsIn K mainGlobals "_law_turn" = some (some (.ref f50))) (l50 : K.lookup f50 = some ⟨oc50, od50, .func (PySem.W.fnOf "_law_turn" "_law_turn" (defArgs sLawTurn) (defBody sLawTurn) (defScope sLawTurn) .none kV50 dc50 pm50 an50 cd50 ct50), sl50⟩) (c50 : PySem.W.codeIn K cd50 "_law_turn" = true) (k50 : PySem.W.keepIn K (.ref f50) = true)
    {f51 : Addr} {od51 an51 : Option Addr} {sl51 : Array (Option Value)} {oc51 kV51 dc51 pm51 cd51 ct51 : Value} (a51 : PySem.W.nsIn K mainGlobals "_law_words" = some (some (.ref f51))) (l51 : K.lookup f51 = some ⟨oc51, od51, .func (PySem.W.fnOf "_law_words" "_law_words" (defArgs sLawWords) (defBody sLawWords) (defScope sLawWords) .none kV51 dc51 pm51 an51 cd51 ct51), sl51⟩) (c51 : PySem.W.codeIn K cd51 "_law_words" = true) (k51 : PySem.W.keepIn K (.ref f51) = true)
    {f52 : Addr} {od52 an52 : Option Addr} {sl52 : Array (Option Value)} {oc52 kV52 dc52 pm52 cd52 ct52 : Value} (a52 : PySem.W.nsIn K mainGlobals "_law_ways" = some (some (.ref f52))) (l52 : K.lookup f52 = some ⟨oc52, od52, .func (PySem.W.fnOf "_law_ways" "_law_ways" (defArgs sLawWays) (defBody sLawWays) (defScope sLawWays) .none kV52 dc52 pm52 an52 cd52 ct52), sl52⟩) (c52 : PySem.W.codeIn K cd52 "_law_ways" = true) (k52 : PySem.W.keepIn K (.ref f52) = true)
    {f53 : Addr} {od53 an53 : Option Addr} {sl53 : Array (Option Value)} {oc53 kV53 dc53 pm53 cd53 ct53 : Value} (a53 : PySem.W.nsIn K mainGlobals "_law_all_words" = some (some (.ref f53))) (l53 : K.lookup f53 = some ⟨oc53, od53, .func (PySem.W.fnOf "_law_all_words" "_law_all_words" (defArgs sLawAllWords) (defBody sLawAllWords) (defScope sLawAllWords) .none kV53 dc53 pm53 an53 cd53 ct53), sl53⟩) (c53 : PySem.W.codeIn K cd53 "_law_all_words" = true) (k53 : PySem.W.keepIn K (.ref f53) = true)
    {f54 : Addr} {od54 an54 : Option Addr} {sl54 : Array (Option Value)} {oc54 kV54 dc54 pm54 cd54 ct54 : Value} (a54 : PySem.W.nsIn K mainGlobals "_law_next_ends" = some (some (.ref f54))) (l54 : K.lookup f54 = some ⟨oc54, od54, .func (PySem.W.fnOf "_law_next_ends" "_law_next_ends" (defArgs sLawNextEnds) (defBody sLawNextEnds) (defScope sLawNextEnds) .none kV54 dc54 pm54 an54 cd54 ct54), sl54⟩) (c54 : PySem.W.codeIn K cd54 "_law_next_ends" = true) (k54 : PySem.W.keepIn K (.ref f54) = true)
    {f55 : Addr} {od55 an55 : Option Addr} {sl55 : Array (Option Value)} {oc55 kV55 dc55 pm55 cd55 ct55 : Value} (a55 : PySem.W.nsIn K mainGlobals "_law_led" = some (some (.ref f55))) (l55 : K.lookup f55 = some ⟨oc55, od55, .func (PySem.W.fnOf "_law_led" "_law_led" (defArgs sLawLed) (defBody sLawLed) (defScope sLawLed) .none kV55 dc55 pm55 an55 cd55 ct55), sl55⟩) (c55 : PySem.W.codeIn K cd55 "_law_led" = true) (k55 : PySem.W.keepIn K (.ref f55) = true)
    {f56 : Addr} {od56 an56 : Option Addr} {sl56 : Array (Option Value)} {oc56 kV56 dc56 pm56 cd56 ct56 : Value} (a56 : PySem.W.nsIn K mainGlobals "_law_closed" = some (some (.ref f56))) (l56 : K.lookup f56 = some ⟨oc56, od56, .func (PySem.W.fnOf "_law_closed" "_law_closed" (defArgs sLawClosed) (defBody sLawClosed) (defScope sLawClosed) .none kV56 dc56 pm56 an56 cd56 ct56), sl56⟩) (c56 : PySem.W.codeIn K cd56 "_law_closed" = true) (k56 : PySem.W.keepIn K (.ref f56) = true)
    {f57 : Addr} {od57 an57 : Option Addr} {sl57 : Array (Option Value)} {oc57 kV57 dc57 pm57 cd57 ct57 : Value} (a57 : PySem.W.nsIn K mainGlobals "_law_life" = some (some (.ref f57))) (l57 : K.lookup f57 = some ⟨oc57, od57, .func (PySem.W.fnOf "_law_life" "_law_life" (defArgs sLawLife) (defBody sLawLife) (defScope sLawLife) .none kV57 dc57 pm57 an57 cd57 ct57), sl57⟩) (c57 : PySem.W.codeIn K cd57 "_law_life" = true) (k57 : PySem.W.keepIn K (.ref f57) = true)
    {f58 : Addr} {od58 an58 : Option Addr} {sl58 : Array (Option Value)} {oc58 kV58 dc58 pm58 cd58 ct58 : Value} (a58 : PySem.W.nsIn K mainGlobals "_law_some_change" = some (some (.ref f58))) (l58 : K.lookup f58 = some ⟨oc58, od58, .func (PySem.W.fnOf "_law_some_change" "_law_some_change" (defArgs sLawSomeChange) (defBody sLawSomeChange) (defScope sLawSomeChange) .none kV58 dc58 pm58 an58 cd58 ct58), sl58⟩) (c58 : PySem.W.codeIn K cd58 "_law_some_change" = true) (k58 : PySem.W.keepIn K (.ref f58) = true)
    {f59 : Addr} {od59 an59 : Option Addr} {sl59 : Array (Option Value)} {oc59 kV59 dc59 pm59 cd59 ct59 : Value} (a59 : PySem.W.nsIn K mainGlobals "_law_lateness" = some (some (.ref f59))) (l59 : K.lookup f59 = some ⟨oc59, od59, .func (PySem.W.fnOf "_law_lateness" "_law_lateness" (defArgs sLawLateness) (defBody sLawLateness) (defScope sLawLateness) .none kV59 dc59 pm59 an59 cd59 ct59), sl59⟩) (c59 : PySem.W.codeIn K cd59 "_law_lateness" = true) (k59 : PySem.W.keepIn K (.ref f59) = true)
    {f60 : Addr} {od60 an60 : Option Addr} {sl60 : Array (Option Value)} {oc60 kV60 dc60 pm60 cd60 ct60 : Value} (a60 : PySem.W.nsIn K mainGlobals "_law_beat" = some (some (.ref f60))) (l60 : K.lookup f60 = some ⟨oc60, od60, .func (PySem.W.fnOf "_law_beat" "_law_beat" (defArgs sLawBeat) (defBody sLawBeat) (defScope sLawBeat) .none kV60 dc60 pm60 an60 cd60 ct60), sl60⟩) (c60 : PySem.W.codeIn K cd60 "_law_beat" = true) (k60 : PySem.W.keepIn K (.ref f60) = true)
    {f61 : Addr} {od61 an61 : Option Addr} {sl61 : Array (Option Value)} {oc61 kV61 dc61 pm61 cd61 ct61 : Value} (a61 : PySem.W.nsIn K mainGlobals "_law_holds" = some (some (.ref f61))) (l61 : K.lookup f61 = some ⟨oc61, od61, .func (PySem.W.fnOf "_law_holds" "_law_holds" (defArgs sLawHolds) (defBody sLawHolds) (defScope sLawHolds) .none kV61 dc61 pm61 an61 cd61 ct61), sl61⟩) (c61 : PySem.W.codeIn K cd61 "_law_holds" = true) (k61 : PySem.W.keepIn K (.ref f61) = true)
    {f62 : Addr} {od62 an62 : Option Addr} {sl62 : Array (Option Value)} {oc62 kV62 dc62 pm62 cd62 ct62 : Value} (a62 : PySem.W.nsIn K mainGlobals "heard_ends" = some (some (.ref f62))) (l62 : K.lookup f62 = some ⟨oc62, od62, .func (PySem.W.fnOf "heard_ends" "heard_ends" (defArgs sHeardEnds) (defBody sHeardEnds) (defScope sHeardEnds) .none kV62 dc62 pm62 an62 cd62 ct62), sl62⟩) (c62 : PySem.W.codeIn K cd62 "heard_ends" = true) (k62 : PySem.W.keepIn K (.ref f62) = true)
    {f63 : Addr} {od63 an63 : Option Addr} {sl63 : Array (Option Value)} {oc63 kV63 dc63 pm63 cd63 ct63 : Value} (a63 : PySem.W.nsIn K mainGlobals "_law_any" = some (some (.ref f63))) (l63 : K.lookup f63 = some ⟨oc63, od63, .func (PySem.W.fnOf "_law_any" "_law_any" (defArgs sLawAny) (defBody sLawAny) (defScope sLawAny) .none kV63 dc63 pm63 an63 cd63 ct63), sl63⟩) (c63 : PySem.W.codeIn K cd63 "_law_any" = true) (k63 : PySem.W.keepIn K (.ref f63) = true)
    {f64 : Addr} {od64 an64 : Option Addr} {sl64 : Array (Option Value)} {oc64 kV64 dc64 pm64 cd64 ct64 : Value} (a64 : PySem.W.nsIn K mainGlobals "_law_draw" = some (some (.ref f64))) (l64 : K.lookup f64 = some ⟨oc64, od64, .func (PySem.W.fnOf "_law_draw" "_law_draw" (defArgs sLawDraw) (defBody sLawDraw) (defScope sLawDraw) .none kV64 dc64 pm64 an64 cd64 ct64), sl64⟩) (c64 : PySem.W.codeIn K cd64 "_law_draw" = true) (k64 : PySem.W.keepIn K (.ref f64) = true)
    {f65 : Addr} {od65 an65 : Option Addr} {sl65 : Array (Option Value)} {oc65 kV65 dc65 pm65 cd65 ct65 : Value} (a65 : PySem.W.nsIn K mainGlobals "law" = some (some (.ref f65))) (l65 : K.lookup f65 = some ⟨oc65, od65, .func (PySem.W.fnOf "law" "law" (defArgs sLaw) (defBody sLaw) (defScope sLaw) .none kV65 dc65 pm65 an65 cd65 ct65), sl65⟩) (c65 : PySem.W.codeIn K cd65 "law" = true) (k65 : PySem.W.keepIn K (.ref f65) = true)
    (z0 : PySem.W.nsIn K mainGlobals "len" = some none)
    (z1 : PySem.W.nsIn K mainGlobals "min" = some none)
    (z2 : PySem.W.nsIn K mainGlobals "max" = some none)
    (z3 : PySem.W.nsIn K mainGlobals "sum" = some none)
    (z4 : PySem.W.nsIn K mainGlobals "sorted" = some none)
    (z5 : PySem.W.nsIn K mainGlobals "any" = some none)
    (z6 : PySem.W.nsIn K mainGlobals "all" = some none)
    (z7 : PySem.W.nsIn K mainGlobals "tuple" = some none)
    (z8 : PySem.W.nsIn K mainGlobals "list" = some none)
    (z9 : PySem.W.nsIn K mainGlobals "isinstance" = some none)
    (z10 : PySem.W.nsIn K mainGlobals "int" = some none)
    (z11 : PySem.W.nsIn K mainGlobals "bool" = some none)
    (z12 : PySem.W.nsIn K mainGlobals "str" = some none)
    (z13 : PySem.W.nsIn K mainGlobals "range" = some none)
    (z14 : PySem.W.nsIn K mainGlobals "zip" = some none)
    (z15 : PySem.W.nsIn K mainGlobals "enumerate" = some none)
    (z16 : PySem.W.nsIn K mainGlobals "abs" = some none)
    {t0 : Tok} (m0 : PySem.W.nsIn K mainGlobals "MOST_rules" = some (some (.int 1001 t0)))
    {t1 : Tok} (m1 : PySem.W.nsIn K mainGlobals "MOST_ROW" = some (some (.int 64 t1)))
    {t2 : Tok} (m2 : PySem.W.nsIn K mainGlobals "MOST_PARTS" = some (some (.int 60 t2)))
    {t3 : Tok} (m3 : PySem.W.nsIn K mainGlobals "MOST_DEEP" = some (some (.int 8 t3)))
    {t4 : Tok} (m4 : PySem.W.nsIn K mainGlobals "MOST_BRANCHES" = some (some (.int 12 t4)))
    {t5 : Tok} (m5 : PySem.W.nsIn K mainGlobals "MOST_nets" = some (some (.int 20 t5)))
    {t6 : Tok} (m6 : PySem.W.nsIn K mainGlobals "MOST_WAIT" = some (some (.int 10000 t6)))
    {pw : Addr} {ow : Obj} (aw : PySem.W.nsIn K mainGlobals "WORDS" = some (some (.ref pw))) (lw : K.lookup pw = some ow) (vw : ow.cls = .type "tuple" ∧ ∃ its n, ow.data = .seq its n ∧ its.size ≤ sizeLine ∧ Vals [.str "wait", .str "rule", .str "house", .str "seen"] its.toList)
    {ps : Addr} {es : Array DictEntry} {en : Nat} {s1 s2 s3 s4 : Tok} (as : PySem.W.nsIn K mainGlobals "SIZES" = some (some (.ref ps))) (ls : K.lookup ps = some ⟨.type "dict", none, .dict es en, #[]⟩) (kl : PySem.W.KeysLit w.params es.toList) (y1 : PySem.W.nsIn K ps "wait" = some (some (.int 2 s1))) (y2 : PySem.W.nsIn K ps "rule" = some (some (.int 3 s2))) (y3 : PySem.W.nsIn K ps "house" = some (some (.int 3 s3))) (y4 : PySem.W.nsIn K ps "seen" = some (some (.int 4 s4))) :
    ∃ fd : FuncData, (∀ (s : Shared) (v : Value), BindsTo s fd ⟨[v], []⟩ [("_law_script", v)]) ∧ ∀ base : Heap, K.In base → base.Ns mainGlobals mg → FnOk l.prog w K mg base CX0 24 fa fd ["_law_script"] (spLaw K) := by
  have e := hfa.symm.trans (PySem.W.mg_of X G a65)
  cases e
  have F0 := fun_mk (st := sIsInteger) l0 c0 k0
  have b0 := F0.binds (ps := ["value"]) fun _ _ _ _ _ _ us hl => match us, hl with | [_], _ => rfl
  have F1 := fun_mk (st := sIsNumber) l1 c1 k1
  have b1 := F1.binds (ps := ["value"]) fun _ _ _ _ _ _ us hl => match us, hl with | [_], _ => rfl
  have F2 := fun_mk (st := sIsIndex) l2 c2 k2
  have b2 := F2.binds (ps := ["value", "many"]) fun _ _ _ _ _ _ us hl => match us, hl with | [_, _], _ => rfl
  have F3 := fun_mk (st := sIsRowOf) l3 c3 k3
  have b3 := F3.binds (ps := ["value", "sizes"]) fun _ _ _ _ _ _ us hl => match us, hl with | [_, _], _ => rfl
  have F4 := fun_mk (st := sIsWordOf) l4 c4 k4
  have b4 := F4.binds (ps := ["value", "words"]) fun _ _ _ _ _ _ us hl => match us, hl with | [_, _], _ => rfl
  have F5 := fun_mk (st := sIsWorth) l5 c5 k5
  have b5 := F5.binds (ps := ["value"]) fun _ _ _ _ _ _ us hl => match us, hl with | [_], _ => rfl
  have F6 := fun_mk (st := sIsHead) l6 c6 k6
  have b6 := F6.binds (ps := ["value"]) fun _ _ _ _ _ _ us hl => match us, hl with | [_], _ => rfl
  have F7 := fun_mk (st := sPartsOf) l7 c7 k7
  have b7 := F7.binds (ps := ["value"]) fun _ _ _ _ _ _ us hl => match us, hl with | [_], _ => rfl
  have F8 := fun_mk (st := sCounted) l8 c8 k8
  have b8 := F8.binds (ps := ["value", "deep"]) fun _ _ _ _ _ _ us hl => match us, hl with | [_, _], _ => rfl
  have F9 := fun_mk (st := sIsRule) l9 c9 k9
  have b9 := F9.binds (ps := ["value"]) fun _ _ _ _ _ _ us hl => match us, hl with | [_], _ => rfl
  have F10 := fun_mk (st := sBranches) l10 c10 k10
  have b10 := F10.binds (ps := ["rule"]) fun _ _ _ _ _ _ us hl => match us, hl with | [_], _ => rfl
  have F11 := fun_mk (st := sMade) l11 c11 k11
  have b11 := F11.binds (ps := ["rule", "values"]) fun _ _ _ _ _ _ us hl => match us, hl with | [_, _], _ => rfl
  have F12 := fun_mk (st := sToldBy) l12 c12 k12
  have b12 := F12.binds (ps := ["rule", "heard", "at"]) fun _ _ _ _ _ _ us hl => match us, hl with | [_, _, _], _ => rfl
  have F13 := fun_mk (st := sTold) l13 c13 k13
  have b13 := F13.binds (ps := ["rule", "heard"]) fun _ _ _ _ _ _ us hl => match us, hl with | [_, _], _ => rfl
  have F14 := fun_mk (st := sAreTops) l14 c14 k14
  have b14 := F14.binds (ps := ["value"]) fun _ _ _ _ _ _ us hl => match us, hl with | [_], _ => rfl
  have F15 := fun_mk (st := sAreRules) l15 c15 k15
  have b15 := F15.binds (ps := ["value", "many"]) fun _ _ _ _ _ _ us hl => match us, hl with | [_, _], _ => rfl
  have F16 := fun_mk (st := sIsNet) l16 c16 k16
  have b16 := F16.binds (ps := ["value"]) fun _ _ _ _ _ _ us hl => match us, hl with | [_], _ => rfl
  have F17 := fun_mk (st := sWanted) l17 c17 k17
  have b17 := F17.binds (ps := ["net", "house", "heard"]) fun _ _ _ _ _ _ us hl => match us, hl with | [_, _, _], _ => rfl
  have F18 := fun_mk (st := sWithRule) l18 c18 k18
  have b18 := F18.binds (ps := ["net", "house", "rule"]) fun _ _ _ _ _ _ us hl => match us, hl with | [_, _, _], _ => rfl
  have F19 := fun_mk (st := sEntriesFor) l19 c19 k19
  have b19 := F19.binds (ps := ["worths", "low", "high"]) fun _ _ _ _ _ _ us hl => match us, hl with | [_, _, _], _ => rfl
  have F20 := fun_mk (st := sRangeOf) l20 c20 k20
  have b20 := F20.binds (ps := ["net", "rule"]) fun _ _ _ _ _ _ us hl => match us, hl with | [_, _], _ => rfl
  have F21 := fun_mk (st := sHouseRange) l21 c21 k21
  have b21 := F21.binds (ps := ["net", "house"]) fun _ _ _ _ _ _ us hl => match us, hl with | [_, _], _ => rfl
  have F22 := fun_mk (st := sIsRisingRow) l22 c22 k22
  have b22 := F22.binds (ps := ["row"]) fun _ _ _ _ _ _ us hl => match us, hl with | [_], _ => rfl
  have F23 := fun_mk (st := sTurnOf) l23 c23 k23
  have b23 := F23.binds (ps := ["net", "rule"]) fun _ _ _ _ _ _ us hl => match us, hl with | [_, _], _ => rfl
  have F24 := fun_mk (st := sWordsWithin) l24 c24 k24
  have b24 := F24.binds (ps := ["net", "rule", "is_still", "is_both", "falls"]) fun _ _ _ _ _ _ us hl => match us, hl with | [_, _, _, _, _], _ => rfl
  have F25 := fun_mk (st := sWays) l25 c25 k25
  have b25 := F25.binds (ps := ["net", "house"]) fun _ _ _ _ _ _ us hl => match us, hl with | [_, _], _ => rfl
  have F26 := fun_mk (st := sAreOneWay) l26 c26 k26
  have b26 := F26.binds (ps := ["net"]) fun _ _ _ _ _ _ us hl => match us, hl with | [_], _ => rfl
  have F27 := fun_mk (st := sOneWay) l27 c27 k27
  have b27 := F27.binds (ps := ["net"]) fun _ _ _ _ _ _ us hl => match us, hl with | [_], _ => rfl
  have F28 := fun_mk (st := sStepped) l28 c28 k28
  have b28 := F28.binds (ps := ["net", "found", "ends"]) fun _ _ _ _ _ _ us hl => match us, hl with | [_, _, _], _ => rfl
  have F29 := fun_mk (st := sNextEnds) l29 c29 k29
  have b29 := F29.binds (ps := ["net", "ends"]) fun _ _ _ _ _ _ us hl => match us, hl with | [_, _], _ => rfl
  have F30 := fun_mk (st := sHull) l30 c30 k30
  have b30 := F30.binds (ps := ["ends", "others"]) fun _ _ _ _ _ _ us hl => match us, hl with | [_, _], _ => rfl
  have F31 := fun_mk (st := sClosed) l31 c31 k31
  have b31 := F31.binds (ps := ["net", "ends"]) fun _ _ _ _ _ _ us hl => match us, hl with | [_, _], _ => rfl
  have F32 := fun_mk (st := sLed) l32 c32 k32
  have b32 := F32.binds (ps := ["net", "ends", "rounds"]) fun _ _ _ _ _ _ us hl => match us, hl with | [_, _, _], _ => rfl
  have F33 := fun_mk (st := sKnown) l33 c33 k33
  have b33 := F33.binds (ps := ["life"]) fun _ _ _ _ _ _ us hl => match us, hl with | [_], _ => rfl
  have F34 := fun_mk (st := sRestsIn) l34 c34 k34
  have b34 := F34.binds (ps := ["life"]) fun _ _ _ _ _ _ us hl => match us, hl with | [_], _ => rfl
  have F35 := fun_mk (st := sNetBehind) l35 c35 k35
  have b35 := F35.binds (ps := ["net", "change"]) fun _ _ _ _ _ _ us hl => match us, hl with | [_, _], _ => rfl
  have F36 := fun_mk (st := sIsSight) l36 c36 k36
  have b36 := F36.binds (ps := ["life", "value"]) fun _ _ _ _ _ _ us hl => match us, hl with | [_, _], _ => rfl
  have F37 := fun_mk (st := sIsChange) l37 c37 k37
  have b37 := F37.binds (ps := ["life", "value"]) fun _ _ _ _ _ _ us hl => match us, hl with | [_, _], _ => rfl
  have F38 := fun_mk (st := sPlaced) l38 c38 k38
  have b38 := F38.binds (ps := ["row", "at", "value"]) fun _ _ _ _ _ _ us hl => match us, hl with | [_, _, _], _ => rfl
  have F39 := fun_mk (st := sChanged) l39 c39 k39
  have b39 := F39.binds (ps := ["life", "change"]) fun _ _ _ _ _ _ us hl => match us, hl with | [_, _], _ => rfl
  have F40 := fun_mk (st := sLawOf) l40 c40 k40
  have b40 := F40.binds (ps := ["_law_deal", "_law_some"]) fun _ _ _ _ _ _ us hl => match us, hl with | [_, _], _ => rfl
  have F41 := fun_mk (st := sLawRule) l41 c41 k41
  have b41 := F41.binds (ps := ["_law_deal", "_law_n", "_law_top", "_law_deep", "_law_any_row"]) fun _ _ _ _ _ _ us hl => match us, hl with | [_, _, _, _, _], _ => rfl
  have F42 := fun_mk (st := sLawNet) l42 c42 k42
  have b42 := F42.binds (ps := ["_law_deal", "_law_most", "_law_top", "_law_any_row"]) fun _ _ _ _ _ _ us hl => match us, hl with | [_, _, _, _], _ => rfl
  have F43 := fun_mk (st := sLawParts) l43 c43 k43
  have b43 := F43.binds (ps := ["_law_rule_here"]) fun _ _ _ _ _ _ us hl => match us, hl with | [_], _ => rfl
  have F44 := fun_mk (st := sLawBranches) l44 c44 k44
  have b44 := F44.binds (ps := ["_law_rule_here"]) fun _ _ _ _ _ _ us hl => match us, hl with | [_], _ => rfl
  have F45 := fun_mk (st := sLawMade) l45 c45 k45
  have b45 := F45.binds (ps := ["_law_rule_here", "_law_some"]) fun _ _ _ _ _ _ us hl => match us, hl with | [_, _], _ => rfl
  have F46 := fun_mk (st := sLawTold) l46 c46 k46
  have b46 := F46.binds (ps := ["_law_rule_here", "_law_heard"]) fun _ _ _ _ _ _ us hl => match us, hl with | [_, _], _ => rfl
  have F47 := fun_mk (st := sLawWants) l47 c47 k47
  have b47 := F47.binds (ps := ["_law_net_here", "_law_house", "_law_heard"]) fun _ _ _ _ _ _ us hl => match us, hl with | [_, _, _], _ => rfl
  have F48 := fun_mk (st := sLawEntries) l48 c48 k48
  have b48 := F48.binds (ps := ["_law_worths", "_law_low", "_law_high"]) fun _ _ _ _ _ _ us hl => match us, hl with | [_, _, _], _ => rfl
  have F49 := fun_mk (st := sLawRange) l49 c49 k49
  have b49 := F49.binds (ps := ["_law_net_here", "_law_rule_here"]) fun _ _ _ _ _ _ us hl => match us, hl with | [_, _], _ => rfl
  have F50 := fun_mk (st := sLawTurn) l50 c50 k50
  have b50 := F50.binds (ps := ["_law_net_here", "_law_rule_here"]) fun _ _ _ _ _ _ us hl => match us, hl with | [_, _], _ => rfl
  have F51 := fun_mk (st := sLawWords) l51 c51 k51
  have b51 := F51.binds (ps := ["_law_net_here", "_law_rule_here", "_law_still", "_law_sign"]) fun _ _ _ _ _ _ us hl => match us, hl with | [_, _, _, _], _ => rfl
  have F52 := fun_mk (st := sLawWays) l52 c52 k52
  have b52 := F52.binds (ps := ["_law_net_here", "_law_house"]) fun _ _ _ _ _ _ us hl => match us, hl with | [_, _], _ => rfl
  have F53 := fun_mk (st := sLawAllWords) l53 c53 k53
  have b53 := F53.binds (ps := ["_law_net_here"]) fun _ _ _ _ _ _ us hl => match us, hl with | [_], _ => rfl
  have F54 := fun_mk (st := sLawNextEnds) l54 c54 k54
  have b54 := F54.binds (ps := ["_law_net_here", "_law_words_here", "_law_ends"]) fun _ _ _ _ _ _ us hl => match us, hl with | [_, _, _], _ => rfl
  have F55 := fun_mk (st := sLawLed) l55 c55 k55
  have b55 := F55.binds (ps := ["_law_net_here", "_law_words_here", "_law_ends", "_law_rounds_here"]) fun _ _ _ _ _ _ us hl => match us, hl with | [_, _, _, _], _ => rfl
  have F56 := fun_mk (st := sLawClosed) l56 c56 k56
  have b56 := F56.binds (ps := ["_law_net_here", "_law_words_here", "_law_ends"]) fun _ _ _ _ _ _ us hl => match us, hl with | [_, _, _], _ => rfl
  have F57 := fun_mk (st := sLawLife) l57 c57 k57
  have b57 := F57.binds (ps := ["_law_deal", "_law_most", "_law_top"]) fun _ _ _ _ _ _ us hl => match us, hl with | [_, _, _], _ => rfl
  have F58 := fun_mk (st := sLawSomeChange) l58 c58 k58
  have b58 := F58.binds (ps := ["_law_deal", "_law_life_here"]) fun _ _ _ _ _ _ us hl => match us, hl with | [_, _], _ => rfl
  have F59 := fun_mk (st := sLawLateness) l59 c59 k59
  have b59 := F59.binds (ps := ["_law_deal", "_law_net_here", "_law_d", "_law_last"]) fun _ _ _ _ _ _ us hl => match us, hl with | [_, _, _, _], _ => rfl
  have F60 := fun_mk (st := sLawBeat) l60 c60 k60
  have b60 := F60.binds (ps := ["_law_deal", "_law_net_here", "_law_d", "_law_states", "_law_last"]) fun _ _ _ _ _ _ us hl => match us, hl with | [_, _, _, _, _], _ => rfl
  have F61 := fun_mk (st := sLawHolds) l61 c61 k61
  have b61 := F61.binds (ps := ["_law_life_here", "_law_states"]) fun _ _ _ _ _ _ us hl => match us, hl with | [_, _], _ => rfl
  have F62 := fun_mk (st := sHeardEnds) l62 c62 k62
  have b62 := F62.binds (ps := ["net", "house", "words", "near", "far"]) fun _ _ _ _ _ _ us hl => match us, hl with | [_, _, _, _, _], _ => rfl
  have F63 := fun_mk (st := sLawAny) l63 c63 k63
  have b63 := F63.binds (ps := ["_law_deal", "_law_bound"]) fun _ _ _ _ _ _ us hl => match us, hl with | [_, _], _ => rfl
  have F64 := fun_mk (st := sLawDraw) l64 c64 k64
  have b64 := F64.binds (ps := ["_law_script", "_law_salt"]) fun _ _ _ _ _ _ us hl => match us, hl with | [_, _], _ => rfl
  have F65 := fun_mk (st := sLaw) l65 c65 k65
  have B : Bi mg := ⟨PySem.W.mg_none_of X G z0, PySem.W.mg_none_of X G z1, PySem.W.mg_none_of X G z2, PySem.W.mg_none_of X G z3, PySem.W.mg_none_of X G z4, PySem.W.mg_none_of X G z5, PySem.W.mg_none_of X G z6, PySem.W.mg_none_of X G z7, PySem.W.mg_none_of X G z8, PySem.W.mg_none_of X G z9, PySem.W.mg_none_of X G z10, PySem.W.mg_none_of X G z11, PySem.W.mg_none_of X G z12, PySem.W.mg_none_of X G z13, PySem.W.mg_none_of X G z14, PySem.W.mg_none_of X G z15, PySem.W.mg_none_of X G z16⟩
  have WD : WordsOk K mg := by
    obtain ⟨h1, its, n, h2, h3, h4⟩ := vw
    exact ⟨pw, ow, its, n, PySem.W.mg_of X G aw, lw, h1, h2, h3, h4⟩
  have SZ : SizesOk K w mg := by
    refine ⟨ps, PySem.W.mg_of X G as, fun x n e => ?_⟩
    unfold sizeOf at e
    split at e
    · rename_i hx; subst hx; cases e; exact ⟨es, en, _, ls, kl, y1, _, rfl⟩
    · split at e
      · rename_i hx; subst hx; cases e; exact ⟨es, en, _, ls, kl, y2, _, rfl⟩
      · split at e
        · rename_i hx; subst hx; cases e; exact ⟨es, en, _, ls, kl, y3, _, rfl⟩
        · split at e
          · rename_i hx; subst hx; cases e; exact ⟨es, en, _, ls, kl, y4, _, rfl⟩
          · cases e
  refine ⟨PySem.W.fnOf "law" "law" (defArgs sLaw) (defBody sLaw) (defScope sLaw) .none kV65 dc65 pm65 an65 cd65 ct65, fun s v => .of_eq rfl, fun base _ _ => ?_⟩
  obtain ⟨_, hlaw_life, hlaw_any, hlaw_beat, hchanged, hlaw_holds, hlaw_some_change, his_change, hrests_in, hlaw_all_words, hlaw_led, hlaw_next_ends, hknown⟩ := chain (P := l.prog) (w := w) (base := base) B ⟨_, _, F0, PySem.W.mg_of X G a0, b0⟩ ⟨_, _, F1, PySem.W.mg_of X G a1, b1⟩ ⟨_, _, F2, PySem.W.mg_of X G a2, b2⟩ ⟨_, _, F3, PySem.W.mg_of X G a3, b3⟩ ⟨_, _, F4, PySem.W.mg_of X G a4, b4⟩ ⟨_, _, F5, PySem.W.mg_of X G a5, b5⟩ ⟨_, _, F6, PySem.W.mg_of X G a6, b6⟩ ⟨_, _, F7, PySem.W.mg_of X G a7, b7⟩ ⟨_, _, F8, PySem.W.mg_of X G a8, b8⟩ ⟨_, _, F9, PySem.W.mg_of X G a9, b9⟩ ⟨_, _, F10, PySem.W.mg_of X G a10, b10⟩ ⟨_, _, F11, PySem.W.mg_of X G a11, b11⟩ ⟨_, _, F12, PySem.W.mg_of X G a12, b12⟩ ⟨_, _, F13, PySem.W.mg_of X G a13, b13⟩ ⟨_, _, F14, PySem.W.mg_of X G a14, b14⟩ ⟨_, _, F15, PySem.W.mg_of X G a15, b15⟩ ⟨_, _, F16, PySem.W.mg_of X G a16, b16⟩ ⟨_, _, F17, PySem.W.mg_of X G a17, b17⟩ ⟨_, _, F18, PySem.W.mg_of X G a18, b18⟩ ⟨_, _, F19, PySem.W.mg_of X G a19, b19⟩ ⟨_, _, F20, PySem.W.mg_of X G a20, b20⟩ ⟨_, _, F21, PySem.W.mg_of X G a21, b21⟩ ⟨_, _, F22, PySem.W.mg_of X G a22, b22⟩ ⟨_, _, F23, PySem.W.mg_of X G a23, b23⟩ ⟨_, _, F24, PySem.W.mg_of X G a24, b24⟩ ⟨_, _, F25, PySem.W.mg_of X G a25, b25⟩ ⟨_, _, F26, PySem.W.mg_of X G a26, b26⟩ ⟨_, _, F27, PySem.W.mg_of X G a27, b27⟩ ⟨_, _, F28, PySem.W.mg_of X G a28, b28⟩ ⟨_, _, F29, PySem.W.mg_of X G a29, b29⟩ ⟨_, _, F30, PySem.W.mg_of X G a30, b30⟩ ⟨_, _, F31, PySem.W.mg_of X G a31, b31⟩ ⟨_, _, F32, PySem.W.mg_of X G a32, b32⟩ ⟨_, _, F33, PySem.W.mg_of X G a33, b33⟩ ⟨_, _, F34, PySem.W.mg_of X G a34, b34⟩ ⟨_, _, F35, PySem.W.mg_of X G a35, b35⟩ ⟨_, _, F36, PySem.W.mg_of X G a36, b36⟩ ⟨_, _, F37, PySem.W.mg_of X G a37, b37⟩ ⟨_, _, F38, PySem.W.mg_of X G a38, b38⟩ ⟨_, _, F39, PySem.W.mg_of X G a39, b39⟩ ⟨_, _, F40, PySem.W.mg_of X G a40, b40⟩ ⟨_, _, F41, PySem.W.mg_of X G a41, b41⟩ ⟨_, _, F42, PySem.W.mg_of X G a42, b42⟩ ⟨_, _, F43, PySem.W.mg_of X G a43, b43⟩ ⟨_, _, F44, PySem.W.mg_of X G a44, b44⟩ ⟨_, _, F45, PySem.W.mg_of X G a45, b45⟩ ⟨_, _, F46, PySem.W.mg_of X G a46, b46⟩ ⟨_, _, F47, PySem.W.mg_of X G a47, b47⟩ ⟨_, _, F48, PySem.W.mg_of X G a48, b48⟩ ⟨_, _, F49, PySem.W.mg_of X G a49, b49⟩ ⟨_, _, F50, PySem.W.mg_of X G a50, b50⟩ ⟨_, _, F51, PySem.W.mg_of X G a51, b51⟩ ⟨_, _, F52, PySem.W.mg_of X G a52, b52⟩ ⟨_, _, F53, PySem.W.mg_of X G a53, b53⟩ ⟨_, _, F54, PySem.W.mg_of X G a54, b54⟩ ⟨_, _, F55, PySem.W.mg_of X G a55, b55⟩ ⟨_, _, F56, PySem.W.mg_of X G a56, b56⟩ ⟨_, _, F57, PySem.W.mg_of X G a57, b57⟩ ⟨_, _, F58, PySem.W.mg_of X G a58, b58⟩ ⟨_, _, F59, PySem.W.mg_of X G a59, b59⟩ ⟨_, _, F60, PySem.W.mg_of X G a60, b60⟩ ⟨_, _, F61, PySem.W.mg_of X G a61, b61⟩ ⟨_, _, F62, PySem.W.mg_of X G a62, b62⟩ ⟨_, _, F63, PySem.W.mg_of X G a63, b63⟩ ⟨_, PySem.W.mg_of X G m0⟩ ⟨_, PySem.W.mg_of X G m1⟩ ⟨_, PySem.W.mg_of X G m2⟩ ⟨_, PySem.W.mg_of X G m3⟩ ⟨_, PySem.W.mg_of X G m4⟩ ⟨_, PySem.W.mg_of X G m5⟩ ⟨_, PySem.W.mg_of X G m6⟩ WD SZ
  exact fn_law (k := 23) B hlaw_life (by decide) hlaw_any (by decide) hlaw_beat (by decide) hchanged (by decide) hlaw_holds (by decide) hlaw_some_change (by decide) his_change (by decide) hrests_in (by decide) hlaw_all_words (by decide) hlaw_led (by decide) hlaw_next_ends (by decide) hknown (by decide) (by decide) (fn_law_draw B F64) (PySem.W.mg_of X G a64) k64 b64 F65
theorem walk {l : PySem.W.OpenLaw} {q : Program} {loose : List Str} {XP : (Str → Option Value) → Heap → Prop} {YP : World → Heap → Prop} {d : DefRec} {K : Params → PySem.W.Frag} (hn : l.most = some 63) (hdf : d.params.defaults = [])
    (hY : ∀ (w : World) (h : Heap), YP w h → (K w.params).In h)
    (F : ∀ (w : World) (mg : Str → Option Value) (fa : Addr) (h : Heap), (K w.params).In h → h.Ns mainGlobals mg → mg d.name = some (.ref fa) →
      ∃ fd : FuncData, (∀ (s : Shared) (u : Value), BindsTo s fd ⟨[u], []⟩ [("_law_script", u)]) ∧ ∀ base : Heap, (K w.params).In base → base.Ns mainGlobals mg → FnOk l.prog w (K w.params) mg base CX0 24 fa fd ["_law_script"] (spLaw (K w.params))) :
    PySem.W.WalkO q loose XP YP l.row.toRowW d [] (fun f vs => PySem.call f vs) :=
  L2.walk_of (n := 63) (k := 24) (x := "_law_script") (CX := fun _ => CX0) (sp := fun w => spLaw (K w.params)) hn (by decide) hdf ⟨rfl, by decide, by decide⟩ hY F (fun _ _ a ns hl _ hS => ⟨a, ns, rfl, hS, hl, fun _ => rfl⟩) fun _ _ _ _ _ z => z
end
end NB

/-! FIN -/
set_option Elab.async false
open PySem PySem.W PyProof.Rows in
set_option maxRecDepth 100000 in
set_option maxHeartbeats 0 in
theorem PySem.Challenge.cw_newsbehind_k58_whole_lives_hold_all_runs_holds : PySem.Challenge.rw_newsbehind_k58_whole_lives_hold_all_runs.Holds := by
  w_on; o_law; k_head; (case hw => w_witness2)
  k_fill
  refine NB.walk (l := PySem.Challenge.rw_newsbehind_k58_whole_lives_hold_all_runs) rfl rfl (fun w h Y => PySem.W.kIn_of Y) ?F
  case F =>
    intro w mg fa h KX G hmg
    refine' NB.all_mk KX G hmg ?a0 ?l0 ?c0 ?k0 ?a1 ?l1 ?c1 ?k1 ?a2 ?l2 ?c2 ?k2 ?a3 ?l3 ?c3 ?k3 ?a4 ?l4 ?c4 ?k4 ?a5 ?l5 ?c5 ?k5 ?a6 ?l6 ?c6 ?k6 ?a7 ?l7 ?c7 ?k7 ?a8 ?l8 ?c8 ?k8 ?a9 ?l9 ?c9 ?k9 ?a10 ?l10 ?c10 ?k10 ?a11 ?l11 ?c11 ?k11 ?a12 ?l12 ?c12 ?k12 ?a13 ?l13 ?c13 ?k13 ?a14 ?l14 ?c14 ?k14 ?a15 ?l15 ?c15 ?k15 ?a16 ?l16 ?c16 ?k16 ?a17 ?l17 ?c17 ?k17 ?a18 ?l18 ?c18 ?k18 ?a19 ?l19 ?c19 ?k19 ?a20 ?l20 ?c20 ?k20 ?a21 ?l21 ?c21 ?k21 ?a22 ?l22 ?c22 ?k22 ?a23 ?l23 ?c23 ?k23 ?a24 ?l24 ?c24 ?k24 ?a25 ?l25 ?c25 ?k25 ?a26 ?l26 ?c26 ?k26 ?a27 ?l27 ?c27 ?k27 ?a28 ?l28 ?c28 ?k28 ?a29 ?l29 ?c29 ?k29 ?a30 ?l30 ?c30 ?k30 ?a31 ?l31 ?c31 ?k31 ?a32 ?l32 ?c32 ?k32 ?a33 ?l33 ?c33 ?k33 ?a34 ?l34 ?c34 ?k34 ?a35 ?l35 ?c35 ?k35 ?a36 ?l36 ?c36 ?k36 ?a37 ?l37 ?c37 ?k37 ?a38 ?l38 ?c38 ?k38 ?a39 ?l39 ?c39 ?k39 ?a40 ?l40 ?c40 ?k40 ?a41 ?l41 ?c41 ?k41 ?a42 ?l42 ?c42 ?k42 ?a43 ?l43 ?c43 ?k43 ?a44 ?l44 ?c44 ?k44 ?a45 ?l45 ?c45 ?k45 ?a46 ?l46 ?c46 ?k46 ?a47 ?l47 ?c47 ?k47 ?a48 ?l48 ?c48 ?k48 ?a49 ?l49 ?c49 ?k49 ?a50 ?l50 ?c50 ?k50 ?a51 ?l51 ?c51 ?k51 ?a52 ?l52 ?c52 ?k52 ?a53 ?l53 ?c53 ?k53 ?a54 ?l54 ?c54 ?k54 ?a55 ?l55 ?c55 ?k55 ?a56 ?l56 ?c56 ?k56 ?a57 ?l57 ?c57 ?k57 ?a58 ?l58 ?c58 ?k58 ?a59 ?l59 ?c59 ?k59 ?a60 ?l60 ?c60 ?k60 ?a61 ?l61 ?c61 ?k61 ?a62 ?l62 ?c62 ?k62 ?a63 ?l63 ?c63 ?k63 ?a64 ?l64 ?c64 ?k64 ?a65 ?l65 ?c65 ?k65 ?z0 ?z1 ?z2 ?z3 ?z4 ?z5 ?z6 ?z7 ?z8 ?z9 ?z10 ?z11 ?z12 ?z13 ?z14 ?z15 ?z16 ?m0 ?m1 ?m2 ?m3 ?m4 ?m5 ?m6 ?aw ?lw ?vw ?as ?ls ?kl ?y1 ?y2 ?y3 ?y4
    (case a0 => k_is)
    (case l0 => k_is)
    (case c0 => k_is)
    (case k0 => k_is)
    (case a1 => k_is)
    (case l1 => k_is)
    (case c1 => k_is)
    (case k1 => k_is)
    (case a2 => k_is)
    (case l2 => k_is)
    (case c2 => k_is)
    (case k2 => k_is)
    (case a3 => k_is)
    (case l3 => k_is)
    (case c3 => k_is)
    (case k3 => k_is)
    (case a4 => k_is)
    (case l4 => k_is)
    (case c4 => k_is)
    (case k4 => k_is)
    (case a5 => k_is)
    (case l5 => k_is)
    (case c5 => k_is)
    (case k5 => k_is)
    (case a6 => k_is)
    (case l6 => k_is)
    (case c6 => k_is)
    (case k6 => k_is)
    (case a7 => k_is)
    (case l7 => k_is)
    (case c7 => k_is)
    (case k7 => k_is)
    (case a8 => k_is)
    (case l8 => k_is)
    (case c8 => k_is)
    (case k8 => k_is)
    (case a9 => k_is)
    (case l9 => k_is)
    (case c9 => k_is)
    (case k9 => k_is)
    (case a10 => k_is)
    (case l10 => k_is)
    (case c10 => k_is)
    (case k10 => k_is)
    (case a11 => k_is)
    (case l11 => k_is)
    (case c11 => k_is)
    (case k11 => k_is)
    (case a12 => k_is)
    (case l12 => k_is)
    (case c12 => k_is)
    (case k12 => k_is)
    (case a13 => k_is)
    (case l13 => k_is)
    (case c13 => k_is)
    (case k13 => k_is)
    (case a14 => k_is)
    (case l14 => k_is)
    (case c14 => k_is)
    (case k14 => k_is)
    (case a15 => k_is)
    (case l15 => k_is)
    (case c15 => k_is)
    (case k15 => k_is)
    (case a16 => k_is)
    (case l16 => k_is)
    (case c16 => k_is)
    (case k16 => k_is)
    (case a17 => k_is)
    (case l17 => k_is)
    (case c17 => k_is)
    (case k17 => k_is)
    (case a18 => k_is)
    (case l18 => k_is)
    (case c18 => k_is)
    (case k18 => k_is)
    (case a19 => k_is)
    (case l19 => k_is)
    (case c19 => k_is)
    (case k19 => k_is)
    (case a20 => k_is)
    (case l20 => k_is)
    (case c20 => k_is)
    (case k20 => k_is)
    (case a21 => k_is)
    (case l21 => k_is)
    (case c21 => k_is)
    (case k21 => k_is)
    (case a22 => k_is)
    (case l22 => k_is)
    (case c22 => k_is)
    (case k22 => k_is)
    (case a23 => k_is)
    (case l23 => k_is)
    (case c23 => k_is)
    (case k23 => k_is)
    (case a24 => k_is)
    (case l24 => k_is)
    (case c24 => k_is)
    (case k24 => k_is)
    (case a25 => k_is)
    (case l25 => k_is)
    (case c25 => k_is)
    (case k25 => k_is)
    (case a26 => k_is)
    (case l26 => k_is)
    (case c26 => k_is)
    (case k26 => k_is)
    (case a27 => k_is)
    (case l27 => k_is)
    (case c27 => k_is)
    (case k27 => k_is)
    (case a28 => k_is)
    (case l28 => k_is)
    (case c28 => k_is)
    (case k28 => k_is)
    (case a29 => k_is)
    (case l29 => k_is)
    (case c29 => k_is)
    (case k29 => k_is)
    (case a30 => k_is)
    (case l30 => k_is)
    (case c30 => k_is)
    (case k30 => k_is)
    (case a31 => k_is)
    (case l31 => k_is)
    (case c31 => k_is)
    (case k31 => k_is)
    (case a32 => k_is)
    (case l32 => k_is)
    (case c32 => k_is)
    (case k32 => k_is)
    (case a33 => k_is)
    (case l33 => k_is)
    (case c33 => k_is)
    (case k33 => k_is)
    (case a34 => k_is)
    (case l34 => k_is)
    (case c34 => k_is)
    (case k34 => k_is)
    (case a35 => k_is)
    (case l35 => k_is)
    (case c35 => k_is)
    (case k35 => k_is)
    (case a36 => k_is)
    (case l36 => k_is)
    (case c36 => k_is)
    (case k36 => k_is)
    (case a37 => k_is)
    (case l37 => k_is)
    (case c37 => k_is)
    (case k37 => k_is)
    (case a38 => k_is)
    (case l38 => k_is)
    (case c38 => k_is)
    (case k38 => k_is)
    (case a39 => k_is)
    (case l39 => k_is)
    (case c39 => k_is)
    (case k39 => k_is)
    (case a40 => k_is)
    (case l40 => k_is)
    (case c40 => k_is)
    (case k40 => k_is)
    (case a41 => k_is)
    (case l41 => k_is)
    (case c41 => k_is)
    (case k41 => k_is)
    (case a42 => k_is)
    (case l42 => k_is)
    (case c42 => k_is)
    (case k42 => k_is)
    (case a43 => k_is)
    (case l43 => k_is)
    (case c43 => k_is)
    (case k43 => k_is)
    (case a44 => k_is)
    (case l44 => k_is)
    (case c44 => k_is)
    (case k44 => k_is)
    (case a45 => k_is)
    (case l45 => k_is)
    (case c45 => k_is)
    (case k45 => k_is)
    (case a46 => k_is)
    (case l46 => k_is)
    (case c46 => k_is)
    (case k46 => k_is)
    (case a47 => k_is)
    (case l47 => k_is)
    (case c47 => k_is)
    (case k47 => k_is)
    (case a48 => k_is)
    (case l48 => k_is)
    (case c48 => k_is)
    (case k48 => k_is)
    (case a49 => k_is)
    (case l49 => k_is)
    (case c49 => k_is)
    (case k49 => k_is)
    (case a50 => k_is)
    (case l50 => k_is)
    (case c50 => k_is)
    (case k50 => k_is)
    (case a51 => k_is)
    (case l51 => k_is)
    (case c51 => k_is)
    (case k51 => k_is)
    (case a52 => k_is)
    (case l52 => k_is)
    (case c52 => k_is)
    (case k52 => k_is)
    (case a53 => k_is)
    (case l53 => k_is)
    (case c53 => k_is)
    (case k53 => k_is)
    (case a54 => k_is)
    (case l54 => k_is)
    (case c54 => k_is)
    (case k54 => k_is)
    (case a55 => k_is)
    (case l55 => k_is)
    (case c55 => k_is)
    (case k55 => k_is)
    (case a56 => k_is)
    (case l56 => k_is)
    (case c56 => k_is)
    (case k56 => k_is)
    (case a57 => k_is)
    (case l57 => k_is)
    (case c57 => k_is)
    (case k57 => k_is)
    (case a58 => k_is)
    (case l58 => k_is)
    (case c58 => k_is)
    (case k58 => k_is)
    (case a59 => k_is)
    (case l59 => k_is)
    (case c59 => k_is)
    (case k59 => k_is)
    (case a60 => k_is)
    (case l60 => k_is)
    (case c60 => k_is)
    (case k60 => k_is)
    (case a61 => k_is)
    (case l61 => k_is)
    (case c61 => k_is)
    (case k61 => k_is)
    (case a62 => k_is)
    (case l62 => k_is)
    (case c62 => k_is)
    (case k62 => k_is)
    (case a63 => k_is)
    (case l63 => k_is)
    (case c63 => k_is)
    (case k63 => k_is)
    (case a64 => k_is)
    (case l64 => k_is)
    (case c64 => k_is)
    (case k64 => k_is)
    (case a65 => k_is)
    (case l65 => k_is)
    (case c65 => k_is)
    (case k65 => k_is)
    (case z0 => k_is)
    (case z1 => k_is)
    (case z2 => k_is)
    (case z3 => k_is)
    (case z4 => k_is)
    (case z5 => k_is)
    (case z6 => k_is)
    (case z7 => k_is)
    (case z8 => k_is)
    (case z9 => k_is)
    (case z10 => k_is)
    (case z11 => k_is)
    (case z12 => k_is)
    (case z13 => k_is)
    (case z14 => k_is)
    (case z15 => k_is)
    (case z16 => k_is)
    (case m0 => k_is)
    (case m1 => k_is)
    (case m2 => k_is)
    (case m3 => k_is)
    (case m4 => k_is)
    (case m5 => k_is)
    (case m6 => k_is)
    (case aw => k_is)
    (case lw => k_is)
    (case as => k_is)
    (case ls => k_is)
    (case y1 => k_is)
    (case y2 => k_is)
    (case y3 => k_is)
    (case y4 => k_is)
    (case vw => exact ⟨rfl, _, _, rfl, by rw [PySem.sizeLine_eq]; decide, .cons ⟨_, rfl⟩ (.cons ⟨_, rfl⟩ (.cons ⟨_, rfl⟩ (.cons ⟨_, rfl⟩ .nil)))⟩)
    (case kl => exact ⟨⟨_, _, rfl, rfl⟩, ⟨_, _, rfl, rfl⟩, ⟨_, _, rfl, rfl⟩, ⟨_, _, rfl, rfl⟩, trivial⟩)

