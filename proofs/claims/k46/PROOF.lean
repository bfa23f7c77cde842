import PyProof.Rows.All
import Wide.All
import OpenK.AllK
import Wide.FinOn
import HandS.ForMost
import HandS.Exc
import HandS.ExcInit
import HandS.Wide
import HandS.WideBits
import HandS.Gcd
import HandS.Flow
import HandS.TupAny
import HandS.Star
import HandS.Zip
import HandS.IsInst
import HandS.Style
import PyProof.ReprRoads
import KE.GoesMore
import KE.GoesEnum
import PyProof.ReprLen
import PySem.Challenge.RW_fractiontrees_k46_steps_and_swings
set_option Elab.async false
set_option linter.all false
set_option maxRecDepth 100000
namespace Fx
open PySem PySem.Spec PyProof.Rows L2

/-! ## plain data -/
inductive D where
  | non
  | bl (b : Bool)
  | int (i : Int)
  | str (x : Str)
  | tup (xs : List D)
  | ob (a : Addr)
  | scr (ns : List Int)

inductive Cell where
  | lst (ds : List D)
  | dic (kvs : List (Key × D))

abbrev Mem := Addr → Option Cell
def Mem.put (M : Mem) (a : Addr) (c : Cell) : Mem := fun b => if b = a then some c else M b
@[simp] theorem Mem.put_same (M : Mem) (a : Addr) (c : Cell) : M.put a c a = some c := if_pos rfl
theorem Mem.put_ne {M : Mem} {a b : Addr} {c : Cell} (h : b ≠ a) : M.put a c b = M b := if_neg h
@[simp] theorem Mem.put_put (M : Mem) (a : Addr) (c d : Cell) : (M.put a c).put a d = M.put a d := by
  funext b
  unfold Mem.put
  split <;> rfl

section
variable (K : PySem.W.Frag) (H : Hp)
/-- the script's list, which nobody writes -/
def ScrAt (a : Addr) (ns : List Int) : Prop :=
  (∃ o, H a = some (.frz o (.lst (ns.map V.int)))) ∨ SqL K (fun _ => none) a (ns.map V.int)
mutual
def Rep : D → V → Prop
  | .non, v => v = .non
  | .bl b, v => v = .bl b
  | .int i, v => v = .int i
  | .str x, v => v = .str x
  | .tup ds, v => ∃ a vs, v = .ref a ∧ SqT K H a vs ∧ Reps ds vs
  | .ob a, v => v = .ref a
  | .scr ns, v => ∃ a, v = .ref a ∧ ScrAt K H a ns
def Reps : List D → List V → Prop
  | [], vs => vs = []
  | d :: ds, vs => ∃ v r, vs = v :: r ∧ Rep d v ∧ Reps ds r
end
end
variable {K : PySem.W.Frag} {H H' H1 H2 : Hp}

/-- what never changes -/
def Fixed : HO → Prop
  | .tup _ => True
  | .frz _ _ => True
  | _ => False
def Keep (H H' : Hp) : Prop := ∀ a o, Fixed o → H a = some o → H' a = some o
theorem Keep.refl (H : Hp) : Keep H H := fun _ _ _ h => h
theorem Keep.trans (a : Keep H H1) (b : Keep H1 H2) : Keep H H2 := fun c o f h => b c o f (a c o f h)
theorem Keep.upd_new {p : Addr} {o : HO} (h : H p = none) : Keep H (upd H p o) := fun a u f e => by
  rw [upd_ne (ne_of_none e h)]
  exact e
theorem Keep.upd_mut {p : Addr} {o u : HO} (h : H p = some u) (hm : ¬ Fixed u) : Keep H (upd H p o) := fun a w f e => by
  by_cases z : a = p
  · subst z
    rw [h] at e
    cases e
    exact absurd f hm
  · rw [upd_ne z]
    exact e

theorem SqT.keep {a : Addr} {xs : List V} (k : Keep H H') (h : SqT K H a xs) : SqT K H' a xs := by
  rcases h with (h | ⟨o, h⟩) | h
  · exact .inl (.inl (k _ _ trivial h))
  · exact .inl (.inr ⟨o, k _ _ trivial h⟩)
  · exact .inr h
theorem ScrAt.keep {a : Addr} {ns : List Int} (k : Keep H H') (h : ScrAt K H a ns) : ScrAt K H' a ns := by
  rcases h with ⟨o, h⟩ | h
  · exact .inl ⟨o, k _ _ trivial h⟩
  · exact .inr h
theorem ScrAt.sql {a : Addr} {ns : List Int} (h : ScrAt K H a ns) : SqL K H a (ns.map V.int) := by
  rcases h with ⟨o, h⟩ | h
  · exact .inl (.inr ⟨o, h⟩)
  · rcases h with (h | ⟨o, h⟩) | h
    · cases h
    · cases h
    · exact .inr h
mutual
theorem Rep.keep (k : Keep H H') : ∀ (d : D) (v : V), Rep K H d v → Rep K H' d v
  | .non, v, h => by simpa [Rep] using h
  | .bl b, v, h => by simpa [Rep] using h
  | .int i, v, h => by simpa [Rep] using h
  | .str x, v, h => by simpa [Rep] using h
  | .ob a, v, h => by simpa [Rep] using h
  | .scr ns, v, h => by
    simp only [Rep] at h ⊢
    obtain ⟨a, e, q⟩ := h
    exact ⟨a, e, q.keep k⟩
  | .tup ds, v, h => by
    simp only [Rep] at h ⊢
    obtain ⟨a, vs, e, q, r⟩ := h
    exact ⟨a, vs, e, SqT.keep k q, Reps.keep k ds vs r⟩
theorem Reps.keep (k : Keep H H') : ∀ (ds : List D) (vs : List V), Reps K H ds vs → Reps K H' ds vs
  | [], vs, h => by simpa [Reps] using h
  | d :: ds, vs, h => by
    simp only [Reps] at h ⊢
    obtain ⟨v, r, e, a, b⟩ := h
    exact ⟨v, r, e, Rep.keep k d v a, Reps.keep k ds r b⟩
end
theorem Rep.k {d : D} {v : V} (h : Rep K H d v) (k : Keep H H') : Rep K H' d v := Rep.keep k d v h
theorem Reps.k {d : List D} {v : List V} (h : Reps K H d v) (k : Keep H H') : Reps K H' d v := Reps.keep k d v h
theorem Reps.len : ∀ {ds : List D} {vs : List V}, Reps K H ds vs → vs.length = ds.length
  | [], vs, h => by simp only [Reps] at h; subst h; rfl
  | d :: ds, vs, h => by
    simp only [Reps] at h
    obtain ⟨v, r, e, a, b⟩ := h
    subst e
    simp [Reps.len b]
theorem Reps.get : ∀ {ds : List D} {vs : List V} {i : Nat} {d : D}, Reps K H ds vs → ds[i]? = some d → ∃ v, vs[i]? = some v ∧ Rep K H d v
  | [], _, _, _, _, e => by simp at e
  | d :: ds, vs, 0, x, h, e => by
    simp only [Reps] at h
    obtain ⟨v, r, e', a, b⟩ := h
    subst e'
    simp at e
    subst e
    exact ⟨v, rfl, a⟩
  | d :: ds, vs, i + 1, x, h, e => by
    simp only [Reps] at h
    obtain ⟨v, r, e', a, b⟩ := h
    subst e'
    simp at e
    obtain ⟨w, h1, h2⟩ := Reps.get b e
    exact ⟨w, by simpa using h1, h2⟩
theorem Reps.nil : Reps K H [] [] := by simp [Reps]
theorem Reps.cons {d : D} {v : V} {ds : List D} {vs : List V} (a : Rep K H d v) (b : Reps K H ds vs) : Reps K H (d :: ds) (v :: vs) := by
  simp only [Reps]
  exact ⟨v, vs, rfl, a, b⟩
theorem Reps.app : ∀ {ds es : List D} {vs ws : List V}, Reps K H ds vs → Reps K H es ws → Reps K H (ds ++ es) (vs ++ ws)
  | [], _, vs, _, h, g => by simp only [Reps] at h; subst h; exact g
  | d :: ds, es, vs, ws, h, g => by
    simp only [Reps] at h
    obtain ⟨v, r, e', a, b⟩ := h
    subst e'
    exact Reps.cons a (Reps.app b g)
theorem Reps.take : ∀ {ds : List D} {vs : List V} (n : Nat), Reps K H ds vs → Reps K H (ds.take n) (vs.take n)
  | [], vs, n, h => by simp only [Reps] at h; subst h; simp [Reps]
  | d :: ds, vs, 0, h => by simp [Reps]
  | d :: ds, vs, n + 1, h => by
    simp only [Reps] at h
    obtain ⟨v, r, e', a, b⟩ := h
    subst e'
    exact Reps.cons a (Reps.take n b)
theorem Reps.drop : ∀ {ds : List D} {vs : List V} (n : Nat), Reps K H ds vs → Reps K H (ds.drop n) (vs.drop n)
  | [], vs, n, h => by simp only [Reps] at h; subst h; simp [Reps]
  | d :: ds, vs, 0, h => h
  | d :: ds, vs, n + 1, h => by
    simp only [Reps] at h
    obtain ⟨v, r, e', a, b⟩ := h
    subst e'
    exact Reps.drop n b
theorem Reps.rev : ∀ {ds : List D} {vs : List V}, Reps K H ds vs → Reps K H ds.reverse vs.reverse
  | [], vs, h => by simp only [Reps] at h; subst h; simp [Reps]
  | d :: ds, vs, h => by
    simp only [Reps] at h
    obtain ⟨v, r, e', a, b⟩ := h
    subst e'
    rw [List.reverse_cons, List.reverse_cons]
    exact Reps.app (Reps.rev b) (Reps.cons a Reps.nil)
theorem Reps.put {d : D} {v : V} (a : Rep K H d v) : ∀ {ds : List D} {vs : List V} (i : Nat), Reps K H ds vs → Reps K H (ds.set i d) (vs.set i v)
  | [], vs, _, h => by simp only [Reps] at h; subst h; simp [Reps]
  | d' :: ds, vs, 0, h => by
    simp only [Reps] at h
    obtain ⟨v', r, e', a', b⟩ := h
    subst e'
    exact Reps.cons a b
  | d' :: ds, vs, i + 1, h => by
    simp only [Reps] at h
    obtain ⟨v', r, e', a', b⟩ := h
    subst e'
    exact Reps.cons a' (Reps.put a i b)
theorem Reps.ints : ∀ {ns : List Int} {vs : List V}, Reps K H (ns.map D.int) vs → vs = ns.map V.int
  | [], vs, h => by simpa [Reps] using h
  | n :: ns, vs, h => by
    simp only [List.map_cons, Reps, Rep] at h
    obtain ⟨v, r, e, a, b⟩ := h
    subst e a
    rw [Reps.ints b]
    rfl
theorem Reps.of_ints : ∀ {ns : List Int}, Reps K H (ns.map D.int) (ns.map V.int)
  | [] => Reps.nil
  | n :: ns => Reps.cons (by simp [Rep]) Reps.of_ints
theorem Reps.bls : ∀ {bs : List Bool} {vs : List V}, Reps K H (bs.map D.bl) vs → vs = bs.map V.bl
  | [], vs, h => by simpa [Reps] using h
  | n :: ns, vs, h => by
    simp only [List.map_cons, Reps, Rep] at h
    obtain ⟨v, r, e, a, b⟩ := h
    subst e a
    rw [Reps.bls b]
    rfl

/-! ## the store of lists -/
def CellR (K : PySem.W.Frag) (H : Hp) (a : Addr) : Cell → Prop
  | .lst ds => ∃ vs, H a = some (.lst vs) ∧ Reps K H ds vs
  | .dic kvs => ∃ kvs', H a = some (.dK kvs') ∧ kvs'.map (·.1) = kvs.map (·.1) ∧ Reps K H (kvs.map (·.2)) (kvs'.map (·.2))
def MR (K : PySem.W.Frag) (H : Hp) (M : Mem) : Prop := ∀ a c, M a = some c → CellR K H a c
theorem CellR.mutable {a : Addr} {c : Cell} (h : CellR K H a c) : ∃ o, H a = some o ∧ ¬ Fixed o := by
  cases c with
  | lst ds => obtain ⟨vs, e, _⟩ := h; exact ⟨_, e, fun z => z⟩
  | dic kvs => obtain ⟨vs, e, _⟩ := h; exact ⟨_, e, fun z => z⟩
/-- the same object in a heap in which what is fixed is kept -/
theorem CellR.keep {a : Addr} {c : Cell} (k : Keep H H') (e : H' a = H a) (h : CellR K H a c) : CellR K H' a c := by
  cases c with
  | lst ds => obtain ⟨vs, q, r⟩ := h; exact ⟨vs, e.trans q, r.k k⟩
  | dic kvs => obtain ⟨vs, q, q2, r⟩ := h; exact ⟨vs, e.trans q, q2, r.k k⟩
theorem MR.free {M : Mem} {p : Addr} (m : MR K H M) (h : H p = none) : M p = none := by
  cases e : M p with
  | none => rfl
  | some c =>
    obtain ⟨o, q, _⟩ := (m p c e).mutable
    rw [h] at q
    cases q
/-- a new object that the store does not tell of -/
theorem MR.untold {M : Mem} {p : Addr} {o : HO} (m : MR K H M) (h : H p = none) : MR K (upd H p o) M := fun a c e => by
  have z : a ≠ p := fun z => by
    subst z
    rw [m.free h] at e
    cases e
  exact (m a c e).keep (Keep.upd_new h) (upd_ne z)
/-- a new or changed object that it tells of -/
theorem MR.told {M : Mem} {p : Addr} {o : HO} {c : Cell} (m : MR K H M) (k : Keep H (upd H p o)) (new : CellR K (upd H p o) p c) : MR K (upd H p o) (M.put p c) := fun a d e => by
  by_cases z : a = p
  · subst z
    rw [Mem.put_same] at e
    cases e
    exact new
  · rw [Mem.put_ne z] at e
    exact (m a d e).keep k (upd_ne z)
theorem MR.lst {M : Mem} {p : Addr} {ds : List D} (m : MR K H M) (e : M p = some (.lst ds)) : ∃ vs, H p = some (.lst vs) ∧ Reps K H ds vs := m p _ e
theorem MR.newL {M : Mem} {p : Addr} {ds : List D} {vs : List V} (m : MR K H M) (h : H p = none) (r : Reps K H ds vs) : MR K (upd H p (.lst vs)) (M.put p (.lst ds)) :=
  m.told (Keep.upd_new h) ⟨vs, upd_same, r.k (Keep.upd_new h)⟩
theorem MR.setL {M : Mem} {p : Addr} {ds es : List D} {vs : List V} (m : MR K H M) (e : M p = some (.lst ds)) (r : Reps K H es vs) : Keep H (upd H p (.lst vs)) ∧ MR K (upd H p (.lst vs)) (M.put p (.lst es)) := by
  obtain ⟨us, q, _⟩ := m.lst e
  have k : Keep H (upd H p (.lst vs)) := Keep.upd_mut q fun z => z
  exact ⟨k, m.told k ⟨vs, upd_same, r.k k⟩⟩

/-! ## slots -/
abbrev Tau := List (Option D)
def SlR (K : PySem.W.Frag) (H : Hp) (σ : L2.St) (τ : Tau) : Prop :=
  σ.length = τ.length ∧ ∀ (i : Nat) d, τ[i]? = some (some d) → ∃ v, σ[i]? = some (some v) ∧ Rep K H d v
theorem SlR.k {σ : L2.St} {τ : Tau} (h : SlR K H σ τ) (k : Keep H H') : SlR K H' σ τ :=
  ⟨h.1, fun i d e => let ⟨v, q, r⟩ := h.2 i d e; ⟨v, q, r.k k⟩⟩
theorem SlR.set {σ : L2.St} {τ : Tau} {d : D} {v : V} (h : SlR K H σ τ) (i : Nat) (r : Rep K H d v) : SlR K H (σ.set i (some v)) (τ.set i (some d)) := by
  refine ⟨by rw [List.length_set, List.length_set, h.1], fun j e q => ?_⟩
  by_cases z : i = j
  · subst z
    by_cases hl : i < τ.length
    · rw [List.getElem?_set_self hl] at q
      cases q
      exact ⟨v, List.getElem?_set_self (by rw [h.1]; exact hl), r⟩
    · rw [List.getElem?_eq_none (by rw [List.length_set]; omega)] at q
      cases q
  · rw [List.getElem?_set_ne z] at q ⊢
    exact h.2 j e q

/-! ## readings over plain data -/
structure Exn where
  cls : Nat
  arg : D
/-- what is wished of an exception: its class and what it tells, the slots, the store -/
abbrev EW := Exn → Tau → Mem → Prop
abbrev DTE := EW → Tau → Mem → (D → Mem → Prop) → Prop
abbrev DTT := EW → Tau → Mem → (Bool → Mem → Prop) → Prop
abbrev DTA := EW → Tau → Mem → (List D → Mem → Prop) → Prop
structure DEnds where
  nx : Tau → Mem → Prop
  rt : D → Mem → Prop
  bk : Tau → Mem → Prop := fun _ _ => False
  ct : Tau → Mem → Prop := fun _ _ => False
abbrev DTS := EW → DEnds → Tau → Mem → Prop
/-- a def's contract: arguments, store, wish of an exception, wish of the value -/
abbrev DSp := List D → Mem → (Exn → Mem → Prop) → (D → Mem → Prop) → Prop

section
variable (K : PySem.W.Frag) (Cl : Nat → Addr × Str) (W : WX)
/-- the wish of exceptions over the heap H is met by W -/
def XC (H : Hp) (E : EW) : Prop := ∀ (e : Exn) (σ' : L2.St) (τ' : Tau) (H' : Hp) (d : Addr) (v : V) (M' : Mem),
  Keep H H' → SlR K H' σ' τ' → H' d = some (.xd [((Cl e.cls).2, v)]) → Rep K H' e.arg v → MR K H' M' → E e τ' M' → W (.ref (Cl e.cls).1) (some d) σ' H'
def teD (t : DTE) : TE := fun σ H Q => ∃ τ M E q, SlR K H σ τ ∧ MR K H M ∧ XC K Cl W H E ∧ t E τ M q ∧
  ∀ v H' d M', Keep H H' → Rep K H' d v → MR K H' M' → q d M' → Q v H'
def ttD (t : DTT) : TT := fun σ H Q => ∃ τ M E q, SlR K H σ τ ∧ MR K H M ∧ XC K Cl W H E ∧ t E τ M q ∧
  ∀ b H' M', Keep H H' → MR K H' M' → q b M' → Q b H'
def taD (t : DTA) : TA := fun σ H Q => ∃ τ M E q, SlR K H σ τ ∧ MR K H M ∧ XC K Cl W H E ∧ t E τ M q ∧
  ∀ vs H' ds M', Keep H H' → Reps K H' ds vs → MR K H' M' → q ds M' → Q vs H'
structure EndsR (H : Hp) (d : DEnds) (D : Ends) : Prop where
  nx : ∀ σ' H' τ' M', Keep H H' → SlR K H' σ' τ' → MR K H' M' → d.nx τ' M' → D.nx σ' H'
  rt : ∀ v H' x M', Keep H H' → Rep K H' x v → MR K H' M' → d.rt x M' → D.rt v H'
  bk : ∀ σ' H' τ' M', Keep H H' → SlR K H' σ' τ' → MR K H' M' → d.bk τ' M' → D.bk σ' H'
  ct : ∀ σ' H' τ' M', Keep H H' → SlR K H' σ' τ' → MR K H' M' → d.ct τ' M' → D.ct σ' H'
def tsD (t : DTS) : TS := fun D σ H => ∃ τ M E d, SlR K H σ τ ∧ MR K H M ∧ XC K Cl W H E ∧ t E d τ M ∧ EndsR K H d D
end
variable {Cl : Nat → Addr × Str} {W : WX}
theorem XC.k {E : EW} (h : XC K Cl W H E) (k : Keep H H') : XC K Cl W H' E := fun e σ' τ' H2 d v M' k2 => h e σ' τ' H2 d v M' (k.trans k2)
theorem EndsR.k {d : DEnds} {D : Ends} (h : EndsR K H d D) (k : Keep H H') : EndsR K H' d D :=
  ⟨fun σ' H2 τ' M' k2 => h.nx σ' H2 τ' M' (k.trans k2), fun v H2 x M' k2 => h.rt v H2 x M' (k.trans k2),
    fun σ' H2 τ' M' k2 => h.bk σ' H2 τ' M' (k.trans k2), fun σ' H2 τ' M' k2 => h.ct σ' H2 τ' M' (k.trans k2)⟩
/-- no exception is wished for -/
theorem XC.no : XC K Cl W H (fun _ _ _ => False) := fun _ _ _ _ _ _ _ _ _ _ _ _ z => z.elim

/-! ## passing from one reading to a weaker one -/
section
variable {X : Cx}
theorem PEi {e : Expr} {t t' : TE} (h : PE X e t) (m : ∀ σ H Q, t' σ H Q → t σ H Q) : PE X e t' := ⟨fun pins s σ H Q I q => h.run pins s σ H Q I (m σ H Q q)⟩
theorem PTi {e : Expr} {t t' : TT} (h : PT X e t) (m : ∀ σ H Q, t' σ H Q → t σ H Q) : PT X e t' := ⟨fun pins s σ H Q I q => h.run pins s σ H Q I (m σ H Q q)⟩
theorem PWi {e : Expr} {t t' : TT} (h : PW X e t) (m : ∀ σ H Q, t' σ H Q → t σ H Q) : PW X e t' := ⟨fun wh pins s σ H Q I q => h.run wh pins s σ H Q I (m σ H Q q)⟩
theorem PAi {e : List Expr} {t t' : TA} (h : PA X e t) (m : ∀ σ H Q, t' σ H Q → t σ H Q) : PA X e t' := ⟨fun pos pins s σ H Q I q => h.run pos pins s σ H Q I (m σ H Q q)⟩
theorem PSi {e : Stmt} {t t' : TS} (h : PS X e t) (m : ∀ D σ H, t' D σ H → t D σ H) : PS X e t' := ⟨fun pins s σ H D I q => h.run pins s σ H D I (m D σ H q)⟩
theorem PSsi {e : List Stmt} {t t' : TS} (h : PSs X e t) (m : ∀ D σ H, t' D σ H → t D σ H) : PSs X e t' := ⟨fun pins s σ H D I q => h.run pins s σ H D I (m D σ H q)⟩
theorem PIi {tg e : Expr} {t t' : TI} (h : PI X tg e t) (m : ∀ σ H R, t' σ H R → t σ H R) : PI X tg e t' := ⟨fun pins s σ H R I q => h.run pins s σ H R I (m σ H R q)⟩
theorem PGi {e : Expr} {t t' : TG} (h : PG X e t) (m : ∀ v σ H Q, t' v σ H Q → t v σ H Q) : PG X e t' := ⟨fun pins s σ H v u Q I r q => h.run pins s σ H v u Q I r (m v σ H Q q)⟩
end
end Fx

set_option maxRecDepth 100000
namespace Fx
open PySem PySem.Spec PyProof.Rows L2
variable {K : PySem.W.Frag} {H H' H1 H2 : Hp} {Cl : Nat → Addr × Str} {W : WX} {X : Cx}

/-! ## data as the library has it -/
mutual
inductive PyD (M : Mem) : D → PyData → Prop
  | non : PyD M .non .none
  | bl (b : Bool) : PyD M (.bl b) (.bool b)
  | int (i : Int) : PyD M (.int i) (.int i)
  | str (x : Str) : PyD M (.str x) (.str x)
  | tup {ds : List D} {ps : List PyData} : PyDs M ds ps → PyD M (.tup ds) (.tuple ps)
  | ob {a : Addr} {ds : List D} {ps : List PyData} : M a = some (.lst ds) → PyDs M ds ps → PyD M (.ob a) (.list ps)
  | scr (ns : List Int) : PyD M (.scr ns) (.list (ns.map .int))
inductive PyDs (M : Mem) : List D → List PyData → Prop
  | nil : PyDs M [] []
  | cons {d : D} {p : PyData} {ds : List D} {ps : List PyData} : PyD M d p → PyDs M ds ps → PyDs M (d :: ds) (p :: ps)
end
theorem DpAll.ints {K : PySem.W.Frag} {H : Hp} : ∀ ns : List Int, DpAll K H (ns.map V.int) (ns.map PyData.int)
  | [] => .nil
  | n :: ns => .cons (.int n) (DpAll.ints ns)
mutual
theorem PyD.dp {M : Mem} (m : MR K H M) : ∀ {d : D} {p : PyData} {v : V}, PyD M d p → Rep K H d v → Dp K H v p
  | _, _, v, .non, r => by simp only [Rep] at r; subst r; exact .non
  | _, _, v, .bl b, r => by simp only [Rep] at r; subst r; exact .bl b
  | _, _, v, .int i, r => by simp only [Rep] at r; subst r; exact .int i
  | _, _, v, .str x, r => by simp only [Rep] at r; subst r; exact .str x
  | _, _, v, .tup h, r => by
    simp only [Rep] at r
    obtain ⟨a, vs, rfl, q, r⟩ := r
    exact .tup q (PyDs.dp m h r)
  | _, _, v, .ob e h, r => by
    simp only [Rep] at r
    subst r
    obtain ⟨vs, q, r⟩ := m.lst e
    exact .lst (SqL.of q) (PyDs.dp m h r)
  | _, _, v, .scr ns, r => by
    simp only [Rep] at r
    obtain ⟨a, rfl, q⟩ := r
    exact .lst q.sql (DpAll.ints ns)
theorem PyDs.dp {M : Mem} (m : MR K H M) : ∀ {ds : List D} {ps : List PyData} {vs : List V}, PyDs M ds ps → Reps K H ds vs → DpAll K H vs ps
  | _, _, vs, .nil, r => by simp only [Reps] at r; subst r; exact .nil
  | _, _, vs, .cons h t, r => by
    simp only [Reps] at r
    obtain ⟨v, r', rfl, a, b⟩ := r
    exact .cons (PyD.dp m h a) (PyDs.dp m t b)
end
mutual
/-- the data without lists that may change -/
def D.py : D → PyData
  | .non => .none
  | .bl b => .bool b
  | .int i => .int i
  | .str x => .str x
  | .tup ds => .tuple (D.pys ds)
  | .ob _ => .none
  | .scr ns => .list (ns.map .int)
def D.pys : List D → List PyData
  | [] => []
  | d :: ds => D.py d :: D.pys ds
end
mutual
def D.pure : D → Bool
  | .ob _ => false
  | .tup ds => D.pures ds
  | _ => true
def D.pures : List D → Bool
  | [] => true
  | d :: ds => D.pure d && D.pures ds
end
mutual
theorem PyD.of (M : Mem) : ∀ d : D, d.pure = true → PyD M d d.py
  | .non, _ => by simp only [D.py]; exact .non
  | .bl b, _ => by simp only [D.py]; exact .bl b
  | .int i, _ => by simp only [D.py]; exact .int i
  | .str x, _ => by simp only [D.py]; exact .str x
  | .tup ds, h => by
    simp only [D.py]
    exact .tup (PyDs.of M ds (by simpa [D.pure] using h))
  | .ob a, h => by simp [D.pure] at h
  | .scr ns, _ => by simp only [D.py]; exact .scr ns
theorem PyDs.of (M : Mem) : ∀ ds : List D, D.pures ds = true → PyDs M ds (D.pys ds)
  | [], _ => by simp only [D.pys]; exact .nil
  | d :: ds, h => by
    simp only [D.pures, Bool.and_eq_true] at h
    simp only [D.pys]
    exact .cons (PyD.of M d h.1) (PyDs.of M ds h.2)
end

/-! ## operators -/
/-- what is asked of a value and the store -/
abbrev QD := D → Mem → Prop
/-- the wishes meet -/
def QR (K : PySem.W.Frag) (H : Hp) (q : QD) (Q : VK) : Prop := ∀ v H' d M', Keep H H' → Rep K H' d v → MR K H' M' → q d M' → Q v H'
theorem QR.now {q : QD} {Q : VK} {v : V} {d : D} {M : Mem} (h : QR K H q Q) (r : Rep K H d v) (m : MR K H M) (x : q d M) : Q v H := h v H d M (Keep.refl H) r m x
theorem QR.k {q : QD} {Q : VK} (h : QR K H q Q) (k : Keep H H') : QR K H' q Q := fun v H2 d M' k2 => h v H2 d M' (k.trans k2)

def noPy (i j : Int) : Prop := Builtin.divisionGoesByPylong i j = false
/-- a new list -/
def newL (ds : List D) (M : Mem) (Q : QD) : Prop := ds.length ≤ sizeLine ∧ ∀ p, M p = none → Q (.ob p) (M.put p (.lst ds))

def opF (op : Operator) (x y : D) (M : Mem) (Q : QD) : Prop :=
  match op, x, y with
  | .Add, .int i, .int j => Q (.int (i + j)) M
  | .Add, .str a, .str b => a.length + b.length ≤ sizeLine ∧ Q (.str (a ++ b)) M
  | .Add, .tup a, .tup b => a.length + b.length ≤ sizeLine ∧ Q (.tup (a ++ b)) M
  | .Add, .ob a, .ob b => ∃ xs ys, M a = some (.lst xs) ∧ M b = some (.lst ys) ∧ newL (xs ++ ys) M Q
  | .Sub, .int i, .int j => Q (.int (i - j)) M
  | .Mult, .int i, .int j => IntMulOk i j ∧ Q (.int (i * j)) M
  | .Mult, .ob a, .int k => ∃ xs, M a = some (.lst xs) ∧ -(2 ^ 63) ≤ k ∧ k < 2 ^ 63 ∧ xs.length * k.toNat ≤ sizeLine ∧ ∀ p, M p = none → Q (.ob p) (M.put p (.lst (List.replicate k.toNat xs).flatten))
  | .FloorDiv, .int i, .int j => 0 < j ∧ noPy i j ∧ Q (.int (i / j)) M
  | .Mod, .int i, .int j => 0 < j ∧ Q (.int (i % j)) M
  | .Pow, .int i, .int j => CPow i j ∧ Q (.int (i ^ j.toNat)) M
  | .LShift, .int i, .int j => CPow i j ∧ Q (.int (i * 2 ^ j.toNat)) M
  | .RShift, .int i, .int j => 0 ≤ j ∧ Q (.int (i / 2 ^ j.toNat)) M
  | .BitAnd, .int i, .int j => Q (.int (Builtin.bitAnd i j)) M
  | _, _, _ => False
/-- the library's readings of an operator meet ours -/
def OpD (K : PySem.W.Frag) (f : D → D → Mem → QD → Prop) (r : R2) : Prop :=
  ∀ (H : Hp) (M : Mem) (x y : D) (xv yv : V) (q : QD) (Q : VK), MR K H M → Rep K H x xv → Rep K H y yv → f x y M q → QR K H q Q → r xv yv H Q
theorem opI (g : Int → Int → Int) (C : Int → Int → Prop) {f : D → D → Mem → QD → Prop} (h : ∀ x y M q, f x y M q → ∃ i j, x = .int i ∧ y = .int j ∧ C i j ∧ q (.int (g i j)) M) : OpD K f (rI C fun i j => .int (g i j)) := by
  intro H M x y xv yv q Q m rx ry hf hq
  obtain ⟨i, j, rfl, rfl, c, z⟩ := h x y M q hf
  simp only [Rep] at rx ry
  subst rx ry
  exact ⟨i, j, rfl, rfl, c, hq.now (by simp [Rep]) m z⟩
theorem op_mulR : OpR X (binaryOp .Mult) (rI IntMulOk fun i j => .int (i * j)) := L2.opI fun _ _ _ _ _ _ _ hc q => mul_int q hc
theorem op_divR : OpR X (binaryOp .FloorDiv) (rI (fun i j => 0 < j ∧ noPy i j) fun i j => .int (i / j)) := L2.opI fun i j _ _ _ _ _ hc q => by
  have h1 : (0 : Int) < j := hc.1
  exact floordiv_int (by omega) (by rw [Int.fdiv_eq_ediv_of_nonneg i (by omega)]; exact q) (.inl hc.2)
theorem SqT_ne_nil {a : Addr} {vs : List V} {ds : List D} (r : Reps K H ds vs) : vs = [] ↔ ds = [] := by
  have := r.len
  constructor
  · intro e; subst e; exact List.length_eq_zero_iff.mp this.symm
  · intro e; subst e; exact List.length_eq_zero_iff.mp this

theorem opF_ok (op : Operator) : ∃ r, OpR X (binaryOp op) r ∧ OpD X.K (opF op) r := by
  have nope : ∀ op, (∀ x y M q, ¬ opF op x y M q) → ∃ r, OpR X (binaryOp op) r ∧ OpD X.K (opF op) r := fun op h =>
    ⟨fun _ _ _ _ => False, fun _ _ _ _ _ _ _ _ _ _ _ _ z => z.elim, fun H M x y xv yv q Q m rx ry z _ => (h x y M q z).elim⟩
  cases op with
  | Add =>
    refine ⟨_, ((op_add.or op_add_str).or (op_catA.or op_cat)), ?_⟩
    intro H M x y xv yv q Q m rx ry hf hq
    cases x <;> cases y <;> simp only [opF] at hf <;> try exact hf.elim
    case int.int =>
      simp only [Rep] at rx ry
      subst rx ry
      exact .inl (.inl ⟨_, _, rfl, rfl, hq.now (by simp [Rep]) m hf⟩)
    case str.str =>
      simp only [Rep] at rx ry
      subst rx ry
      exact .inl (.inr ⟨_, _, rfl, rfl, hf.1, hq.now (by simp [Rep]) m hf.2⟩)
    case tup.tup ds es =>
      simp only [Rep] at rx ry
      obtain ⟨a, vs, rfl, ta, ra⟩ := rx
      obtain ⟨b, ws, rfl, tb, rb⟩ := ry
      refine .inr (.inl ⟨a, b, vs, ws, rfl, rfl, ta, tb, by rw [ra.len, rb.len]; exact hf.1, fun e => ?_, fun e1 e2 => ?_, fun e1 e2 p hp => ?_⟩)
      · subst e
        have : ds = [] := by have := ra.len; exact List.length_eq_zero_iff.mp this.symm
        subst this
        exact hq.now (by simp only [Rep]; exact ⟨b, ws, rfl, tb, rb⟩) m hf.2
      · subst e2
        have : es = [] := by have := rb.len; exact List.length_eq_zero_iff.mp this.symm
        subst this
        refine hq.now ?_ m hf.2
        rw [List.append_nil]
        simp only [Rep]
        exact ⟨a, vs, rfl, ta, ra⟩
      · have k : Keep H (upd H p (.tup (vs ++ ws))) := Keep.upd_new hp
        refine hq _ _ _ _ k ?_ (m.untold hp) hf.2
        simp only [Rep]
        exact ⟨p, vs ++ ws, rfl, SqT.of upd_same, (ra.app rb).k k⟩
    case ob.ob a b =>
      simp only [Rep] at rx ry
      subst rx ry
      obtain ⟨xs, ys, ea, eb, hl, hn⟩ := hf
      obtain ⟨vs, ha, ra⟩ := m.lst ea
      obtain ⟨ws, hb, rb⟩ := m.lst eb
      refine .inr (.inr ⟨a, b, vs, ws, rfl, rfl, ha, hb, by rw [ra.len, rb.len]; simpa using hl, fun p hp => ?_⟩)
      exact hq _ _ _ _ (Keep.upd_new hp) (by simp [Rep]) (m.newL hp (ra.app rb)) (hn p (m.free hp))
  | Sub =>
    refine ⟨_, op_sub, ?_⟩
    intro H M x y xv yv q Q m rx ry hf hq
    cases x <;> cases y <;> simp only [opF] at hf <;> try exact hf.elim
    simp only [Rep] at rx ry
    subst rx ry
    exact ⟨_, _, rfl, rfl, hq.now (by simp [Rep]) m hf⟩
  | Mult =>
    refine ⟨_, op_mulR.or op_rep, ?_⟩
    intro H M x y xv yv q Q m rx ry hf hq
    cases x <;> cases y <;> simp only [opF] at hf <;> try exact hf.elim
    case int.int =>
      simp only [Rep] at rx ry
      subst rx ry
      exact .inl ⟨_, _, rfl, rfl, hf.1, hq.now (by simp [Rep]) m hf.2⟩
    case ob.int a k =>
      simp only [Rep] at rx ry
      subst rx ry
      obtain ⟨xs, ea, k1, k2, hl, hn⟩ := hf
      obtain ⟨vs, ha, ra⟩ := m.lst ea
      refine .inr ⟨_, _, vs, rfl, rfl, ha, k1, k2, by rw [ra.len]; exact hl, fun p hp => ?_⟩
      refine hq _ _ _ _ (Keep.upd_new hp) (by simp [Rep]) (m.newL hp ?_) (hn p (m.free hp))
      generalize k.toNat = n
      induction n with
      | zero => simp [Reps]
      | succ n ih =>
        rw [List.replicate_succ, List.replicate_succ, List.flatten_cons, List.flatten_cons]
        exact ra.app ih
  | FloorDiv =>
    refine ⟨_, op_divR, Fx.opI _ _ ?_⟩
    intro x y M q hf
    cases x <;> cases y <;> simp only [opF] at hf <;> try exact hf.elim
    exact ⟨_, _, rfl, rfl, ⟨hf.1, hf.2.1⟩, hf.2.2⟩
  | Mod =>
    refine ⟨_, op_mod, Fx.opI _ _ ?_⟩
    intro x y M q hf
    cases x <;> cases y <;> simp only [opF] at hf <;> try exact hf.elim
    exact ⟨_, _, rfl, rfl, hf.1, hf.2⟩
  | Pow =>
    refine ⟨_, op_pow, Fx.opI _ _ ?_⟩
    intro x y M q hf
    cases x <;> cases y <;> simp only [opF] at hf <;> try exact hf.elim
    exact ⟨_, _, rfl, rfl, hf.1, hf.2⟩
  | LShift =>
    refine ⟨_, op_shl, Fx.opI _ _ ?_⟩
    intro x y M q hf
    cases x <;> cases y <;> simp only [opF] at hf <;> try exact hf.elim
    exact ⟨_, _, rfl, rfl, hf.1, hf.2⟩
  | RShift =>
    refine ⟨_, op_shr, Fx.opI _ _ ?_⟩
    intro x y M q hf
    cases x <;> cases y <;> simp only [opF] at hf <;> try exact hf.elim
    exact ⟨_, _, rfl, rfl, hf.1, hf.2⟩
  | BitAnd =>
    refine ⟨_, op_and, ?_⟩
    intro H M x y xv yv q Q m rx ry hf hq
    cases x <;> cases y <;> simp only [opF] at hf <;> try exact hf.elim
    simp only [Rep] at rx ry
    subst rx ry
    exact ⟨_, _, rfl, rfl, hq.now (by simp [Rep]) m hf⟩
  | MatMult => exact nope _ fun x y M q z => by cases x <;> cases y <;> simp [opF] at z
  | Div => exact nope _ fun x y M q z => by cases x <;> cases y <;> simp [opF] at z
  | BitOr => exact nope _ fun x y M q z => by cases x <;> cases y <;> simp [opF] at z
  | BitXor => exact nope _ fun x y M q z => by cases x <;> cases y <;> simp [opF] at z

/-! ## comparisons -/
/-- == of any data -/
def eqF (x y : D) (M : Mem) (Q : Bool → Prop) : Prop :=
  match x, y with
  | .int i, .int j => Q (decide (i = j))
  | .str a, .str b => Q (decide (a = b))
  | x, y => ∃ p r, PyD M x p ∧ PyD M y r ∧ SeqAt.shaped p = true ∧ SeqAt.shaped r = true ∧ Q (PyData.eqv p r)
/-- flat data as the library's values -/
def D.flat : D → Option V
  | .non => some .non
  | .bl b => some (.bl b)
  | .int i => some (.int i)
  | .str x => some (.str x)
  | _ => none
def D.flats : List D → Option (List V)
  | [] => some []
  | d :: ds => match d.flat, D.flats ds with
    | some v, some vs => some (v :: vs)
    | _, _ => none
/-- x in a list or tuple of flat things, a sign in a text -/
def inF (x y : D) (M : Mem) (Q : Bool → Prop) : Prop :=
  match x, y with
  | .str a, .str b => Q (!(Builtin.Str.occurrences b a 0 b.length 1).isEmpty)
  | x, .tup ds => ∃ v vs, x.flat = some v ∧ D.flats ds = some vs ∧ Q (inV v vs)
  | x, .ob a => ∃ ds v vs, M a = some (.lst ds) ∧ x.flat = some v ∧ D.flats ds = some vs ∧ Q (inV v vs)
  | x, .scr ns => ∃ v, x.flat = some v ∧ Q (inV v (ns.map .int))
  | _, _ => False
def isNone : D → Bool
  | .non => true
  | _ => false
def cmpF (op : CmpOp) (x y : D) (M : Mem) (Q : Bool → Prop) : Prop :=
  match op with
  | .Eq => eqF x y M Q
  | .NotEq => eqF x y M fun b => Q (!b)
  | .Lt => match x, y with
    | .int i, .int j => Q (decide (i < j))
    | _, _ => False
  | .LtE => match x, y with
    | .int i, .int j => Q (decide (i ≤ j))
    | _, _ => False
  | .Gt => match x, y with
    | .int i, .int j => Q (decide (j < i))
    | _, _ => False
  | .GtE => match x, y with
    | .int i, .int j => Q (decide (j ≤ i))
    | _, _ => False
  | .Is => match x, y with
    | x, .non => Q (isNone x)
    | .bl a, .bl b => Q (decide (a = b))
    | _, _ => False
  | .IsNot => match x, y with
    | x, .non => Q (!isNone x)
    | .bl a, .bl b => Q (!decide (a = b))
    | _, _ => False
  | .In => inF x y M Q
  | .NotIn => inF x y M fun b => Q (!b)
theorem D.flat_rep {x : D} {v xv : V} (h : x.flat = some v) (r : Rep K H x xv) : xv = v ∧ flatV v = true := by
  cases x <;> simp only [D.flat] at h <;> cases h <;> simp only [Rep] at r <;> subst r <;> exact ⟨rfl, rfl⟩
theorem D.flats_rep : ∀ {ds : List D} {vs xs : List V}, D.flats ds = some vs → Reps K H ds xs → xs = vs ∧ vs.all flatV = true
  | [], vs, xs, h, r => by
    simp only [D.flats] at h
    cases h
    simp only [Reps] at r
    subst r
    exact ⟨rfl, rfl⟩
  | d :: ds, vs, xs, h, r => by
    simp only [D.flats] at h
    split at h
    · rename_i v vs' e1 e2
      cases h
      simp only [Reps] at r
      obtain ⟨w, ws, rfl, a, b⟩ := r
      obtain ⟨h1, h2⟩ := D.flat_rep e1 a
      obtain ⟨h3, h4⟩ := D.flats_rep e2 b
      subst h1 h3
      exact ⟨rfl, by rw [List.all_cons, h2, h4]; rfl⟩
    · cases h
theorem flats_ints (ns : List Int) : D.flats (ns.map .int) = some (ns.map .int) := by
  induction ns with
  | nil => rfl
  | cons n ns ih => simp only [List.map_cons, D.flats, D.flat, ih]
theorem allflat_ints (ns : List Int) : (ns.map V.int).all flatV = true := by
  induction ns with
  | nil => rfl
  | cons n ns ih => rw [List.map_cons, List.all_cons, ih]; rfl
/-- the answer is a truth -/
def CmpD (K : PySem.W.Frag) (f : D → D → Mem → (Bool → Prop) → Prop) (r : R2) : Prop :=
  ∀ (H : Hp) (M : Mem) (x y : D) (xv yv : V) (q : Bool → Prop) (Q : VK), MR K H M → Rep K H x xv → Rep K H y yv → f x y M q → (∀ b, q b → Q (.bl b) H) → r xv yv H Q
theorem eqF_dp {M : Mem} {x y : D} {xv yv : V} {q : Bool → Prop} (m : MR K H M) (rx : Rep K H x xv) (ry : Rep K H y yv) (h : eqF x y M q) :
    ∃ d e, Dp K H xv d ∧ Dp K H yv e ∧ SeqAt.shaped d = true ∧ SeqAt.shaped e = true ∧ q (PyData.eqv d e) ∨ (∃ a b, xv = .str a ∧ yv = .str b ∧ q (decide (a = b))) := by
  unfold eqF at h
  split at h
  · simp only [Rep] at rx ry
    subst rx ry
    refine ⟨.int _, .int _, .inl ⟨.int _, .int _, by rfl, by rfl, ?_⟩⟩
    simp only [PyData.eqv]
    rw [Bool.beq_eq_decide_eq]
    exact h
  · simp only [Rep] at rx ry
    subst rx ry
    exact ⟨.none, .none, .inr ⟨_, _, rfl, rfl, h⟩⟩
  · obtain ⟨p, r, hp, hr, s1, s2, hq⟩ := h
    exact ⟨p, r, .inl ⟨hp.dp m rx, hr.dp m ry, s1, s2, hq⟩⟩
theorem isNone_rep {x : D} {xv : V} (r : Rep K H x xv) : decide (xv = .non) = isNone x := by
  cases x <;> simp only [Rep] at r
  case tup ds => obtain ⟨a, vs, rfl, _⟩ := r; rfl
  case scr ns => obtain ⟨a, rfl, _⟩ := r; rfl
  all_goals (subst r; rfl)
theorem inF_ok {M : Mem} {x y : D} {xv yv : V} {q : Bool → Prop} (m : MR K H M) (rx : Rep K H x xv) (ry : Rep K H y yv) (h : inF x y M q) :
    (∃ a b, xv = .str a ∧ yv = .str b ∧ q (!(Builtin.Str.occurrences b a 0 b.length 1).isEmpty)) ∨
    (∃ p xs, yv = .ref p ∧ (SqL K H p xs ∨ SqT K H p xs) ∧ flatV xv = true ∧ xs.all flatV = true ∧ q (inV xv xs)) := by
  unfold inF at h
  split at h
  · simp only [Rep] at rx ry
    subst rx ry
    exact .inl ⟨_, _, rfl, rfl, h⟩
  · obtain ⟨v, vs, e1, e2, hq⟩ := h
    simp only [Rep] at ry
    obtain ⟨a, ws, rfl, t, rs⟩ := ry
    obtain ⟨h1, h2⟩ := D.flat_rep e1 rx
    obtain ⟨h3, h4⟩ := D.flats_rep e2 rs
    subst h1 h3
    exact .inr ⟨a, _, rfl, .inr t, h2, h4, hq⟩
  · obtain ⟨ds, v, vs, e0, e1, e2, hq⟩ := h
    simp only [Rep] at ry
    subst ry
    obtain ⟨ws, t, rs⟩ := m.lst e0
    obtain ⟨h1, h2⟩ := D.flat_rep e1 rx
    obtain ⟨h3, h4⟩ := D.flats_rep e2 rs
    subst h1 h3
    exact .inr ⟨_, _, rfl, .inl (SqL.of t), h2, h4, hq⟩
  · obtain ⟨v, e1, hq⟩ := h
    simp only [Rep] at ry
    obtain ⟨a, rfl, t⟩ := ry
    obtain ⟨h1, h2⟩ := D.flat_rep e1 rx
    subst h1
    exact .inr ⟨a, _, rfl, .inl t.sql, h2, allflat_ints _, hq⟩
  · exact h.elim
theorem cmpI (g : Int → Int → Bool) {f : D → D → Mem → (Bool → Prop) → Prop} (h : ∀ x y M q, f x y M q → ∃ i j, x = .int i ∧ y = .int j ∧ q (g i j)) : CmpD K f (rI0 fun i j => .bl (g i j)) := by
  intro H M x y xv yv q Q m rx ry hf hq
  obtain ⟨i, j, rfl, rfl, z⟩ := h x y M q hf
  simp only [Rep] at rx ry
  subst rx ry
  exact ⟨i, j, rfl, rfl, hq _ z⟩
theorem cmpF_ok (hu : X.A.units + 64 < cLine) (op : CmpOp) : ∃ r, OpR X (compareOp op) r ∧ CmpD X.K (cmpF op) r := by
  cases op with
  | Eq =>
    refine ⟨_, (op_eqD hu).or op_eq, ?_⟩
    intro H M x y xv yv q Q m rx ry hf hq
    obtain ⟨d, e, h | ⟨a, b, rfl, rfl, h⟩⟩ := eqF_dp m rx ry hf
    · exact .inl ⟨d, e, h.1, h.2.1, h.2.2.1, h.2.2.2.1, hq _ h.2.2.2.2⟩
    · refine .inr ⟨rfl, ?_⟩
      rw [dec_str, Bool.beq_eq_decide_eq]
      exact hq _ h
  | NotEq =>
    refine ⟨_, (op_neD hu).or op_ne, ?_⟩
    intro H M x y xv yv q Q m rx ry hf hq
    obtain ⟨d, e, h | ⟨a, b, rfl, rfl, h⟩⟩ := eqF_dp (q := fun b => q (!b)) m rx ry hf
    · exact .inl ⟨d, e, h.1, h.2.1, h.2.2.1, h.2.2.2.1, hq _ h.2.2.2.2⟩
    · refine .inr ⟨rfl, ?_⟩
      rw [dec_str, Bool.beq_eq_decide_eq]
      exact hq _ h
  | Lt => exact ⟨_, op_lt, cmpI _ fun x y M q h => by cases x <;> cases y <;> simp only [cmpF] at h <;> first | exact h.elim | exact ⟨_, _, rfl, rfl, h⟩⟩
  | LtE => exact ⟨_, op_le, cmpI _ fun x y M q h => by cases x <;> cases y <;> simp only [cmpF] at h <;> first | exact h.elim | exact ⟨_, _, rfl, rfl, h⟩⟩
  | Gt => exact ⟨_, op_gt, cmpI _ fun x y M q h => by cases x <;> cases y <;> simp only [cmpF] at h <;> first | exact h.elim | exact ⟨_, _, rfl, rfl, h⟩⟩
  | GtE => exact ⟨_, op_ge, cmpI _ fun x y M q h => by cases x <;> cases y <;> simp only [cmpF] at h <;> first | exact h.elim | exact ⟨_, _, rfl, rfl, h⟩⟩
  | Is =>
    refine ⟨_, op_isN.or op_isBl, ?_⟩
    intro H M x y xv yv q Q m rx ry hf hq
    cases y <;> cases x <;> simp only [cmpF] at hf <;> try exact hf.elim
    case bl.bl => simp only [Rep] at rx ry; subst rx ry; exact .inr ⟨_, _, rfl, rfl, hq _ hf⟩
    all_goals
      simp only [Rep] at ry
      subst ry
      exact .inl ⟨rfl, by rw [isNone_rep rx]; exact hq _ hf⟩
  | IsNot =>
    refine ⟨_, op_notN.or op_notBl, ?_⟩
    intro H M x y xv yv q Q m rx ry hf hq
    cases y <;> cases x <;> simp only [cmpF] at hf <;> try exact hf.elim
    case bl.bl => simp only [Rep] at rx ry; subst rx ry; exact .inr ⟨_, _, rfl, rfl, hq _ hf⟩
    all_goals
      simp only [Rep] at ry
      subst ry
      exact .inl ⟨rfl, by rw [isNone_rep rx]; exact hq _ hf⟩
  | In =>
    refine ⟨_, op_in_str.or op_in_seq, ?_⟩
    intro H M x y xv yv q Q m rx ry hf hq
    rcases inF_ok m rx ry hf with ⟨a, b, rfl, rfl, h⟩ | ⟨p, xs, rfl, t, f1, f2, h⟩
    · exact .inl ⟨a, b, rfl, rfl, hq _ h⟩
    · exact .inr ⟨p, xs, rfl, t, f1, f2, hq _ h⟩
  | NotIn =>
    refine ⟨_, op_notIn_str.or op_notIn_seq, ?_⟩
    intro H M x y xv yv q Q m rx ry hf hq
    rcases inF_ok (q := fun b => q (!b)) m rx ry hf with ⟨a, b, rfl, rfl, h⟩ | ⟨p, xs, rfl, t, f1, f2, h⟩
    · exact .inl ⟨a, b, rfl, rfl, hq _ h⟩
    · exact .inr ⟨p, xs, rfl, t, f1, f2, hq _ h⟩

/-! ## truth -/
def truF (d : D) (M : Mem) (Q : Bool → Prop) : Prop :=
  match d with
  | .non => Q false
  | .bl b => Q b
  | .int i => Q (i != 0)
  | .str x => x.length ≤ sizeLine ∧ Q ((x.length : Int) != 0)
  | .tup ds => Q (!ds.isEmpty)
  | .scr ns => Q (!ns.isEmpty)
  | .ob a => match M a with
    | some (.lst ds) => Q (!ds.isEmpty)
    | _ => False
theorem isEmpty_len {α β : Type} {xs : List α} {ys : List β} (h : xs.length = ys.length) : xs.isEmpty = ys.isEmpty := by
  cases xs <;> cases ys <;> simp_all
theorem truF_ok {M : Mem} {d : D} {v : V} {q : Bool → Prop} (m : MR K H M) (r : Rep K H d v) (h : truF d M q) : ∃ k, TruV K v H k ∧ q k := by
  cases d <;> simp only [truF] at h <;> simp only [Rep] at r
  case non => subst r; exact ⟨false, rfl, h⟩
  case bl b => subst r; exact ⟨b, rfl, h⟩
  case int i => subst r; exact ⟨_, rfl, h⟩
  case str x => subst r; exact ⟨_, ⟨h.1, rfl⟩, h.2⟩
  case tup ds =>
    obtain ⟨a, vs, rfl, t, rs⟩ := r
    exact ⟨_, .inr (.inl ⟨vs, t, rfl⟩), by rw [isEmpty_len rs.len]; exact h⟩
  case scr ns =>
    obtain ⟨a, rfl, t⟩ := r
    refine ⟨_, .inl ⟨_, t.sql, rfl⟩, ?_⟩
    rw [isEmpty_len (ys := ns) (by simp)]
    exact h
  case ob a =>
    subst r
    split at h
    · rename_i ds e
      obtain ⟨vs, t, rs⟩ := m.lst e
      exact ⟨_, .inl ⟨vs, SqL.of t, rfl⟩, by rw [isEmpty_len rs.len]; exact h⟩
    · exact h.elim
end Fx

set_option maxRecDepth 100000
namespace Fx
open PySem PySem.Spec PyProof.Rows L2
variable {K : PySem.W.Frag} {H H' H1 H2 : Hp} {Cl : Nat → Addr × Str} {W : WX} {X : Cx}

/-! ## built-in functions -/
inductive Blt where
  | len | abs | max | min | tuple | list | sum | all | any | int | gcd | divmod | repr
  deriving DecidableEq
def Blt.nm : Blt → Str
  | .len => "len" | .abs => "abs" | .max => "max" | .min => "min" | .tuple => "tuple" | .list => "list" | .sum => "sum" | .all => "all" | .any => "any"
  | .int => "int" | .gcd => "gcd" | .divmod => "divmod" | .repr => "repr"
def Blt.fn : Blt → Value
  | .len => .builtin "len" | .abs => .builtin "abs" | .max => .builtin "max" | .min => .builtin "min" | .tuple => .type "tuple" | .list => .type "list" | .sum => .builtin "sum"
  | .all => .builtin "all" | .any => .builtin "any" | .int => .type "int" | .gcd => .builtin "math.gcd" | .divmod => .builtin "divmod" | .repr => .builtin "repr"
/-- named by the module (an import) -/
def Blt.imp : Blt → Bool
  | .gcd => true
  | _ => false

def lenF (d : D) (M : Mem) (Q : QD) : Prop :=
  match d with
  | .tup ds => Q (.int ds.length) M
  | .scr ns => Q (.int ns.length) M
  | .str x => x.length ≤ sizeLine ∧ Q (.int x.length) M
  | .ob a => ∃ ds, M a = some (.lst ds) ∧ Q (.int ds.length) M
  | _ => False
def tupF (d : D) (M : Mem) (Q : QD) : Prop :=
  match d with
  | .tup ds => Q (.tup ds) M
  | .scr ns => Q (.tup (ns.map .int)) M
  | .ob a => ∃ ds, M a = some (.lst ds) ∧ Q (.tup ds) M
  | _ => False
def lstF (d : D) (M : Mem) (Q : QD) : Prop :=
  match d with
  | .tup ds => ∀ p, M p = none → Q (.ob p) (M.put p (.lst ds))
  | .scr ns => ∀ p, M p = none → Q (.ob p) (M.put p (.lst (ns.map .int)))
  | .ob a => ∃ ds, M a = some (.lst ds) ∧ ∀ p, M p = none → Q (.ob p) (M.put p (.lst ds))
  | _ => False
def sumF (d : D) (M : Mem) (Q : QD) : Prop :=
  match d with
  | .scr ns => Q (.int ns.sum) M
  | .ob a => ∃ ns : List Int, M a = some (.lst (ns.map .int)) ∧ Q (.int ns.sum) M
  | _ => False
def allF (g : List Bool → Bool) (d : D) (M : Mem) (Q : QD) : Prop :=
  match d with
  | .ob a => ∃ bs : List Bool, M a = some (.lst (bs.map .bl)) ∧ Q (.bl (g bs)) M
  | _ => False
/-- max, min of a list of ints -/
def extF (better : Int → Int → Prop) (d : D) (M : Mem) (Q : QD) : Prop :=
  match d with
  | .scr ns => 0 < ns.length ∧ ∀ m, m ∈ ns → (∀ y, y ∈ ns → better m y) → Q (.int m) M
  | .ob a => ∃ ns : List Int, M a = some (.lst (ns.map .int)) ∧ 0 < ns.length ∧ ∀ m, m ∈ ns → (∀ y, y ∈ ns → better m y) → Q (.int m) M
  | _ => False
def intF (d : D) (M : Mem) (Q : QD) : Prop :=
  match d with
  | .int i => Q (.int i) M
  | .bl b => Q (.int (if b then 1 else 0)) M
  | _ => False
/-- what repr wants of data -/
def ShowOk (p : PyData) : Prop := p.showable = true ∧ p.hasDict = false ∧ isDisplay p = true ∧ p.depth ≤ 64 ∧ p.shown.length ≤ sizeLine
def reprF (d : D) (M : Mem) (Q : QD) : Prop := ∃ p, PyD M d p ∧ ShowOk p ∧ Q (.str p.shown) M

def bF (b : Blt) (ds : List D) (M : Mem) (Q : QD) : Prop :=
  match b, ds with
  | .len, [d] => lenF d M Q
  | .abs, [.int i] => Q (.int (if i < 0 then -i else i)) M
  | .max, [.int i, .int j] => Q (.int (if j > i then j else i)) M
  | .min, [.int i, .int j] => Q (.int (if j < i then j else i)) M
  | .max, [d] => extF (fun m y => y ≤ m) d M Q
  | .min, [d] => extF (fun m y => m ≤ y) d M Q
  | .tuple, [d] => tupF d M Q
  | .list, [d] => lstF d M Q
  | .sum, [d] => sumF d M Q
  | .all, [d] => allF (fun bs => bs.all id) d M Q
  | .any, [d] => allF (fun bs => bs.any id) d M Q
  | .int, [d] => intF d M Q
  | .gcd, [.int i, .int j] => Q (.int (Nat.gcd i.natAbs j.natAbs : Nat)) M
  | .divmod, [.int i, .int j] => 0 < j ∧ noPy i j ∧ Q (.tup [.int (i / j), .int (i % j)]) M
  | .repr, [d] => reprF d M Q
  | _, _ => False
def CallD (K : PySem.W.Frag) (f : List D → Mem → QD → Prop) (r : List V → Hp → VK → Prop) : Prop :=
  ∀ (H : Hp) (M : Mem) (ds : List D) (vs : List V) (q : QD) (Q : VK), MR K H M → Reps K H ds vs → f ds M q → QR K H q Q → r vs H Q
theorem CallR.none {f : Value} : CallR X f (fun _ _ _ => False) := fun _ _ _ _ _ _ _ _ _ z => z.elim
theorem reps1 {d : D} {vs : List V} (r : Reps K H [d] vs) : ∃ v, vs = [v] ∧ Rep K H d v := by
  simp only [Reps] at r
  obtain ⟨v, r', rfl, a, rfl⟩ := r
  exact ⟨v, rfl, a⟩
theorem reps2 {d e : D} {vs : List V} (r : Reps K H [d, e] vs) : ∃ v w, vs = [v, w] ∧ Rep K H d v ∧ Rep K H e w := by
  simp only [Reps] at r
  obtain ⟨v, r', rfl, a, w, r2, rfl, b, rfl⟩ := r
  exact ⟨v, w, rfl, a, b⟩
theorem repI {i : Int} {v : V} : Rep K H (.int i) v ↔ v = .int i := by simp [Rep]
theorem repB {i : Bool} {v : V} : Rep K H (.bl i) v ↔ v = .bl i := by simp [Rep]
theorem repS {i : Str} {v : V} : Rep K H (.str i) v ↔ v = .str i := by simp [Rep]
theorem repO {a : Addr} {v : V} : Rep K H (.ob a) v ↔ v = .ref a := by simp [Rep]
theorem repN {v : V} : Rep K H .non v ↔ v = .non := by simp [Rep]
theorem repT {ds : List D} {v : V} : Rep K H (.tup ds) v ↔ ∃ a vs, v = .ref a ∧ SqT K H a vs ∧ Reps K H ds vs := by simp [Rep]
theorem repR {ns : List Int} {v : V} : Rep K H (.scr ns) v ↔ ∃ a, v = .ref a ∧ ScrAt K H a ns := by simp [Rep]

theorem len_ok : CallD K (fun ds M q => match ds with | [d] => lenF d M q | _ => False) (fun xs H Q => ∃ x n, xs = [x] ∧ LenV K x H n ∧ Q (.int n) H) := by
  intro H M ds vs q Q m r h hq
  match ds, h with
  | [d], h =>
    obtain ⟨v, rfl, rv⟩ := reps1 r
    cases d <;> simp only [lenF] at h <;> try exact h.elim
    case str x => rw [repS] at rv; subst rv; exact ⟨_, _, rfl, ⟨h.1, rfl⟩, hq.now (repI.2 rfl) m h.2⟩
    case tup ds => obtain ⟨a, vs, rfl, t, rs⟩ := repT.1 rv; exact ⟨_, _, rfl, .inr ⟨vs, t, rfl⟩, by rw [rs.len]; exact hq.now (repI.2 rfl) m h⟩
    case scr ns =>
      obtain ⟨a, rfl, t⟩ := repR.1 rv
      refine ⟨_, _, rfl, .inl ⟨_, t.sql, rfl⟩, ?_⟩
      rw [List.length_map]
      exact hq.now (repI.2 rfl) m h
    case ob a =>
      rw [repO] at rv
      subst rv
      obtain ⟨ds, e, h⟩ := h
      obtain ⟨vs, t, rs⟩ := m.lst e
      exact ⟨_, _, rfl, .inl ⟨vs, SqL.of t, rfl⟩, by rw [rs.len]; exact hq.now (repI.2 rfl) m h⟩
theorem tup_ok : CallD K (fun ds M q => match ds with | [d] => tupF d M q | _ => False) (fun xs H Q => ∃ p ys, xs = [.ref p] ∧ ((SqL K H p ys ∧ ∀ l, H l = none → Q (.ref l) (upd H l (.tup ys))) ∨ (SqT K H p ys ∧ Q (.ref p) H))) := by
  intro H M ds vs q Q m r h hq
  match ds, h with
  | [d], h =>
    obtain ⟨v, rfl, rv⟩ := reps1 r
    have fin : ∀ {ds : List D} {vs : List V} {l : Addr}, Reps K H ds vs → H l = none → q (.tup ds) M → Q (.ref l) (upd H l (.tup vs)) := fun {ds vs l} rs hl z => by
      have k : Keep H (upd H l (.tup vs)) := Keep.upd_new hl
      exact hq _ _ _ _ k (repT.2 ⟨l, vs, rfl, SqT.of upd_same, rs.k k⟩) (m.untold hl) z
    cases d <;> simp only [tupF] at h <;> try exact h.elim
    case tup ds => obtain ⟨a, vs, rfl, t, rs⟩ := repT.1 rv; exact ⟨_, _, rfl, .inr ⟨t, hq.now (repT.2 ⟨a, vs, rfl, t, rs⟩) m h⟩⟩
    case scr ns => obtain ⟨a, rfl, t⟩ := repR.1 rv; exact ⟨_, _, rfl, .inl ⟨t.sql, fun l hl => fin Reps.of_ints hl h⟩⟩
    case ob a =>
      rw [repO] at rv
      subst rv
      obtain ⟨ds, e, h⟩ := h
      obtain ⟨vs, t, rs⟩ := m.lst e
      exact ⟨_, _, rfl, .inl ⟨SqL.of t, fun l hl => fin rs hl h⟩⟩
theorem lst_ok : CallD K (fun ds M q => match ds with | [d] => lstF d M q | _ => False) (fun xs H Q => ∃ p ys, xs = [.ref p] ∧ (SqL K H p ys ∨ SqT K H p ys) ∧ ∀ l, H l = none → Q (.ref l) (upd H l (.lst ys))) := by
  intro H M ds vs q Q m r h hq
  match ds, h with
  | [d], h =>
    obtain ⟨v, rfl, rv⟩ := reps1 r
    have fin : ∀ {ds : List D} {vs : List V} {l : Addr}, Reps K H ds vs → H l = none → (∀ p, M p = none → q (.ob p) (M.put p (.lst ds))) → Q (.ref l) (upd H l (.lst vs)) := fun {ds vs l} rs hl z =>
      hq _ _ _ _ (Keep.upd_new hl) (repO.2 rfl) (m.newL hl rs) (z l (m.free hl))
    cases d <;> simp only [lstF] at h <;> try exact h.elim
    case tup ds => obtain ⟨a, vs, rfl, t, rs⟩ := repT.1 rv; exact ⟨_, _, rfl, .inr t, fun l hl => fin rs hl h⟩
    case scr ns => obtain ⟨a, rfl, t⟩ := repR.1 rv; exact ⟨_, _, rfl, .inl t.sql, fun l hl => fin Reps.of_ints hl h⟩
    case ob a =>
      rw [repO] at rv
      subst rv
      obtain ⟨ds, e, h⟩ := h
      obtain ⟨vs, t, rs⟩ := m.lst e
      exact ⟨_, _, rfl, .inl (SqL.of t), fun l hl => fin rs hl h⟩
theorem sum_ok : CallD K (fun ds M q => match ds with | [d] => sumF d M q | _ => False) (rSum K) := by
  intro H M ds vs q Q m r h hq
  match ds, h with
  | [d], h =>
    obtain ⟨v, rfl, rv⟩ := reps1 r
    cases d <;> simp only [sumF] at h <;> try exact h.elim
    case scr ns => obtain ⟨a, rfl, t⟩ := repR.1 rv; exact ⟨a, ns, rfl, t.sql, hq.now (repI.2 rfl) m h⟩
    case ob a =>
      rw [repO] at rv
      subst rv
      obtain ⟨ns, e, h⟩ := h
      obtain ⟨vs, t, rs⟩ := m.lst e
      rw [rs.ints] at t
      exact ⟨a, ns, rfl, SqL.of t, hq.now (repI.2 rfl) m h⟩
theorem all_ok (g : List Bool → Bool) : CallD K (fun ds M q => match ds with | [d] => allF g d M q | _ => False) (fun vs H Q => ∃ (a : Addr) (bs : List Bool), vs = [V.ref a] ∧ SqL K H a (bs.map V.bl) ∧ Q (.bl (g bs)) H) := by
  intro H M ds vs q Q m r h hq
  match ds, h with
  | [d], h =>
    obtain ⟨v, rfl, rv⟩ := reps1 r
    cases d <;> simp only [allF] at h <;> try exact h.elim
    case ob a =>
      rw [repO] at rv
      subst rv
      obtain ⟨ns, e, h⟩ := h
      obtain ⟨vs, t, rs⟩ := m.lst e
      rw [rs.bls] at t
      exact ⟨a, ns, rfl, SqL.of t, hq.now (repB.2 rfl) m h⟩
theorem ext_ok (b : Int → Int → Prop) : CallD K (fun ds M q => match ds with | [d] => extF b d M q | _ => False) (fun vs H Q => ∃ (a : Addr) (ns : List Int), vs = [V.ref a] ∧ SqL K H a (ns.map V.int) ∧ 0 < ns.length ∧ ∀ m, m ∈ ns → (∀ y, y ∈ ns → b m y) → Q (.int m) H) := by
  intro H M ds vs q Q m r h hq
  match ds, h with
  | [d], h =>
    obtain ⟨v, rfl, rv⟩ := reps1 r
    cases d <;> simp only [extF] at h <;> try exact h.elim
    case scr ns => obtain ⟨a, rfl, t⟩ := repR.1 rv; exact ⟨a, ns, rfl, t.sql, h.1, fun z h1 h2 => hq.now (repI.2 rfl) m (h.2 z h1 h2)⟩
    case ob a =>
      rw [repO] at rv
      subst rv
      obtain ⟨ns, e, hl, h⟩ := h
      obtain ⟨vs, t, rs⟩ := m.lst e
      rw [rs.ints] at t
      exact ⟨a, ns, rfl, SqL.of t, hl, fun z h1 h2 => hq.now (repI.2 rfl) m (h z h1 h2)⟩
theorem int_ok : CallD K (fun ds M q => match ds with | [d] => intF d M q | _ => False) (fun xs H Q => (∃ i, xs = [.int i] ∧ Q (.int i) H) ∨ ∃ k, xs = [.bl k] ∧ Q (.int (if k then 1 else 0)) H) := by
  intro H M ds vs q Q m r h hq
  match ds, h with
  | [d], h =>
    obtain ⟨v, rfl, rv⟩ := reps1 r
    cases d <;> simp only [intF] at h <;> try exact h.elim
    · rw [repB] at rv
      subst rv
      exact .inr ⟨_, rfl, hq.now (repI.2 rfl) m h⟩
    · rw [repI] at rv
      subst rv
      exact .inl ⟨_, rfl, hq.now (repI.2 rfl) m h⟩
theorem cr_repr (hg : X.A.guards = some []) (hu : X.A.units + 100 < cLine) : CallR X (.builtin "repr") (fun xs H Q => ∃ v p, xs = [v] ∧ Dp X.K H v p ∧ ShowOk p ∧ Q (.str p.shown) H) := by
  intro pins s σ H xs us Q I r h
  obtain ⟨v, p, rfl, hd, ⟨h1, h2, h3, h4, h5⟩, q⟩ := h
  obtain ⟨u, rfl, ru⟩ := vals1 r
  obtain ⟨as, hr⟩ := Dp.reads I p v u hd ru
  obtain ⟨a, rfl⟩ := isRef_of_reads hr h3
  refine repr_of_reads' hr h1 (PyData.noDict_hsm h2) hg (by omega) (fun _ _ e => e) (fun h' u tk hk => ?_) h5
  exact ⟨.str _, H, I.kept hk, ⟨_, rfl⟩, q⟩
theorem bF_ok (hc : X.calm = true) (hg : X.A.guards = some []) (hu : X.A.units + 100 < cLine) (b : Blt) : ∃ r, CallR X b.fn r ∧ CallD X.K (bF b) r := by
  have one : ∀ {f : D → Mem → QD → Prop} {r : List V → Hp → VK → Prop} (b : Blt), (∀ ds M q, bF b ds M q → ∃ d, ds = [d] ∧ f d M q) → CallD X.K (fun ds M q => match ds with | [d] => f d M q | _ => False) r → CallD X.K (bF b) r :=
    fun {f r} b h g H M ds vs q Q m rs z hq => by
      obtain ⟨d, rfl, y⟩ := h ds M q z
      exact g H M [d] vs q Q m rs y hq
  cases b with
  | len => exact ⟨_, call_len, one .len (fun ds M q h => by unfold bF at h; split at h <;> first | exact h.elim | exact ⟨_, rfl, h⟩ | simp_all) len_ok⟩
  | tuple => exact ⟨_, call_tuple_of, one .tuple (fun ds M q h => by unfold bF at h; split at h <;> first | exact h.elim | exact ⟨_, rfl, h⟩ | simp_all) tup_ok⟩
  | list => exact ⟨_, call_list_of, one .list (fun ds M q h => by unfold bF at h; split at h <;> first | exact h.elim | exact ⟨_, rfl, h⟩ | simp_all) lst_ok⟩
  | sum => exact ⟨_, cr_sum hc, one .sum (fun ds M q h => by unfold bF at h; split at h <;> first | exact h.elim | exact ⟨_, rfl, h⟩ | simp_all) sum_ok⟩
  | all => exact ⟨_, cr_all hc, one .all (fun ds M q h => by unfold bF at h; split at h <;> first | exact h.elim | exact ⟨_, rfl, h⟩ | simp_all) (all_ok _)⟩
  | any => exact ⟨_, cr_any hc, one .any (fun ds M q h => by unfold bF at h; split at h <;> first | exact h.elim | exact ⟨_, rfl, h⟩ | simp_all) (all_ok _)⟩
  | abs =>
    refine ⟨_, call_abs, ?_⟩
    intro H M ds vs q Q m rs h hq
    unfold bF at h
    split at h <;> first | exact h.elim | (exfalso; simp_all; done) | skip
    obtain ⟨v, rfl, rv⟩ := reps1 rs
    rw [repI] at rv
    subst rv
    exact ⟨_, rfl, hq.now (repI.2 rfl) m h⟩
  | max =>
    refine ⟨_, CallR.or (call_max2 hc) (cr_max hc), ?_⟩
    intro H M ds vs q Q m rs h hq
    unfold bF at h
    split at h <;> first | exact h.elim | (exfalso; simp_all; done) | skip
    · obtain ⟨v, w, rfl, rv, rw'⟩ := reps2 rs
      rw [repI] at rv rw'
      subst rv rw'
      exact .inl ⟨_, _, rfl, hq.now (repI.2 rfl) m h⟩
    · exact .inr (ext_ok _ H M _ vs q Q m rs h hq)
  | min =>
    refine ⟨_, CallR.or (call_min2 hc) (cr_min hc), ?_⟩
    intro H M ds vs q Q m rs h hq
    unfold bF at h
    split at h <;> first | exact h.elim | (exfalso; simp_all; done) | skip
    · obtain ⟨v, w, rfl, rv, rw'⟩ := reps2 rs
      rw [repI] at rv rw'
      subst rv rw'
      exact .inl ⟨_, _, rfl, hq.now (repI.2 rfl) m h⟩
    · exact .inr (ext_ok _ H M _ vs q Q m rs h hq)
  | int => exact ⟨_, call_int1, one .int (fun ds M q h => by unfold bF at h; split at h <;> first | exact h.elim | exact ⟨_, rfl, h⟩ | simp_all) int_ok⟩
  | gcd =>
    refine ⟨_, cr_gcd, ?_⟩
    intro H M ds vs q Q m rs h hq
    unfold bF at h
    split at h <;> first | exact h.elim | (exfalso; simp_all; done) | skip
    obtain ⟨v, w, rfl, rv, rw'⟩ := reps2 rs
    rw [repI] at rv rw'
    subst rv rw'
    exact ⟨_, _, rfl, hq.now (repI.2 rfl) m h⟩
  | divmod =>
    refine ⟨_, call_divmodW, ?_⟩
    intro H M ds vs q Q m rs h hq
    unfold bF at h
    split at h <;> first | exact h.elim | (exfalso; simp_all; done) | skip
    obtain ⟨v, w, rfl, rv, rw'⟩ := reps2 rs
    rw [repI] at rv rw'
    subst rv rw'
    refine ⟨_, _, rfl, ⟨h.1, h.2.1⟩, fun p hp => ?_⟩
    exact hq _ _ _ _ (Keep.upd_new hp) (repT.2 ⟨p, _, rfl, SqT.of upd_same, .cons (repI.2 rfl) (.cons (repI.2 rfl) .nil)⟩) (m.untold hp) h.2.2
  | repr =>
    refine ⟨_, cr_repr hg hu, ?_⟩
    intro H M ds vs q Q m rs h hq
    unfold bF at h
    split at h <;> first | exact h.elim | (exfalso; simp_all; done) | skip
    obtain ⟨v, rfl, rv⟩ := reps1 rs
    obtain ⟨p, hp, hs, h⟩ := h
    exact ⟨v, p, rfl, hp.dp m rv, hs, hq.now (repS.2 rfl) m h⟩
end Fx

set_option maxRecDepth 100000
namespace Fx
open PySem PySem.Spec PyProof.Rows L2

/-! ## the text, each name by its place -/
mutual
inductive Ir where
  | v (i : Nat) | ci (i : Int) | cb (b : Bool) | cn | cs (x : Str) | gc (j : Nat)
  | bin (op : Operator) (a b : Ir) | neg (a : Ir) | nt (a : Ir)
  | cmp (op : CmpOp) (a b : Ir) | cmp2 (op op' : CmpOp) (a b c : Ir)
  | and (a b : Ir) | or (a b : Ir) | one (a : Ir) | ite (c : Tt) (a b : Ir)
  | tup (es : Irs) | lst (es : Irs) | ix (a i : Ir) | sl (a : Ir) (lo hi : Iro)
  | call (j np nk : Nat) (es ks : Irs) | blt (b : Blt) (es : Irs) | isi (e : Ir) (T : String) | app (o e : Ir)
  | lc (e : Ir) (t : Tg) (it : Wk) (own : List Nat)
  | lcf (e : Ir) (t : Tg) (it : Wk) (c : Tt) (own : List Nat)
inductive Tt where
  | tv (e : Ir) | tnot (t : Tt) | tand (a b : Tt) | tor (a b : Tt) | tone (a : Tt)
  | tcmp (op : CmpOp) (a b : Ir) | tcmp2 (op op' : CmpOp) (a b c : Ir)
inductive Irs where
  | nil | cons (e : Ir) (r : Irs) | star (e : Ir) (r : Irs)
inductive Iro where
  | none | some (e : Ir)
inductive Tg where
  | nm (i : Nat) | tp (ts : Tgs) | sub (a i : Ir)
inductive Tgs where
  | nil | cons (t : Tg) (r : Tgs)
inductive Wk where
  | ex (e : Ir) | rg1 (a : Ir) | rg2 (a b : Ir) | enm (e : Ir) | zp (a b : Ir)
end
mutual
inductive Is where
  | asg (i : Nat) (e : Ir) | asgLc (i : Nat) (e : Ir) (t : Tg) (it : Wk) (own : List Nat) | asgLcf (i : Nat) (e : Ir) (t : Tg) (it : Wk) (c : Tt) (own : List Nat)
  | asgT (t : Tg) (e : Ir) | par (i j : Nat) (a b : Ir) | par3 (i j l : Nat) (a b c : Ir)
  | ex (e : Ir) | ret (e : Ir) | retN | pass | brk | cont
  | ifs (c : Tt) (a b : Iss) | whl (c : Tt) (b : Iss) | for (t : Tg) (it : Wk) (b : Iss)
  | never
inductive Iss where
  | nil | cons (s : Is) (r : Iss)
end

def Tgs.len : Tgs → Nat
  | .nil => 0
  | .cons _ r => Tgs.len r + 1
/-! ## what it asks -/
def getV (τ : Tau) (i : Nat) (Q : D → Prop) : Prop := match τ[i]? with
  | some (some d) => Q d
  | _ => False
def negF (x : D) (M : Mem) (Q : QD) : Prop := match x with
  | .int i => Q (.int (-i)) M
  | _ => False
def optF {α : Type} (o : Option α) (Q : α → Prop) : Prop := match o with
  | some a => Q a
  | none => False
/-- a[i] -/
def ixF (x i : D) (M : Mem) (Q : QD) : Prop := match x, i with
  | .tup ds, .int i => optF (atI ds i) fun d => Q d M
  | .ob a, .int i => ∃ ds, M a = some (.lst ds) ∧ optF (atI ds i) fun d => Q d M
  | .scr ns, .int i => optF (atI ns i) fun n => Q (.int n) M
  | .str z, .int i => z.length ≤ sizeLine ∧ optF (atI z.cps.toList i) fun c => Q (.str ⟨#[c]⟩) M
  | _, _ => False
def cutD {α : Type} (ds : List α) (lo hi : Option Int) : List α := (ds.drop (HT.sIx ds.length 0 lo)).take (HT.sIx ds.length ds.length hi - HT.sIx ds.length 0 lo)
/-- a[lo:hi] -/
def slF (x : D) (lo hi : Option Int) (M : Mem) (Q : QD) : Prop := match x with
  | .tup ds => Q (.tup (cutD ds lo hi)) M
  | .ob a => ∃ ds, M a = some (.lst ds) ∧ ∀ p, M p = none → Q (.ob p) (M.put p (.lst (cutD ds lo hi)))
  | .scr ns => ∀ p, M p = none → Q (.ob p) (M.put p (.lst ((cutD ns lo hi).map .int)))
  | .str z => z.length ≤ sizeLine ∧ Q (.str (cutS z lo hi)) M
  | _ => False
/-- a[i] = d -/
def setF (x i d : D) (M : Mem) (Q : Mem → Prop) : Prop := match x, i with
  | .ob a, .int i => ∃ ds, M a = some (.lst ds) ∧ optF (ixN ds.length i) fun j => Q (M.put a (.lst (ds.set j d)))
  | _, _ => False
def appF (x d : D) (M : Mem) (Q : QD) : Prop := match x with
  | .ob a => ∃ ds, M a = some (.lst ds) ∧ ds.length < sizeLine ∧ Q .non (M.put a (.lst (ds ++ [d])))
  | _ => False
def lstAt (x : D) (M : Mem) : Prop := match x with
  | .ob a => ∃ ds, M a = some (.lst ds)
  | _ => False
def tyN : D → String
  | .non => "NoneType" | .bl _ => "bool" | .int _ => "int" | .str _ => "str" | .tup _ => "tuple" | .ob _ => "list" | .scr _ => "list"
/-- isinstance(x, T) -/
def isiF (T : String) (x : D) (M : Mem) (Q : QD) : Prop := match x with
  | .ob a => ∃ ds, M a = some (.lst ds) ∧ Q (.bl (decide (T = "list"))) M
  | x => Q (.bl (decide (tyN x = T) || (decide (T = "int") && decide (tyN x = "bool")))) M
def isiOk (T : String) : Bool := ["int", "bool", "str", "tuple", "list"].contains T
/-- what is walked: the items, and what must stay so meanwhile -/
structure Src where
  items : List D
  ok : Mem → Prop
def intsTo (n : Nat) : List Int := (List.range n).map fun k : Nat => (k : Int)
def itF (x : D) (M : Mem) (Q : Src → Mem → Prop) : Prop := match x with
  | .tup ds => Q ⟨ds, fun _ => True⟩ M
  | .scr ns => Q ⟨ns.map .int, fun _ => True⟩ M
  | .ob a => ∃ ds, M a = some (.lst ds) ∧ Q ⟨ds, fun M' => M' a = some (.lst ds)⟩ M
  | .str x => Q ⟨x.cps.toList.map fun c => .str ⟨#[c]⟩, fun _ => True⟩ M
  | _ => False
def rgF (x y : D) (M : Mem) (Q : Src → Mem → Prop) : Prop := match x, y with
  | .int lo, .int hi => (-(2 ^ 62) ≤ lo ∧ lo < 2 ^ 62 ∧ -(2 ^ 62) ≤ hi ∧ hi < 2 ^ 62) ∧ Q ⟨(intsTo (hi - lo).toNat).map fun k => .int (lo + k), fun _ => True⟩ M
  | _, _ => False
def enF (x : D) (M : Mem) (Q : Src → Mem → Prop) : Prop := match x with
  | .tup ds => Q ⟨ds.zipIdx.map fun p => .tup [.int p.2, p.1], fun _ => True⟩ M
  | .ob a => ∃ ds, M a = some (.lst ds) ∧ Q ⟨ds.zipIdx.map fun p => .tup [.int p.2, p.1], fun M' => M' a = some (.lst ds)⟩ M
  | _ => False
def zpF (x y : D) (M : Mem) (Q : Src → Mem → Prop) : Prop := match x, y with
  | .tup ds, .tup es => Q ⟨(ds.zip es).map fun p => .tup [p.1, p.2], fun _ => True⟩ M
  | _, _ => False
def starF (d : D) (M : Mem) (Q : List D → Prop) : Prop := match d with
  | .tup ds => Q ds
  | .scr ns => Q (ns.map .int)
  | .ob a => ∃ ds, M a = some (.lst ds) ∧ Q ds
  | _ => False
/-- the slots forgotten -/
def wipeD (τ : Tau) : List Nat → Tau
  | [] => τ
  | v :: vs => (wipeD τ vs).set v none
/-- a comprehension's turns -/
def lcF (asg : D → Tau → Mem → (Tau → Mem → Prop) → Prop) (tst : Tau → Mem → (Bool → Mem → Prop) → Prop) (elt : Tau → Mem → QD → Prop) (ok : Mem → Prop) (τ0 : Tau) (p : Addr) (q : Mem → Prop) : List D → Mem → Prop
  | [], M => ok M ∧ q M
  | d :: ds, M => ok M ∧ asg d τ0 M fun τ1 M1 => tst τ1 M1 fun b M2 => if b = true then elt τ1 M2 fun y M3 => ∃ acc, M3 p = some (.lst acc) ∧ acc.length < sizeLine ∧ lcF asg tst elt ok τ0 p q ds (M3.put p (.lst (acc ++ [y])))
      else lcF asg tst elt ok τ0 p q ds M2
/-- a for's turns -/
def forF (asg : D → Tau → Mem → (Tau → Mem → Prop) → Prop) (body : DEnds → Tau → Mem → Prop) (ok : Mem → Prop) (d0 : DEnds) : List D → Tau → Mem → Prop
  | [], τ, M => ok M ∧ d0.nx τ M
  | d :: ds, τ, M => ok M ∧ asg d τ M fun τ1 M1 => body { d0 with nx := forF asg body ok d0 ds, ct := forF asg body ok d0 ds, bk := d0.nx } τ1 M1
/-- a while's turns: an invariant and a measure -/
def whF (c : Tau → Mem → (Bool → Mem → Prop) → Prop) (body : DEnds → Tau → Mem → Prop) (d0 : DEnds) (τ : Tau) (M : Mem) : Prop :=
  ∃ I : Nat → Tau → Mem → Prop, (∃ m, I m τ M) ∧ ∀ m τ M, I m τ M → c τ M fun b M1 => if b = true then body { d0 with nx := fun τ' M' => ∃ m', m' < m ∧ I m' τ' M', ct := fun τ' M' => ∃ m', m' < m ∧ I m' τ' M', bk := d0.nx } τ M1 else d0.nx τ M1

def E0 : EW := fun _ _ _ => False
section
variable (T : Nat → DSp) (C : Nat → D)
mutual
def wEx : Ir → DTE
  | .v i => fun E τ M Q => getV τ i fun d => Q d M
  | .ci i => fun E τ M Q => Q (.int i) M
  | .cb b => fun E τ M Q => Q (.bl b) M
  | .cn => fun E τ M Q => Q .non M
  | .cs x => fun E τ M Q => Q (.str x) M
  | .gc j => fun E τ M Q => Q (C j) M
  | .bin op a b => fun E τ M Q => wEx a E τ M fun x M1 => wEx b E τ M1 fun y M2 => opF op x y M2 Q
  | .neg a => fun E τ M Q => wEx a E τ M fun x M1 => negF x M1 Q
  | .nt a => fun E τ M Q => wEx a E τ M fun x M1 => truF x M1 fun k => Q (.bl (!k)) M1
  | .cmp op a b => fun E τ M Q => wEx a E τ M fun x M1 => wEx b E τ M1 fun y M2 => cmpF op x y M2 fun k => Q (.bl k) M2
  | .cmp2 op op' a b c => fun E τ M Q => wEx a E τ M fun x M1 => wEx b E τ M1 fun y M2 => cmpF op x y M2 fun k => if k = true then wEx c E τ M2 fun z M3 => cmpF op' y z M3 fun k' => Q (.bl k') M3 else Q (.bl false) M2
  | .and a b => fun E τ M Q => wEx a E τ M fun x M1 => truF x M1 fun k => if k = true then wEx b E τ M1 Q else Q x M1
  | .or a b => fun E τ M Q => wEx a E τ M fun x M1 => truF x M1 fun k => if k = true then Q x M1 else wEx b E τ M1 Q
  | .one a => fun E τ M Q => wEx a E τ M Q
  | .ite c a b => fun E τ M Q => wBx c E τ M fun k M1 => if k = true then wEx a E τ M1 Q else wEx b E τ M1 Q
  | .tup es => fun E τ M Q => wLx es E τ M fun ds M1 => ds.length ≤ sizeLine ∧ Q (.tup ds) M1
  | .lst es => fun E τ M Q => wLx es E τ M fun ds M1 => newL ds M1 Q
  | .ix a i => fun E τ M Q => wEx a E τ M fun x M1 => wEx i E τ M1 fun y M2 => ixF x y M2 Q
  | .sl a lo hi => fun E τ M Q => wEx a E τ M fun x M1 => wOx lo E τ M1 fun l M2 => wOx hi E τ M2 fun h M3 => slF x l h M3 Q
  | .call j np nk es ks => fun E τ M Q => wLx es E τ M fun ds M1 => wLx ks E τ M1 fun gs M2 => ds.length = np ∧ gs.length = nk ∧ T j (ds ++ gs) M2 (fun e M' => E e τ M') Q
  | .blt b es => fun E τ M Q => wLx es E τ M fun ds M1 => bF b ds M1 Q
  | .isi e T => fun E τ M Q => wEx e E τ M fun x M1 => isiF T x M1 Q
  | .app o e => fun E τ M Q => wEx o E τ M fun x M1 => lstAt x M1 ∧ wEx e E τ M1 fun y M2 => appF x y M2 Q
  | .lc e t it own => fun E τ M Q => wIx it E τ M fun src M1 => ∀ p, M1 p = none → lcF (wGx t E0) (fun _ M Q => Q true M) (wEx e E0) src.ok (wipeD τ own) p (fun M' => Q (.ob p) M') src.items (M1.put p (.lst []))
  | .lcf e t it c own => fun E τ M Q => wIx it E τ M fun src M1 => ∀ p, M1 p = none → lcF (wGx t E0) (wBx c E0) (wEx e E0) src.ok (wipeD τ own) p (fun M' => Q (.ob p) M') src.items (M1.put p (.lst []))
def wBx : Tt → DTT
  | .tv e => fun E τ M Q => wEx e E τ M fun x M1 => truF x M1 fun k => Q k M1
  | .tnot t => fun E τ M Q => wBx t E τ M fun k M1 => Q (!k) M1
  | .tand a b => fun E τ M Q => wBx a E τ M fun k M1 => if k = true then wBx b E τ M1 Q else Q false M1
  | .tor a b => fun E τ M Q => wBx a E τ M fun k M1 => if k = true then Q true M1 else wBx b E τ M1 Q
  | .tone a => fun E τ M Q => wBx a E τ M Q
  | .tcmp op a b => fun E τ M Q => wEx a E τ M fun x M1 => wEx b E τ M1 fun y M2 => cmpF op x y M2 fun k => Q k M2
  | .tcmp2 op op' a b c => fun E τ M Q => wEx a E τ M fun x M1 => wEx b E τ M1 fun y M2 => cmpF op x y M2 fun k => if k = true then wEx c E τ M2 fun z M3 => cmpF op' y z M3 fun k' => Q k' M3 else Q false M2
def wLx : Irs → DTA
  | .nil => fun E τ M Q => Q [] M
  | .cons e r => fun E τ M Q => wEx e E τ M fun d M1 => wLx r E τ M1 fun ds M2 => Q (d :: ds) M2
  | .star e r => fun E τ M Q => wEx e E τ M fun d M1 => starF d M1 fun gs => wLx r E τ M1 fun ds M2 => Q (gs ++ ds) M2
def wOx : Iro → EW → Tau → Mem → (Option Int → Mem → Prop) → Prop
  | .none => fun E τ M Q => Q none M
  | .some e => fun E τ M Q => wEx e E τ M fun d M1 => match d with
    | .int i => Q (some i) M1
    | _ => False
def wGx : Tg → EW → D → Tau → Mem → (Tau → Mem → Prop) → Prop
  | .nm i => fun E d τ M Q => Q (τ.set i (some d)) M
  | .tp ts => fun E d τ M Q => match d with
    | .tup ds => ds.length = ts.len ∧ wGsx ts E ds τ M Q
    | _ => False
  | .sub a i => fun E d τ M Q => wEx a E τ M fun x M1 => wEx i E τ M1 fun y M2 => setF x y d M2 fun M3 => Q τ M3
def wGsx : Tgs → EW → List D → Tau → Mem → (Tau → Mem → Prop) → Prop
  | .nil => fun E ds τ M Q => match ds with
    | [] => Q τ M
    | _ => False
  | .cons t r => fun E ds τ M Q => match ds with
    | d :: ds => wGx t E d τ M fun τ1 M1 => wGsx r E ds τ1 M1 Q
    | [] => False
def wIx : Wk → EW → Tau → Mem → (Src → Mem → Prop) → Prop
  | .ex e => fun E τ M Q => wEx e E τ M fun d M1 => itF d M1 Q
  | .rg1 a => fun E τ M Q => wEx a E τ M fun d M1 => rgF (.int 0) d M1 Q
  | .rg2 a b => fun E τ M Q => wEx a E τ M fun d M1 => wEx b E τ M1 fun e M2 => rgF d e M2 Q
  | .enm e => fun E τ M Q => wEx e E τ M fun d M1 => enF d M1 Q
  | .zp a b => fun E τ M Q => wEx a E τ M fun d M1 => wEx b E τ M1 fun e M2 => zpF d e M2 Q
end
mutual
def wSx : Is → DTS
  | .asg i e => fun E d τ M => wEx T C e E τ M fun x M1 => d.nx (τ.set i (some x)) M1
  | .asgLc i e t it own => fun E d τ M => wEx T C (.lc e t it own) E τ M fun x M1 => d.nx (τ.set i (some x)) M1
  | .asgLcf i e t it c own => fun E d τ M => wEx T C (.lcf e t it c own) E τ M fun x M1 => d.nx (τ.set i (some x)) M1
  | .asgT t e => fun E d τ M => wEx T C e E τ M fun x M1 => wGx T C t E x τ M1 d.nx
  | .par i j a b => fun E d τ M => wEx T C a E τ M fun x M1 => wEx T C b E τ M1 fun y M2 => d.nx ((τ.set i (some x)).set j (some y)) M2
  | .par3 i j l a b c => fun E d τ M => wEx T C a E τ M fun x M1 => wEx T C b E τ M1 fun y M2 => wEx T C c E τ M2 fun z M3 => d.nx (((τ.set i (some x)).set j (some y)).set l (some z)) M3
  | .ex e => fun E d τ M => wEx T C e E τ M fun _ M1 => d.nx τ M1
  | .ret e => fun E d τ M => wEx T C e E τ M d.rt
  | .retN => fun E d τ M => d.rt .non M
  | .pass => fun E d τ M => d.nx τ M
  | .brk => fun E d τ M => d.bk τ M
  | .cont => fun E d τ M => d.ct τ M
  | .ifs c a b => fun E d τ M => wBx T C c E τ M fun k M1 => if k = true then wSsx a E d τ M1 else wSsx b E d τ M1
  | .whl c b => fun E d τ M => whF (wBx T C c E) (wSsx b E) d τ M
  | .for t it b => fun E d τ M => wIx T C it E τ M fun src M1 => forF (wGx T C t E) (wSsx b E) src.ok d src.items τ M1
  | .never => fun E d τ M => False
def wSsx : Iss → DTS
  | .nil => fun E d τ M => d.nx τ M
  | .cons s r => fun E d τ M => wSx s E { d with nx := wSsx r E d } τ M
end
end
end Fx

set_option maxRecDepth 100000
namespace Fx
open PySem PySem.Spec PyProof.Rows L2
variable {K : PySem.W.Frag} {H H' H1 H2 : Hp} {Cl : Nat → Addr × Str} {W : WX} {X : Cx}

/-! ## calls of the text's own defs -/
/-- room for k calls, nothing being shown -/
def RoomG (k : Nat) (A : Around) : Prop := Room k A ∧ A.guards = some []
theorem RoomG.mono {j k : Nat} {A : Around} (r : RoomG k A) (h : j ≤ k) : RoomG j A := ⟨r.1.mono h, r.2⟩
/-- the def at f keeps the promise sp -/
structure FnG (P : Program) (w : World) (K : PySem.W.Frag) (mg : Str → Option Value) (base : Heap) (k : Nat) (f : Addr) (fd : FuncData) (ps : List Str) (sp : Sp) : Prop where
  runs : ∀ (A : Around) (fr : List Env) (s : Shared) (H : Hp) (args : Args) (us : List Value) (vs : List V) (Q : VK) (E : XK),
    RoomG k A → Env0 P w K mg base A fr s H → BindsTo s fd args (ps.zip us) → Vals vs us → sp vs H Q E →
    codeAny (model P w) A (.call (.ref f) args) (CR (L2.CX P w) fr P w H s Q E) s
/-- a contract as a promise -/
def spD (K : PySem.W.Frag) (Cl : Nat → Addr × Str) (n : Nat) (d : DSp) : Sp := fun vs H Q E => vs.length = n ∧ ∃ ds M e q, Reps K H ds vs ∧ MR K H M ∧ d ds M e q ∧ QR K H q Q ∧
  ∀ (x : Exn) (H' : Hp) (dx : Addr) (v : V) (M' : Mem), Keep H H' → H' dx = some (.xd [((Cl x.cls).2, v)]) → Rep K H' x.arg v → MR K H' M' → e x M' → E (.ref (Cl x.cls).1) (some dx) H'
/-- one way to call: name, how many by place, names of the others -/
structure Form where
  nm : Str
  np : Nat
  ks : List Str
def pick {α : Type} (p : List Nat) (xs : List α) : List α := p.filterMap fun i => xs[i]?
structure CallOk (P : Program) (w : World) (K : PySem.W.Frag) (mg : Str → Option Value) (base : Heap) (A : Around) (Cl : Nat → Addr × Str) (fm : Form) (d : DSp) : Prop where
  ex : ∃ (f : Addr) (fd : FuncData) (k : Nat) (ps : List Str) (d0 : DSp) (pm : List Nat) (dd : List D) (dw : List V) (dv : List Value),
    mg fm.nm = some (.ref f) ∧ PySem.W.keepIn K (.ref f) = true ∧ RoomG k A ∧ FnG P w K mg base k f fd ps (spD K Cl ps.length d0) ∧
    (∀ H, Reps K H dd dw) ∧ Vals dw dv ∧ (∀ n, n ∈ pm → n < fm.np + fm.ks.length) ∧ pm.length + dv.length = ps.length ∧
    (∀ (s : Shared) (us ws : List Value), K.In s.heap → us.length = fm.np → ws.length = fm.ks.length → BindsTo s fd ⟨us, fm.ks.zip ws⟩ (ps.zip (pick pm (us ++ ws) ++ dv))) ∧
    ∀ ds M e q, ds.length = fm.np + fm.ks.length → d ds M e q → d0 (pick pm ds ++ dd) M e q
theorem vpick {vs : List V} {us : List Value} (r : Vals vs us) : ∀ p : List Nat, Vals (pick p vs) (pick p us)
  | [] => .nil
  | i :: p => by
    unfold Fx.pick
    rw [List.filterMap_cons, List.filterMap_cons]
    cases e : vs[i]? with
    | none =>
      rw [r.none_of e]
      exact vpick r p
    | some v =>
      obtain ⟨u, h1, h2⟩ := r.get e
      rw [h1]
      exact .cons h2 (vpick r p)
theorem Reps.none_of {ds : List D} {vs : List V} {i : Nat} (r : Reps K H ds vs) (e : ds[i]? = none) : vs[i]? = none := by
  have h1 := r.len
  have h2 : ds.length ≤ i := List.getElem?_eq_none_iff.mp e
  exact List.getElem?_eq_none_iff.mpr (by omega)
theorem Reps.pick {ds : List D} {vs : List V} (r : Reps K H ds vs) : ∀ p : List Nat, Reps K H (Fx.pick p ds) (Fx.pick p vs)
  | [] => Reps.nil
  | i :: p => by
    unfold Fx.pick
    rw [List.filterMap_cons, List.filterMap_cons]
    cases e : ds[i]? with
    | none =>
      rw [r.none_of e]
      exact Reps.pick r p
    | some d =>
      obtain ⟨u, h1, h2⟩ := r.get e
      rw [h1]
      exact Reps.cons h2 (Reps.pick r p)
theorem pick_len {α : Type} {xs : List α} : ∀ p : List Nat, (∀ n, n ∈ p → n < xs.length) → (pick p xs).length = p.length
  | [], _ => rfl
  | i :: p, h => by
    unfold pick
    rw [List.filterMap_cons, List.getElem?_eq_getElem (h i (by simp))]
    have ih := pick_len (xs := xs) p fun n hn => h n (by simp [hn])
    unfold pick at ih
    simp [ih]
/-- the call itself -/
theorem call_run {fm : Form} {d : DSp} {pins : List (Addr × Obj)} {s : Shared} {σ : L2.St} {Q : VK} {us ws : List Value} {vs zs : List V} {f : Addr} {τ : Tau} {M : Mem} {ds gs : List D} {E : EW} {q : QD}
    (c : CallOk X.prog X.w X.K X.mg X.base X.A Cl fm d) (hf : X.mg fm.nm = some (.ref f)) (tk : Takes X W) (I : Inv X pins σ H s) (r : Vals vs us) (rz : Vals zs ws) (hr : Reps X.K H ds vs) (hz : Reps X.K H gs zs)
    (sl : SlR X.K H σ τ) (m : MR X.K H M) (xc : XC X.K Cl W H E) (l1 : ds.length = fm.np) (l2 : gs.length = fm.ks.length) (h : d (ds ++ gs) M (fun e M' => E e τ M') q) (hq : QR X.K H q Q) :
    wpAny (model X.prog X.w) X.A (call (.ref f) us (fm.ks.zip ws)) (EP X pins σ Q) X.xe s := by
  obtain ⟨f', fd, k, ps, d0, pm, dd, dw, dv, hm, hk, room, F, hdd, hdv, hpm, hl, hb, hd⟩ := c.ex
  rw [hf] at hm
  cases hm
  have n1 : us.length = fm.np := by rw [← r.length, hr.len, l1]
  have n2 : ws.length = fm.ks.length := by rw [← rz.length, hz.len, l2]
  have rv := L2.Vals.append (vpick (L2.Vals.append r rz) pm) hdv
  have rd := ((hr.app hz).pick pm).app (hdd H)
  have hn : (pick pm (vs ++ zs) ++ dw).length = ps.length := by
    rw [List.length_append, pick_len pm fun n hn => ?_, hdv.length]
    · exact hl
    · have := hpm n hn
      rw [List.length_append, hr.len, hz.len, l1, l2]
      exact this
  refine wpAny_call (codeAny_mono (F.runs X.A X.stack s H ⟨us, fm.ks.zip ws⟩ (pick pm (us ++ ws) ++ dv) (pick pm (vs ++ zs) ++ dw) Q (fun c' dx H' => W c' dx σ H') room I.env0 (hb s us ws I.kIn n1 n2) rv ?_) fun res s' hx => ?_)
  · exact ⟨hn, _, M, _, q, rd, m, hd _ _ _ _ (by rw [List.length_append, l1, l2]) h, hq, fun x H' dx v M' k1 e1 r1 m1 z => xc x σ τ H' dx v M' k1 (sl.k k1) e1 r1 m1 z⟩
  · cases res with
    | error e => exact tk _ _ (XE.of_call I (fun _ _ _ z => z) hx)
    | ok fl =>
      cases fl with
      | ret u => exact I.after hx
      | next => exact False.elim hx
      | brk => exact False.elim hx
      | cont => exact False.elim hx

/-! ## rules -/
section
variable {t ta tb tc : DTE} {pos : Pos} {a b e : Expr}
/-- a reading of one expression, then a step by values -/
theorem step1 {f : D → Mem → QD → Prop} {σ : L2.St} {Q : VK} {r : V → Hp → VK → Prop} (h : teD K Cl W (fun E τ M Q => ta E τ M fun x M1 => f x M1 Q) σ H Q)
    (g : ∀ H1 M1 x xv q, Keep H H1 → MR K H1 M1 → Rep K H1 x xv → f x M1 q → QR K H1 q Q → r xv H1 Q) : teD K Cl W ta σ H fun xv H1 => r xv H1 Q := by
  obtain ⟨τ, M, E, q, sl, m, xc, h, k⟩ := h
  exact ⟨τ, M, E, _, sl, m, xc, h, fun v H1 x M1 k1 r1 m1 h1 => g H1 M1 x v q k1 m1 r1 h1 (QR.k k k1)⟩
theorem step2 {f : D → D → Mem → QD → Prop} {σ : L2.St} {Q : VK} {r : R2} (h : teD K Cl W (fun E τ M Q => ta E τ M fun x M1 => tb E τ M1 fun y M2 => f x y M2 Q) σ H Q)
    (g : ∀ H2 M2 x y xv yv q, Keep H H2 → MR K H2 M2 → Rep K H2 x xv → Rep K H2 y yv → f x y M2 q → QR K H2 q Q → r xv yv H2 Q) : tOp r (teD K Cl W ta) (teD K Cl W tb) σ H Q := by
  obtain ⟨τ, M, E, q, sl, m, xc, h, k⟩ := h
  refine ⟨τ, M, E, _, sl, m, xc, h, fun v H1 x M1 k1 r1 m1 h1 => ⟨τ, M1, E, _, sl.k k1, m1, xc.k k1, h1, fun w H2 y M2 k2 r2 m2 h2 => ?_⟩⟩
  exact g H2 M2 x y v w q (k1.trans k2) m2 (r1.k k2) r2 h2 (QR.k k (k1.trans k2))
theorem d_c {d : D} {v : V} (h : PE X e (tC v)) (r : ∀ H, Rep X.K H d v) : PE X e (teD X.K Cl W fun E τ M Q => Q d M) :=
  PEi h fun σ H Q ⟨τ, M, E, q, sl, m, xc, h, k⟩ => QR.now k (r H) m h
theorem d_v {i : Nat} {x : Str} (hN : X.N[i]? = some x) (hv : Vis X.env.scope x) (hd : (x == ("__debug__" : Str)) = false) (hcd : (x == ("__classdict__" : Str)) = false) :
    PE X (.Name x pos) (teD X.K Cl W fun E τ M Q => getV τ i fun d => Q d M) := by
  refine PEi (pe_var (i := i) hN hv hd hcd) ?_
  rintro σ H Q ⟨τ, M, E, q, sl, m, xc, h, k⟩
  unfold getV at h
  split at h
  · rename_i d e
    obtain ⟨v, e2, r⟩ := sl.2 i d e
    exact ⟨v, e2, QR.now k r m h⟩
  · exact h.elim
theorem d_bin {op : Operator} (ha : PE X a (teD X.K Cl W ta)) (hb : PE X b (teD X.K Cl W tb)) : PE X (.BinOp a op b pos) (teD X.K Cl W fun E τ M Q => ta E τ M fun x M1 => tb E τ M1 fun y M2 => opF op x y M2 Q) := by
  obtain ⟨r, ho, hd⟩ := opF_ok (X := X) op
  refine PEi (pe_op ho ha hb) fun σ H Q h => step2 h fun H2 M2 x y xv yv q k m rx ry hf hq => hd H2 M2 x y xv yv q Q m rx ry hf hq
theorem d_neg (ha : PE X a (teD X.K Cl W ta)) : PE X (.UnaryOp .USub a pos) (teD X.K Cl W fun E τ M Q => ta E τ M fun x M1 => negF x M1 Q) := by
  refine PEi (pe_un un_neg ha) fun σ H Q h => step1 (r := fun x H1 Q => rU (fun i => .int (-i)) x H1 Q) h fun H1 M1 x xv q k m r hf hq => ?_
  cases x <;> simp only [negF] at hf <;> try exact hf.elim
  rw [repI] at r
  subst r
  exact ⟨_, rfl, hq.now (repI.2 rfl) m hf⟩
theorem d_nt (ha : PE X a (teD X.K Cl W ta)) : PE X (.UnaryOp .Not a pos) (teD X.K Cl W fun E τ M Q => ta E τ M fun x M1 => truF x M1 fun k => Q (.bl (!k)) M1) := by
  refine PEi (pe_notT ha) fun σ H Q h => step1 (f := fun x M1 Q => truF x M1 fun k => Q (.bl (!k)) M1) (r := fun x H1 Q => ∃ k, TruV X.K x H1 k ∧ Q (.bl (!k)) H1) h fun H1 M1 x xv q k m r hf hq => ?_
  obtain ⟨k, t, z⟩ := truF_ok m r hf
  exact ⟨k, t, hq.now (repB.2 rfl) m z⟩
theorem d_cmp {op : CmpOp} (hu : X.A.units + 64 < cLine) (hm : behindInMarks op b = false) (ha : PE X a (teD X.K Cl W ta)) (hb : PE X b (teD X.K Cl W tb)) :
    PE X (.Compare a [op] [b] pos) (teD X.K Cl W fun E τ M Q => ta E τ M fun x M1 => tb E τ M1 fun y M2 => cmpF op x y M2 fun k => Q (.bl k) M2) := by
  obtain ⟨r, ho, hd⟩ := cmpF_ok (X := X) hu op
  exact PEi (pe_cmpR ho ha hb hm) fun σ H Q h => step2 (f := fun x y M Q => cmpF op x y M fun k => Q (.bl k) M) h fun H2 M2 x y xv yv q k m rx ry hf hq => hd H2 M2 x y xv yv _ Q m rx ry hf fun b hb => hq.now (repB.2 rfl) m hb
theorem dt_cmp {op : CmpOp} (hu : X.A.units + 64 < cLine) (hm : behindInMarks op b = false) (ha : PE X a (teD X.K Cl W ta)) (hb : PE X b (teD X.K Cl W tb)) :
    PT X (.Compare a [op] [b] pos) (ttD X.K Cl W fun E τ M Q => ta E τ M fun x M1 => tb E τ M1 fun y M2 => cmpF op x y M2 fun k => Q k M2) := by
  obtain ⟨r, ho, hd⟩ := cmpF_ok (X := X) hu op
  refine PTi (pt_cmpR ho ha hb hm) ?_
  rintro σ H Q ⟨τ, M, E, q, sl, m, xc, h, k⟩
  refine ⟨τ, M, E, _, sl, m, xc, h, fun v H1 x M1 k1 r1 m1 h1 => ⟨τ, M1, E, _, sl.k k1, m1, xc.k k1, h1, fun w H2 y M2 k2 r2 m2 h2 => ?_⟩⟩
  exact hd H2 M2 x y v w _ _ m2 (r1.k k2) r2 h2 fun b hb => ⟨b, rfl, k b H2 M2 (k1.trans k2) m2 hb⟩
theorem chain_ok {op op' : CmpOp} {r r' : R2} (hd : CmpD K (cmpF op) r) (hd' : CmpD K (cmpF op') r') {σ : L2.St} {Q : VK} {q : Bool → Mem → Prop} {τ : Tau} {M : Mem} {E : EW} (sl : SlR K H σ τ) (m : MR K H M) (xc : XC K Cl W H E)
    (h : ta E τ M fun x M1 => tb E τ M1 fun y M2 => cmpF op x y M2 fun k => if k = true then tc E τ M2 fun z M3 => cmpF op' y z M3 fun k' => q k' M3 else q false M2)
    (k : ∀ b H' M', Keep H H' → MR K H' M' → q b M' → Q (.bl b) H') : tChain r r' (teD K Cl W ta) (teD K Cl W tb) (teD K Cl W tc) σ H Q := by
  refine ⟨τ, M, E, _, sl, m, xc, h, fun v H1 x M1 k1 r1 m1 h1 => ⟨τ, M1, E, _, sl.k k1, m1, xc.k k1, h1, fun w H2 y M2 k2 r2 m2 h2 => ?_⟩⟩
  refine hd H2 M2 x y v w _ _ m2 (r1.k k2) r2 h2 fun b hb => ⟨b, rfl, ?_⟩
  cases b with
  | true =>
    rw [if_pos rfl] at hb ⊢
    refine ⟨τ, M2, E, _, sl.k (k1.trans k2), m2, xc.k (k1.trans k2), hb, fun z H3 y3 M3 k3 r3 m3 h3 => ?_⟩
    exact hd' H3 M3 y y3 w z _ _ m3 (r2.k k3) r3 h3 fun b' hb' => k b' H3 M3 ((k1.trans k2).trans k3) m3 hb'
  | false =>
    rw [if_neg Bool.false_ne_true] at hb ⊢
    exact k false H2 M2 (k1.trans k2) m2 hb
theorem d_cmp2 {op op' : CmpOp} {c : Expr} (hu : X.A.units + 64 < cLine) (hm : lastMarks [op, op'] [b, c] = false) (ha : PE X a (teD X.K Cl W ta)) (hb : PE X b (teD X.K Cl W tb)) (hc : PE X c (teD X.K Cl W tc)) :
    PE X (.Compare a [op, op'] [b, c] pos) (teD X.K Cl W fun E τ M Q => ta E τ M fun x M1 => tb E τ M1 fun y M2 => cmpF op x y M2 fun k => if k = true then tc E τ M2 fun z M3 => cmpF op' y z M3 fun k' => Q (.bl k') M3 else Q (.bl false) M2) := by
  obtain ⟨r, ho, hd⟩ := cmpF_ok (X := X) hu op
  obtain ⟨r', ho', hd'⟩ := cmpF_ok (X := X) hu op'
  refine PEi (pe_chain ho ho' ha hb hc hm) ?_
  rintro σ H Q ⟨τ, M, E, q, sl, m, xc, h, k⟩
  exact chain_ok (q := fun b M => q (.bl b) M) hd hd' sl m xc h fun b H' M' k1 m1 h1 => k _ H' _ M' k1 (repB.2 rfl) m1 h1
theorem dt_cmp2 {op op' : CmpOp} {c : Expr} (hu : X.A.units + 64 < cLine) (hm : lastMarks [op, op'] [b, c] = false) (ha : PE X a (teD X.K Cl W ta)) (hb : PE X b (teD X.K Cl W tb)) (hc : PE X c (teD X.K Cl W tc)) :
    PT X (.Compare a [op, op'] [b, c] pos) (ttD X.K Cl W fun E τ M Q => ta E τ M fun x M1 => tb E τ M1 fun y M2 => cmpF op x y M2 fun k => if k = true then tc E τ M2 fun z M3 => cmpF op' y z M3 fun k' => Q k' M3 else Q false M2) := by
  obtain ⟨r, ho, hd⟩ := cmpF_ok (X := X) hu op
  obtain ⟨r', ho', hd'⟩ := cmpF_ok (X := X) hu op'
  refine PTi (pt_chain ho ho' ha hb hc hm) ?_
  rintro σ H Q ⟨τ, M, E, q, sl, m, xc, h, k⟩
  exact chain_ok (q := q) hd hd' sl m xc h fun b H' M' k1 m1 h1 => ⟨b, rfl, k b H' M' k1 m1 h1⟩
theorem d_and {rest : List Expr} (ha : PE X a (teD X.K Cl W ta)) (hb : PE X (.BoolOp .And (b :: rest) pos) (teD X.K Cl W tb)) :
    PE X (.BoolOp .And (a :: b :: rest) pos) (teD X.K Cl W fun E τ M Q => ta E τ M fun x M1 => truF x M1 fun k => if k = true then tb E τ M1 Q else Q x M1) := by
  refine PEi (pe_andT ha hb) ?_
  rintro σ H Q ⟨τ, M, E, q, sl, m, xc, h, k⟩
  refine ⟨τ, M, E, _, sl, m, xc, h, fun v H1 x M1 k1 r1 m1 h1 => ?_⟩
  obtain ⟨c, t, z⟩ := truF_ok m1 r1 h1
  refine ⟨c, t, ?_⟩
  cases c with
  | true =>
    rw [if_pos rfl] at z ⊢
    exact ⟨τ, M1, E, q, sl.k k1, m1, xc.k k1, z, QR.k k k1⟩
  | false =>
    rw [if_neg Bool.false_ne_true] at z ⊢
    exact k _ H1 _ M1 k1 r1 m1 z
theorem d_or {rest : List Expr} (ha : PE X a (teD X.K Cl W ta)) (hb : PE X (.BoolOp .Or (b :: rest) pos) (teD X.K Cl W tb)) :
    PE X (.BoolOp .Or (a :: b :: rest) pos) (teD X.K Cl W fun E τ M Q => ta E τ M fun x M1 => truF x M1 fun k => if k = true then Q x M1 else tb E τ M1 Q) := by
  refine PEi (pe_orT ha hb) ?_
  rintro σ H Q ⟨τ, M, E, q, sl, m, xc, h, k⟩
  refine ⟨τ, M, E, _, sl, m, xc, h, fun v H1 x M1 k1 r1 m1 h1 => ?_⟩
  obtain ⟨c, t, z⟩ := truF_ok m1 r1 h1
  refine ⟨c, t, ?_⟩
  cases c with
  | true =>
    rw [if_pos rfl] at z ⊢
    exact k _ H1 _ M1 k1 r1 m1 z
  | false =>
    rw [if_neg Bool.false_ne_true] at z ⊢
    exact ⟨τ, M1, E, q, sl.k k1, m1, xc.k k1, z, QR.k k k1⟩
/-- behind a test -/
theorem after_test {tt : DTT} {A B : Tau → Mem → QD → Prop} {u v : TE} {σ : L2.St} {Q : VK} (h : teD K Cl W (fun E τ M Q => tt E τ M fun k M1 => if k = true then ta E τ M1 Q else tb E τ M1 Q) σ H Q) :
    tIf (ttD K Cl W tt) (teD K Cl W ta) (teD K Cl W tb) σ H Q := by
  obtain ⟨τ, M, E, q, sl, m, xc, h, k⟩ := h
  refine ⟨τ, M, E, _, sl, m, xc, h, fun b H1 M1 k1 m1 h1 => ?_⟩
  cases b with
  | true =>
    rw [if_pos rfl] at h1 ⊢
    exact ⟨τ, M1, E, q, sl.k k1, m1, xc.k k1, h1, QR.k k k1⟩
  | false =>
    rw [if_neg Bool.false_ne_true] at h1 ⊢
    exact ⟨τ, M1, E, q, sl.k k1, m1, xc.k k1, h1, QR.k k k1⟩
theorem d_ite {c : Expr} {tt : DTT} (hc : PT X c (ttD X.K Cl W tt)) (ha : PE X a (teD X.K Cl W ta)) (hb : PE X b (teD X.K Cl W tb)) :
    PE X (.IfExp c a b pos) (teD X.K Cl W fun E τ M Q => tt E τ M fun k M1 => if k = true then ta E τ M1 Q else tb E τ M1 Q) :=
  PEi (pe_ifExp hc ha hb) fun σ H Q h => after_test (A := fun _ _ _ => True) (B := fun _ _ _ => True) (u := fun _ _ _ => True) (v := fun _ _ _ => True) h
theorem d_tup {es : List Expr} {n : Nat} {t : DTA} (h : PA X es (taD X.K Cl W t)) : PE X (.Tuple es n pos) (teD X.K Cl W fun E τ M Q => t E τ M fun ds M1 => ds.length ≤ sizeLine ∧ Q (.tup ds) M1) := by
  refine PEi (pe_tup h) ?_
  rintro σ H Q ⟨τ, M, E, q, sl, m, xc, h, k⟩
  refine ⟨τ, M, E, _, sl, m, xc, h, fun vs H1 ds M1 k1 r1 m1 h1 => ⟨by rw [r1.len]; exact h1.1, fun p hp => ?_⟩⟩
  have kp : Keep H1 (upd H1 p (.tup vs)) := Keep.upd_new hp
  exact k _ _ _ M1 (k1.trans kp) (repT.2 ⟨p, vs, rfl, SqT.of upd_same, r1.k kp⟩) (m1.untold hp) h1.2
theorem d_lst {es : List Expr} {t : DTA} (h : PA X es (taD X.K Cl W t)) : PE X (.List es pos) (teD X.K Cl W fun E τ M Q => t E τ M fun ds M1 => newL ds M1 Q) := by
  refine PEi (pe_lst h) ?_
  rintro σ H Q ⟨τ, M, E, q, sl, m, xc, h, k⟩
  refine ⟨τ, M, E, _, sl, m, xc, h, fun vs H1 ds M1 k1 r1 m1 h1 => ⟨by rw [r1.len]; exact h1.1, fun p hp => ?_⟩⟩
  exact k _ _ _ _ (k1.trans (Keep.upd_new hp)) (repO.2 rfl) (m1.newL hp r1) (h1.2 p (m1.free hp))
theorem da_nil : PA X [] (taD X.K Cl W fun E τ M Q => Q [] M) := PAi pa_nil fun σ H Q ⟨τ, M, E, q, sl, m, xc, h, k⟩ => k _ H _ M (Keep.refl H) Reps.nil m h
theorem da_cons {es : List Expr} {t : DTA} (he : PE X e (teD X.K Cl W ta)) (h : PA X es (taD X.K Cl W t)) (hs : starEach (e :: es) X.env = (false, eval e X.env) :: starEach es X.env) :
    PA X (e :: es) (taD X.K Cl W fun E τ M Q => ta E τ M fun d M1 => t E τ M1 fun ds M2 => Q (d :: ds) M2) := by
  refine PAi (pa_cons he h hs) ?_
  rintro σ H Q ⟨τ, M, E, q, sl, m, xc, h, k⟩
  refine ⟨τ, M, E, _, sl, m, xc, h, fun v H1 x M1 k1 r1 m1 h1 => ⟨τ, M1, E, _, sl.k k1, m1, xc.k k1, h1, fun vs H2 ds M2 k2 r2 m2 h2 => ?_⟩⟩
  exact k _ H2 _ M2 (k1.trans k2) (Reps.cons (r1.k k2) r2) m2 h2
end
end Fx

set_option maxRecDepth 100000
namespace Fx
open PySem PySem.Spec PyProof.Rows L2
variable {K : PySem.W.Frag} {H H' H1 H2 : Hp} {Cl : Nat → Addr × Str} {W : WX} {X : Cx}
section
variable {t ta tb tc : DTE} {pos : Pos} {a b e : Expr}

/-! ## subscripts -/
theorem atI_map {ds : List D} {vs : List V} {i : Int} {d : D} (r : Reps K H ds vs) (h : atI ds i = some d) : ∃ v, atI vs i = some v ∧ Rep K H d v := by
  unfold atI at h ⊢
  rw [r.len]
  cases e : ixN ds.length i with
  | none => rw [e] at h; cases h
  | some j =>
    rw [e] at h
    obtain ⟨v, h1, h2⟩ := r.get (i := j) h
    exact ⟨v, h1, h2⟩
theorem atI_ints {ns : List Int} {i n : Int} (h : atI ns i = some n) : atI (ns.map V.int) i = some (.int n) := by
  unfold atI at h ⊢
  rw [List.length_map]
  cases e : ixN ns.length i with
  | none => rw [e] at h; cases h
  | some j =>
    rw [e] at h
    have h' : ns[j]? = some n := h
    show (ns.map V.int)[j]? = some (.int n)
    rw [List.getElem?_map, h']
    rfl
theorem ix_d : OpD K ixF (rIx K) := by
  intro H M x y xv yv q Q m rx ry h hq
  cases x <;> cases y <;> simp only [ixF] at h <;> try exact h.elim
  case str.int z i =>
    rw [repS] at rx; rw [repI] at ry; subst rx ry
    obtain ⟨hz, h⟩ := h
    unfold optF at h
    split at h
    · rename_i c e
      exact .inr (.inr ⟨z, i, c, rfl, rfl, hz, e, hq.now (repS.2 rfl) m h⟩)
    · exact h.elim
  case tup.int ds i =>
    rw [repI] at ry; subst ry
    obtain ⟨p, vs, rfl, t, rs⟩ := repT.1 rx
    unfold optF at h
    split at h
    · rename_i d e
      obtain ⟨v, e2, rv⟩ := atI_map rs e
      exact .inr (.inl ⟨p, vs, i, v, rfl, rfl, t, e2, hq.now rv m h⟩)
    · exact h.elim
  case ob.int p i =>
    rw [repI] at ry; rw [repO] at rx; subst rx ry
    obtain ⟨ds, e0, h⟩ := h
    obtain ⟨vs, t, rs⟩ := m.lst e0
    unfold optF at h
    split at h
    · rename_i d e
      obtain ⟨v, e2, rv⟩ := atI_map rs e
      exact .inl ⟨p, vs, i, v, rfl, rfl, SqL.of t, e2, hq.now rv m h⟩
    · exact h.elim
  case scr.int ns i =>
    rw [repI] at ry; subst ry
    obtain ⟨p, rfl, t⟩ := repR.1 rx
    unfold optF at h
    split at h
    · rename_i d e
      exact .inl ⟨p, _, i, _, rfl, rfl, t.sql, atI_ints e, hq.now (repI.2 rfl) m h⟩
    · exact h.elim
theorem d_ix (hs : PlainIx b) (ha : PE X a (teD X.K Cl W ta)) (hb : PE X b (teD X.K Cl W tb)) : PE X (.Subscript a b pos) (teD X.K Cl W fun E τ M Q => ta E τ M fun x M1 => tb E τ M1 fun y M2 => ixF x y M2 Q) :=
  PEi (pe_ix ix_seq ha hb hs) fun σ H Q h => step2 h fun H2 M2 x y xv yv q k m rx ry hf hq => ix_d H2 M2 x y xv yv q Q m rx ry hf hq
theorem cut_reps {ds : List D} {vs : List V} (r : Reps K H ds vs) (lo hi : Option Int) : Reps K H (cutD ds lo hi) (cutV vs lo hi) := by
  unfold cutD cutV
  rw [r.len]
  exact (r.drop _).take _
theorem cut_whole {α : Type} (ds : List α) (lo hi : Option Int) (h : HT.sIx ds.length 0 lo = 0 ∧ HT.sIx ds.length ds.length hi = ds.length) : cutD ds lo hi = ds := by
  unfold cutD
  rw [h.1, h.2]
  simp
theorem cut_ints (ns : List Int) (lo hi : Option Int) : cutV (ns.map V.int) lo hi = (cutD ns lo hi).map V.int := by
  unfold cutD cutV
  rw [List.length_map, List.map_take, List.map_drop]
def toD (K : PySem.W.Frag) (Cl : Nat → Addr × Str) (W : WX) (t : EW → Tau → Mem → (Option Int → Mem → Prop) → Prop) : TO := fun σ H Q => ∃ τ M E q, SlR K H σ τ ∧ MR K H M ∧ XC K Cl W H E ∧ t E τ M q ∧
  ∀ o H' M', Keep H H' → MR K H' M' → q o M' → Q o H'
theorem do_none : PO X none (toD X.K Cl W fun E τ M Q => Q none M) := ⟨fun pins s σ H Q I ⟨τ, M, E, q, sl, m, xc, h, k⟩ => po_none.run pins s σ H Q I (k _ H M (Keep.refl H) m h)⟩
theorem do_some (ha : PE X a (teD X.K Cl W ta)) : PO X (some a) (toD X.K Cl W fun E τ M Q => ta E τ M fun d M1 => match d with | .int i => Q (some i) M1 | _ => False) := by
  refine ⟨fun pins s σ H Q I ⟨τ, M, E, q, sl, m, xc, h, k⟩ => (po_some ha).run pins s σ H Q I ?_⟩
  refine ⟨τ, M, E, _, sl, m, xc, h, fun v H1 x M1 k1 r1 m1 h1 => ?_⟩
  cases x <;> simp only at h1 <;> try exact h1.elim
  rw [repI] at r1
  subst r1
  exact ⟨_, rfl, k _ H1 M1 k1 m1 h1⟩
theorem d_sl {lo hi : Option Expr} {tl th : EW → Tau → Mem → (Option Int → Mem → Prop) → Prop} {p2 : Pos} (ha : PE X a (teD X.K Cl W ta)) (hl : PO X lo (toD X.K Cl W tl)) (hh : PO X hi (toD X.K Cl W th)) :
    PE X (.Subscript a (.Slice lo hi none p2) pos) (teD X.K Cl W fun E τ M Q => ta E τ M fun x M1 => tl E τ M1 fun l M2 => th E τ M2 fun h M3 => slF x l h M3 Q) := by
  refine PEi (pe_slice ((sl_list.or sl_tupA).or sl_str) ha hl hh) ?_
  rintro σ H Q ⟨τ, M, E, q, sl, m, xc, h, k⟩
  refine ⟨τ, M, E, _, sl, m, xc, h, fun v H1 x M1 k1 r1 m1 h1 => ⟨τ, M1, E, _, sl.k k1, m1, xc.k k1, h1, fun l H2 M2 k2 m2 h2 => ⟨τ, M2, E, _, sl.k (k1.trans k2), m2, xc.k (k1.trans k2), h2, fun u H3 M3 k3 m3 h3 => ?_⟩⟩⟩
  have rx := (r1.k k2).k k3
  have hq : QR X.K H3 q Q := QR.k k ((k1.trans k2).trans k3)
  cases x <;> simp only [slF] at h3 <;> try exact h3.elim
  case str z =>
    rw [repS] at rx; subst rx
    exact .inr ⟨z, rfl, h3.1, hq.now (repS.2 rfl) m3 h3.2⟩
  case tup ds =>
    obtain ⟨p, vs, rfl, t, rs⟩ := repT.1 rx
    refine .inl (.inr ⟨p, vs, rfl, t, fun hw => ?_, fun hw l hl => ?_⟩)
    · rw [rs.len] at hw
      rw [cut_whole ds _ _ hw] at h3
      exact hq.now rx m3 h3
    · exact hq _ _ _ M3 (Keep.upd_new hl) (repT.2 ⟨l, _, rfl, SqT.of upd_same, (cut_reps rs _ _).k (Keep.upd_new hl)⟩) (m3.untold hl) h3
  case ob p =>
    rw [repO] at rx; subst rx
    obtain ⟨ds, e, h3⟩ := h3
    obtain ⟨vs, t, rs⟩ := m3.lst e
    exact .inl (.inl ⟨p, vs, rfl, SqL.of t, fun l hl => hq _ _ _ _ (Keep.upd_new hl) (repO.2 rfl) (m3.newL hl (cut_reps rs _ _)) (h3 l (m3.free hl))⟩)
  case scr ns =>
    obtain ⟨p, rfl, t⟩ := repR.1 rx
    refine .inl (.inl ⟨p, _, rfl, t.sql, fun l hl => ?_⟩)
    rw [cut_ints]
    exact hq _ _ _ _ (Keep.upd_new hl) (repO.2 rfl) (m3.newL hl Reps.of_ints) (h3 l (m3.free hl))

/-! ## built-in functions, methods -/
theorem d_blt {b : Blt} {x : Str} {p : Pos} {es : List Expr} {t : DTA} (hc : X.calm = true) (hg : X.A.guards = some []) (hu : X.A.units + 100 < cLine) (gl : Gl X x)
    (hm : (b.imp = true ∧ X.mg x = some b.fn) ∨ (b.imp = false ∧ X.mg x = none ∧ bootBuiltins x = some b.fn)) (hn : x ≠ "__name__") (hdb : (x == ("__debug__" : Str)) = false)
    (ha : PA X (e :: es) (taD X.K Cl W t)) (he : starEach (e :: es) X.env = (false, eval e X.env) :: starEach es X.env) (hpl : (backTo pos (starEach es X.env)).any (·.1) = false) :
    PE X (.Call (.Name x p) (e :: es) [] pos) (teD X.K Cl W fun E τ M Q => t E τ M fun ds M1 => bF b ds M1 Q) := by
  obtain ⟨r, hr, hd⟩ := bF_ok (X := X) hc hg hu b
  have lift : PE X (.Call (.Name x p) (e :: es) [] pos) (tCB r (taD X.K Cl W t)) := by
    rcases hm with ⟨hi, hm⟩ | ⟨hi, hm, hv⟩
    · cases b <;> first | (cases hi; done) | exact pe_callBfun hr gl hm ha hdb he hpl
    · cases b <;> first | (cases hi; done) | exact pe_callB hr gl hm hv ha hn hdb he hpl | exact pe_callTy hr gl hm hv ha hn hdb he hpl
  refine PEi lift ?_
  rintro σ H Q ⟨τ, M, E, q, sl, m, xc, h, k⟩
  exact ⟨τ, M, E, _, sl, m, xc, h, fun vs H1 ds M1 k1 r1 m1 h1 => hd H1 M1 ds vs q Q m1 r1 h1 (QR.k k k1)⟩
theorem kit_ok {T : String} (hT : isiOk T = true) (a : String) (ha : a ∈ ["NoneType", "bool", "int", "str", "tuple", "list"]) : kitB a T = some (decide (a = T) || (decide (T = "int") && decide (a = "bool"))) := by
  have h : T ∈ ["int", "bool", "str", "tuple", "list"] := by simpa [isiOk] using hT
  simp only [List.mem_cons, List.not_mem_nil, or_false] at h ha
  rcases h with rfl | rfl | rfl | rfl | rfl <;> rcases ha with rfl | rfl | rfl | rfl | rfl | rfl <;> decide +kernel
theorem isi_ty {d : D} {v : V} {M : Mem} (m : MR K H M) (r : Rep K H d v) (hd : ∀ a, d = .ob a → ∃ ds, M a = some (.lst ds)) : TyX K H v (.type (tyN d)) := by
  cases d
  case non => rw [repN] at r; subst r; exact .base .non
  case bl b => rw [repB] at r; subst r; exact .base (.bl b)
  case int i => rw [repI] at r; subst r; exact .base (.int i)
  case str x => rw [repS] at r; subst r; exact .base (.str x)
  case tup ds =>
    obtain ⟨a, vs, rfl, t, _⟩ := repT.1 r
    rcases t with (t | ⟨o, t⟩) | ⟨o, its, n, hk, hc, _⟩
    · exact .base (.tup t)
    · exact .fTuple t
    · exact .kTuple hk hc
  case ob a =>
    rw [repO] at r; subst r
    obtain ⟨ds, e⟩ := hd a rfl
    obtain ⟨vs, t, _⟩ := m.lst e
    exact .base (.lst t)
  case scr ns =>
    obtain ⟨a, rfl, t⟩ := repR.1 r
    rcases t.sql with (t | ⟨o, t⟩) | ⟨o, its, n, hk, hc, _⟩
    · exact .base (.lst t)
    · exact .base (.frz t)
    · exact .kList hk hc
theorem tyN_mem (d : D) : tyN d ∈ ["NoneType", "bool", "int", "str", "tuple", "list"] := by cases d <;> simp [tyN]
theorem d_isi {T : String} {p p2 : Pos} {x : Str} (hT : isiOk T = true) (gl : Gl X "isinstance") (hm : X.mg "isinstance" = none) (gl2 : Gl X x) (hm2 : X.mg x = none) (hv : bootBuiltins x = some (.type T)) (hn : x ≠ "__name__") (hdb : (x == ("__debug__" : Str)) = false)
    (ha : PE X e (teD X.K Cl W ta)) (hs : starEach [e, .Name x p2] X.env = [(false, eval e X.env), (false, eval (.Name x p2) X.env)]) :
    PE X (.Call (.Name "isinstance" p) [e, .Name x p2] [] pos) (teD X.K Cl W fun E τ M Q => ta E τ M fun x M1 => isiF T x M1 Q) := by
  refine PEi (pe_callB call_isi gl hm (by decide +kernel) (pa_cons ha (pa_cons (pe_bltn (v := .ty T) gl2 hm2 hv rfl hn hdb) pa_nil) (by rw [hs]; rfl)) (by decide) (by decide) (by rw [hs]; rfl) (by rfl)) fun σ H Q h => ?_
  refine step1 (f := isiF T) (r := fun xv H1 Q => rIsi X.K [xv, .ty T] H1 Q) h fun H1 M1 x xv q k m r hf hq => ?_
  unfold isiF at hf
  split at hf
  · rename_i a
    obtain ⟨ds, e, hf⟩ := hf
    refine ⟨_, _, _, _, _, rfl, .ty T, isi_ty m r (fun b e' => by cases e'; exact ⟨ds, e⟩), kit_ty (kit_ok hT _ (tyN_mem _)), hq.now (repB.2 rfl) m ?_⟩
    have z : (decide (tyN (D.ob a) = T) || (decide (T = "int") && decide (tyN (D.ob a) = "bool"))) = decide (T = "list") := by
      have h : T ∈ ["int", "bool", "str", "tuple", "list"] := by simpa [isiOk] using hT
      simp only [List.mem_cons, List.not_mem_nil, or_false] at h
      rcases h with rfl | rfl | rfl | rfl | rfl <;> rfl
    rw [z]
    exact hf
  · rename_i hne
    exact ⟨_, _, _, _, _, rfl, .ty T, isi_ty m r (fun a e => (hne a e).elim), kit_ty (kit_ok hT _ (tyN_mem x)), hq.now (repB.2 rfl) m hf⟩
theorem d_app {apos : Pos} {o : Expr} {to : DTE} (ho : PE X o (teD X.K Cl W to)) (ha : PE X e (teD X.K Cl W ta)) (hs : starEach [e] X.env = [(false, eval e X.env)]) (hb : attributeBase o "append" X.env (eval o X.env) = eval o X.env) (hl : (apos.endLine == pos.line) = true) :
    PE X (.Call (.Attribute o "append" apos) [e] [] pos) (teD X.K Cl W fun E τ M Q => to E τ M fun x M1 => lstAt x M1 ∧ ta E τ M1 fun y M2 => appF x y M2 Q) := by
  refine PEi (pe_bm PySem.F.plainAttrs_list PySem.F.slot_list_append PySem.F.type_list_append mt_append ho (pa_cons ha pa_nil (by rw [hs]; rfl)) hb (by rw [hs]; rfl) hl (by rw [hs]; rfl) (by rfl)) ?_
  rintro σ H Q ⟨τ, M, E, q, sl, m, xc, h, k⟩
  refine ⟨τ, M, E, _, sl, m, xc, h, fun v H1 x M1 k1 r1 m1 h1 => ?_⟩
  obtain ⟨hl, h1⟩ := h1
  cases x <;> simp only [lstAt] at hl <;> try exact hl.elim
  rename_i p
  obtain ⟨ds, e0⟩ := hl
  rw [repO] at r1
  subst r1
  obtain ⟨vs, t, _⟩ := m1.lst e0
  refine ⟨.inl ⟨rfl, vs, .inl (.inl t)⟩, τ, M1, E, _, sl.k k1, m1, xc.k k1, h1, fun w H2 y M2 k2 r2 m2 h2 => ?_⟩
  simp only [appF] at h2
  obtain ⟨ds2, e2, hz, h2⟩ := h2
  obtain ⟨vs2, t2, rs2⟩ := m2.lst e2
  obtain ⟨kl, ml⟩ := m2.setL e2 (rs2.app (Reps.cons r2 Reps.nil))
  exact ⟨p, vs2, w, rfl, rfl, t2, by rw [rs2.len]; exact hz, k _ _ _ _ ((k1.trans k2).trans kl) (repN.2 rfl) ml h2⟩
theorem da_star {es : List Expr} {t : DTA} {p : Pos} (he : PE X e (teD X.K Cl W ta)) (h : PA X es (taD X.K Cl W t)) :
    PA X (.Starred e p :: es) (taD X.K Cl W fun E τ M Q => ta E τ M fun d M1 => starF d M1 fun gs => t E τ M1 fun ds M2 => Q (gs ++ ds) M2) := by
  refine PAi (StX.pa_star he h rfl) ?_
  rintro σ H Q ⟨τ, M, E, q, sl, m, xc, h, k⟩
  refine ⟨τ, M, E, _, sl, m, xc, h, fun v H1 x M1 k1 r1 m1 h1 => ?_⟩
  have fin : ∀ {gs : List D} {us : List V}, Reps X.K H1 gs us → (t E τ M1 fun ds M2 => q (gs ++ ds) M2) → taD X.K Cl W t σ H1 fun ys H2 => Q (us ++ ys) H2 := fun {gs us} rs z =>
    ⟨τ, M1, E, _, sl.k k1, m1, xc.k k1, z, fun vs H2 ds M2 k2 r2 m2 h2 => k _ H2 _ M2 (k1.trans k2) ((rs.k k2).app r2) m2 h2⟩
  cases x <;> simp only [starF] at h1 <;> try exact h1.elim
  case tup ds => obtain ⟨a, us, rfl, tt, rs⟩ := repT.1 r1; exact ⟨a, us, rfl, .inl tt, fin rs h1⟩
  case scr ns => obtain ⟨a, rfl, tt⟩ := repR.1 r1; exact ⟨a, _, rfl, .inr tt.sql, fin Reps.of_ints h1⟩
  case ob a =>
    rw [repO] at r1
    subst r1
    obtain ⟨ds, e0, h1⟩ := h1
    obtain ⟨us, tt, rs⟩ := m1.lst e0
    exact ⟨a, us, rfl, .inr (SqL.of tt), fin rs h1⟩
end
end Fx

set_option maxRecDepth 100000
namespace Fx
open PySem PySem.Spec PyProof.Rows L2
/-! ## enumerate over a tuple -/
theorem enum_newB {v : Value} {o : Obj} {H : Heap → Prop} (B : Begins v o H) :
    Meets (Builtin.«enumerate.__new__» ⟨[.type "enumerate", v], []⟩) (fun _ R s => H s.heap ∧ R (.ok (.ret (.ref (s.heap.push o).objs.size)))
      { s with heap := (s.heap.push o).push { cls := .type "enumerate", data := .fields #[.none, .bool false, .ref s.heap.objs.size, rawInt 0, .none, .none] } }) := .of_wp fun prog w A R s h => by
  obtain ⟨hp, g, d, tk, os⟩ := s
  obtain ⟨z1, h⟩ := h
  have hsub := sub_enumerate
  have begun : ∀ {B' : Around} {E : Value → Shared → Prop} {Q : Value → Shared → Prop}, Q (.ref hp.objs.size) ⟨hp.push o, g, d, tk, os⟩ → wpAny (model prog w) B' (pyIter v) Q E ⟨hp, g, d, tk, os⟩ :=
    fun {B' E Q} z => B.iter prog w B' E ⟨hp, g, d, tk, os⟩ Q z1 z
  wp_walk using begun
  refine wpAny_stack_any fun st => wpAny_pure ?_
  split
  · rename_i c _ _ _ _ _
    cases (c == Value.type "enumerate") <;> (wp_walk using begun; exact ⟨_, rfl, h⟩)
  · wp_walk using begun
    exact ⟨_, rfl, h⟩
theorem call_enumB {prog : Program} {w : World} {A : Around} {E : Value → Shared → Prop} {s : Shared} {v : Value} {o : Obj} {H : Heap → Prop} {Q : Value → Shared → Prop} (B : Begins v o H) (z1 : H s.heap)
    (h : ∀ h', IsEnum h' (s.heap.objs.size + 1) s.heap.objs.size 0 .none → h'.get? s.heap.objs.size = some o → (∀ b o, s.heap.get? b = some o → h'.get? b = some o) → Q (.ref (s.heap.objs.size + 1)) { s with heap := h' }) :
    wpAny (model prog w) A (call (.type "enumerate") [v]) Q E s := by
  have hz : (s.heap.push o).objs.size = s.heap.objs.size + 1 := Heap.size_push ..
  have he : IsEnum ((s.heap.push o).push { cls := .type "enumerate", data := .fields #[.none, .bool false, .ref s.heap.objs.size, rawInt 0, .none, .none] }) (s.heap.objs.size + 1) s.heap.objs.size 0 .none := by
    have z := Heap.get?_push_size (s.heap.push o) (o := { cls := .type "enumerate", data := .fields #[.none, .bool false, .ref s.heap.objs.size, rawInt 0, .none, .none] }) rfl
    rw [hz] at z
    exact z
  refine callType_new F.called_enumerate (by decide) (F.typeCall_enumerate_1 _) (F.newCall_enumerate_1 _) (fun obj => F.args_object_init_2 obj _) F.entry_enumerate_new (enum_newB B) ⟨z1, ?_⟩
  show _ ∧ _
  rw [hz]
  exact ⟨⟨_, he, rfl⟩, h _ he (Heap.get?_push_of_some _ (Heap.get?_push_size _ B.free)) fun b o x => Heap.get?_push_of_some _ (Heap.get?_push_of_some _ x)⟩
theorem next_enumT_end {prog : Program} {w : World} {A : Around} {E : Value → Shared → Prop} {s : Shared} {e it t : Addr} {i : Nat} {items : Array Value} {j : Int} {old : Value} {Q : Option Value → Shared → Prop} (hh : A.handled = none)
    (he : IsEnum s.heap e it j old) (hit : s.heap.IsTupleIter it t i) (ht : s.heap.IsTuple t items) (hx : items[i]? = none) (hQ : ∀ h', Heap.ExtBut it s.heap h' → Q none { s with heap := h' }) : wpAny (model prog w) A (pyNext (.ref e)) Q E s := by
  have hT : s.TypeIs (.ref e) "enumerate" := ⟨_, he, rfl⟩
  unfold pyNext
  refine wpAny_bind (wpAny_attempt (wpAny_callSpecial?_slot (name := Str.ofString "__next__") hT F.slot_enumerate_next (wpAny_call_entry F.slot_enumerate_next hT F.entry_enumerate_next ?_ (F.args_enumerate_next_1 _))))
  show wpAny _ _ (field (.ref e) 2 >>= _) _ _ _
  refine wpAny_bind (wpAny_field he rfl (x := .ref it) rfl ?_)
  refine wpAny_bind (wpAny_nextOf_tuple_end (A := A.in1) hh hit ht hx fun h' x k hx' => ?_)
  obtain ⟨o, ho, hc⟩ := hx'
  refine wpAny_bind (wpAny_isInstance (T := "StopIteration") (b := true) ⟨o, ho, hc⟩ isSubtype_stop ?_)
  exact wpAny_pure (hQ _ k)
/-- the tuple at a, each item in a new pair -/
def IteT (K : PySem.W.Frag) (a : Addr) : It :=
  ⟨fun i H => ∃ (xs : List V) (x : V), SqT K H a xs ∧ xs[i]? = some x, fun i H v H' => ∃ T x, v = .ref T ∧ H T = none ∧ H' = upd H T (.tup [.int (i : Nat), x]) ∧ ∀ xs, SqT K H a xs → xs[i]? = some x, fun i H => ∃ xs : List V, SqT K H a xs ∧ xs.length ≤ i⟩
theorem turn_enumT {P : Program} {w : World} {K : PySem.W.Frag} {elts : List Expr} {kk : Nat} {tpos : Pos} (a e it : Addr) :
    Turn P w K (.Tuple elts kk tpos) (IteT K a) [e, it] e (fun i h => (∃ old, IsEnum h e it ((i : Nat) : Int) old) ∧ h.IsTupleIter it a i ∧ e ≠ it ∧ a ≠ it ∧ e ≠ a) where
  mem := by simp
  obj := fun i h st b hb => by
    obtain ⟨⟨old, he⟩, ⟨o, ho, hc, hd⟩, _⟩ := st
    rcases (show b = e ∨ b = it by simpa using hb) with rfl | rfl
    · exact ⟨_, he, fun v q => nomatch q⟩
    · exact ⟨o, ho, fun v q => by rw [hd] at q; cases q⟩
  keep := fun i h h' st k => let ⟨⟨old, he⟩, hi, hne⟩ := st; ⟨⟨old, k e (by simp) _ he⟩, hi.at fun o q => k it (by simp) o q, hne⟩
  item := by
    intro X hP hw hK hc i pins s σ H E I hf st hg
    subst hP hw hK
    obtain ⟨⟨old, he⟩, hit, hne, hai, hea⟩ := st
    obtain ⟨xs, x, hq, hx⟩ := hg
    obtain ⟨its, rv, p, hz⟩ := I.tuple hq
    obtain ⟨u, hu, ru⟩ := rv.get hx
    have hel : e < s.heap.objs.size := Heap.lt_size he
    have hil : it < s.heap.objs.size := by obtain ⟨_, q, _⟩ := hit; exact Heap.lt_size q
    have hlt : i < its.toArray.size := by
      rcases Nat.lt_or_ge i its.length with z | z
      · simpa using z
      · rw [List.getElem?_eq_none z] at hu; cases hu
    refine wpAny_pyNext_enum_itemD (Draws.tuple (A := X.A.in1) (I.ok.hd hc) it a hai its.toArray) he ⟨hit, p⟩ hlt hne (by simp [hne, hea]) fun y h' tk hy ho st' hT hsz hk => ?_
    have hyu : y = u := by
      have : its.toArray[i]? = some y := hy
      rw [show its.toArray[i]? = some u by simpa using hu] at this
      exact (Option.some.inj this).symm
    subst hyu
    refine ⟨_, rfl, wpAny_letOwnedTupleGo_enum (s := { s with heap := h', toks := tk + 1 }) ho fun h'' he' sb => ?_⟩
    have hT2 : h''.get? s.heap.objs.size = some { cls := .type "tuple", data := .seq #[.int i tk, y] } := (sb.2 _ (Nat.ne_of_gt hel)).trans hT
    have new : ObjOk X.prog X.w (upd H s.heap.objs.size (.tup [.int (i : Nat), x])) h'' s.heap.objs.size (.tup [.int (i : Nat), x]) :=
      ⟨by show 2 ≤ sizeLine; decide, [.int i tk, y], .cons ⟨_, rfl⟩ (.cons ru .nil), ⟨_, hT2, rfl, _, rfl⟩⟩
    have I1 : Inv X pins σ (upd H s.heap.objs.size (.tup [.int (i : Nat), x])) { s with heap := h'', toks := tk + 1 } :=
      I.turnedNew (ch := [e, it]) (fun b ob hb q => (sb.2 b (fun z => hb (by simp [z]))).trans (hk b ob (fun z => hb (by simp [z])) (fun z => hb (by simp [z])) q)) hf (Nat.le_refl _) new
    refine ⟨.ref s.heap.objs.size, _, I1, rfl, ⟨_, x, rfl, I.hok.fresh (Nat.le_refl _), rfl, fun ys hy => by rw [I.tuple_inj hy hq]; exact hx⟩, ⟨⟨y, ?_⟩, st'.1.at fun o q => (sb.2 it (Ne.symm hne)).trans q, hne, hai, hea⟩, fun b hb => ?_⟩
    · have e1 : ((i + 1 : Nat) : Int) = (i : Int) + 1 := by omega
      rw [e1]; exact he'
    · have hb' : b < s.heap.objs.size := by
        rcases (show b = e ∨ b = it by simpa using hb) with rfl | rfl
        · exact hel
        · exact hil
      rw [upd_ne (Nat.ne_of_lt hb')]
      exact (hf b hb).1
  done := by
    intro X hP hw hK hc i pins s σ H E I hf st hg
    subst hP hw hK
    obtain ⟨⟨old, he⟩, hit, hne, hai, hea⟩ := st
    obtain ⟨xs, hq, hx⟩ := hg
    obtain ⟨its, rv, p, hz⟩ := I.tuple hq
    obtain ⟨f0, f1, f2, f3, f4, f5⟩ := hf it (by simp)
    have hl := rv.length
    exact next_enumT_end (I.ok.hd hc) he hit p (by simp; omega) fun h' eb => ⟨rfl, I.turned (t' := s.toks) (fun b o hb q => eb b o hb q) f0 f1 f3 f4 f5⟩
  self := fun A i s Q E st h => let ⟨⟨_, he⟩, _⟩ := st; wpAny_pyIter_enum he h
def iEnumA (K : PySem.W.Frag) (ta : TA) : TI := fun σ H R => ta σ H fun vs H1 => ∃ a xs, vs = [.ref a] ∧ ((SqL K H1 a xs ∧ R (Ite K a) H1) ∨ (SqT K H1 a xs ∧ R (IteT K a) H1))
theorem pi_enumA {X : Cx} {e : Expr} {ta : TA} {p pos tpos : Pos} {elts : List Expr} {kk : Nat} (hg : Gl X "enumerate") (hm : X.mg "enumerate" = none) (ha : PA X [e] ta) (hs : starEach [e] X.env = [(false, eval e X.env)]) :
    PI X (.Tuple elts kk tpos) (.Call (.Name "enumerate" p) [e] [] pos) (iEnumA X.K ta) := by
  refine ⟨fun pins s σ H R I h => ?_⟩
  refine Call_ (ld_blt I hg hm boot_enumerate (PyProof.Rows.callWith_type1 (thn (ha.run pos pins s σ H _ I h) fun us s1 ⟨vs, H1, I1, r1, q1⟩ => ?_) hs rfl))
  obtain ⟨a, xs, rfl, q1⟩ := q1
  cases r1 with
  | cons r rr =>
    cases rr
    cases r
    have grow : ∀ b, b = s1.heap.objs.size + 1 ∨ b = s1.heap.objs.size → s1.heap.objs.size ≤ b := by
      rintro b (z | z) <;> omega
    rcases q1 with ⟨hq, q⟩ | ⟨hq, q⟩
    · obtain ⟨its, rv, p', hz⟩ := I1.list hq
      refine call_enumerate_list p'.isList fun h' he hit hsz hk => wpAny_pyIter_enum he ?_
      have I2 : Inv X pins σ H1 { s1 with heap := h' } := I1.kept (t' := s1.toks) hk
      refine ⟨s1.heap.objs.size + 1, [s1.heap.objs.size + 1, s1.heap.objs.size], _, _, H1, rfl, I2, turn_enum a (s1.heap.objs.size + 1) s1.heap.objs.size, ⟨⟨.none, he⟩, hit, Nat.succ_ne_self _⟩, fun b hb => ?_, q⟩
      have hle := grow b (by simpa using hb)
      exact I1.fpOk hle (I1.hok.fresh hle)
    · obtain ⟨its, rv, p', hz⟩ := I1.tuple hq
      have hal : a < s1.heap.objs.size := by obtain ⟨_, z, _⟩ := p'; exact Heap.lt_size z
      refine call_enumB (begins_tuple a its.toArray) p' fun h' he hit hk => wpAny_pyIter_enum he ?_
      have I2 : Inv X pins σ H1 { s1 with heap := h' } := I1.kept (t' := s1.toks) hk
      refine ⟨s1.heap.objs.size + 1, [s1.heap.objs.size + 1, s1.heap.objs.size], _, _, H1, rfl, I2, turn_enumT a (s1.heap.objs.size + 1) s1.heap.objs.size, ⟨⟨.none, he⟩, ⟨_, hit, rfl, rfl⟩, Nat.succ_ne_self _, Nat.ne_of_lt hal, Nat.ne_of_gt (Nat.lt_succ_of_lt hal)⟩, fun b hb => ?_, q⟩
      have hle := grow b (by simpa using hb)
      exact I1.fpOk hle (I1.hok.fresh hle)
end Fx

set_option maxRecDepth 100000
namespace Fx
open PySem PySem.Spec PyProof.Rows L2
variable {K : PySem.W.Frag} {H H' H1 H2 : Hp} {Cl : Nat → Addr × Str} {W : WX} {X : Cx}

/-! ## what is walked -/
/-- the iterator J, made over H0, gives the items of src while src.ok holds -/
structure JR (K : PySem.W.Frag) (H0 : Hp) (J : It) (src : Src) : Prop where
  stop : ∀ H M, Keep H0 H → MR K H M → src.ok M → J.stop src.items.length H
  go : ∀ i H M, i < src.items.length → Keep H0 H → MR K H M → src.ok M → J.go i H
  yld : ∀ i H M x H', i < src.items.length → Keep H0 H → MR K H M → src.ok M → J.yld i H x H' → ∃ d, src.items[i]? = some d ∧ Rep K H' d x ∧ Keep H H' ∧ MR K H' M
abbrev DTI := EW → Tau → Mem → (Src → Mem → Prop) → Prop
def tiD (K : PySem.W.Frag) (Cl : Nat → Addr × Str) (W : WX) (t : DTI) : TI := fun σ H R => ∃ τ M E q, SlR K H σ τ ∧ MR K H M ∧ XC K Cl W H E ∧ t E τ M q ∧
  ∀ J H' src M', Keep H H' → MR K H' M' → src.ok M' → JR K H' J src → q src M' → R J H'
theorem jr_list {a : Addr} {ds : List D} : JR K H (Itl K a) ⟨ds, fun M' => M' a = some (.lst ds)⟩ where
  stop := fun H M k m ok => by
    obtain ⟨vs, t, rs⟩ := m.lst ok
    exact ⟨vs, SqL.of t, by rw [rs.len]; exact Nat.le_refl _⟩
  go := fun i H M hi k m ok => by
    obtain ⟨vs, t, rs⟩ := m.lst ok
    obtain ⟨v, h, _⟩ := rs.get (List.getElem?_eq_getElem hi)
    exact ⟨vs, v, SqL.of t, h⟩
  yld := fun i H M x H' hi k m ok y => by
    obtain ⟨rfl, y⟩ := y
    obtain ⟨vs, t, rs⟩ := m.lst ok
    obtain ⟨v, h, r⟩ := rs.get (List.getElem?_eq_getElem hi)
    have e := y vs (SqL.of t)
    rw [h] at e
    cases e
    exact ⟨_, List.getElem?_eq_getElem hi, r, Keep.refl _, m⟩
theorem jr_tup {a : Addr} {ds : List D} {vs : List V} (t : SqT K H a vs) (rs : Reps K H ds vs) : JR K H (Itt K a) ⟨ds, fun _ => True⟩ where
  stop := fun H M k m ok => ⟨vs, SqT.keep k t, by rw [rs.len]; exact Nat.le_refl _⟩
  go := fun i H M hi k m ok => by
    obtain ⟨v, h, _⟩ := rs.get (List.getElem?_eq_getElem hi)
    exact ⟨vs, v, SqT.keep k t, h⟩
  yld := fun i H M x H' hi k m ok y => by
    obtain ⟨rfl, y⟩ := y
    obtain ⟨v, h, r⟩ := rs.get (List.getElem?_eq_getElem hi)
    have e := y vs (SqT.keep k t)
    rw [h] at e
    cases e
    exact ⟨_, List.getElem?_eq_getElem hi, r.k k, Keep.refl _, m⟩
theorem jr_scr {a : Addr} {ns : List Int} (t : ScrAt K H a ns) : JR K H (Itl K a) ⟨ns.map .int, fun _ => True⟩ where
  stop := fun H M k m ok => ⟨_, (t.keep k).sql, by simp⟩
  go := fun i H M hi k m ok => by
    have hi' : i < ns.length := by simpa using hi
    exact ⟨_, .int ns[i], (t.keep k).sql, by rw [List.getElem?_map, List.getElem?_eq_getElem hi']; rfl⟩
  yld := fun i H M x H' hi k m ok y => by
    have hi' : i < ns.length := by simpa using hi
    obtain ⟨rfl, y⟩ := y
    have e := y _ (t.keep k).sql
    rw [List.getElem?_map, List.getElem?_eq_getElem hi'] at e
    cases e
    exact ⟨.int ns[i], by show (ns.map D.int)[i]? = _; rw [List.getElem?_map, List.getElem?_eq_getElem hi']; rfl, repI.2 rfl, Keep.refl _, m⟩
theorem jr_str {x : Str} : JR K H (Its x) ⟨x.cps.toList.map fun c => .str ⟨#[c]⟩, fun _ => True⟩ where
  stop := fun H M k m ok => by
    show x.cps.size ≤ _
    simp
  go := fun i H M hi k m ok => by
    show i < x.cps.size
    simpa using hi
  yld := fun i H M y H' hi k m ok h => by
    obtain ⟨rfl, c, hc, rfl⟩ := h
    refine ⟨.str ⟨#[c]⟩, ?_, repS.2 rfl, Keep.refl _, m⟩
    show (x.cps.toList.map _)[i]? = _
    rw [List.getElem?_map, Array.getElem?_toList, hc]
    rfl
theorem intsTo_get {n i : Nat} (h : i < n) : (intsTo n)[i]? = some (i : Int) := by
  unfold intsTo
  rw [List.getElem?_map, List.getElem?_range h]
  rfl
theorem intsTo_len (n : Nat) : (intsTo n).length = n := by simp [intsTo]
theorem jr_rng {lo : Int} {n : Nat} : JR K H (L2.Itr lo n) ⟨(intsTo n).map fun k => .int (lo + k), fun _ => True⟩ where
  stop := fun H M k m ok => by
    show n ≤ _
    simp [intsTo_len]
  go := fun i H M hi k m ok => by
    show i < n
    simpa [intsTo_len] using hi
  yld := fun i H M y H' hi k m ok h => by
    have hi' : i < n := by simpa [intsTo_len] using hi
    obtain ⟨rfl, rfl⟩ := h
    refine ⟨.int (lo + i), ?_, repI.2 rfl, Keep.refl _, m⟩
    show ((intsTo n).map _)[i]? = _
    rw [List.getElem?_map, intsTo_get hi']
    rfl
theorem jr_enum {a : Addr} {ds : List D} : JR K H (Ite K a) ⟨ds.zipIdx.map fun p => .tup [.int p.2, p.1], fun M' => M' a = some (.lst ds)⟩ where
  stop := fun H M k m ok => by
    obtain ⟨vs, t, rs⟩ := m.lst ok
    exact ⟨vs, SqL.of t, by rw [rs.len]; simp⟩
  go := fun i H M hi k m ok => by
    have hi' : i < ds.length := by simpa using hi
    obtain ⟨vs, t, rs⟩ := m.lst ok
    obtain ⟨v, h, _⟩ := rs.get (List.getElem?_eq_getElem hi')
    exact ⟨vs, v, SqL.of t, h⟩
  yld := fun i H M x H' hi k m ok y => by
    have hi' : i < ds.length := by simpa using hi
    obtain ⟨vs, t, rs⟩ := m.lst ok
    obtain ⟨v, h, r⟩ := rs.get (List.getElem?_eq_getElem hi')
    obtain ⟨p, z, rfl, hp, rfl, hx⟩ := y
    have e := hx vs (SqL.of t)
    rw [h] at e
    cases e
    have kp : Keep H (upd H p (.tup [.int (i : Nat), v])) := Keep.upd_new hp
    refine ⟨.tup [.int i, ds[i]], ?_, repT.2 ⟨p, _, rfl, SqT.of upd_same, .cons (repI.2 rfl) (.cons (r.k kp) .nil)⟩, kp, m.untold hp⟩
    show (ds.zipIdx.map _)[i]? = _
    rw [List.getElem?_map, List.getElem?_zipIdx, List.getElem?_eq_getElem hi']
    simp
theorem jr_enumT {a : Addr} {ds : List D} {vs : List V} (t : SqT K H a vs) (rs : Reps K H ds vs) : JR K H (IteT K a) ⟨ds.zipIdx.map fun p => .tup [.int p.2, p.1], fun _ => True⟩ where
  stop := fun H M k m ok => ⟨vs, SqT.keep k t, by rw [rs.len]; simp⟩
  go := fun i H M hi k m ok => by
    have hi' : i < ds.length := by simpa using hi
    obtain ⟨v, h, _⟩ := rs.get (List.getElem?_eq_getElem hi')
    exact ⟨vs, v, SqT.keep k t, h⟩
  yld := fun i H M x H' hi k m ok y => by
    have hi' : i < ds.length := by simpa using hi
    obtain ⟨v, h, r⟩ := rs.get (List.getElem?_eq_getElem hi')
    obtain ⟨p, z, rfl, hp, rfl, hx⟩ := y
    have e := hx vs (SqT.keep k t)
    rw [h] at e
    cases e
    have kp : Keep H (upd H p (.tup [.int (i : Nat), v])) := Keep.upd_new hp
    refine ⟨.tup [.int i, ds[i]], ?_, repT.2 ⟨p, _, rfl, SqT.of upd_same, .cons (repI.2 rfl) (.cons ((r.k k).k kp) .nil)⟩, kp, m.untold hp⟩
    show (ds.zipIdx.map _)[i]? = _
    rw [List.getElem?_map, List.getElem?_zipIdx, List.getElem?_eq_getElem hi']
    simp
theorem jr_zipT {a b : Addr} {ds es : List D} {vs ws : List V} (t : SqT K H a vs) (u : SqT K H b ws) (rs : Reps K H ds vs) (ru : Reps K H es ws) : JR K H (RZ.ItzT K a b) ⟨(ds.zip es).map fun p => .tup [p.1, p.2], fun _ => True⟩ where
  stop := fun H M k m ok => by
    refine ⟨vs, ws, SqT.keep k t, SqT.keep k u, ?_⟩
    rw [rs.len, ru.len]
    simp only [List.length_map, List.length_zip]
    omega
  go := fun i H M hi k m ok => by
    have hi' : i < ds.length ∧ i < es.length := by simpa [List.length_zip, Nat.lt_min] using hi
    obtain ⟨v, h, _⟩ := rs.get (List.getElem?_eq_getElem hi'.1)
    obtain ⟨w, g, _⟩ := ru.get (List.getElem?_eq_getElem hi'.2)
    exact ⟨vs, ws, v, w, SqT.keep k t, SqT.keep k u, h, g⟩
  yld := fun i H M x H' hi k m ok y => by
    have hi' : i < ds.length ∧ i < es.length := by simpa [List.length_zip, Nat.lt_min] using hi
    obtain ⟨v, h, r⟩ := rs.get (List.getElem?_eq_getElem hi'.1)
    obtain ⟨w, g, r2⟩ := ru.get (List.getElem?_eq_getElem hi'.2)
    obtain ⟨p, z, z2, rfl, hp, rfl, hx, hy⟩ := y
    have e := hx vs (SqT.keep k t)
    rw [h] at e
    cases e
    have e := hy ws (SqT.keep k u)
    rw [g] at e
    cases e
    have kp : Keep H (upd H p (.tup [v, w])) := Keep.upd_new hp
    refine ⟨.tup [ds[i], es[i]], ?_, repT.2 ⟨p, _, rfl, SqT.of upd_same, .cons ((r.k k).k kp) (.cons ((r2.k k).k kp) .nil)⟩, kp, m.untold hp⟩
    show ((ds.zip es).map _)[i]? = _
    rw [List.getElem?_map, List.getElem?_eq_getElem (by simpa [List.length_zip, Nat.lt_min] using hi')]
    simp
section
variable {tg : Expr} {pos : Pos}
theorem it_list {pins : List (Addr × Obj)} {σ : L2.St} {s : Shared} {a : Addr} {xs : List V} {R : It → Hp → Prop} (I : Inv X pins σ H s) (h : SqL X.K H a xs) (q : R (Itl X.K a) H) :
    wpAny (model X.prog X.w) X.A (pyIter (.ref a)) (PIE X pins σ tg R) X.xe s := by
  obtain ⟨us, _, pl, _⟩ := I.list h
  refine wpAny_pyIter_list pl.isList ⟨s.heap.objs.size, [s.heap.objs.size], _, _, H, rfl, ?_, turn_list a _, ⟨_, Heap.get?_push_size _ rfl, rfl, rfl⟩, ?_, q⟩
  · exact I.kept (t' := s.toks) fun _ _ e => Heap.get?_push_of_some _ e
  · intro b hb
    cases List.mem_singleton.mp hb
    exact I.fpOk (Nat.le_refl _) (I.hok.fresh (Nat.le_refl _))
theorem it_tup {pins : List (Addr × Obj)} {σ : L2.St} {s : Shared} {a : Addr} {xs : List V} {R : It → Hp → Prop} (I : Inv X pins σ H s) (h : SqT X.K H a xs) (q : R (Itt X.K a) H) :
    wpAny (model X.prog X.w) X.A (pyIter (.ref a)) (PIE X pins σ tg R) X.xe s := by
  obtain ⟨us, _, pl, _⟩ := I.tuple h
  refine wpAny_pyIter_tuple (show s.heap.IsTuple a us.toArray from pl) ⟨s.heap.objs.size, [s.heap.objs.size], _, _, H, rfl, ?_, turn_tuple a _, ⟨_, Heap.get?_push_size _ rfl, rfl, rfl⟩, ?_, q⟩
  · exact I.kept (t' := s.toks) fun _ _ e => Heap.get?_push_of_some _ e
  · intro b hb
    cases List.mem_singleton.mp hb
    exact I.fpOk (Nat.le_refl _) (I.hok.fresh (Nat.le_refl _))
theorem di_ex {e : Expr} {ta : DTE} (he : PE X e (teD X.K Cl W ta)) : PI X tg e (tiD X.K Cl W fun E τ M Q => ta E τ M fun d M1 => itF d M1 Q) := by
  refine ⟨fun pins s σ H R I ⟨τ, M, E, q, sl, m, xc, h, k⟩ => ?_⟩
  refine thn (he.run pins s σ H (fun v H1 => ∃ d M1, Keep H H1 ∧ Rep X.K H1 d v ∧ MR X.K H1 M1 ∧ itF d M1 q) I ⟨τ, M, E, _, sl, m, xc, h, fun v H1 x M1 k1 r1 m1 h1 => ⟨x, M1, k1, r1, m1, h1⟩⟩) fun u s1 hh => ?_
  obtain ⟨v, H1, I1, ru, d, M1, k1, r1, m1, h1⟩ := hh
  cases d <;> simp only [itF] at h1 <;> try exact h1.elim
  case str x =>
    rw [repS] at r1
    subst r1
    obtain ⟨t, rfl⟩ := ru
    have q' := k (Its x) H1 _ M1 k1 m1 trivial jr_str h1
    cases ha : x.cps.all (· < 128)
    · exact wpAny_pyIter_wide ha (pi_one (tk := s1.toks) I1 _ (turn_str _ x t "str_iterator" (.inr rfl)) ⟨_, Heap.get?_push_size _ rfl, rfl, rfl⟩ q')
    · exact wpAny_pyIter_ascii ha (pi_one (tk := s1.toks) I1 _ (turn_str _ x t "str_ascii_iterator" (.inl rfl)) ⟨_, Heap.get?_push_size _ rfl, rfl, rfl⟩ q')
  case tup ds =>
    obtain ⟨a, vs, rfl, t, rs⟩ := repT.1 r1
    cases ru
    exact it_tup I1 t (k _ H1 _ M1 k1 m1 trivial (jr_tup t rs) h1)
  case ob a =>
    rw [repO] at r1
    subst r1
    cases ru
    obtain ⟨ds, e, h1⟩ := h1
    obtain ⟨vs, t, rs⟩ := m1.lst e
    exact it_list I1 (SqL.of t) (k _ H1 _ M1 k1 m1 e jr_list h1)
  case scr ns =>
    obtain ⟨a, rfl, t⟩ := repR.1 r1
    cases ru
    exact it_list I1 t.sql (k _ H1 _ M1 k1 m1 trivial (jr_scr t) h1)
theorem di_rg1 {a : Expr} {ta : DTE} {p : Pos} (hg : Gl X "range") (hm : X.mg "range" = none) (ha : PE X a (teD X.K Cl W ta)) (hs : starEach [a] X.env = [(false, eval a X.env)]) :
    PI X tg (.Call (.Name "range" p) [a] [] pos) (tiD X.K Cl W fun E τ M Q => ta E τ M fun d M1 => rgF (.int 0) d M1 Q) := by
  refine PIi (pi_range1 hg hm (pa_cons ha pa_nil (by rw [hs]; rfl)) hs) ?_
  rintro σ H R ⟨τ, M, E, q, sl, m, xc, h, k⟩
  refine ⟨τ, M, E, _, sl, m, xc, h, fun v H1 x M1 k1 r1 m1 h1 => ?_⟩
  cases x <;> simp only [rgF] at h1 <;> try exact h1.elim
  rw [repI] at r1
  subst r1
  rename_i hi
  refine ⟨hi, rfl, h1.1.2.2.1, h1.1.2.2.2, ?_⟩
  have q' := k (L2.Itr 0 (hi - 0).toNat) H1 _ M1 k1 m1 trivial jr_rng h1.2
  rwa [Int.sub_zero] at q'
theorem di_rg2 {a b : Expr} {ta tb : DTE} {p : Pos} (hg : Gl X "range") (hm : X.mg "range" = none) (ha : PE X a (teD X.K Cl W ta)) (hb : PE X b (teD X.K Cl W tb))
    (hs : starEach [a, b] X.env = [(false, eval a X.env), (false, eval b X.env)]) (hs2 : starEach [b] X.env = [(false, eval b X.env)]) :
    PI X tg (.Call (.Name "range" p) [a, b] [] pos) (tiD X.K Cl W fun E τ M Q => ta E τ M fun d M1 => tb E τ M1 fun e M2 => rgF d e M2 Q) := by
  refine PIi (pi_range2 hg hm (pa_cons ha (pa_cons hb pa_nil (by rw [hs2]; rfl)) (by rw [hs, hs2])) hs hs2) ?_
  rintro σ H R ⟨τ, M, E, q, sl, m, xc, h, k⟩
  refine ⟨τ, M, E, _, sl, m, xc, h, fun v H1 x M1 k1 r1 m1 h1 => ⟨τ, M1, E, _, sl.k k1, m1, xc.k k1, h1, fun w H2 y M2 k2 r2 m2 h2 => ?_⟩⟩
  cases x <;> cases y <;> simp only [rgF] at h2 <;> try exact h2.elim
  rw [repI] at r1 r2
  subst r1 r2
  exact ⟨_, _, rfl, h2.1, k (L2.Itr _ _) H2 _ M2 (k1.trans k2) m2 trivial jr_rng h2.2⟩
theorem di_enm {e : Expr} {ta : DTE} {elts : List Expr} {kk : Nat} {p tpos : Pos} (hg : Gl X "enumerate") (hm : X.mg "enumerate" = none) (ha : PE X e (teD X.K Cl W ta)) (hs : starEach [e] X.env = [(false, eval e X.env)]) :
    PI X (.Tuple elts kk tpos) (.Call (.Name "enumerate" p) [e] [] pos) (tiD X.K Cl W fun E τ M Q => ta E τ M fun d M1 => enF d M1 Q) := by
  refine PIi (pi_enumA hg hm (pa_cons ha pa_nil (by rw [hs]; rfl)) hs) ?_
  rintro σ H R ⟨τ, M, E, q, sl, m, xc, h, k⟩
  refine ⟨τ, M, E, _, sl, m, xc, h, fun v H1 x M1 k1 r1 m1 h1 => ?_⟩
  cases x <;> simp only [enF] at h1 <;> try exact h1.elim
  case tup =>
    obtain ⟨a, vs, rfl, t, rs⟩ := repT.1 r1
    exact ⟨_, vs, rfl, .inr ⟨t, k (IteT X.K _) H1 _ M1 k1 m1 trivial (jr_enumT t rs) h1⟩⟩
  rw [repO] at r1
  subst r1
  obtain ⟨ds, e0, h1⟩ := h1
  obtain ⟨vs, t, rs⟩ := m1.lst e0
  exact ⟨_, vs, rfl, .inl ⟨SqL.of t, k (Ite X.K _) H1 _ M1 k1 m1 e0 jr_enum h1⟩⟩
theorem di_zp {a b : Expr} {ta tb : DTE} {elts : List Expr} {kk : Nat} {p tpos : Pos} (hg : Gl X "zip") (hm : X.mg "zip" = none) (ha : PE X a (teD X.K Cl W ta)) (hb : PE X b (teD X.K Cl W tb))
    (hs : starEach [a, b] X.env = [(false, eval a X.env), (false, eval b X.env)]) (hs2 : starEach [b] X.env = [(false, eval b X.env)]) :
    PI X (.Tuple elts kk tpos) (.Call (.Name "zip" p) [a, b] [] pos) (tiD X.K Cl W fun E τ M Q => ta E τ M fun d M1 => tb E τ M1 fun e M2 => zpF d e M2 Q) := by
  refine PIi (RZ.pi_zipA hg hm (pa_cons ha (pa_cons hb pa_nil (by rw [hs2]; rfl)) (by rw [hs, hs2])) (by rw [hs, hs2]) (by rw [hs2]; rfl)) ?_
  rintro σ H R ⟨τ, M, E, q, sl, m, xc, h, k⟩
  refine ⟨τ, M, E, _, sl, m, xc, h, fun v H1 x M1 k1 r1 m1 h1 => ⟨τ, M1, E, _, sl.k k1, m1, xc.k k1, h1, fun w H2 y M2 k2 r2 m2 h2 => ?_⟩⟩
  cases x <;> cases y <;> simp only [zpF] at h2 <;> try exact h2.elim
  obtain ⟨p1, vs, rfl, t, rs⟩ := repT.1 (r1.k k2)
  obtain ⟨p2, ws, rfl, u, ru⟩ := repT.1 r2
  exact ⟨p1, p2, vs, ws, rfl, .inr ⟨t, u, k (RZ.ItzT X.K p1 p2) H2 _ M2 (k1.trans k2) m2 trivial (jr_zipT t u rs ru) h2⟩⟩
end

/-! ## targets -/
abbrev DTG := EW → D → Tau → Mem → (Tau → Mem → Prop) → Prop
abbrev DTGs := EW → List D → Tau → Mem → (Tau → Mem → Prop) → Prop
/-- is: the slots that it may store -/
def tgD (K : PySem.W.Frag) (Cl : Nat → Addr × Str) (W : WX) (is : List Nat) (t : DTG) : TG := fun v σ H Q => ∃ d τ M E q, Rep K H d v ∧ SlR K H σ τ ∧ MR K H M ∧ XC K Cl W H E ∧ t E d τ M q ∧
  ∀ σ' H' τ' M', Keep H H' → SlR K H' σ' τ' → MR K H' M' → (∀ vs, (∀ i, i ∈ is → i ∈ vs) → wipe σ' vs = wipe σ vs) → q τ' M' → Q σ' H'
def tgsD (K : PySem.W.Frag) (Cl : Nat → Addr × Str) (W : WX) (is : List Nat) (t : DTGs) : TGs := fun vs σ H Q => ∃ ds τ M E q, Reps K H ds vs ∧ SlR K H σ τ ∧ MR K H M ∧ XC K Cl W H E ∧ t E ds τ M q ∧
  ∀ σ' H' τ' M', Keep H H' → SlR K H' σ' τ' → MR K H' M' → (∀ vs, (∀ i, i ∈ is → i ∈ vs) → wipe σ' vs = wipe σ vs) → q τ' M' → Q σ' H'
theorem set_set_at {α : Type} (l : List α) (i j : Nat) (a b : α) (h : i ≠ j) : (l.set i a).set j b = (l.set j b).set i a := List.set_comm _ _ h
theorem wipe_set (σ : L2.St) (i : Nat) (x : Option V) : ∀ vs : List Nat, i ∈ vs → wipe (σ.set i x) vs = wipe σ vs
  | [], h => by simp at h
  | v :: vs, h => by
    unfold wipe
    by_cases e : i ∈ vs
    · rw [wipe_set σ i x vs e]
    · have : i = v := by
        rcases List.mem_cons.mp h with h | h
        · exact h
        · exact absurd h e
      subst this
      have out : ∀ vs : List Nat, i ∉ vs → wipe (σ.set i x) vs = (wipe σ vs).set i x := by
        intro vs
        induction vs with
        | nil => intro _; rfl
        | cons w vs ih =>
          intro hw
          have h1 : i ≠ w := fun z => hw (by simp [z])
          have h2 : i ∉ vs := fun z => hw (by simp [z])
          show (wipe (σ.set i x) vs).set w none = ((wipe σ vs).set w none).set i x
          rw [ih h2, set_set_at _ _ _ _ _ h1]
      rw [out vs e, List.set_set]
section
variable {pos : Pos}
theorem dg_nm {i : Nat} {x : Str} (hN : X.N.Nodup) (hi : X.N[i]? = some x) (hx : Loc X.env.scope x) (hf : X.fn x = true ∨ X.env.scope.names.lookup x = some .local) : PG X (.Name x pos) (tgD X.K Cl W [i] fun E d τ M Q => Q (τ.set i (some d)) M) := by
  refine PGi (pg_name hN hi hx hf) ?_
  rintro v σ H Q ⟨d, τ, M, E, q, r, sl, m, xc, h, k⟩
  exact k _ H _ M (Keep.refl H) (sl.set i r) m (fun vs hv => wipe_set σ i _ vs (hv i (by simp))) h
theorem dg_tp {es : List Expr} {n kk : Nat} {is : List Nat} {t : DTGs} (hc : X.calm = true) (h : PGs X es (tgsD X.K Cl W is t)) (hn : (assignEach es X.env).length = n) (hst : (assignEach es X.env).findIdx? (·.1) = none) :
    PG X (.Tuple es kk pos) (tgD X.K Cl W is fun E d τ M Q => match d with | .tup ds => ds.length = n ∧ t E ds τ M Q | _ => False) := by
  refine PGi (pg_tup hc h hn hst) ?_
  rintro v σ H Q ⟨d, τ, M, E, q, r, sl, m, xc, h, k⟩
  cases d <;> simp only at h <;> try exact h.elim
  obtain ⟨a, vs, rfl, t, rs⟩ := repT.1 r
  exact ⟨a, vs, rfl, t, by rw [rs.len]; exact h.1, _, τ, M, E, q, rs, sl, m, xc, h.2, k⟩
theorem dgs_nil : PGs X [] (tgsD X.K Cl W [] fun E ds τ M Q => match ds with | [] => Q τ M | _ => False) := by
  refine ⟨fun pins s σ H vs us Q I r hw => pgs_nil.run pins s σ H vs us Q I r ?_⟩
  obtain ⟨ds, τ, M, E, q, rs, sl, m, xc, h, k⟩ := hw
  cases ds with
  | nil =>
    simp only [Reps] at rs
    exact ⟨rs, k σ H τ M (Keep.refl H) sl m (fun _ _ => rfl) h⟩
  | cons d ds => exact h.elim
theorem dgs_cons {e : Expr} {es : List Expr} {is js : List Nat} {t : DTG} {ts : DTGs} (h1 : PG X e (tgD X.K Cl W is t)) (h2 : PGs X es (tgsD X.K Cl W js ts)) (hs : (assignEach (e :: es) X.env).map (·.2) = assign e X.env :: (assignEach es X.env).map (·.2)) :
    PGs X (e :: es) (tgsD X.K Cl W (is ++ js) fun E ds τ M Q => match ds with | d :: ds => t E d τ M fun τ1 M1 => ts E ds τ1 M1 Q | [] => False) := by
  refine ⟨fun pins s σ H vs us Q I r hw => (pgs_cons h1 h2 hs).run pins s σ H vs us Q I r ?_⟩
  obtain ⟨ds, τ, M, E, q, rs, sl, m, xc, h, k⟩ := hw
  cases ds with
  | nil => exact h.elim
  | cons d ds =>
    simp only [Reps] at rs
    obtain ⟨v, r', rfl, a, b⟩ := rs
    refine ⟨v, r', rfl, d, τ, M, E, _, a, sl, m, xc, h, fun σ1 H1 τ1 M1 k1 sl1 m1 w1 z1 => ⟨ds, τ1, M1, E, q, b.k k1, sl1, m1, xc.k k1, z1, fun σ2 H2 τ2 M2 k2 sl2 m2 w2 z2 => ?_⟩⟩
    exact k σ2 H2 τ2 M2 (k1.trans k2) sl2 m2 (fun vs hv => (w2 vs fun i hi => hv i (by simp [hi])).trans (w1 vs fun i hi => hv i (by simp [hi]))) z2
theorem set_d : ∀ (H : Hp) (M : Mem) (x i d : D) (xv iv v : V) (q : Mem → Prop) (Q : Hp → Prop), MR K H M → Rep K H x xv → Rep K H i iv → Rep K H d v → setF x i d M q → (∀ H' M', Keep H H' → MR K H' M' → q M' → Q H') → rSetL xv iv v H Q := by
  intro H M x i d xv iv v q Q m rx ri rd h k
  cases x <;> cases i <;> simp only [setF] at h <;> try exact h.elim
  rw [repO] at rx
  rw [repI] at ri
  subst rx ri
  obtain ⟨ds, e, h⟩ := h
  obtain ⟨vs, t, rs⟩ := m.lst e
  unfold optF at h
  split at h
  · rename_i j ej
    obtain ⟨kl, ml⟩ := m.setL e (Reps.put rd j rs)
    exact ⟨_, vs, _, j, rfl, rfl, t, by rw [rs.len]; exact ej, k _ _ kl ml h⟩
  · exact h.elim
theorem dg_sub {o i : Expr} {to ti : DTE} (ho : PE X o (teD X.K Cl W to)) (hi : PE X i (teD X.K Cl W ti)) (ha : ∀ v, assign (.Subscript o i pos) X.env v = (do
      let ov ← holding [v] (eval o X.env)
      let iv ← holding [v, ov] (eval i X.env)
      standAt pos
      holding [v, ov, iv] (setItem ov iv v)
      release [v, ov, iv] [])) :
    PG X (.Subscript o i pos) (tgD X.K Cl W [] fun E d τ M Q => to E τ M fun x M1 => ti E τ M1 fun y M2 => setF x y d M2 fun M3 => Q τ M3) := by
  refine PGi (pg_sub ho hi set_list ha) ?_
  rintro v σ H Q ⟨d, τ, M, E, q, r, sl, m, xc, h, k⟩
  refine ⟨τ, M, E, _, sl, m, xc, h, fun xv H1 x M1 k1 r1 m1 h1 => ⟨τ, M1, E, _, sl.k k1, m1, xc.k k1, h1, fun yv H2 y M2 k2 r2 m2 h2 => ?_⟩⟩
  exact set_d H2 M2 x y d xv yv v _ _ m2 (r1.k k2) r2 (r.k (k1.trans k2)) h2 fun H3 M3 k3 m3 h3 => k σ H3 τ M3 ((k1.trans k2).trans k3) (sl.k ((k1.trans k2).trans k3)) m3 (fun _ _ => rfl) h3
end
end Fx

set_option maxRecDepth 100000
namespace Fx
open PySem PySem.Spec PyProof.Rows L2
variable {K : PySem.W.Frag} {H H' H1 H2 : Hp} {Cl : Nat → Addr × Str} {W : WX} {X : Cx}
/-- no exception -/
def W0 : WX := fun _ _ _ _ => False

/-! ## comprehensions -/
theorem wipe_wipe (σ : L2.St) (vs : List Nat) : wipe (wipe σ vs) vs = wipe σ vs := by
  have key : ∀ (us : List Nat) (σ : L2.St), (∀ i, i ∈ us → i ∈ vs) → wipe (wipe σ us) vs = wipe σ vs := by
    intro us
    induction us with
    | nil => intro σ _; rfl
    | cons u us ih =>
      intro σ h
      show wipe ((wipe σ us).set u none) vs = wipe σ vs
      rw [wipe_set _ u none vs (h u (by simp))]
      exact ih σ fun i hi => h i (by simp [hi])
  exact key vs σ fun _ h => h
theorem SlR.none {σ : L2.St} {τ : Tau} (h : SlR K H σ τ) (i : Nat) : SlR K H (σ.set i none) (τ.set i none) := by
  refine ⟨by rw [List.length_set, List.length_set, h.1], fun j e q => ?_⟩
  by_cases z : i = j
  · subst z
    by_cases hl : i < τ.length
    · rw [List.getElem?_set_self hl] at q
      cases q
    · rw [List.getElem?_eq_none (by rw [List.length_set]; omega)] at q
      cases q
  · rw [List.getElem?_set_ne z] at q ⊢
    exact h.2 j e q
theorem SlR.wipe {σ : L2.St} {τ : Tau} (h : SlR K H σ τ) : ∀ vs : List Nat, SlR K H (L2.wipe σ vs) (wipeD τ vs)
  | [] => h
  | v :: vs => (SlR.wipe h vs).none v
section
variable {tI : DTI} {tG : DTG} {tB : DTT} {tE : DTE} {is vs : List Nat}
theorem lc_read {σ : L2.St} {Q : VK} (hsub : ∀ i, i ∈ is → i ∈ vs)
    (h : teD K Cl W (fun E τ M Q => tI E τ M fun src M1 => ∀ p, M1 p = none → lcF (tG E0) (tB E0) (tE E0) src.ok (wipeD τ vs) p (fun M' => Q (.ob p) M') src.items (M1.put p (.lst []))) σ H Q) :
    tLc (tiD K Cl W tI) (tgD K Cl W0 is tG) (ttD K Cl W0 tB) (teD K Cl W0 tE) vs σ H Q := by
  obtain ⟨τ, M, E, q, sl, m, xc, h, k⟩ := h
  refine ⟨τ, M, E, _, sl, m, xc, h, fun J H1 src M1 k1 m1 ok1 jr h1 => ?_⟩
  intro p hp
  have h2 := h1 p (m1.free hp)
  refine ⟨fun i z H2 => z = src.items.length - i ∧ i ≤ src.items.length ∧ ∃ M2, Keep H1 H2 ∧ MR K H2 M2 ∧ lcF (tG E0) (tB E0) (tE E0) src.ok (wipeD τ vs) p (fun M' => q (.ob p) M') (src.items.drop i) M2,
    ⟨src.items.length, by simp, Nat.zero_le _, M1.put p (.lst []), Keep.upd_new hp, m1.newL hp Reps.nil, h2⟩, ?_⟩
  rintro i z H2 ⟨rfl, hi, M2, k2, m2, h3⟩
  by_cases lt : i < src.items.length
  · rw [List.drop_eq_getElem_cons lt] at h3
    obtain ⟨ok2, h3⟩ := h3
    refine .inr ⟨jr.go i H2 M2 lt k2 m2 ok2, fun H3 => ∃ M3, Keep H1 H3 ∧ MR K H3 M3 ∧ lcF (tG E0) (tB E0) (tE E0) src.ok (wipeD τ vs) p (fun M' => q (.ob p) M') (src.items.drop (i + 1)) M3,
      fun H3 hh => ⟨src.items.length - (i + 1), by omega, rfl, lt, hh⟩, fun x H3 y => ?_⟩
    obtain ⟨d, ed, rd, kd, md⟩ := jr.yld i H2 M2 x H3 lt k2 m2 ok2 y
    rw [List.getElem?_eq_getElem lt] at ed
    cases ed
    have k3 : Keep H1 H3 := k2.trans kd
    refine ⟨_, wipeD τ vs, M2, E0, _, rd, ((sl.k k1).k k3).wipe vs, md, XC.no, h3, fun σ4 H4 τ4 M4 k4 sl4 m4 w4 h4 => ⟨(w4 vs hsub).trans (wipe_wipe σ vs), τ4, M4, E0, _, sl4, m4, XC.no, h4, fun b H5 M5 k5 m5 h5 => ?_⟩⟩
    cases b with
    | true =>
      rw [if_pos rfl] at h5 ⊢
      refine ⟨τ4, M5, E0, _, sl4.k k5, m5, XC.no, h5, fun yv H6 y6 M6 k6 r6 m6 h6 => ?_⟩
      obtain ⟨acc, ea, hz, h6⟩ := h6
      obtain ⟨us, t, rs⟩ := m6.lst ea
      obtain ⟨kl, ml⟩ := m6.setL ea (rs.app (Reps.cons r6 Reps.nil))
      exact ⟨us, t, by rw [rs.len]; exact hz, _, (((k3.trans k4).trans k5).trans k6).trans kl, ml, h6⟩
    | false =>
      rw [if_neg Bool.false_ne_true] at h5 ⊢
      exact ⟨M5, (k3.trans k4).trans k5, m5, h5⟩
  · have e : i = src.items.length := by omega
    subst e
    rw [List.drop_length] at h3
    obtain ⟨ok2, h3⟩ := h3
    exact .inl ⟨jr.stop H2 M2 k2 m2 ok2, k _ H2 _ M2 (k1.trans k2) (repO.2 rfl) m2 h3⟩
theorem d_lc {elt tg iter : Expr} {ifs : List Expr} {scope : Scope} {own : List (Str × Nat)} {pos : Pos} (hc : X.calm = true) (hN : X.N.Nodup) (hi : PI X tg iter (tiD X.K Cl W tI)) (ok : BlkOk X.N X.env.scope scope own) (hv : own.map (·.2) = vs) (hsub : ∀ i, i ∈ is → i ∈ vs)
    (hg : ∀ (s : Shared) (H : Hp) (C : Addr) (cl : List (Str × Addr)) (fp : List Addr), PG (X.blk s H scope (compEnvC scope cl C X.env) fp) tg (tgD X.K Cl W0 is tG))
    (ht : ∀ (s : Shared) (H : Hp) (C : Addr) (cl : List (Str × Addr)) (fp : List Addr), PTs (X.blk s H scope (compEnvC scope cl C X.env) fp) ifs (ttD X.K Cl W0 tB))
    (he : ∀ (s : Shared) (H : Hp) (C : Addr) (cl : List (Str × Addr)) (fp : List Addr), PE (X.blk s H scope (compEnvC scope cl C X.env) fp) elt (teD X.K Cl W0 tE)) (hs : ∀ x, foldedSetIterable iter X.env x = pure x) :
    PE X (.ListComp elt [⟨tg, iter, ifs, 0⟩] scope pos) (teD X.K Cl W fun E τ M Q => tI E τ M fun src M1 => ∀ p, M1 p = none → lcF (tG E0) (tB E0) (tE E0) src.ok (wipeD τ vs) p (fun M' => Q (.ob p) M') src.items (M1.put p (.lst []))) := by
  subst hv
  exact PEi (pe_lc hc hN hi ok hg ht he hs) fun σ H Q h => lc_read hsub h
end

/-! ## statements -/
section
variable {t ta tb tc : DTE} {pos : Pos} {a b e : Expr}
theorem EndsR.rfl' {d : DEnds} {D : Ends} (h : EndsR K H d D) : EndsR K H d D := h
theorem ds_asg {i : Nat} {x : Str} {pos' : Pos} (hN : X.N.Nodup) (hi : X.N[i]? = some x) (hx : Loc X.env.scope x) (he : PE X e (teD X.K Cl W t)) (hs : swapsWith e (some (.Name x pos')) pos.line X.env = pure false) (hf : X.fn x = true ∨ X.env.scope.names.lookup x = some .local) :
    PS X (.Assign [.Name x pos'] e pos) (tsD X.K Cl W fun E d τ M => t E τ M fun x M1 => d.nx (τ.set i (some x)) M1) := by
  refine PSi (ps_set hN hi hx he hs hf) ?_
  rintro D σ H ⟨τ, M, E, d, sl, m, xc, h, en⟩
  exact ⟨τ, M, E, _, sl, m, xc, h, fun v H1 x M1 k1 r1 m1 h1 => en.nx _ H1 _ M1 k1 ((sl.k k1).set i r1) m1 h1⟩
theorem ds_asgLc {tI : DTI} {tG : DTG} {tB : DTT} {tE : DTE} {is vs : List Nat} {i : Nat} {y : Str} {py : Pos} {elt tg iter : Expr} {ifs : List Expr} {scope : Scope} {own : List (Str × Nat)} {spos : Pos} (hc : X.calm = true) (hN : X.N.Nodup) (hy : X.N[i]? = some y) (hyl : X.env.scope.names.lookup y = some .local)
    (hsw : swapsWith (.ListComp elt [⟨tg, iter, ifs, 0⟩] scope pos) (some (.Name y py)) spos.line X.env = pure true) (hi : PI X tg iter (tiD X.K Cl W tI)) (ok : BlkOk X.N X.env.scope scope own) (hv : own.map (·.2) = vs) (hsub : ∀ i, i ∈ is → i ∈ vs)
    (hg : ∀ (s : Shared) (H : Hp) (C : Addr) (cl : List (Str × Addr)) (fp : List Addr), PG (X.blk s H scope (compEnvC scope cl C X.env) fp) tg (tgD X.K Cl W0 is tG))
    (ht : ∀ (s : Shared) (H : Hp) (C : Addr) (cl : List (Str × Addr)) (fp : List Addr), PTs (X.blk s H scope (compEnvC scope cl C X.env) fp) ifs (ttD X.K Cl W0 tB))
    (he : ∀ (s : Shared) (H : Hp) (C : Addr) (cl : List (Str × Addr)) (fp : List Addr), PE (X.blk s H scope (compEnvC scope cl C X.env) fp) elt (teD X.K Cl W0 tE)) (hs : ∀ x, foldedSetIterable iter X.env x = pure x) :
    PS X (.Assign [.Name y py] (.ListComp elt [⟨tg, iter, ifs, 0⟩] scope pos) spos) (tsD X.K Cl W fun E d τ M => tI E τ M fun src M1 => ∀ p, M1 p = none →
      lcF (tG E0) (tB E0) (tE E0) src.ok (wipeD τ vs) p (fun M' => d.nx (τ.set i (some (.ob p))) M') src.items (M1.put p (.lst []))) := by
  subst hv
  refine PSi (ps_setLc (i := i) hc hN hy hyl hsw hi ok hg ht he hs) ?_
  rintro D σ H ⟨τ, M, E, d, sl, m, xc, h, en⟩
  refine lc_read hsub ⟨τ, M, E, fun x M' => d.nx (τ.set i (some x)) M', sl, m, xc, h, fun v H1 x M1 k1 r1 m1 h1 => en.nx _ H1 _ M1 k1 ((sl.k k1).set i r1) m1 h1⟩
theorem ds_asgT {tg : Expr} {is : List Nat} {g : DTG} (he : PE X e (teD X.K Cl W t)) (hg : PG X tg (tgD X.K Cl W is g)) (hs : swapsWithSole [tg] e pos.line X.env = pure false) (hw : swappedStores [tg] e X.env = pure none) (h1 : (assignEach [tg] X.env).map (·.2) = [assign tg X.env]) :
    PS X (.Assign [tg] e pos) (tsD X.K Cl W fun E d τ M => t E τ M fun x M1 => g E x τ M1 d.nx) := by
  refine PSi (ps_asg he hg hs hw h1) ?_
  rintro D σ H ⟨τ, M, E, d, sl, m, xc, h, en⟩
  exact ⟨τ, M, E, _, sl, m, xc, h, fun v H1 x M1 k1 r1 m1 h1 => ⟨x, τ, M1, E, _, r1, sl.k k1, m1, xc.k k1, h1, fun σ2 H2 τ2 M2 k2 sl2 m2 _ h2 => en.nx σ2 H2 τ2 M2 (k1.trans k2) sl2 m2 h2⟩⟩
theorem ds_par {i j : Nat} {x y : Str} {px py pt : Pos} {kt k2 pt2} (hc : X.calm = true) (hN : X.N.Nodup) (hi : X.N[i]? = some x) (hj : X.N[j]? = some y) (hij : i ≠ j)
    (hx : X.env.scope.names.lookup x = some .local) (hy : X.env.scope.names.lookup y = some .local) (ha : PE X a (teD X.K Cl W ta)) (hb : PE X b (teD X.K Cl W tb))
    (hs1 : starEach [a, b] X.env = (false, eval a X.env) :: starEach [b] X.env) (hs2 : starEach [b] X.env = (false, eval b X.env) :: starEach [] X.env)
    (hw : swappedStores [.Tuple [.Name x px, .Name y py] kt pt] (.Tuple [a, b] k2 pt2) X.env = pure (some [x, y])) (hs : swapsWithSole [.Tuple [.Name x px, .Name y py] kt pt] (.Tuple [a, b] k2 pt2) pos.line X.env = pure false) :
    PS X (.Assign [.Tuple [.Name x px, .Name y py] kt pt] (.Tuple [a, b] k2 pt2) pos) (tsD X.K Cl W fun E d τ M => ta E τ M fun x M1 => tb E τ M1 fun y M2 => d.nx ((τ.set i (some x)).set j (some y)) M2) := by
  refine PSi (ps_par hc hN hi hj hij hx hy (pa_cons ha (pa_cons hb pa_nil hs2) hs1) hw hs) ?_
  rintro D σ H ⟨τ, M, E, d, sl, m, xc, h, en⟩
  exact ⟨τ, M, E, _, sl, m, xc, h, fun v H1 x M1 k1 r1 m1 h1 => ⟨τ, M1, E, _, sl.k k1, m1, xc.k k1, h1, fun w H2 y M2 k2 r2 m2 h2 =>
    ⟨v, w, rfl, en.nx _ H2 _ M2 (k1.trans k2) (((sl.k (k1.trans k2)).set i (r1.k k2)).set j r2) m2 h2⟩⟩⟩
theorem ds_par3 {i j l : Nat} {x y z : Str} {a b c : Expr} {ta tb tc : DTE} {px py pz pt pos : Pos} {kt k2 pt2} (hc : X.calm = true) (hN : X.N.Nodup) (hi : X.N[i]? = some x) (hj : X.N[j]? = some y) (hl : X.N[l]? = some z) (hij : i ≠ j) (hil : i ≠ l) (hjl : j ≠ l)
    (hx : X.env.scope.names.lookup x = some .local) (hy : X.env.scope.names.lookup y = some .local) (hz : X.env.scope.names.lookup z = some .local) (ha : PE X a (teD X.K Cl W ta)) (hb : PE X b (teD X.K Cl W tb)) (hcc : PE X c (teD X.K Cl W tc))
    (hs1 : starEach [a, b, c] X.env = (false, eval a X.env) :: starEach [b, c] X.env) (hs2 : starEach [b, c] X.env = (false, eval b X.env) :: starEach [c] X.env) (hs3 : starEach [c] X.env = (false, eval c X.env) :: starEach [] X.env)
    (hw : swappedStores [.Tuple [.Name x px, .Name y py, .Name z pz] kt pt] (.Tuple [a, b, c] k2 pt2) X.env = pure (some [x, y, z])) (hs : swapsWithSole [.Tuple [.Name x px, .Name y py, .Name z pz] kt pt] (.Tuple [a, b, c] k2 pt2) pos.line X.env = pure false) :
    PS X (.Assign [.Tuple [.Name x px, .Name y py, .Name z pz] kt pt] (.Tuple [a, b, c] k2 pt2) pos) (tsD X.K Cl W fun E d τ M => ta E τ M fun x M1 => tb E τ M1 fun y M2 => tc E τ M2 fun z M3 => d.nx (((τ.set i (some x)).set j (some y)).set l (some z)) M3) := by
  refine PSi (ps_par3 hc hN hi hj hl hij hil hjl hx hy hz (pa_cons ha (pa_cons hb (pa_cons hcc pa_nil hs3) hs2) hs1) hw hs) ?_
  rintro D σ H ⟨τ, M, E, d, sl, m, xc, h, en⟩
  exact ⟨τ, M, E, _, sl, m, xc, h, fun v H1 x M1 k1 r1 m1 h1 => ⟨τ, M1, E, _, sl.k k1, m1, xc.k k1, h1, fun w H2 y M2 k2 r2 m2 h2 => ⟨τ, M2, E, _, sl.k (k1.trans k2), m2, xc.k (k1.trans k2), h2, fun u H3 z M3 k3 r3 m3 h3 =>
    ⟨v, w, u, rfl, en.nx _ H3 _ M3 ((k1.trans k2).trans k3) ((((sl.k ((k1.trans k2).trans k3)).set i (r1.k (k2.trans k3))).set j (r2.k k3)).set l r3) m3 h3⟩⟩⟩⟩
theorem ds_ex (he : PE X e (teD X.K Cl W t)) (hs : swapsWith e none pos.line X.env = pure false) : PS X (.Expr e pos) (tsD X.K Cl W fun E d τ M => t E τ M fun _ M1 => d.nx τ M1) := by
  refine PSi (ps_expr he hs) ?_
  rintro D σ H ⟨τ, M, E, d, sl, m, xc, h, en⟩
  exact ⟨τ, M, E, _, sl, m, xc, h, fun v H1 x M1 k1 r1 m1 h1 => en.nx _ H1 _ M1 k1 (sl.k k1) m1 h1⟩
theorem ds_ret (he : PE X e (teD X.K Cl W t)) : PS X (.Return (some e) pos) (tsD X.K Cl W fun E d τ M => t E τ M d.rt) := by
  refine PSi (ps_ret he) ?_
  rintro D σ H ⟨τ, M, E, d, sl, m, xc, h, en⟩
  exact ⟨τ, M, E, _, sl, m, xc, h, fun v H1 x M1 k1 r1 m1 h1 => en.rt v H1 x M1 k1 r1 m1 h1⟩
theorem ds_retN : PS X (.Return none pos) (tsD X.K Cl W fun E d τ M => d.rt .non M) :=
  PSi ps_retN fun D σ H ⟨τ, M, E, d, sl, m, xc, h, en⟩ => en.rt _ H _ M (Keep.refl H) (repN.2 rfl) m h
theorem ds_pass : PS X (.Pass pos) (tsD X.K Cl W fun E d τ M => d.nx τ M) := PSi ps_pass fun D σ H ⟨τ, M, E, d, sl, m, xc, h, en⟩ => en.nx σ H τ M (Keep.refl H) sl m h
theorem ds_brk : PS X (.Break pos) (tsD X.K Cl W fun E d τ M => d.bk τ M) := PSi ps_break fun D σ H ⟨τ, M, E, d, sl, m, xc, h, en⟩ => en.bk σ H τ M (Keep.refl H) sl m h
theorem ds_cont : PS X (.Continue pos) (tsD X.K Cl W fun E d τ M => d.ct τ M) := PSi ps_continue fun D σ H ⟨τ, M, E, d, sl, m, xc, h, en⟩ => en.ct σ H τ M (Keep.refl H) sl m h
theorem dss_nil : PSs X [] (tsD X.K Cl W fun E d τ M => d.nx τ M) := PSsi pss_nil fun D σ H ⟨τ, M, E, d, sl, m, xc, h, en⟩ => en.nx σ H τ M (Keep.refl H) sl m h
theorem dss_cons {st : Stmt} {rest : List Stmt} {u v : DTS} (h1 : PS X st (tsD X.K Cl W u)) (h2 : PSs X rest (tsD X.K Cl W v)) : PSs X (st :: rest) (tsD X.K Cl W fun E d τ M => u E { d with nx := v E d } τ M) := by
  refine PSsi (pss_cons h1 h2) ?_
  rintro D σ H ⟨τ, M, E, d, sl, m, xc, h, en⟩
  exact ⟨τ, M, E, _, sl, m, xc, h, ⟨fun σ1 H1 τ1 M1 k1 sl1 m1 h1 => ⟨τ1, M1, E, d, sl1, m1, xc.k k1, h1, en.k k1⟩, en.rt, en.bk, en.ct⟩⟩
theorem ds_ifs {c : Expr} {p q : List Stmt} {tt : DTT} {u v : DTS} (hc : PT X c (ttD X.K Cl W tt)) (hp : PSs X p (tsD X.K Cl W u)) (hq : PSs X q (tsD X.K Cl W v)) :
    PS X (.If c p q pos) (tsD X.K Cl W fun E d τ M => tt E τ M fun k M1 => if k = true then u E d τ M1 else v E d τ M1) := by
  refine PSi (ps_if hc hp hq) ?_
  rintro D σ H ⟨τ, M, E, d, sl, m, xc, h, en⟩
  refine ⟨τ, M, E, _, sl, m, xc, h, fun b H1 M1 k1 m1 h1 => ?_⟩
  cases b with
  | true =>
    rw [if_pos rfl] at h1 ⊢
    exact ⟨τ, M1, E, d, sl.k k1, m1, xc.k k1, h1, en.k k1⟩
  | false =>
    rw [if_neg Bool.false_ne_true] at h1 ⊢
    exact ⟨τ, M1, E, d, sl.k k1, m1, xc.k k1, h1, en.k k1⟩
theorem ds_whl {c : Expr} {p : List Stmt} {tt : DTT} {u : DTS} (ow : PassesOwn (model X.prog X.w) X.A X.env X.xe) (hc : PT X c (ttD X.K Cl W tt)) (hp : PSs X p (tsD X.K Cl W u)) :
    PS X (.While c p [] pos) (tsD X.K Cl W fun E d τ M => whF (tt E) (u E) d τ M) := by
  refine PSi (ps_while ow hc hp) ?_
  rintro D σ H ⟨τ, M, E, d, sl, m, xc, ⟨I, ⟨m0, i0⟩, turn⟩, en⟩
  refine ⟨fun n σ1 H1 => ∃ τ1 M1, Keep H H1 ∧ SlR X.K H1 σ1 τ1 ∧ MR X.K H1 M1 ∧ I n τ1 M1, ⟨m0, τ, M, Keep.refl H, sl, m, i0⟩, ?_⟩
  rintro n σ1 H1 ⟨τ1, M1, k1, sl1, m1, i1⟩
  refine ⟨τ1, M1, E, _, sl1, m1, xc.k k1, turn n τ1 M1 i1, fun b H2 M2 k2 m2 h2 => ?_⟩
  cases b with
  | true =>
    rw [if_pos rfl] at h2 ⊢
    refine ⟨fun σ3 H3 => ∃ n', n' < n ∧ ∃ τ3 M3, Keep H H3 ∧ SlR X.K H3 σ3 τ3 ∧ MR X.K H3 M3 ∧ I n' τ3 M3, fun σ3 H3 ⟨n', l, hh⟩ => ⟨n', l, hh⟩, ?_⟩
    have k12 := k1.trans k2
    exact ⟨τ1, M2, E, _, sl1.k k2, m2, xc.k k12, h2, ⟨fun σ3 H3 τ3 M3 k3 sl3 m3 ⟨n', l, hh⟩ => ⟨n', l, τ3, M3, k12.trans k3, sl3, m3, hh⟩, fun v H3 x M3 k3 => en.rt v H3 x M3 (k12.trans k3),
      fun σ3 H3 τ3 M3 k3 => en.nx σ3 H3 τ3 M3 (k12.trans k3), fun σ3 H3 τ3 M3 k3 sl3 m3 ⟨n', l, hh⟩ => ⟨n', l, τ3, M3, k12.trans k3, sl3, m3, hh⟩⟩⟩
  | false =>
    rw [if_neg Bool.false_ne_true] at h2 ⊢
    exact en.nx σ1 H2 τ1 M2 (k1.trans k2) (sl1.k k2) m2 h2
theorem ds_for {tg iter : Expr} {p : List Stmt} {is : List Nat} {tI : DTI} {tG : DTG} {u : DTS} (ow : PassesOwn (model X.prog X.w) X.A X.env X.xe) (hc : X.calm = true) (hi : PI X tg iter (tiD X.K Cl W tI)) (hg : PG X tg (tgD X.K Cl W is tG)) (hp : PSs X p (tsD X.K Cl W u))
    (hs : ∀ x, foldedSetIterable iter X.env x = pure x) :
    PS X (.For tg iter p [] pos) (tsD X.K Cl W fun E d τ M => tI E τ M fun src M1 => forF (tG E) (u E) src.ok d src.items τ M1) := by
  refine PSi (ps_for ow hc hi hg hp hs) ?_
  rintro D σ H ⟨τ, M, E, d, sl, m, xc, h, en⟩
  refine ⟨τ, M, E, _, sl, m, xc, h, fun J H1 src M1 k1 m1 ok1 jr h1 => ?_⟩
  refine ⟨fun i z σ2 H2 => z = src.items.length - i ∧ i ≤ src.items.length ∧ ∃ τ2 M2, Keep H1 H2 ∧ SlR X.K H2 σ2 τ2 ∧ MR X.K H2 M2 ∧ forF (tG E) (u E) src.ok d (src.items.drop i) τ2 M2,
    ⟨src.items.length, by simp, Nat.zero_le _, τ, M1, Keep.refl _, sl.k k1, m1, h1⟩, ?_⟩
  rintro i z σ2 H2 ⟨rfl, hi, τ2, M2, k2, sl2, m2, h2⟩
  by_cases lt : i < src.items.length
  · rw [List.drop_eq_getElem_cons lt] at h2
    obtain ⟨ok2, h2⟩ := h2
    refine .inr ⟨jr.go i H2 M2 lt k2 m2 ok2, fun σ3 H3 => ∃ τ3 M3, Keep H1 H3 ∧ SlR X.K H3 σ3 τ3 ∧ MR X.K H3 M3 ∧ forF (tG E) (u E) src.ok d (src.items.drop (i + 1)) τ3 M3,
      fun σ3 H3 hh => ⟨src.items.length - (i + 1), by omega, rfl, lt, hh⟩, fun x H3 y => ?_⟩
    obtain ⟨x', ed, rd, kd, md⟩ := jr.yld i H2 M2 x H3 lt k2 m2 ok2 y
    rw [List.getElem?_eq_getElem lt] at ed
    cases ed
    have k3 : Keep H1 H3 := k2.trans kd
    refine ⟨_, τ2, M2, E, _, rd, sl2.k kd, md, xc.k (k1.trans k3), h2, fun σ4 H4 τ4 M4 k4 sl4 m4 _ h4 => ?_⟩
    have k14 := k3.trans k4
    exact ⟨τ4, M4, E, _, sl4, m4, xc.k (k1.trans k14), h4, ⟨fun σ5 H5 τ5 M5 k5 sl5 m5 h5 => ⟨τ5, M5, k14.trans k5, sl5, m5, h5⟩, fun v H5 x M5 k5 => en.rt v H5 x M5 ((k1.trans k14).trans k5),
      fun σ5 H5 τ5 M5 k5 => en.nx σ5 H5 τ5 M5 ((k1.trans k14).trans k5), fun σ5 H5 τ5 M5 k5 sl5 m5 h5 => ⟨τ5, M5, k14.trans k5, sl5, m5, h5⟩⟩⟩
  · have e : i = src.items.length := by omega
    subst e
    rw [List.drop_length] at h2
    obtain ⟨ok2, h2⟩ := h2
    exact .inl ⟨jr.stop H2 M2 k2 m2 ok2, en.nx σ2 H2 τ2 M2 (k1.trans k2) sl2 m2 h2⟩
theorem ds_never {st : Stmt} : PS X st (tsD X.K Cl W fun E d τ M => False) := PSi ps_never fun D σ H ⟨τ, M, E, d, sl, m, xc, h, en⟩ => h.elim

/-! ## tests -/
theorem dt_tv (hp : ∀ whole, isTrue e X.env whole = (do let v ← whole; standAt e.pos; holding [v] (truthy v))) (he : PE X e (teD X.K Cl W t)) : PT X e (ttD X.K Cl W fun E τ M Q => t E τ M fun x M1 => truF x M1 fun k => Q k M1) := by
  refine PTi (pt_truth he hp) ?_
  rintro σ H Q ⟨τ, M, E, q, sl, m, xc, h, k⟩
  refine ⟨τ, M, E, _, sl, m, xc, h, fun v H1 x M1 k1 r1 m1 h1 => ?_⟩
  obtain ⟨b, tv, z⟩ := truF_ok m1 r1 h1
  exact ⟨b, tv, k b H1 M1 k1 m1 z⟩
theorem dt_not {tt : DTT} (h : PT X a (ttD X.K Cl W tt)) : PT X (.UnaryOp .Not a pos) (ttD X.K Cl W fun E τ M Q => tt E τ M fun k M1 => Q (!k) M1) := by
  refine PTi (pt_not h) ?_
  rintro σ H Q ⟨τ, M, E, q, sl, m, xc, h, k⟩
  exact ⟨τ, M, E, _, sl, m, xc, h, fun b H1 M1 k1 m1 h1 => k _ H1 M1 k1 m1 h1⟩
theorem dw_and1 {tt : DTT} (h : PT X a (ttD X.K Cl W tt)) : PW X (.BoolOp .And [a] pos) (ttD X.K Cl W fun E τ M Q => tt E τ M Q) := PWi (pw_and1 h) fun σ H Q z => z
theorem dw_or1 {tt : DTT} (h : PT X a (ttD X.K Cl W tt)) : PW X (.BoolOp .Or [a] pos) (ttD X.K Cl W fun E τ M Q => tt E τ M Q) := PWi (pw_or1 h) fun σ H Q z => z
theorem dw_and {tt tu : DTT} {rest : List Expr} (ha : PT X a (ttD X.K Cl W tt)) (hb : PW X (.BoolOp .And (b :: rest) pos) (ttD X.K Cl W tu)) :
    PW X (.BoolOp .And (a :: b :: rest) pos) (ttD X.K Cl W fun E τ M Q => tt E τ M fun k M1 => if k = true then tu E τ M1 Q else Q false M1) := by
  refine PWi (pw_and ha hb) ?_
  rintro σ H Q ⟨τ, M, E, q, sl, m, xc, h, k⟩
  refine ⟨τ, M, E, _, sl, m, xc, h, fun c H1 M1 k1 m1 h1 => ?_⟩
  cases c with
  | true =>
    rw [if_pos rfl] at h1 ⊢
    exact ⟨τ, M1, E, q, sl.k k1, m1, xc.k k1, h1, fun b H2 M2 k2 => k b H2 M2 (k1.trans k2)⟩
  | false =>
    rw [if_neg Bool.false_ne_true] at h1 ⊢
    exact k _ H1 M1 k1 m1 h1
theorem dw_or {tt tu : DTT} {rest : List Expr} (ha : PT X a (ttD X.K Cl W tt)) (hb : PW X (.BoolOp .Or (b :: rest) pos) (ttD X.K Cl W tu)) :
    PW X (.BoolOp .Or (a :: b :: rest) pos) (ttD X.K Cl W fun E τ M Q => tt E τ M fun k M1 => if k = true then Q true M1 else tu E τ M1 Q) := by
  refine PWi (pw_or ha hb) ?_
  rintro σ H Q ⟨τ, M, E, q, sl, m, xc, h, k⟩
  refine ⟨τ, M, E, _, sl, m, xc, h, fun c H1 M1 k1 m1 h1 => ?_⟩
  cases c with
  | true =>
    rw [if_pos rfl] at h1 ⊢
    exact k _ H1 M1 k1 m1 h1
  | false =>
    rw [if_neg Bool.false_ne_true] at h1 ⊢
    exact ⟨τ, M1, E, q, sl.k k1, m1, xc.k k1, h1, fun b H2 M2 k2 => k b H2 M2 (k1.trans k2)⟩

/-! ## calls of defs -/
theorem dk_nil : PK X [] (taD X.K Cl W fun E τ M Q => Q [] M) := by
  refine ⟨fun pos pins s σ H Q I ⟨τ, M, E, q, sl, m, xc, h, k⟩ => pk_nil.run pos pins s σ H Q I (k _ H _ M (Keep.refl H) Reps.nil m h)⟩
theorem dk_cons {nm : Option Str} {kpos : Pos} {kws : List Keyword} {tk : DTA} (ha : PE X e (teD X.K Cl W t)) (hr : PK X kws (taD X.K Cl W tk)) :
    PK X (⟨nm, e, kpos⟩ :: kws) (taD X.K Cl W fun E τ M Q => t E τ M fun d M1 => tk E τ M1 fun ds M2 => Q (d :: ds) M2) := by
  refine ⟨fun pos pins s σ H Q I ⟨τ, M, E, q, sl, m, xc, h, k⟩ => (pk_cons ha hr).run pos pins s σ H Q I ?_⟩
  refine ⟨τ, M, E, _, sl, m, xc, h, fun v H1 x M1 k1 r1 m1 h1 => ⟨τ, M1, E, _, sl.k k1, m1, xc.k k1, h1, fun vs H2 ds M2 k2 r2 m2 h2 => ?_⟩⟩
  exact k _ H2 _ M2 (k1.trans k2) (Reps.cons (r1.k k2) r2) m2 h2
theorem d_call1 {fm : Form} {d : DSp} {x : Str} {p : Pos} {es : List Expr} {kws : List Keyword} {ts tk : DTA} (c : CallOk X.prog X.w X.K X.mg X.base X.A Cl fm d) (hx : x = fm.nm) (tkx : Takes X W) (hg : Gl X x) (hdb : (x == ("__debug__" : Str)) = false)
    (ha : PA X (a :: es) (taD X.K Cl W ts)) (hkw : PK X kws (taD X.K Cl W tk)) (hall : (backToKw pos (keywordEach kws X.env)).all (·.1.isSome) = true) (hks : (backToKw pos (keywordEach kws X.env)).filterMap (·.1) = fm.ks)
    (hpl : ((backTo pos (starEach (a :: es) X.env)).any (·.1) || (backToKw pos (keywordEach kws X.env)).any (·.1.isNone)) = false) (he : starEach (a :: es) X.env = (false, eval a X.env) :: starEach es X.env) :
    PE X (.Call (.Name x p) (a :: es) kws pos) (teD X.K Cl W fun E τ M Q => ts E τ M fun ds M1 => tk E τ M1 fun gs M2 => ds.length = fm.np ∧ gs.length = fm.ks.length ∧ d (ds ++ gs) M2 (fun e M' => E e τ M') Q) := by
  subst hx
  obtain ⟨f, fd, k0, ps, d0, pm, dd, dw, dv, hm, hk, _⟩ := c.ex
  refine ⟨fun pins s σ H Q I ⟨τ, M, E, q, sl, m, xc, h, k⟩ => ?_⟩
  refine wpAny_Call_Name_kw (ld_glob I hg hm ?_ hdb)
  refine PySem.W.callWith_KW (h₀ := X.base) I.ok.mod.kin hk hall (thn (ha.run pos pins s σ H (fun vs H1 => ∃ ds M1, Keep H H1 ∧ Reps X.K H1 ds vs ∧ MR X.K H1 M1 ∧ tk E τ M1 fun gs M2 => ds.length = fm.np ∧ gs.length = fm.ks.length ∧ d (ds ++ gs) M2 (fun e M' => E e τ M') q) I
    ⟨τ, M, E, _, sl, m, xc, h, fun vs H1 ds M1 k1 r1 m1 h1 => ⟨ds, M1, k1, r1, m1, h1⟩⟩) fun us s1 hh => ?_) hpl he
  obtain ⟨vs, H1, I1, rv, ds, M1, k1, r1, m1, h1⟩ := hh
  refine thn (hkw.run pos pins s1 σ H1 (fun zs H2 => ∃ gs M2, Keep H1 H2 ∧ Reps X.K H2 gs zs ∧ MR X.K H2 M2 ∧ ds.length = fm.np ∧ gs.length = fm.ks.length ∧ d (ds ++ gs) M2 (fun e M' => E e τ M') q) I1
    ⟨τ, M1, E, _, sl.k k1, m1, xc.k k1, h1, fun zs H2 gs M2 k2 r2 m2 h2 => ⟨gs, M2, k2, r2, m2, h2⟩⟩) fun ws s2 hh => ?_
  obtain ⟨zs, H2, I2, rz, gs, M2, k2, r2, m2, n1, n2, h2⟩ := hh
  refine ⟨I2.kIn, ?_⟩
  rw [hks]
  exact call_run c hm tkx I2 rv rz (r1.k k2) r2 (sl.k (k1.trans k2)) m2 (xc.k (k1.trans k2)) n1 n2 h2 (QR.k k (k1.trans k2))
theorem d_call0 {fm : Form} {d : DSp} {x : Str} {p : Pos} {kws : List Keyword} {tk : DTA} (c : CallOk X.prog X.w X.K X.mg X.base X.A Cl fm d) (hx : x = fm.nm) (tkx : Takes X W) (hg : Gl X x) (hdb : (x == ("__debug__" : Str)) = false)
    (hkw : PK X kws (taD X.K Cl W tk)) (hall : (backToKw pos (keywordEach kws X.env)).all (·.1.isSome) = true) (hks : (backToKw pos (keywordEach kws X.env)).filterMap (·.1) = fm.ks)
    (hpl : ((backTo pos (starEach [] X.env)).any (·.1) || (backToKw pos (keywordEach kws X.env)).any (·.1.isNone)) = false) :
    PE X (.Call (.Name x p) [] kws pos) (teD X.K Cl W fun E τ M Q => tk E τ M fun gs M2 => ([] : List D).length = fm.np ∧ gs.length = fm.ks.length ∧ d ([] ++ gs) M2 (fun e M' => E e τ M') Q) := by
  subst hx
  obtain ⟨f, fd, k0, ps, d0, pm, dd, dw, dv, hm, hk, _⟩ := c.ex
  refine ⟨fun pins s σ H Q I ⟨τ, M, E, q, sl, m, xc, h, k⟩ => ?_⟩
  refine wpAny_Call_Name_kw (ld_glob I hg hm ?_ hdb)
  refine PySem.W.callWith_KW0 (h₀ := X.base) I.ok.mod.kin hk hall ?_ hpl
  refine thn (hkw.run pos pins s σ H (fun zs H2 => ∃ gs M2, Keep H H2 ∧ Reps X.K H2 gs zs ∧ MR X.K H2 M2 ∧ ([] : List D).length = fm.np ∧ gs.length = fm.ks.length ∧ d ([] ++ gs) M2 (fun e M' => E e τ M') q) I
    ⟨τ, M, E, _, sl, m, xc, h, fun zs H2 gs M2 k2 r2 m2 h2 => ⟨gs, M2, k2, r2, m2, h2⟩⟩) fun ws s2 hh => ?_
  obtain ⟨zs, H2, I2, rz, gs, M2, k2, r2, m2, n1, n2, h2⟩ := hh
  refine ⟨I2.kIn, ?_⟩
  rw [hks]
  exact call_run (us := []) (vs := []) c hm tkx I2 .nil rz Reps.nil r2 (sl.k k2) m2 (xc.k k2) n1 n2 h2 (QR.k k k2)
end
end Fx

set_option maxRecDepth 100000
namespace Fx
open PySem PySem.Spec PyProof.Rows L2

/-! ## the text's words beside it -/
structure Cc where
  N : List Str
  sc : Scope
  top : Bool
  forms : List Form
  consts : List Str
  blts : List Str
  imps : List Str

def okName (x : Str) : Bool := !(x == ("__debug__" : Str)) && !(x == ("__classdict__" : Str)) && !(x == ("__name__" : Str))
def isVis (sc : Scope) (x : Str) : Bool := match sc.names.lookup x with
  | some .local | some .cell | some .free => true
  | _ => false
def isGl (sc : Scope) (x : Str) : Bool := match sc.names.lookup x with
  | some .globalImplicit => true
  | _ => false
def isLoc (sc : Scope) (x : Str) : Bool := match sc.names.lookup x with
  | some .local => true
  | _ => false
def isCel (sc : Scope) (x : Str) : Bool := match sc.names.lookup x with
  | some .cell => true
  | _ => false
def atN (N : List Str) (i : Nat) (x : Str) : Bool := match N[i]? with
  | some y => y == x
  | none => false
def notStar : Expr → Bool
  | .Starred .. => false
  | _ => true
def notComp : Expr → Bool
  | .ListComp .. | .SetComp .. | .DictComp .. => false
  | _ => true
def notCall : Expr → Bool
  | .Call .. => false
  | _ => true
def notSlice : Expr → Bool
  | .Slice .. => false
  | _ => true
def notSet : Expr → Bool
  | .Set .. => false
  | _ => true
def plainT : Expr → Bool
  | .UnaryOp .. | .BoolOp .. | .IfExp .. | .Compare .. => false
  | _ => true
def notTup : Expr → Bool
  | .Tuple .. | .List .. => false
  | _ => true
def Blt.ok (b : Blt) (c : Cc) (x : Str) : Bool := (b.nm == x) && okName x && (if b.imp then c.imps.contains x else c.blts.contains x)
def ownOf (N : List Str) (vs : List Nat) : List (Str × Nat) := vs.filterMap fun i => (N[i]?).map fun x => (x, i)
mutual
def Tg.slots : Tg → List Nat
  | .nm i => [i]
  | .tp ts => Tgs.slots ts
  | .sub _ _ => []
def Tgs.slots : Tgs → List Nat
  | .nil => []
  | .cons t r => Tg.slots t ++ Tgs.slots r
end
def compC (c : Cc) (scope : Scope) (own : List Nat) (t : Tg) : Bool :=
  blkC c.N c.sc scope (ownOf c.N own) && decide ((ownOf c.N own).map (·.2) = own) && t.slots.all fun i => own.contains i

mutual
def mE : Ir → Cc → Expr → Bool
  | .v i => fun c e => match e with
    | .Name x _ => isVis c.sc x && atN c.N i x && okName x
    | _ => false
  | .ci i => fun c e => match e with
    | .Constant (.int j) _ _ => decide (i = j)
    | _ => false
  | .cb i => fun c e => match e with
    | .Constant (.bool j) _ _ => decide (i = j)
    | _ => false
  | .cn => fun c e => match e with
    | .Constant .none _ _ => true
    | _ => false
  | .cs i => fun c e => match e with
    | .Constant (.str j) _ _ => i == j
    | _ => false
  | .gc j => fun c e => match e with
    | .Name x _ => isGl c.sc x && atN c.consts j x && okName x
    | _ => false
  | .bin op a b => fun c e => match e with
    | .BinOp x o y _ => decide (op = o) && mE a c x && mE b c y
    | _ => false
  | .neg a => fun c e => match e with
    | .UnaryOp .USub x _ => mE a c x
    | _ => false
  | .nt a => fun c e => match e with
    | .UnaryOp .Not x _ => mE a c x
    | _ => false
  | .cmp op a b => fun c e => match e with
    | .Compare x [o] [y] _ => decide (op = o) && !behindInMarks op y && mE a c x && mE b c y
    | _ => false
  | .cmp2 op op' a b d => fun c e => match e with
    | .Compare x [o, o'] [y, z] _ => decide (op = o) && decide (op' = o') && !lastMarks [op, op'] [y, z] && mE a c x && mE b c y && mE d c z
    | _ => false
  | .and a b => fun c e => match e with
    | .BoolOp .And (x :: y :: r) p => mE a c x && mE b c (.BoolOp .And (y :: r) p)
    | _ => false
  | .or a b => fun c e => match e with
    | .BoolOp .Or (x :: y :: r) p => mE a c x && mE b c (.BoolOp .Or (y :: r) p)
    | _ => false
  | .one a => fun c e => match e with
    | .BoolOp _ [x] _ => mE a c x
    | _ => false
  | .ite t a b => fun c e => match e with
    | .IfExp u x y _ => mT t c u && mE a c x && mE b c y
    | _ => false
  | .tup es => fun c e => match e with
    | .Tuple xs _ _ => mL es c xs
    | _ => false
  | .lst es => fun c e => match e with
    | .List xs _ => mL es c xs
    | _ => false
  | .ix a i => fun c e => match e with
    | .Subscript x y _ => notSlice y && mE a c x && mE i c y
    | _ => false
  | .sl a lo hi => fun c e => match e with
    | .Subscript x (.Slice l h none _) _ => mE a c x && mO lo c l && mO hi c h
    | _ => false
  | .call j np nk es ks => fun c e => match e with
    | .Call (.Name x _) xs kws _ => (match c.forms[j]? with
      | some f => (x == f.nm) && decide (np = f.np) && decide (nk = f.ks.length) && isGl c.sc x && okName x && decide (kws.map (·.arg) = f.ks.map some) && mP es c xs && mK ks c kws
      | none => false)
    | _ => false
  | .blt b es => fun c e => match e with
    | .Call (.Name x _) (y :: ys) [] _ => b.ok c x && isGl c.sc x && mP es c (y :: ys)
    | _ => false
  | .isi a T => fun c e => match e with
    | .Call (.Name x _) [y, .Name z _] [] _ => (x == ("isinstance" : Str)) && isGl c.sc x && c.blts.contains x && isGl c.sc z && c.blts.contains z && okName z && (z == Str.ofString T) && isiOk T && notStar y && mE a c y
    | _ => false
  | .app o a => fun c e => match e with
    | .Call (.Attribute x n ap) [y] [] p => (n == ("append" : Str)) && notCall x && (ap.endLine == p.line) && notStar y && mE o c x && mE a c y
    | _ => false
  | .lc a t it own => fun c e => match e with
    | .ListComp x [⟨g, i, [], 0⟩] scope _ => compC c scope own t && notSet i && mI it c g i && mG t { c with sc := scope, top := false } g && mE a { c with sc := scope, top := false } x
    | _ => false
  | .lcf a t it u own => fun c e => match e with
    | .ListComp x [⟨g, i, [f], 0⟩] scope _ => compC c scope own t && notSet i && mI it c g i && mG t { c with sc := scope, top := false } g && mT u { c with sc := scope, top := false } f && mE a { c with sc := scope, top := false } x
    | _ => false
def mT : Tt → Cc → Expr → Bool
  | .tv a => fun c e => plainT e && mE a c e
  | .tnot t => fun c e => match e with
    | .UnaryOp .Not x _ => mT t c x
    | _ => false
  | .tand a b => fun c e => match e with
    | .BoolOp .And (x :: y :: r) p => mT a c x && mT b c (.BoolOp .And (y :: r) p)
    | _ => false
  | .tor a b => fun c e => match e with
    | .BoolOp .Or (x :: y :: r) p => mT a c x && mT b c (.BoolOp .Or (y :: r) p)
    | _ => false
  | .tone a => fun c e => match e with
    | .BoolOp _ [x] _ => mT a c x
    | _ => false
  | .tcmp op a b => fun c e => match e with
    | .Compare x [o] [y] _ => decide (op = o) && !behindInMarks op y && mE a c x && mE b c y
    | _ => false
  | .tcmp2 op op' a b d => fun c e => match e with
    | .Compare x [o, o'] [y, z] _ => decide (op = o) && decide (op' = o') && !lastMarks [op, op'] [y, z] && mE a c x && mE b c y && mE d c z
    | _ => false
/-- items of a display -/
def mL : Irs → Cc → List Expr → Bool
  | .nil => fun c xs => match xs with
    | [] => true
    | _ => false
  | .cons e r => fun c xs => match xs with
    | x :: xs => notStar x && mE e c x && mL r c xs
    | _ => false
  | .star e r => fun c xs => match xs with
    | .Starred x _ :: xs => mE e c x && mL r c xs
    | _ => false
/-- arguments, none with a star -/
def mP : Irs → Cc → List Expr → Bool
  | .nil => fun c xs => match xs with
    | [] => true
    | _ => false
  | .cons e r => fun c xs => match xs with
    | x :: xs => notStar x && mE e c x && mP r c xs
    | _ => false
  | .star _ _ => fun _ _ => false
def mK : Irs → Cc → List Keyword → Bool
  | .nil => fun c xs => match xs with
    | [] => true
    | _ => false
  | .cons e r => fun c xs => match xs with
    | ⟨_, x, _⟩ :: xs => mE e c x && mK r c xs
    | _ => false
  | .star _ _ => fun _ _ => false
def mO : Iro → Cc → Option Expr → Bool
  | .none => fun c o => match o with
    | none => true
    | _ => false
  | .some e => fun c o => match o with
    | some x => mE e c x
    | _ => false
def mG : Tg → Cc → Expr → Bool
  | .nm i => fun c e => match e with
    | .Name x _ => atN c.N i x && (isLoc c.sc x || (c.top && isCel c.sc x))
    | _ => false
  | .tp ts => fun c e => match e with
    | .Tuple es _ _ => mGs ts c es
    | _ => false
  | .sub a i => fun c e => match e with
    | .Subscript x y _ => notSlice y && mE a c x && mE i c y
    | _ => false
def mGs : Tgs → Cc → List Expr → Bool
  | .nil => fun c es => match es with
    | [] => true
    | _ => false
  | .cons t r => fun c es => match es with
    | e :: es => notStar e && mG t c e && mGs r c es
    | _ => false
def mI : Wk → Cc → Expr → Expr → Bool
  | .ex a => fun c _ e => mE a c e
  | .rg1 a => fun c _ e => match e with
    | .Call (.Name x _) [y] [] _ => (x == ("range" : Str)) && isGl c.sc x && c.blts.contains x && notStar y && mE a c y
    | _ => false
  | .rg2 a b => fun c _ e => match e with
    | .Call (.Name x _) [y, z] [] _ => (x == ("range" : Str)) && isGl c.sc x && c.blts.contains x && notStar y && notStar z && mE a c y && mE b c z
    | _ => false
  | .enm a => fun c g e => match g, e with
    | .Tuple _ _ _, .Call (.Name x _) [y] [] _ => (x == ("enumerate" : Str)) && isGl c.sc x && c.blts.contains x && notStar y && mE a c y
    | _, _ => false
  | .zp a b => fun c g e => match g, e with
    | .Tuple _ _ _, .Call (.Name x _) [y, z] [] _ => (x == ("zip" : Str)) && isGl c.sc x && c.blts.contains x && notStar y && notStar z && mE a c y && mE b c z
    | _, _ => false
end
/-- stores of a written tuple: which names, none for one after the other -/
def swp (sc : Scope) (ts vs : List Expr) : Option (Option (List Str)) :=
  if !(ts.length == 2 || ts.length == 3) || vs.length != ts.length then some none
  else if vs.any fun | .Starred .. => true | _ => false then some none
  else
    let line := (ts.head?.map (·.pos.line)).getD 0
    let names := ts.filterMap fun
      | .Name id pos => if sc.names.lookup id == some .local && pos.line == line then some id else none
      | _ => none
    if names.length != ts.length || names.eraseDups.length != names.length then some none
    else if vs.all (foldedForSure 8) then some none
    else if vs.all (constantsAlone 8) then none
    else some (some names)
def swpNone (sc : Scope) (t e : Expr) : Bool := match t, e with
  | .Tuple ts _ _, .Tuple vs _ _ => decide (swp sc ts vs = some none)
  | .List _ _, .Tuple _ _ _ => false
  | _, _ => true
mutual
def mS : Is → Cc → Stmt → Bool
  | .asg i a => fun c s => match s with
    | .Assign [.Name x _] e _ => atN c.N i x && (isLoc c.sc x || isCel c.sc x) && notComp e && mE a c e
    | _ => false
  | .asgLc i a t it own => fun c s => match s with
    | .Assign [.Name x py] (.ListComp e gs scope pos) _ => atN c.N i x && isLoc c.sc x && (py.line == pos.line) && !(scope.names.any fun (n, k) => n == x && (k == .local || k == .cell)) && mE (.lc a t it own) c (.ListComp e gs scope pos)
    | _ => false
  | .asgLcf i a t it u own => fun c s => match s with
    | .Assign [.Name x py] (.ListComp e gs scope pos) _ => atN c.N i x && isLoc c.sc x && (py.line == pos.line) && !(scope.names.any fun (n, k) => n == x && (k == .local || k == .cell)) && mE (.lcf a t it u own) c (.ListComp e gs scope pos)
    | _ => false
  | .asgT t a => fun c s => match s with
    | .Assign [g] e _ => notStar g && notComp e && swpNone c.sc g e && mG t c g && mE a c e
    | _ => false
  | .par i j a b => fun c s => match s with
    | .Assign [.Tuple [.Name x px, .Name y py] kt pt] (.Tuple [e, f] _ _) _ => atN c.N i x && atN c.N j y && decide (i ≠ j) && isLoc c.sc x && isLoc c.sc y && notStar e && notStar f && decide (swp c.sc [.Name x px, .Name y py] [e, f] = some (some [x, y])) && mE a c e && mE b c f
    | _ => false
  | .par3 i j l a b d => fun c s => match s with
    | .Assign [.Tuple [.Name x px, .Name y py, .Name z pz] kt pt] (.Tuple [e, f, g] _ _) _ => atN c.N i x && atN c.N j y && atN c.N l z && decide (i ≠ j) && decide (i ≠ l) && decide (j ≠ l) && isLoc c.sc x && isLoc c.sc y && isLoc c.sc z && notStar e && notStar f && notStar g && decide (swp c.sc [.Name x px, .Name y py, .Name z pz] [e, f, g] = some (some [x, y, z])) && mE a c e && mE b c f && mE d c g
    | _ => false
  | .ex a => fun c s => match s with
    | .Expr e _ => notComp e && mE a c e
    | _ => false
  | .ret a => fun c s => match s with
    | .Return (some e) _ => mE a c e
    | _ => false
  | .retN => fun c s => match s with
    | .Return none _ => true
    | _ => false
  | .pass => fun c s => match s with
    | .Pass _ => true
    | _ => false
  | .brk => fun c s => match s with
    | .Break _ => true
    | _ => false
  | .cont => fun c s => match s with
    | .Continue _ => true
    | _ => false
  | .ifs t a b => fun c s => match s with
    | .If e p q _ => mT t c e && mSs a c p && mSs b c q
    | _ => false
  | .whl t a => fun c s => match s with
    | .While e p [] _ => mT t c e && mSs a c p
    | _ => false
  | .for t it a => fun c s => match s with
    | .For g e p [] _ => notSet e && mI it c g e && mG t c g && mSs a c p
    | _ => false
  | .never => fun c s => true
def mSs : Iss → Cc → List Stmt → Bool
  | .nil => fun c ss => match ss with
    | [] => true
    | _ => false
  | .cons s r => fun c ss => match ss with
    | x :: xs => mS s c x && mSs r c xs
    | _ => false
end
end Fx

set_option maxRecDepth 100000
namespace Fx
open PySem PySem.Spec PyProof.Rows L2
/-- the context is as the words beside the text say -/
structure CxOk (T : Nat → DSp) (C : Nat → D) (Cl : Nat → Addr × Str) (W : WX) (X : Cx) (c : Cc) : Prop where
  hN : X.N = c.N
  nd : X.N.Nodup
  loc : ∀ x, c.sc.names.lookup x = some .local → X.env.scope.names.lookup x = some .local
  cel : ∀ x, (c.sc.names.lookup x = some .cell ∨ c.sc.names.lookup x = some .free) → (X.env.scope.names.lookup x = some .cell ∨ X.env.scope.names.lookup x = some .free)
  gl : ∀ x, c.sc.names.lookup x = some .globalImplicit → X.env.scope.names.lookup x = some .globalImplicit
  top : c.top = true → X.env.scope = c.sc ∧ X.env.scope.kind = .function ∧ (∀ x, X.fn x = true) ∧ PassesOwn (model X.prog X.w) X.A X.env X.xe
  calm : X.calm = true
  gd : X.A.guards = some []
  un : X.A.units + 100 < cLine
  calls : ∀ j f, c.forms[j]? = some f → CallOk X.prog X.w X.K X.mg X.base X.A Cl f (T j)
  cons : ∀ j x, c.consts[j]? = some x → ∃ u v, X.mg x = some u ∧ RelV v u ∧ ∀ H, Rep X.K H (C j) v
  blts : ∀ x, c.blts.contains x = true → X.mg x = none
  imps : ∀ b : Blt, b.imp = true → c.imps.contains b.nm = true → X.mg b.nm = some b.fn
  takes : Takes X W
variable {T : Nat → DSp} {C : Nat → D} {Cl : Nat → Addr × Str} {W : WX} {X : Cx} {c : Cc} {e : Expr} {env : Env} {pos : Pos}

/-! ## small facts of the syntax -/
theorem star_cons {es : List Expr} (h : notStar e = true) : starEach (e :: es) env = (false, eval e env) :: starEach es env := by cases e <;> first | rfl | cases h
theorem star1 (h : notStar e = true) : starEach [e] env = [(false, eval e env)] := star_cons h
theorem star2 {f : Expr} (h : notStar e = true) (g : notStar f = true) : starEach [e, f] env = [(false, eval e env), (false, eval f env)] := by rw [star_cons h, star1 g]
theorem asg_cons {es : List Expr} (h : notStar e = true) : assignEach (e :: es) env = (false, assign e env) :: assignEach es env := by cases e <;> first | rfl | cases h
theorem swaps_no {o : Option Expr} {n : Nat} (h : notComp e = true) : swapsWith e o n env = pure false := by cases e <;> first | rfl | cases h
theorem swapsSole_no {g : Expr} {n : Nat} (h : notComp e = true) : swapsWithSole [g] e n env = pure false := swaps_no h
theorem base_no {n : Str} {w : Sem Value} (h : notCall e = true) : attributeBase e n env w = w := by cases e <;> first | rfl | cases h
theorem plain_ix (h : notSlice e = true) : PlainIx e := fun o i => by cases e <;> first | rfl | cases h
theorem set_no (h : notSet e = true) (x : Value) : foldedSetIterable e env x = pure x := by cases e <;> first | rfl | cases h
theorem plain_t (h : plainT e = true) (w : Sem Value) : isTrue e env w = (do let v ← w; standAt e.pos; holding [v] (truthy v)) := by cases e <;> first | rfl | cases h
theorem any_back {es : List (Bool × Sem Value)} : (backTo pos es).any (·.1) = es.any (·.1) := by
  unfold backTo
  rw [List.any_map]
  rfl
theorem okName_dbg {x : Str} (h : okName x = true) : (x == ("__debug__" : Str)) = false ∧ (x == ("__classdict__" : Str)) = false ∧ x ≠ "__name__" := by
  unfold okName at h
  simp only [Bool.and_eq_true, Bool.not_eq_true'] at h
  exact ⟨h.1.1, h.1.2, by simpa using h.2⟩
theorem atN_get {N : List Str} {i : Nat} {x : Str} (h : atN N i x = true) : N[i]? = some x := by
  unfold atN at h
  split at h
  · rename_i y e
    rw [e, show y = x from by simpa using h]
  · cases h
theorem isGl_of {sc : Scope} {x : Str} (h : isGl sc x = true) : sc.names.lookup x = some .globalImplicit := by
  unfold isGl at h
  split at h
  · assumption
  · cases h
theorem isLoc_of {sc : Scope} {x : Str} (h : isLoc sc x = true) : sc.names.lookup x = some .local := by
  unfold isLoc at h
  split at h
  · assumption
  · cases h
theorem isCel_of {sc : Scope} {x : Str} (h : isCel sc x = true) : sc.names.lookup x = some .cell := by
  unfold isCel at h
  split at h
  · assumption
  · cases h
theorem CxOk.vis {x : Str} (ok : CxOk T C Cl W X c) (h : isVis c.sc x = true) : Vis X.env.scope x := by
  unfold isVis at h
  split at h
  · rename_i e; exact .inl (ok.loc x e)
  · rename_i e; exact .inr (ok.cel x (.inl e))
  · rename_i e; exact .inr (ok.cel x (.inr e))
  · cases h
theorem CxOk.glob {x : Str} (ok : CxOk T C Cl W X c) (h : isGl c.sc x = true) : Gl X x := ok.gl x (isGl_of h)
theorem CxOk.at {i : Nat} {x : Str} (ok : CxOk T C Cl W X c) (h : atN c.N i x = true) : X.N[i]? = some x := by rw [ok.hN]; exact atN_get h
theorem boot_blt (b : Blt) (h : b.imp = false) : bootBuiltins b.nm = some b.fn := by cases b <;> first | (cases h; done) | decide +kernel
theorem boot_ty {S : String} (h : isiOk S = true) : bootBuiltins (Str.ofString S) = some (.type S) := by
  have h' : S ∈ ["int", "bool", "str", "tuple", "list"] := by simpa [isiOk] using h
  simp only [List.mem_cons, List.not_mem_nil, or_false] at h'
  rcases h' with rfl | rfl | rfl | rfl | rfl <;> decide +kernel
theorem kw_names (kws : List Keyword) (ks : List Str) (h : kws.map (·.arg) = ks.map some) :
    (backToKw pos (keywordEach kws env)).all (·.1.isSome) = true ∧ (backToKw pos (keywordEach kws env)).filterMap (·.1) = ks ∧ (backToKw pos (keywordEach kws env)).any (·.1.isNone) = false := by
  induction kws generalizing ks with
  | nil =>
    cases ks with
    | nil => exact ⟨rfl, rfl, rfl⟩
    | cons k ks => cases h
  | cons kw kws ih =>
    cases ks with
    | nil => cases h
    | cons k ks =>
      rw [List.map_cons, List.map_cons] at h
      obtain ⟨h1, h2⟩ := List.cons.inj h
      obtain ⟨a, b, d⟩ := ih ks h2
      obtain ⟨n, v, p⟩ := kw
      have h1' : n = some k := h1
      subst h1'
      refine ⟨?_, ?_, ?_⟩
      · show (true && (backToKw pos (keywordEach kws env)).all (·.1.isSome)) = true
        rw [a]; rfl
      · show k :: (backToKw pos (keywordEach kws env)).filterMap (·.1) = k :: ks
        rw [b]
      · show (false || (backToKw pos (keywordEach kws env)).any (·.1.isNone)) = false
        rw [d]; rfl
/-- the context of a comprehension's block -/
theorem relS_free {sc : Scope} : ∀ {names : List (Str × NameKind)} {x : Str}, names.lookup x = some .free →
    ((names.map fun (n, k) => if (k == NameKind.free && sc.kind == .function && sc.names.lookup n == some .cell) then (n, NameKind.cell) else (n, k)).lookup x = some .cell ∨
     (names.map fun (n, k) => if (k == NameKind.free && sc.kind == .function && sc.names.lookup n == some .cell) then (n, NameKind.cell) else (n, k)).lookup x = some .free)
  | [], _, h => by simp at h
  | (n, k) :: r, x, h => by
    have ih := @relS_free sc r x
    cases hx : x == n with
    | true =>
      simp only [List.lookup_cons, hx] at h
      cases h
      by_cases hc : (NameKind.free == NameKind.free && sc.kind == .function && sc.names.lookup n == some .cell) = true
      · left
        rw [List.map_cons]
        simp only [hc, if_true, List.lookup_cons, hx]
      · right
        rw [List.map_cons]
        simp only [hc, Bool.false_eq_true, if_false, List.lookup_cons, hx]
    | false =>
      simp only [List.lookup_cons, hx] at h
      rw [List.map_cons]
      by_cases hc : (k == NameKind.free && sc.kind == .function && sc.names.lookup n == some .cell) = true
      · simp only [hc, if_true, List.lookup_cons, hx]
        exact ih h
      · simp only [hc, Bool.false_eq_true, if_false, List.lookup_cons, hx]
        exact ih h
theorem takesN {X : Cx} : Takes X W0 := fun u s' h => by
  obtain ⟨_, _, _, _, _, _, _, _, _, _, _, _, _, _, _, _, z⟩ := h
  exact z.elim
theorem CxOk.blk (ok : CxOk T C Cl W X c) (s : Shared) (H : Hp) (scope : Scope) (a : Addr) (cl : List (Str × Addr)) (fp : List Addr) :
    CxOk T C Cl W0 (X.blk s H scope (compEnvC scope cl a X.env) fp) { c with sc := scope, top := false } where
  hN := ok.hN
  nd := ok.nd
  loc := fun x h => lookup_relS_keep (sc := X.env.scope) (by decide) h
  cel := fun x h => by
    rcases h with h | h
    · exact .inl (lookup_relS_keep (sc := X.env.scope) (by decide) h)
    · exact relS_free h
  gl := fun x h => lookup_relS_keep (sc := X.env.scope) (by decide) h
  top := fun h => nomatch h
  calm := ok.calm
  gd := ok.gd
  un := ok.un
  calls := ok.calls
  cons := ok.cons
  blts := ok.blts
  imps := ok.imps
  takes := takesN
theorem CxOk.blkOk {scope : Scope} {own : List Nat} {t : Tg} (ok : CxOk T C Cl W X c) (h : compC c scope own t = true) :
    BlkOk X.N X.env.scope scope (ownOf c.N own) ∧ (ownOf c.N own).map (·.2) = own ∧ ∀ i, i ∈ t.slots → i ∈ own := by
  unfold compC at h
  simp only [Bool.and_eq_true, decide_eq_true_eq] at h
  obtain ⟨⟨h1, h2⟩, h3⟩ := h
  have B := blkOk_by h1
  refine ⟨⟨B.kind, B.uniq, by rw [ok.hN]; exact B.ix, fun y hy e => ok.cel _ (B.free y hy e), by rw [ok.hN]; exact B.own⟩, h2, fun i hi => ?_⟩
  have := List.all_eq_true.mp h3 i hi
  simpa using this
theorem mG_sub {o i : Expr} (h : notSlice i = true) : ∀ v, assign (.Subscript o i pos) env v = (do
      let ov ← holding [v] (eval o env)
      let iv ← holding [v, ov] (eval i env)
      standAt pos
      holding [v, ov, iv] (setItem ov iv v)
      release [v, ov, iv] []) := fun _ => by cases i <;> first | rfl | cases h
theorem mGs_len : ∀ (ts : Tgs) (es : List Expr), mGs ts c es = true → es.length = ts.len
  | .nil, [], _ => rfl
  | .nil, _ :: _, h => by simp [mGs] at h
  | .cons t r, [], h => by simp [mGs] at h
  | .cons t r, e :: es, h => by
    simp only [mGs, Bool.and_eq_true] at h
    simp [Tgs.len, mGs_len r es h.2]
theorem asgEach_facts : ∀ (ts : Tgs) (es : List Expr), mGs ts c es = true → (assignEach es env).length = ts.len ∧ (assignEach es env).findIdx? (·.1) = none
  | .nil, [], _ => ⟨rfl, rfl⟩
  | .nil, _ :: _, h => by simp [mGs] at h
  | .cons t r, [], h => by simp [mGs] at h
  | .cons t r, e :: es, h => by
    simp only [mGs, Bool.and_eq_true] at h
    obtain ⟨h1, h2⟩ := asgEach_facts r es h.2
    rw [asg_cons h.1.1]
    refine ⟨by simp [Tgs.len, h1], ?_⟩
    rw [List.findIdx?_cons]
    simp [h2]
theorem mP_any : ∀ (r : Irs) (xs : List Expr), mP r c xs = true → (starEach xs env).any (·.1) = false
  | .nil, [], _ => rfl
  | .nil, _ :: _, h => by simp [mP] at h
  | .cons t r, [], h => by simp [mP] at h
  | .cons t r, e :: es, h => by
    simp only [mP, Bool.and_eq_true] at h
    rw [star_cons h.1.1, List.any_cons, mP_any r es h.2]
    rfl
  | .star _ _, _, h => by simp [mP] at h
/-- a written tuple's stores, as the scope says -/
theorem swp_ok {sc : Scope} {ts vs : List Expr} {k k2 : Nat} {p p2 : Pos} {r : Option (List Str)} (hsc : env.scope = sc) (hk : env.scope.kind = .function) (h : swp sc ts vs = some r) :
    swappedStores [.Tuple ts k p] (.Tuple vs k2 p2) env = pure r := by
  have hb : env.blockKind = .function := by unfold Env.blockKind; rw [hk]; rfl
  have hkn : ∀ x, env.kindOf x = sc.names.lookup x := fun x => by unfold Env.kindOf; rw [hsc]
  unfold swp at h
  unfold swappedStores
  simp only [hb, hkn]
  split at h
  · rename_i h0
    cases h
    have : (!(ts.length == 2 || ts.length == 3) || vs.length != ts.length || ScopeKind.function != ScopeKind.function) = true := by rw [h0]; rfl
    simp only [this, if_true]
  · rename_i h0
    have : (!(ts.length == 2 || ts.length == 3) || vs.length != ts.length || ScopeKind.function != ScopeKind.function) = false := by
      rw [Bool.eq_false_iff] at *
      simpa using h0
    simp only [this, Bool.false_eq_true, if_false]
    split at h
    · rename_i h1
      cases h
      exact if_pos h1
    · rename_i h1
      refine (if_neg h1).trans ?_
      dsimp only at h
      split at h
      · rename_i h2
        cases h
        exact if_pos h2
      · rename_i h2
        refine (if_neg h2).trans ?_
        split at h
        · rename_i h3
          cases h
          exact if_pos h3
        · rename_i h3
          refine (if_neg h3).trans ?_
          split at h
          · cases h
          · rename_i h4
            cases h
            exact if_neg h4
theorem swpNone_ok {sc : Scope} {g e : Expr} (hsc : env.scope = sc) (hk : env.scope.kind = .function) (h : swpNone sc g e = true) : swappedStores [g] e env = pure none := by
  cases g <;> cases e <;> first | rfl | (simp [swpNone] at h; done) | skip
  exact swp_ok hsc hk (by simpa [swpNone] using h)

/-! ## the soundness of it all -/
theorem split1 {a b : Bool} (h : (a && b) = true) : a = true ∧ b = true := by simpa using h
mutual
theorem sE : ∀ (r : Ir) {c : Cc} {X : Cx} {W : WX} {e : Expr}, CxOk T C Cl W X c → mE r c e = true → PE X e (teD X.K Cl W (wEx T C r))
  | .v i, c, X, W, e, ok, h => by
    unfold mE at h
    split at h <;> first | (cases h; done) | skip
    simp only [Bool.and_eq_true] at h
    obtain ⟨d1, d2, _⟩ := okName_dbg h.2
    exact d_v (ok.at h.1.2) (ok.vis h.1.1) d1 d2
  | .ci i, c, X, W, e, ok, h => by
    unfold mE at h
    split at h <;> first | (cases h; done) | skip
    cases of_decide_eq_true h
    exact d_c pe_int fun _ => repI.2 rfl
  | .cb i, c, X, W, e, ok, h => by
    unfold mE at h
    split at h <;> first | (cases h; done) | skip
    cases of_decide_eq_true h
    exact d_c pe_bl fun _ => repB.2 rfl
  | .cn, c, X, W, e, ok, h => by
    unfold mE at h
    split at h <;> first | (cases h; done) | skip
    exact d_c pe_non fun _ => repN.2 rfl
  | .cs i, c, X, W, e, ok, h => by
    unfold mE at h
    split at h <;> first | (cases h; done) | skip
    cases (beq_iff_eq.mp h)
    exact d_c pe_str fun _ => repS.2 rfl
  | .gc j, c, X, W, e, ok, h => by
    unfold mE at h
    split at h <;> first | (cases h; done) | skip
    simp only [Bool.and_eq_true] at h
    obtain ⟨d1, d2, _⟩ := okName_dbg h.2
    obtain ⟨u, v, hm, r, rp⟩ := ok.cons j _ (atN_get h.1.2)
    exact d_c (pe_glob (ok.glob h.1.1) hm r d1) rp
  | .bin op a b, c, X, W, e, ok, h => by
    unfold mE at h
    split at h <;> first | (cases h; done) | skip
    simp only [Bool.and_eq_true, decide_eq_true_eq] at h
    obtain ⟨⟨rfl, h1⟩, h2⟩ := h
    exact d_bin (sE a ok h1) (sE b ok h2)
  | .neg a, c, X, W, e, ok, h => by
    unfold mE at h
    split at h <;> first | (cases h; done) | skip
    exact d_neg (sE a ok h)
  | .nt a, c, X, W, e, ok, h => by
    unfold mE at h
    split at h <;> first | (cases h; done) | skip
    exact d_nt (sE a ok h)
  | .cmp op a b, c, X, W, e, ok, h => by
    unfold mE at h
    split at h <;> first | (cases h; done) | skip
    simp only [Bool.and_eq_true, decide_eq_true_eq, Bool.not_eq_true'] at h
    obtain ⟨⟨⟨rfl, h0⟩, h1⟩, h2⟩ := h
    exact d_cmp (by have := ok.un; omega) h0 (sE a ok h1) (sE b ok h2)
  | .cmp2 op op' a b d, c, X, W, e, ok, h => by
    unfold mE at h
    split at h <;> first | (cases h; done) | skip
    simp only [Bool.and_eq_true, decide_eq_true_eq, Bool.not_eq_true'] at h
    obtain ⟨⟨⟨⟨⟨rfl, rfl⟩, h0⟩, h1⟩, h2⟩, h3⟩ := h
    exact d_cmp2 (by have := ok.un; omega) h0 (sE a ok h1) (sE b ok h2) (sE d ok h3)
  | .and a b, c, X, W, e, ok, h => by
    unfold mE at h
    split at h <;> first | (cases h; done) | skip
    obtain ⟨h1, h2⟩ := split1 h
    exact d_and (sE a ok h1) (sE b ok h2)
  | .or a b, c, X, W, e, ok, h => by
    unfold mE at h
    split at h <;> first | (cases h; done) | skip
    obtain ⟨h1, h2⟩ := split1 h
    exact d_or (sE a ok h1) (sE b ok h2)
  | .one a, c, X, W, e, ok, h => by
    unfold mE at h
    split at h <;> first | (cases h; done) | skip
    exact pe_one (sE a ok h)
  | .ite t a b, c, X, W, e, ok, h => by
    unfold mE at h
    split at h <;> first | (cases h; done) | skip
    simp only [Bool.and_eq_true] at h
    exact d_ite (sT t ok h.1.1) (sE a ok h.1.2) (sE b ok h.2)
  | .tup es, c, X, W, e, ok, h => by
    unfold mE at h
    split at h <;> first | (cases h; done) | skip
    exact d_tup (sL es ok h)
  | .lst es, c, X, W, e, ok, h => by
    unfold mE at h
    split at h <;> first | (cases h; done) | skip
    exact d_lst (sL es ok h)
  | .ix a i, c, X, W, e, ok, h => by
    unfold mE at h
    split at h <;> first | (cases h; done) | skip
    simp only [Bool.and_eq_true] at h
    exact d_ix (plain_ix h.1.1) (sE a ok h.1.2) (sE i ok h.2)
  | .sl a lo hi, c, X, W, e, ok, h => by
    unfold mE at h
    split at h <;> first | (cases h; done) | skip
    simp only [Bool.and_eq_true] at h
    exact d_sl (sE a ok h.1.1) (sO lo ok h.1.2) (sO hi ok h.2)
  | .call j np nk es ks, c, X, W, e, ok, h => by
    unfold mE at h
    split at h <;> first | (cases h; done) | skip
    rename_i x0 p0 xs kws pos
    split at h <;> first | (cases h; done) | skip
    rename_i f ef
    simp only [Bool.and_eq_true, decide_eq_true_eq, beq_iff_eq] at h
    obtain ⟨⟨⟨⟨⟨⟨⟨rfl, rfl⟩, rfl⟩, hg⟩, hn⟩, hk⟩, h1⟩, h2⟩ := h
    obtain ⟨d1, d2, _⟩ := okName_dbg hn
    obtain ⟨k1, k2, k3⟩ := kw_names (pos := pos) (env := X.env) kws f.ks hk
    have hp : (backTo pos (starEach xs X.env)).any (·.1) = false := by rw [any_back]; exact mP_any es xs h1
    cases es with
    | nil =>
      cases xs with
      | nil => exact d_call0 (ok.calls j f ef) rfl ok.takes (ok.glob hg) d1 (sK ks ok h2) k1 k2 (by rw [hp, k3]; rfl)
      | cons x xs => simp [mP] at h1
    | cons a r =>
      cases xs with
      | nil => simp [mP] at h1
      | cons x xs =>
        have hs : notStar x = true := by simp only [mP, Bool.and_eq_true] at h1; exact h1.1.1
        exact d_call1 (ok.calls j f ef) rfl ok.takes (ok.glob hg) d1 (sP (.cons a r) ok h1) (sK ks ok h2) k1 k2 (by rw [hp, k3]; rfl) (star_cons hs)
    | star a r => simp [mP] at h1
  | .blt b es, c, X, W, e, ok, h => by
    unfold mE at h
    split at h <;> first | (cases h; done) | skip
    rename_i x p y ys pos
    simp only [Bool.and_eq_true, Blt.ok, beq_iff_eq] at h
    obtain ⟨⟨⟨⟨rfl, hn⟩, hb⟩, hg⟩, h1⟩ := h
    obtain ⟨d1, d2, d3⟩ := okName_dbg hn
    have hs : notStar y = true ∧ (starEach ys X.env).any (·.1) = false := by
      cases es with
      | nil => simp [mP] at h1
      | star a r => simp [mP] at h1
      | cons a r =>
        simp only [mP, Bool.and_eq_true] at h1
        exact ⟨h1.1.1, mP_any r ys h1.2⟩
    refine d_blt ok.calm ok.gd ok.un (ok.glob hg) ?_ d3 d1 (sP es ok h1) (star_cons hs.1) (by rw [any_back]; exact hs.2)
    cases hi : b.imp with
    | true =>
      rw [hi, if_pos rfl] at hb
      exact .inl ⟨rfl, ok.imps b hi hb⟩
    | false =>
      rw [hi, if_neg Bool.false_ne_true] at hb
      exact .inr ⟨rfl, ok.blts _ hb, boot_blt b hi⟩
  | .isi a S, c, X, W, e, ok, h => by
    unfold mE at h
    split at h <;> first | (cases h; done) | skip
    simp only [Bool.and_eq_true, beq_iff_eq] at h
    obtain ⟨⟨⟨⟨⟨⟨⟨⟨⟨rfl, g1⟩, b1⟩, g2⟩, b2⟩, hn⟩, rfl⟩, hT⟩, hs⟩, h1⟩ := h
    obtain ⟨d1, d2, d3⟩ := okName_dbg hn
    exact d_isi hT (ok.glob g1) (ok.blts _ b1) (ok.glob g2) (ok.blts _ b2) (boot_ty hT) d3 d1 (sE a ok h1) (star2 hs rfl)
  | .app o a, c, X, W, e, ok, h => by
    unfold mE at h
    split at h <;> first | (cases h; done) | skip
    simp only [Bool.and_eq_true, beq_iff_eq] at h
    obtain ⟨⟨⟨⟨⟨rfl, hc⟩, hl⟩, hs⟩, h1⟩, h2⟩ := h
    exact d_app (sE o ok h1) (sE a ok h2) (star1 hs) (base_no hc) (by simpa using hl)
  | .lc a t it own, c, X, W, e, ok, h => by
    unfold mE at h
    split at h <;> first | (cases h; done) | skip
    simp only [Bool.and_eq_true] at h
    obtain ⟨⟨⟨⟨h0, hs⟩, h1⟩, h2⟩, h3⟩ := h
    obtain ⟨B, ev, hsub⟩ := ok.blkOk h0
    exact d_lc (tB := fun _ _ M Q => Q true M) ok.calm ok.nd (sI it ok h1) B ev hsub (fun s H a cl fp => sG t (ok.blk s H _ a cl fp) h2)
      (fun s H a cl fp => ⟨fun pins s σ H Q I ⟨τ, M, E, q, sl, m, xc, h, k⟩ => pts_nil.run pins s σ H Q I (k true H M (Keep.refl H) m h)⟩)
      (fun s H b cl fp => sE a (ok.blk s H _ b cl fp) h3) (set_no hs)
  | .lcf a t it u own, c, X, W, e, ok, h => by
    unfold mE at h
    split at h <;> first | (cases h; done) | skip
    simp only [Bool.and_eq_true] at h
    obtain ⟨⟨⟨⟨⟨h0, hs⟩, h1⟩, h2⟩, h4⟩, h3⟩ := h
    obtain ⟨B, ev, hsub⟩ := ok.blkOk h0
    exact d_lc ok.calm ok.nd (sI it ok h1) B ev hsub (fun s H a cl fp => sG t (ok.blk s H _ a cl fp) h2)
      (fun s H a cl fp => pts_one (sT u (ok.blk s H _ a cl fp) h4))
      (fun s H b cl fp => sE a (ok.blk s H _ b cl fp) h3) (set_no hs)
theorem sT : ∀ (r : Tt) {c : Cc} {X : Cx} {W : WX} {e : Expr}, CxOk T C Cl W X c → mT r c e = true → PT X e (ttD X.K Cl W (wBx T C r))
  | .tv a, c, X, W, e, ok, h => by
    unfold mT at h
    obtain ⟨h1, h2⟩ := split1 h
    exact dt_tv (plain_t h1) (sE a ok h2)
  | .tnot a, c, X, W, e, ok, h => by
    unfold mT at h
    split at h <;> first | (cases h; done) | skip
    exact dt_not (sT a ok h)
  | .tand a b, c, X, W, e, ok, h => by
    unfold mT at h
    split at h <;> first | (cases h; done) | skip
    obtain ⟨h1, h2⟩ := split1 h
    exact (dw_and (sT a ok h1) (sW b ok h2)).pt
  | .tor a b, c, X, W, e, ok, h => by
    unfold mT at h
    split at h <;> first | (cases h; done) | skip
    obtain ⟨h1, h2⟩ := split1 h
    exact (dw_or (sT a ok h1) (sW b ok h2)).pt
  | .tone a, c, X, W, e, ok, h => by
    unfold mT at h
    split at h <;> first | (cases h; done) | skip
    rename_i op x p
    cases op
    · exact (dw_and1 (sT a ok h)).pt
    · exact (dw_or1 (sT a ok h)).pt
  | .tcmp op a b, c, X, W, e, ok, h => by
    unfold mT at h
    split at h <;> first | (cases h; done) | skip
    simp only [Bool.and_eq_true, decide_eq_true_eq, Bool.not_eq_true'] at h
    obtain ⟨⟨⟨rfl, h0⟩, h1⟩, h2⟩ := h
    exact dt_cmp (by have := ok.un; omega) h0 (sE a ok h1) (sE b ok h2)
  | .tcmp2 op op' a b d, c, X, W, e, ok, h => by
    unfold mT at h
    split at h <;> first | (cases h; done) | skip
    simp only [Bool.and_eq_true, decide_eq_true_eq, Bool.not_eq_true'] at h
    obtain ⟨⟨⟨⟨⟨rfl, rfl⟩, h0⟩, h1⟩, h2⟩, h3⟩ := h
    exact dt_cmp2 (by have := ok.un; omega) h0 (sE a ok h1) (sE b ok h2) (sE d ok h3)
theorem sW : ∀ (r : Tt) {c : Cc} {X : Cx} {W : WX} {op : BoolOp} {xs : List Expr} {p : Pos}, CxOk T C Cl W X c → mT r c (.BoolOp op xs p) = true → PW X (.BoolOp op xs p) (ttD X.K Cl W (wBx T C r))
  | .tv a, c, X, W, op, xs, p, ok, h => by simp [mT, plainT] at h
  | .tnot a, c, X, W, op, xs, p, ok, h => by simp [mT] at h
  | .tcmp .., c, X, W, op, xs, p, ok, h => by simp [mT] at h
  | .tcmp2 .., c, X, W, op, xs, p, ok, h => by simp [mT] at h
  | .tand a b, c, X, W, op, xs, p, ok, h => by
    unfold mT at h
    split at h <;> first | (cases h; done) | skip
    rename_i e
    cases e
    obtain ⟨h1, h2⟩ := split1 h
    exact dw_and (sT a ok h1) (sW b ok h2)
  | .tor a b, c, X, W, op, xs, p, ok, h => by
    unfold mT at h
    split at h <;> first | (cases h; done) | skip
    rename_i e
    cases e
    obtain ⟨h1, h2⟩ := split1 h
    exact dw_or (sT a ok h1) (sW b ok h2)
  | .tone a, c, X, W, op, xs, p, ok, h => by
    unfold mT at h
    split at h <;> first | (cases h; done) | skip
    rename_i e
    cases e
    cases op
    · exact dw_and1 (sT a ok h)
    · exact dw_or1 (sT a ok h)
theorem sL : ∀ (r : Irs) {c : Cc} {X : Cx} {W : WX} {xs : List Expr}, CxOk T C Cl W X c → mL r c xs = true → PA X xs (taD X.K Cl W (wLx T C r))
  | .nil, c, X, W, xs, ok, h => by
    unfold mL at h
    split at h <;> first | (cases h; done) | skip
    exact da_nil
  | .cons e r, c, X, W, xs, ok, h => by
    unfold mL at h
    split at h <;> first | (cases h; done) | skip
    simp only [Bool.and_eq_true] at h
    exact da_cons (sE e ok h.1.2) (sL r ok h.2) (star_cons h.1.1)
  | .star e r, c, X, W, xs, ok, h => by
    unfold mL at h
    split at h <;> first | (cases h; done) | skip
    obtain ⟨h1, h2⟩ := split1 h
    exact da_star (sE e ok h1) (sL r ok h2)
theorem sP : ∀ (r : Irs) {c : Cc} {X : Cx} {W : WX} {xs : List Expr}, CxOk T C Cl W X c → mP r c xs = true → PA X xs (taD X.K Cl W (wLx T C r))
  | .nil, c, X, W, xs, ok, h => by
    unfold mP at h
    split at h <;> first | (cases h; done) | skip
    exact da_nil
  | .cons e r, c, X, W, xs, ok, h => by
    unfold mP at h
    split at h <;> first | (cases h; done) | skip
    simp only [Bool.and_eq_true] at h
    exact da_cons (sE e ok h.1.2) (sP r ok h.2) (star_cons h.1.1)
  | .star e r, c, X, W, xs, ok, h => by simp [mP] at h
theorem sK : ∀ (r : Irs) {c : Cc} {X : Cx} {W : WX} {xs : List Keyword}, CxOk T C Cl W X c → mK r c xs = true → PK X xs (taD X.K Cl W (wLx T C r))
  | .nil, c, X, W, xs, ok, h => by
    unfold mK at h
    split at h <;> first | (cases h; done) | skip
    exact dk_nil
  | .cons e r, c, X, W, xs, ok, h => by
    unfold mK at h
    split at h <;> first | (cases h; done) | skip
    obtain ⟨h1, h2⟩ := split1 h
    exact dk_cons (sE e ok h1) (sK r ok h2)
  | .star e r, c, X, W, xs, ok, h => by simp [mK] at h
theorem sO : ∀ (r : Iro) {c : Cc} {X : Cx} {W : WX} {o : Option Expr}, CxOk T C Cl W X c → mO r c o = true → PO X o (toD X.K Cl W (wOx T C r))
  | .none, c, X, W, o, ok, h => by
    unfold mO at h
    split at h <;> first | (cases h; done) | skip
    exact do_none
  | .some e, c, X, W, o, ok, h => by
    unfold mO at h
    split at h <;> first | (cases h; done) | skip
    exact do_some (sE e ok h)
theorem sG : ∀ (r : Tg) {c : Cc} {X : Cx} {W : WX} {e : Expr}, CxOk T C Cl W X c → mG r c e = true → PG X e (tgD X.K Cl W r.slots (wGx T C r))
  | .nm i, c, X, W, e, ok, h => by
    unfold mG at h
    split at h <;> first | (cases h; done) | skip
    simp only [Bool.and_eq_true, Bool.or_eq_true] at h
    obtain ⟨h1, h2⟩ := h
    rcases h2 with h2 | ⟨h2, h3⟩
    · exact dg_nm ok.nd (ok.at h1) (.inl (ok.loc _ (isLoc_of h2))) (.inr (ok.loc _ (isLoc_of h2)))
    · obtain ⟨t1, t2, t3, t4⟩ := ok.top h2
      exact dg_nm ok.nd (ok.at h1) (.inr (by rw [t1]; exact isCel_of h3)) (.inl (t3 _))
  | .tp ts, c, X, W, e, ok, h => by
    unfold mG at h
    split at h <;> first | (cases h; done) | skip
    obtain ⟨h1, h2⟩ := asgEach_facts (env := X.env) ts _ h
    exact dg_tp ok.calm (sGs ts ok h) h1 h2
  | .sub a i, c, X, W, e, ok, h => by
    unfold mG at h
    split at h <;> first | (cases h; done) | skip
    simp only [Bool.and_eq_true] at h
    exact dg_sub (sE a ok h.1.2) (sE i ok h.2) (mG_sub h.1.1)
theorem sGs : ∀ (r : Tgs) {c : Cc} {X : Cx} {W : WX} {es : List Expr}, CxOk T C Cl W X c → mGs r c es = true → PGs X es (tgsD X.K Cl W r.slots (wGsx T C r))
  | .nil, c, X, W, es, ok, h => by
    unfold mGs at h
    split at h <;> first | (cases h; done) | skip
    exact dgs_nil
  | .cons t r, c, X, W, es, ok, h => by
    unfold mGs at h
    split at h <;> first | (cases h; done) | skip
    simp only [Bool.and_eq_true] at h
    exact dgs_cons (sG t ok h.1.2) (sGs r ok h.2) (by rw [asg_cons h.1.1]; rfl)
theorem sI : ∀ (r : Wk) {c : Cc} {X : Cx} {W : WX} {g e : Expr}, CxOk T C Cl W X c → mI r c g e = true → PI X g e (tiD X.K Cl W (wIx T C r))
  | .ex a, c, X, W, g, e, ok, h => by
    unfold mI at h
    exact di_ex (sE a ok h)
  | .rg1 a, c, X, W, g, e, ok, h => by
    unfold mI at h
    split at h <;> first | (cases h; done) | skip
    simp only [Bool.and_eq_true, beq_iff_eq] at h
    obtain ⟨⟨⟨⟨rfl, hg⟩, hb⟩, hs⟩, h1⟩ := h
    exact di_rg1 (ok.glob hg) (ok.blts _ hb) (sE a ok h1) (star1 hs)
  | .rg2 a b, c, X, W, g, e, ok, h => by
    unfold mI at h
    split at h <;> first | (cases h; done) | skip
    simp only [Bool.and_eq_true, beq_iff_eq] at h
    obtain ⟨⟨⟨⟨⟨⟨rfl, hg⟩, hb⟩, hs⟩, hs2⟩, h1⟩, h2⟩ := h
    exact di_rg2 (ok.glob hg) (ok.blts _ hb) (sE a ok h1) (sE b ok h2) (star2 hs hs2) (star1 hs2)
  | .enm a, c, X, W, g, e, ok, h => by
    unfold mI at h
    split at h <;> first | (cases h; done) | skip
    simp only [Bool.and_eq_true, beq_iff_eq] at h
    obtain ⟨⟨⟨⟨rfl, hg⟩, hb⟩, hs⟩, h1⟩ := h
    exact di_enm (ok.glob hg) (ok.blts _ hb) (sE a ok h1) (star1 hs)
  | .zp a b, c, X, W, g, e, ok, h => by
    unfold mI at h
    split at h <;> first | (cases h; done) | skip
    simp only [Bool.and_eq_true, beq_iff_eq] at h
    obtain ⟨⟨⟨⟨⟨⟨rfl, hg⟩, hb⟩, hs⟩, hs2⟩, h1⟩, h2⟩ := h
    exact di_zp (ok.glob hg) (ok.blts _ hb) (sE a ok h1) (sE b ok h2) (star2 hs hs2) (star1 hs2)
end
end Fx

set_option maxRecDepth 100000
namespace Fx
open PySem PySem.Spec PyProof.Rows L2
variable {T : Nat → DSp} {C : Nat → D} {Cl : Nat → Addr × Str}
theorem loc_of {c : Cc} {X : Cx} {W : WX} {x : Str} (ok : CxOk T C Cl W X c) (ht : c.top = true) (h : (isLoc c.sc x || isCel c.sc x) = true) : Loc X.env.scope x ∧ (X.fn x = true ∨ X.env.scope.names.lookup x = some .local) := by
  obtain ⟨t1, t2, t3, t4⟩ := ok.top ht
  rcases Bool.or_eq_true_iff.mp h with h | h
  · exact ⟨.inl (ok.loc _ (isLoc_of h)), .inl (t3 _)⟩
  · exact ⟨.inr (by rw [t1]; exact isCel_of h), .inl (t3 _)⟩
mutual
theorem sS : ∀ (r : Is) {c : Cc} {X : Cx} {W : WX} {s : Stmt}, CxOk T C Cl W X c → c.top = true → mS r c s = true → PS X s (tsD X.K Cl W (wSx T C r))
  | .asg i a, c, X, W, s, ok, ht, h => by
    unfold mS at h
    split at h <;> first | (cases h; done) | skip
    simp only [Bool.and_eq_true] at h
    obtain ⟨⟨⟨h1, h2⟩, h3⟩, h4⟩ := h
    obtain ⟨l1, l2⟩ := loc_of ok ht h2
    exact ds_asg ok.nd (ok.at h1) l1 (sE a ok h4) (swaps_no h3) l2
  | .asgLc i a t it own, c, X, W, s, ok, ht, h => by
    unfold mS at h
    split at h <;> first | (cases h; done) | skip
    rename_i x py e gs scope pos spos
    simp only [Bool.and_eq_true, Bool.not_eq_true'] at h
    obtain ⟨⟨⟨⟨h1, h2⟩, h3⟩, h4⟩, h5⟩ := h
    unfold mE at h5
    split at h5 <;> first | (cases h5; done) | skip
    rename_i heq
    cases heq
    simp only [Bool.and_eq_true] at h5
    obtain ⟨⟨⟨⟨h0, hs⟩, g1⟩, g2⟩, g3⟩ := h5
    obtain ⟨B, ev, hsub⟩ := ok.blkOk h0
    obtain ⟨t1, t2, t3, t4⟩ := ok.top ht
    have hy := ok.loc _ (isLoc_of h2)
    exact ds_asgLc (tB := fun _ _ M Q => Q true M) ok.calm ok.nd (ok.at h1) hy (sw_true t2 hy h3 h4) (sI it ok g1) B ev hsub (fun s H a cl fp => sG t (ok.blk s H _ a cl fp) g2)
      (fun s H a cl fp => ⟨fun pins s σ H Q I ⟨τ, M, E, q, sl, m, xc, h, k⟩ => pts_nil.run pins s σ H Q I (k true H M (Keep.refl H) m h)⟩)
      (fun s H b cl fp => sE a (ok.blk s H _ b cl fp) g3) (set_no hs)
  | .asgLcf i a t it u own, c, X, W, s, ok, ht, h => by
    unfold mS at h
    split at h <;> first | (cases h; done) | skip
    rename_i x py e gs scope pos spos
    simp only [Bool.and_eq_true, Bool.not_eq_true'] at h
    obtain ⟨⟨⟨⟨h1, h2⟩, h3⟩, h4⟩, h5⟩ := h
    unfold mE at h5
    split at h5 <;> first | (cases h5; done) | skip
    rename_i heq
    cases heq
    simp only [Bool.and_eq_true] at h5
    obtain ⟨⟨⟨⟨⟨h0, hs⟩, g1⟩, g2⟩, g4⟩, g3⟩ := h5
    obtain ⟨B, ev, hsub⟩ := ok.blkOk h0
    obtain ⟨t1, t2, t3, t4⟩ := ok.top ht
    have hy := ok.loc _ (isLoc_of h2)
    exact ds_asgLc ok.calm ok.nd (ok.at h1) hy (sw_true t2 hy h3 h4) (sI it ok g1) B ev hsub (fun s H a cl fp => sG t (ok.blk s H _ a cl fp) g2)
      (fun s H a cl fp => pts_one (sT u (ok.blk s H _ a cl fp) g4))
      (fun s H b cl fp => sE a (ok.blk s H _ b cl fp) g3) (set_no hs)
  | .asgT t a, c, X, W, s, ok, ht, h => by
    unfold mS at h
    split at h <;> first | (cases h; done) | skip
    simp only [Bool.and_eq_true] at h
    obtain ⟨⟨⟨⟨h1, h2⟩, h3⟩, h4⟩, h5⟩ := h
    obtain ⟨t1, t2, t3, t4⟩ := ok.top ht
    exact ds_asgT (sE a ok h5) (sG t ok h4) (swapsSole_no h2) (swpNone_ok t1 t2 h3) (by rw [asg_cons h1]; rfl)
  | .par i j a b, c, X, W, s, ok, ht, h => by
    unfold mS at h
    split at h <;> first | (cases h; done) | skip
    simp only [Bool.and_eq_true, decide_eq_true_eq] at h
    obtain ⟨⟨⟨⟨⟨⟨⟨⟨⟨h1, h2⟩, h3⟩, h4⟩, h5⟩, h6⟩, h7⟩, h8⟩, h9⟩, h10⟩ := h
    obtain ⟨t1, t2, t3, t4⟩ := ok.top ht
    exact ds_par ok.calm ok.nd (ok.at h1) (ok.at h2) h3 (ok.loc _ (isLoc_of h4)) (ok.loc _ (isLoc_of h5)) (sE a ok h9) (sE b ok h10) (star_cons h6) (star_cons h7) (swp_ok t1 t2 h8) rfl
  | .par3 i j l a b d, c, X, W, s, ok, ht, h => by
    unfold mS at h
    split at h <;> first | (cases h; done) | skip
    simp only [Bool.and_eq_true, decide_eq_true_eq] at h
    obtain ⟨⟨⟨⟨⟨⟨⟨⟨⟨⟨⟨⟨⟨⟨⟨h1, h2⟩, h3⟩, h4⟩, h5⟩, h6⟩, h7⟩, h8⟩, h9⟩, h10⟩, h11⟩, h12⟩, h13⟩, h14⟩, h15⟩, h16⟩ := h
    obtain ⟨t1, t2, t3, t4⟩ := ok.top ht
    exact ds_par3 ok.calm ok.nd (ok.at h1) (ok.at h2) (ok.at h3) h4 h5 h6 (ok.loc _ (isLoc_of h7)) (ok.loc _ (isLoc_of h8)) (ok.loc _ (isLoc_of h9)) (sE a ok h14) (sE b ok h15) (sE d ok h16) (star_cons h10) (star_cons h11) (star_cons h12) (swp_ok t1 t2 h13) rfl
  | .ex a, c, X, W, s, ok, ht, h => by
    unfold mS at h
    split at h <;> first | (cases h; done) | skip
    obtain ⟨h1, h2⟩ := split1 h
    exact ds_ex (sE a ok h2) (swaps_no h1)
  | .ret a, c, X, W, s, ok, ht, h => by
    unfold mS at h
    split at h <;> first | (cases h; done) | skip
    exact ds_ret (sE a ok h)
  | .retN, c, X, W, s, ok, ht, h => by
    unfold mS at h
    split at h <;> first | (cases h; done) | skip
    exact ds_retN
  | .pass, c, X, W, s, ok, ht, h => by
    unfold mS at h
    split at h <;> first | (cases h; done) | skip
    exact ds_pass
  | .brk, c, X, W, s, ok, ht, h => by
    unfold mS at h
    split at h <;> first | (cases h; done) | skip
    exact ds_brk
  | .cont, c, X, W, s, ok, ht, h => by
    unfold mS at h
    split at h <;> first | (cases h; done) | skip
    exact ds_cont
  | .ifs t a b, c, X, W, s, ok, ht, h => by
    unfold mS at h
    split at h <;> first | (cases h; done) | skip
    simp only [Bool.and_eq_true] at h
    exact ds_ifs (sT t ok h.1.1) (sSs a ok ht h.1.2) (sSs b ok ht h.2)
  | .whl t a, c, X, W, s, ok, ht, h => by
    unfold mS at h
    split at h <;> first | (cases h; done) | skip
    obtain ⟨h1, h2⟩ := split1 h
    obtain ⟨t1, t2, t3, t4⟩ := ok.top ht
    exact ds_whl t4 (sT t ok h1) (sSs a ok ht h2)
  | .for t it a, c, X, W, s, ok, ht, h => by
    unfold mS at h
    split at h <;> first | (cases h; done) | skip
    simp only [Bool.and_eq_true] at h
    obtain ⟨⟨⟨h0, h1⟩, h2⟩, h3⟩ := h
    obtain ⟨t1, t2, t3, t4⟩ := ok.top ht
    exact ds_for t4 ok.calm (sI it ok h1) (sG t ok h2) (sSs a ok ht h3) (set_no h0)
  | .never, c, X, W, s, ok, ht, h => ds_never
theorem sSs : ∀ (r : Iss) {c : Cc} {X : Cx} {W : WX} {ss : List Stmt}, CxOk T C Cl W X c → c.top = true → mSs r c ss = true → PSs X ss (tsD X.K Cl W (wSsx T C r))
  | .nil, c, X, W, ss, ok, ht, h => by
    unfold mSs at h
    split at h <;> first | (cases h; done) | skip
    exact dss_nil
  | .cons s r, c, X, W, ss, ok, ht, h => by
    unfold mSs at h
    split at h <;> first | (cases h; done) | skip
    obtain ⟨h1, h2⟩ := split1 h
    exact dss_cons (u := wSx T C s) (v := wSsx T C r) (sS s ok ht h1) (sSs r ok ht h2)
end

/-! ## a def keeps its contract -/
def startD (n : Nat) (ds : List D) : Tau := ds.map some ++ List.replicate (n - ds.length) none
theorem start_rel {K : PySem.W.Frag} {H : Hp} {N : List Str} {vs : List V} {ds : List D} (r : Reps K H ds vs) : SlR K H (L2.start N vs) (startD N.length ds) := by
  have hl := r.len
  unfold L2.start startD
  refine ⟨by simp [hl], fun i d e => ?_⟩
  by_cases hi : i < ds.length
  · rw [List.getElem?_append_left (by simpa using hi), List.getElem?_map] at e
    cases e1 : ds[i]? with
    | none => rw [e1] at e; cases e
    | some x =>
      rw [e1] at e
      cases e
      obtain ⟨v, h1, h2⟩ := r.get e1
      refine ⟨v, ?_, h2⟩
      rw [List.getElem?_append_left (by rw [List.length_map, hl]; exact hi), List.getElem?_map, h1]
      rfl
  · rw [List.getElem?_append_right (by simpa using hi), List.getElem?_replicate] at e
    split at e <;> cases e
/-- what the module holds, for defs of the words c -/
structure ModOk (P : Program) (w : World) (K : PySem.W.Frag) (mg : Str → Option Value) (base : Heap) (Cl : Nat → Addr × Str) (T : Nat → DSp) (C : Nat → D) (c : Cc) (k : Nat) : Prop where
  calls : ∀ A, RoomG k A → ∀ j f, c.forms[j]? = some f → CallOk P w K mg base A Cl f (T j)
  cons : ∀ j x, c.consts[j]? = some x → ∃ u v, mg x = some u ∧ RelV v u ∧ ∀ H, Rep K H (C j) v
  blts : ∀ x, c.blts.contains x = true → mg x = none
  imps : ∀ b : Blt, b.imp = true → c.imps.contains b.nm = true → mg b.nm = some b.fn
theorem def_ok {P : Program} {w : World} {K : PySem.W.Frag} {mg : Str → Option Value} {base : Heap} {x qual : Str} {st : Stmt} {f : Addr} {fd : FuncData} {ps : List Str} {k : Nat} {c : Cc} {d : DSp} (ir : Iss)
    (F : Fun K x qual st f fd) (S : FnScope c.N ps (defScope st)) (hc : c.sc = defScope st) (ht : c.top = true) (hm : mSs ir c (defBody st) = true) (M : ModOk P w K mg base Cl T C c k)
    (body : ∀ ds M e q, ds.length = ps.length → d ds M e q → wSsx T C ir (fun x _ M' => e x M') { nx := fun _ M' => q .non M', rt := q } (startD c.N.length ds) M) :
    FnG P w K mg base (k + 1) f fd ps (spD K Cl ps.length d) := by
  obtain ⟨oc, od, kV, doc, pm, an, cdv, ct, osl, rfl, lk, hcd⟩ := F.ex
  refine ⟨fun A fr s H args us vs Q E hr e0 hb r hsp => ?_⟩
  obtain ⟨hl, ds, M0, e, q, rd, m, hd, hq, hx⟩ := hsp
  have KX : K.In s.heap := e0.mod.kin.keeps fun b o z => (e0.bs b o z).1
  have lim : s.heap.NoLimit := e0.mod.nolimit.keeps fun b o z => (e0.bs b o z).1
  have hr' : RoomG k (A.deeper (envOfC qual (defScope st) s.heap.objs.size f cdv)) := ⟨hr.1.deeper _, hr.2⟩
  have kinds : ∀ y ∈ ps.zip us, (defScope st).names.lookup y.1 = some .local ∨ ((defScope st).names.lookup y.1 = some .cell ∧ ((cellsFrom (s.heap.objs.size + 1) (defScope st).names []).lookup y.1).isSome = true) := by
    rintro ⟨n, v⟩ hy
    rcases S.par n (List.of_mem_zip hy).1 with z | z
    · exact .inl z
    · exact .inr ⟨z, PySem.W.cellsFrom_some _ _ _ (.inl z)⟩
  refine codeAny_call_function hr.1.depth (KX _ _ lk) rfl S.co S.gen rfl (PySem.W.codeRec_of KX hcd) (hb _ _ _ _ ?_)
  refine wpAny_newFunctionEnv_cells S.kind kinds fun env he s1 y => ?_
  subst he
  refine ⟨lim.keeps y.toInCall.keep, codeAny_func ?_⟩
  have I := inv_start (CX := L2.CX P w) (E := E) S hr.1.hd e0 hl r y
  have ok : CxOk T C Cl (fun cls dx _ H => E cls dx H) (cxOf (L2.CX P w) P w K mg base c.N qual (defScope st) f cdv A fr s H E) c :=
    { hN := rfl, nd := S.nd, loc := fun x h => by rw [hc] at h; exact h, cel := fun x h => by rw [hc] at h; exact h, gl := fun x h => by rw [hc] at h; exact h,
      top := fun _ => ⟨hc.symm, S.kind, fun _ => rfl, passes_of rfl⟩, calm := rfl, gd := hr'.2, un := by have := hr'.1.un; show (A.deeper _).units + 100 < cLine; omega,
      calls := M.calls _ hr', cons := M.cons, blts := M.blts, imps := M.imps, takes := takes_of rfl rfl rfl rfl }
  have rn := (sSs ir ok ht hm).run [] s1 (L2.start c.N vs) H { nx := fun _ H' => Q .non H', rt := Q } I
    ⟨startD c.N.length ds, M0, fun z _ M' => e z M', _, start_rel rd, m, fun z σ' τ' H' dx v M' k1 _ e1 r1 m1 h1 => hx z H' dx v M' k1 e1 r1 m1 h1,
      body ds M0 e q (by rw [← rd.len]; exact hl) hd,
      ⟨fun σ' H' τ' M' k1 s1 m1 h1 => hq .non H' .non M' k1 (repN.2 rfl) m1 h1, fun v H' x M' k1 r1 m1 h1 => hq v H' x M' k1 r1 m1 h1, fun _ _ _ _ _ _ _ z => z.elim, fun _ _ _ _ _ _ _ z => z.elim⟩⟩
  refine wpAny_mono rn (fun fl s' hs => ?_) fun e' s' hs => hs
  cases fl with
  | ret u =>
    obtain ⟨v, σ', H', J, rv, z⟩ := hs
    exact ⟨v, H', J.os, J.bare, J.base, J.hok, rv, z⟩
  | next =>
    obtain ⟨σ', H', J, z⟩ := hs
    exact ⟨.non, H', J.os, J.bare, J.base, J.hok, rfl, z⟩
  | brk =>
    obtain ⟨_, _, _, z⟩ := hs
    exact z.elim
  | cont =>
    obtain ⟨_, _, _, z⟩ := hs
    exact z.elim
end Fx

set_option maxRecDepth 100000
namespace Fx
open PySem PySem.Spec PyProof.Rows L2
section
variable {P : Program} {w : World} {K : PySem.W.Frag} {mg : Str → Option Value} {base : Heap} {j k : Nat} {f : Addr} {fd : FuncData} {ps ks : List Str} {sp : Sp} {d : DSp} {Cl : Nat → Addr × Str} {A : Around} {nm : Str} {np : Nat} {pm : List Nat}
theorem FnG.mono (F : FnG P w K mg base j f fd ps sp) (h : j ≤ k) : FnG P w K mg base k f fd ps sp := ⟨fun A fr s H args us vs Q E hr => F.runs A fr s H args us vs Q E (hr.mono h)⟩
theorem pick_all {α : Type} : ∀ (xs : List α), pick (List.range xs.length) xs = xs := fun xs => by
  unfold pick
  apply List.ext_getElem?
  intro i
  have key : ∀ (n : Nat), n ≤ xs.length → (List.range n).filterMap (fun i => xs[i]?) = xs.take n := by
    intro n
    induction n with
    | zero => intro _; rfl
    | succ n ih =>
      intro hn
      rw [List.range_succ, List.filterMap_append, ih (by omega), List.take_succ]
      congr 1
  rw [key xs.length (Nat.le_refl _), List.take_length]
/-- a def called with all arguments by place -/
theorem call_pos (F : FnG P w K mg base j f fd ps (spD K Cl ps.length d)) (hm : mg nm = some (.ref f)) (hk : PySem.W.keepIn K (.ref f) = true) (hr : RoomG k A) (hjk : j ≤ k) (hl : ps.length = np)
    (hb : ∀ (s : Shared) (us : List Value), us.length = np → BindsTo s fd ⟨us, []⟩ (ps.zip us)) : CallOk P w K mg base A Cl ⟨nm, np, []⟩ d := by
  subst hl
  refine ⟨f, fd, j, ps, d, List.range ps.length, [], [], [], hm, hk, hr.mono hjk, F, fun _ => Reps.nil, .nil, fun n hn => by simpa using hn, by simp, fun s us ws _ h1 h2 => ?_, fun ds M e q hn h => ?_⟩
  · have h2' : ws = [] := List.length_eq_zero_iff.mp h2
    subst h2'
    have e : pick (List.range ps.length) (us ++ []) ++ [] = us := by
      rw [List.append_nil, List.append_nil, ← show us.length = ps.length from h1, pick_all]
    rw [e]
    exact hb s us h1
  · have e : pick (List.range ps.length) ds ++ [] = ds := by
      rw [List.append_nil, ← show ds.length = ps.length from hn, pick_all]
    rw [e]
    exact h
/-- .. with some by name -/
theorem call_kw (F : FnG P w K mg base j f fd ps (spD K Cl ps.length d)) (hm : mg nm = some (.ref f)) (hk : PySem.W.keepIn K (.ref f) = true) (hr : RoomG k A) (hjk : j ≤ k) (hp : ∀ n, n ∈ pm → n < np + ks.length) (hl : pm.length = ps.length)
    (hb : ∀ (s : Shared) (us ws : List Value), us.length = np → ws.length = ks.length → BindsTo s fd ⟨us, ks.zip ws⟩ (ps.zip (pick pm (us ++ ws)))) : CallOk P w K mg base A Cl ⟨nm, np, ks⟩ (fun ds M e q => d (pick pm ds) M e q) := by
  refine ⟨f, fd, j, ps, d, pm, [], [], [], hm, hk, hr.mono hjk, F, fun _ => Reps.nil, .nil, hp, by simpa using hl, fun s us ws _ h1 h2 => ?_, fun ds M e q _ h => by rw [List.append_nil]; exact h⟩
  rw [List.append_nil]
  exact hb s us ws h1 h2
end
/-- what is wanted of the law: it gives True for every script -/
def lawD : DSp := fun ds _ _ q => ∃ ns : List Int, ds = [.scr ns] ∧ ns.length ≤ 63 ∧ ∀ M, q (.bl true) M
section
variable {P : Program} {w : World} {K : PySem.W.Frag} {mg mb : Str → Option Value} {k : Nat} {fa a : Addr} {fd : FuncData} {x : Str} {s1 : Shared} {vs : List Value} {ns : List Int} {Cl : Nat → Addr × Str}
/-- the law's call from a heap of which H tells at most the script -/
theorem law_from {H : Hp} (KX : K.In s1.heap) (hns : s1.heap.Ns mainGlobals mg) (hb : s1.heap.Ns builtinsNs mb) (hbb : ∀ y : Str, y ≠ "__name__" → mb y = bootBuiltins y) (hlim : s1.heap.NoLimit) (hg : s1.gens = #[])
    (ha : s1.heap.get? a = some { cls := .type "list", data := .seq vs.toArray }) (hl : ns.length ≤ 63) (hr : RoomG k callerA)
    (F : ∀ base : Heap, K.In base → base.Ns mainGlobals mg → FnG P w K mg base k fa fd [x] (spD K Cl 1 lawD)) (hbind : ∀ (s : Shared) (u : Value), BindsTo s fd ⟨[u], []⟩ [(x, u)])
    (hS : ScrAt K H a ns) (hok : HOk P w H s1.heap) (only : ∀ b, H b ≠ none → b = a) (frozen : ∀ b u, H b = some u → ∃ o z, u = .frz o z) (out : H a ≠ none → K.lookup a = none) :
    codeAny (model P w) callerA (.call (.ref fa) ⟨[.ref a], []⟩) (fun r s' => r = .ok (.ret (.bool true)) ∧ OldK s1.heap s'.heap ∧ s'.os = s1.os ∧ AllBare s'.gens) s1 := by
  have nodict : ∀ {b : Addr} {o : Obj} {es : Array DictEntry} {ep : Nat}, s1.heap.get? b = some o → o.data = .dict es ep → H b = none := by
    intro b o es ep e d
    cases q : H b with
    | none => rfl
    | some u =>
      obtain rfl : b = a := only b (by rw [q]; simp)
      rw [ha] at e
      cases e
      have d' : Data.seq vs.toArray _ = Data.dict es ep := d
      cases d'
  have ns_hid : ∀ {b : Addr} {m : Str → Option Value}, s1.heap.Ns b m → (hidT s1.heap H).Ns b m := by
    rintro b m ⟨o, es, ep, e, d, r⟩
    exact ⟨o, es, ep, hidT_get e (nodict e d), d, r⟩
  have kin : K.In (hidT s1.heap H) := by
    intro b o e
    refine hidT_get (KX b o e) ?_
    cases q : H b with
    | none => rfl
    | some u =>
      obtain rfl : b = a := only b (by rw [q]; simp)
      rw [out (by rw [q]; simp)] at e
      cases e
  have mod : Mod K mg (hidT s1.heap H) := ⟨kin, ns_hid hns, ⟨mb, ns_hid hb, hbb⟩, let ⟨mc, h1, h2⟩ := hlim; ⟨mc, ns_hid h1, h2⟩⟩
  have e0 : Env0 P w K mg (hidT s1.heap H) callerA [] s1 H := ⟨rfl, mod, fun _ _ e => of_hidT e, Nat.le_of_eq (hidT_size _ _), trivial, fun b z => absurd z (by simp [frs]), hok, .of_eq hg⟩
  have run := (F _ kin (ns_hid hns)).runs callerA [] s1 H ⟨[.ref a], []⟩ [.ref a] [.ref a] (fun v _ => v = .bl true) (fun _ _ _ => False) hr e0 (hbind s1 (.ref a)) (.cons rfl .nil)
    ⟨rfl, [.scr ns], fun _ => none, fun _ _ => False, fun d _ => d = .bl true, .cons (repR.2 ⟨a, rfl, hS⟩) .nil, (fun _ _ e => nomatch e), ⟨ns, rfl, hl, fun _ => rfl⟩,
      (fun v H' d M' _ r _ e => by subst e; exact repB.1 r), fun _ _ _ _ _ _ _ _ _ z => z.elim⟩
  refine codeAny_mono run fun r s' h => ?_
  cases r with
  | error e =>
    obtain ⟨_, _, _, _, _, _, _, _, _, _, _, _, z⟩ := h
    exact z.elim
  | ok fl =>
    cases fl with
    | next => exact False.elim h
    | brk => exact False.elim h
    | cont => exact False.elim h
    | ret u =>
      obtain ⟨v, H', os, bare, un, hok', r', rfl⟩ := h
      obtain rfl : u = Value.bool true := r'
      refine ⟨rfl, OldK.of_keep fun b o e => ?_, os, bare⟩
      cases q : H b with
      | none => exact un.keep b o e q (by simp [frs]) (by simp)
      | some u =>
        obtain ⟨ob, z, rfl⟩ := frozen b u q
        obtain ⟨e1, _⟩ := hok b _ q
        obtain ⟨e2, _⟩ := hok' b _ (un.frzs b ob z q)
        rw [e] at e1
        cases e1
        exact e2
theorem law_go (KX : K.In s1.heap) (hns : s1.heap.Ns mainGlobals mg) (hb : s1.heap.Ns builtinsNs mb) (hbb : ∀ y : Str, y ≠ "__name__" → mb y = bootBuiltins y) (hlim : s1.heap.NoLimit) (hg : s1.gens = #[])
    (ha : s1.heap.get? a = some { cls := .type "list", data := .seq vs.toArray }) (hi : IntsAre vs ns) (hl : ns.length ≤ 63) (hr : RoomG k callerA)
    (F : ∀ base : Heap, K.In base → base.Ns mainGlobals mg → FnG P w K mg base k fa fd [x] (spD K Cl 1 lawD)) (hbind : ∀ (s : Shared) (u : Value), BindsTo s fd ⟨[u], []⟩ [(x, u)]) :
    codeAny (model P w) callerA (.call (.ref fa) ⟨[.ref a], []⟩) (fun r s' => r = .ok (.ret (.bool true)) ∧ OldK s1.heap s'.heap ∧ s'.os = s1.os ∧ AllBare s'.gens) s1 := by
  have rv := vals_ints hi
  have lv := hi.length
  have big : ns.length ≤ sizeLine := Nat.le_trans hl (by decide)
  cases hk : K.lookup a with
  | some o =>
    have e := KX a o hk
    rw [ha] at e
    cases e
    refine law_from (H := fun _ => none) KX hns hb hbb hlim hg ha hl hr F hbind (.inr (.inr ⟨_, vs.toArray, _, hk, rfl, rfl, rfl, by rw [List.size_toArray, lv]; exact big, by simpa using rv⟩)) (fun b u z => nomatch z) (fun b z => absurd rfl z) (fun b u z => nomatch z) fun z => absurd rfl z
  | none =>
    have here : ∀ {b : Addr} {u : HO}, (if b = a then some (HO.frz { cls := .type "list", data := .seq vs.toArray } (.lst (ns.map V.int))) else none) = some u → b = a ∧ u = .frz { cls := .type "list", data := .seq vs.toArray } (.lst (ns.map V.int)) := by
      intro b u z
      by_cases hb : b = a
      · rw [if_pos hb] at z
        cases z
        exact ⟨hb, rfl⟩
      · rw [if_neg hb] at z
        cases z
    refine law_from (H := fun b => if b = a then some (.frz { cls := .type "list", data := .seq vs.toArray } (.lst (ns.map V.int))) else none) KX hns hb hbb hlim hg ha hl hr F hbind (.inl ⟨_, if_pos rfl⟩) (fun b u z => ?_) (fun b z => ?_) (fun b u z => ⟨_, _, (here z).2⟩) fun _ => hk
    · obtain ⟨rfl, rfl⟩ := here z
      exact ⟨ha, by rw [List.length_map]; exact big, vs, _, rv, ha⟩
    · by_cases hb : b = a
      · exact hb
      · exact absurd (if_neg hb) z
end
/-- the end of the head's goal -/
theorem walkG {l : PySem.W.OpenLaw} {k : Nat} {q : Program} {loose : List Str} {XP : (Str → Option Value) → Heap → Prop} {YP : World → Heap → Prop} {d : DefRec} {K : Params → PySem.W.Frag} {x : Str}
    (hn : l.most = some 63) (hdf : d.params.defaults = []) (hr : RoomG k callerA) (hY : ∀ (w : World) (h : Heap), YP w h → (K w.params).In h)
    (F : ∀ (w : World) (mg : Str → Option Value) (fa : Addr) (h : Heap), (K w.params).In h → h.Ns mainGlobals mg → mg d.name = some (.ref fa) →
      ∃ (fd : FuncData) (Cl : Nat → Addr × Str), (∀ (s : Shared) (u : Value), BindsTo s fd ⟨[u], []⟩ [(x, u)]) ∧
        ∀ base : Heap, (K w.params).In base → base.Ns mainGlobals mg → FnG l.prog w (K w.params) mg base k fa fd [x] (spD (K w.params) Cl 1 lawD)) :
    PySem.W.WalkO q loose XP YP l.row.toRowW d [] (fun f vs => PySem.call f vs) := by
  refine Att.attach_call hn hdf fun w s0 s1 mg mb fa o pm cd doc a vs ns G Y _ _ _ hmg hobj hints hlen hg => ?_
  have KX := hY w _ Y
  obtain ⟨fd, Cl, hb, hF⟩ := F w mg fa _ KX G.T.g hmg
  exact law_go KX G.T.g G.T.b G.T.builtins G.T.nolimit hg hobj hints hlen hr hF hb
end Fx

set_option maxRecDepth 100000
namespace Fx
open PySem L2
theorem sz0 : (0 ≤ sizeLine) = True := eq_true (by decide)
theorem sz1 : (1 ≤ sizeLine) = True := eq_true (by decide)
theorem sz2 : (2 ≤ sizeLine) = True := eq_true (by decide)
theorem sz3 : (3 ≤ sizeLine) = True := eq_true (by decide)
theorem sz4 : (4 ≤ sizeLine) = True := eq_true (by decide)
theorem sz5 : (5 ≤ sizeLine) = True := eq_true (by decide)
theorem sz6 : (6 ≤ sizeLine) = True := eq_true (by decide)
/-! ## turns by an invariant; what lives on in the memory -/
/-- nothing that was there is lost or changed -/
def Ext (M M' : Mem) : Prop := ∀ b c, M b = some c → M' b = some c
theorem Ext.rfl' {M : Mem} : Ext M M := fun _ _ h => h
theorem Ext.trans {M M' M'' : Mem} (h : Ext M M') (g : Ext M' M'') : Ext M M'' := fun b c e => g b c (h b c e)
theorem put_at {M : Mem} {p : Addr} {c : Cell} : M.put p c p = some c := by simp [Mem.put]
theorem put_ne {M : Mem} {p b : Addr} {c : Cell} (h : b ≠ p) : M.put p c b = M b := by simp [Mem.put, h]
theorem Ext.put {M M' : Mem} {p : Addr} {c : Cell} (h : Ext M M') (hp : M p = none) : Ext M (M'.put p c) := fun b c' e => by
  by_cases q : b = p
  · subst q; rw [hp] at e; cases e
  · rw [put_ne q]; exact h b c' e
theorem Ext.new {M : Mem} {p : Addr} {c : Cell} (hp : M p = none) : Ext M (M.put p c) := Ext.rfl'.put hp

theorem forF_inv {asg : D → Tau → Mem → (Tau → Mem → Prop) → Prop} {body : DEnds → Tau → Mem → Prop} {ok : Mem → Prop} {d0 : DEnds} (J : List D → Tau → Mem → Prop)
    (hend : ∀ τ M, J [] τ M → ok M ∧ d0.nx τ M)
    (step : ∀ d ds τ M, J (d :: ds) τ M → ∀ nx : Tau → Mem → Prop, (∀ τ' M', J ds τ' M' → nx τ' M') → ok M ∧ asg d τ M fun τ1 M1 => body { d0 with nx := nx, ct := nx, bk := d0.nx } τ1 M1) :
    ∀ ds τ M, J ds τ M → forF asg body ok d0 ds τ M := by
  intro ds
  induction ds with
  | nil => intro τ M h; exact hend τ M h
  | cons d ds ih => intro τ M h; exact step d ds τ M h _ ih

theorem lcF_inv {asg : D → Tau → Mem → (Tau → Mem → Prop) → Prop} {tst : Tau → Mem → (Bool → Mem → Prop) → Prop} {elt : Tau → Mem → QD → Prop} {ok : Mem → Prop} {τ0 : Tau} {p : Addr} {q : Mem → Prop} (J : List D → List D → Mem → Prop)
    (hend : ∀ acc M, J [] acc M → M p = some (.lst acc) → ok M ∧ q M)
    (step : ∀ d ds acc M, J (d :: ds) acc M → M p = some (.lst acc) → ∀ (k : QD) (no : Mem → Prop), (∀ y M', M' p = some (.lst acc) → acc.length < sizeLine → J ds (acc ++ [y]) (M'.put p (.lst (acc ++ [y]))) → k y M') → (∀ M', M' p = some (.lst acc) → J ds acc M' → no M') →
      ok M ∧ asg d τ0 M fun τ1 M1 => tst τ1 M1 fun b M2 => if b = true then elt τ1 M2 k else no M2) :
    ∀ ds acc M, J ds acc M → M p = some (.lst acc) → lcF asg tst elt ok τ0 p q ds M := by
  intro ds
  induction ds with
  | nil => intro acc M h hp; exact hend acc M h hp
  | cons d ds ih =>
    intro acc M h hp
    exact step d ds acc M h hp _ _ (fun y M' e l j => ⟨acc, e, l, ih _ _ j put_at⟩) fun M' e j => ih _ _ j e
/-- a comprehension that tells each item (or leaves it out) and keeps R -/
theorem lcF_pure {asg : D → Tau → Mem → (Tau → Mem → Prop) → Prop} {tst : Tau → Mem → (Bool → Mem → Prop) → Prop} {elt : Tau → Mem → QD → Prop} {ok : Mem → Prop} {τ0 : Tau} {p : Addr} {q : Mem → Prop} (f : D → Option D) (R : Mem → Prop)
    (stay : ∀ M ds, R M → R (M.put p (.lst ds))) {ds : List D} {M : Mem} (hl : ds.length ≤ sizeLine) (hR : R M) (hp : M p = some (.lst []))
    (hok : ∀ M, R M → ok M) (hq : ∀ M', R M' → M' p = some (.lst (ds.filterMap f)) → q M')
    (step : ∀ d, d ∈ ds → ∀ M acc (k : QD) (no : Mem → Prop), R M → M p = some (.lst acc) → (∀ y, f d = some y → ∀ M', R M' → M' p = some (.lst acc) → k y M') → (f d = none → ∀ M', R M' → M' p = some (.lst acc) → no M') →
      asg d τ0 M fun τ1 M1 => tst τ1 M1 fun b M2 => if b = true then elt τ1 M2 k else no M2) :
    lcF asg tst elt ok τ0 p q ds M := by
  refine lcF_inv (J := fun rest acc M => R M ∧ (∀ d, d ∈ rest → d ∈ ds) ∧ acc ++ rest.filterMap f = ds.filterMap f ∧ acc.length + rest.length ≤ ds.length) ?_ ?_ ds [] M ⟨hR, fun d h => h, by simp, by simp⟩ hp
  · intro acc M ⟨r, _, e, _⟩ hp'
    refine ⟨hok M r, hq M r ?_⟩
    simp only [List.filterMap_nil, List.append_nil] at e
    rw [← e]; exact hp'
  · intro d rest acc M ⟨r, sub, e, l⟩ hp' k no hk hno
    refine ⟨hok M r, step d (sub d (List.mem_cons_self ..)) M acc k no r hp' ?_ ?_⟩
    · intro y hy M' r' hp''
      refine hk y M' hp'' (by simp only [List.length_cons] at l; omega) ⟨stay _ _ r', fun d' h => sub d' (List.mem_cons_of_mem _ h), ?_, by simp only [List.length_append, List.length_cons, List.length_nil] at l ⊢; omega⟩
      rw [← e, List.filterMap_cons, hy]
      simp
    · intro hy M' r' hp''
      refine hno M' hp'' ⟨r', fun d' h => sub d' (List.mem_cons_of_mem _ h), ?_, by simp only [List.length_cons] at l; omega⟩
      rw [← e, List.filterMap_cons, hy]
/-! ## the pool of a script: three whole numbers in a row -/
def Pool (M : Mem) (a : Addr) : Prop := ∃ x y z : Int, M a = some (.lst [.int x, .int y, .int z])
/-- the pool moved on, all else that was there stands -/
def ExtP (a : Addr) (M M' : Mem) : Prop := (∀ b c, b ≠ a → M b = some c → M' b = some c) ∧ Pool M' a
theorem ExtP.of {a : Addr} {M M' : Mem} (hp : Pool M a) (h : Ext M M') : ExtP a M M' := by
  obtain ⟨x, y, z, e⟩ := hp
  exact ⟨fun b c _ => h b c, x, y, z, h _ _ e⟩
theorem ExtP.trans {a : Addr} {M M' M'' : Mem} (h : ExtP a M M') (g : ExtP a M' M'') : ExtP a M M'' := ⟨fun b c n e => g.1 b c n (h.1 b c n e), g.2⟩
theorem ExtP.ext {a : Addr} {M M' M'' : Mem} (h : ExtP a M M') (g : Ext M' M'') : ExtP a M M'' := h.trans (.of h.2 g)
theorem ExtP.ne {a p : Addr} {M : Mem} (h : Pool M a) (hp : M p = none) : a ≠ p := fun e => by
  obtain ⟨x, y, z, e'⟩ := h
  subst e; rw [hp] at e'; cases e'
theorem Pool.put {a p : Addr} {c : Cell} {M : Mem} (h : Pool M a) (n : a ≠ p) : Pool (M.put p c) a := by
  obtain ⟨x, y, z, e⟩ := h
  exact ⟨x, y, z, by rw [put_ne n]; exact e⟩
end Fx

set_option maxRecDepth 100000
namespace Fx
open PySem L2
/-! ## the readings, case by case, for simp -/
section
variable {M : Mem} {Q : QD} {B : Bool → Prop} {i j : Int} {x y d : D} {s t : Str} {xs ys : List D} {a b : Addr} {ns : List Int} {α : Type}
theorem r_add : opF .Add (.int i) (.int j) M Q = Q (.int (i + j)) M := rfl
theorem r_adds : opF .Add (.str s) (.str t) M Q = (s.length + t.length ≤ sizeLine ∧ Q (.str (s ++ t)) M) := rfl
theorem r_addt : opF .Add (.tup xs) (.tup ys) M Q = (xs.length + ys.length ≤ sizeLine ∧ Q (.tup (xs ++ ys)) M) := rfl
theorem r_addo : opF .Add (.ob a) (.ob b) M Q = ∃ xs ys, M a = some (.lst xs) ∧ M b = some (.lst ys) ∧ newL (xs ++ ys) M Q := rfl
theorem r_sub : opF .Sub (.int i) (.int j) M Q = Q (.int (i - j)) M := rfl
theorem r_mul : opF .Mult (.int i) (.int j) M Q = (IntMulOk i j ∧ Q (.int (i * j)) M) := rfl
theorem r_mulo : opF .Mult (.ob a) (.int i) M Q = ∃ xs, M a = some (.lst xs) ∧ -(2 ^ 63) ≤ i ∧ i < 2 ^ 63 ∧ xs.length * i.toNat ≤ sizeLine ∧ ∀ p, M p = none → Q (.ob p) (M.put p (.lst (List.replicate i.toNat xs).flatten)) := rfl
theorem r_div : opF .FloorDiv (.int i) (.int j) M Q = (0 < j ∧ noPy i j ∧ Q (.int (i / j)) M) := rfl
theorem r_mod : opF .Mod (.int i) (.int j) M Q = (0 < j ∧ Q (.int (i % j)) M) := rfl
theorem r_pow : opF .Pow (.int i) (.int j) M Q = (CPow i j ∧ Q (.int (i ^ j.toNat)) M) := rfl
theorem r_shl : opF .LShift (.int i) (.int j) M Q = (CPow i j ∧ Q (.int (i * 2 ^ j.toNat)) M) := rfl
theorem r_shr : opF .RShift (.int i) (.int j) M Q = (0 ≤ j ∧ Q (.int (i / 2 ^ j.toNat)) M) := rfl
theorem r_band : opF .BitAnd (.int i) (.int j) M Q = Q (.int (Builtin.bitAnd i j)) M := rfl
theorem r_neg : negF (.int i) M Q = Q (.int (-i)) M := rfl
theorem r_eqi : eqF (.int i) (.int j) M B = B (decide (i = j)) := rfl
theorem r_eqs : eqF (.str s) (.str t) M B = B (decide (s = t)) := rfl
theorem r_cEq : cmpF .Eq x y M B = eqF x y M B := rfl
theorem r_cNe : cmpF .NotEq x y M B = eqF x y M fun b => B (!b) := rfl
theorem r_cLt : cmpF .Lt (.int i) (.int j) M B = B (decide (i < j)) := rfl
theorem r_cLe : cmpF .LtE (.int i) (.int j) M B = B (decide (i ≤ j)) := rfl
theorem r_cGt : cmpF .Gt (.int i) (.int j) M B = B (decide (j < i)) := rfl
theorem r_cGe : cmpF .GtE (.int i) (.int j) M B = B (decide (j ≤ i)) := rfl
theorem r_cIs : cmpF .Is x .non M B = B (isNone x) := by cases x <;> rfl
theorem r_cIsN : cmpF .IsNot x .non M B = B (!isNone x) := by cases x <;> rfl
theorem r_cIsB {k l : Bool} : cmpF .Is (.bl k) (.bl l) M B = B (decide (k = l)) := rfl
theorem r_cIsNB {k l : Bool} : cmpF .IsNot (.bl k) (.bl l) M B = B (!decide (k = l)) := rfl
theorem r_cIn : cmpF .In x y M B = inF x y M B := rfl
theorem r_cNi : cmpF .NotIn x y M B = inF x y M fun b => B (!b) := rfl
theorem r_ins : inF (.str s) (.str t) M B = B (!(Builtin.Str.occurrences t s 0 t.length 1).isEmpty) := by simp only [inF]
theorem r_tb {k : Bool} : truF (.bl k) M B = B k := rfl
theorem r_lt : lenF (.tup xs) M Q = Q (.int xs.length) M := rfl
theorem r_lr : lenF (.scr ns) M Q = Q (.int ns.length) M := rfl
theorem r_ls : lenF (.str s) M Q = (s.length ≤ sizeLine ∧ Q (.int s.length) M) := rfl
theorem r_lo : lenF (.ob a) M Q = ∃ ds, M a = some (.lst ds) ∧ Q (.int ds.length) M := rfl
theorem r_blen : bF .len [d] M Q = lenF d M Q := rfl
theorem r_babs : bF .abs [.int i] M Q = Q (.int (if i < 0 then -i else i)) M := rfl
theorem r_bmax : bF .max [.int i, .int j] M Q = Q (.int (if j > i then j else i)) M := rfl
theorem r_bmin : bF .min [.int i, .int j] M Q = Q (.int (if j < i then j else i)) M := rfl
theorem r_btup : bF .tuple [d] M Q = tupF d M Q := rfl
theorem r_blst : bF .list [d] M Q = lstF d M Q := rfl
theorem r_bsum : bF .sum [d] M Q = sumF d M Q := rfl
theorem r_ball : bF .all [d] M Q = allF (fun bs => bs.all id) d M Q := rfl
theorem r_bany : bF .any [d] M Q = allF (fun bs => bs.any id) d M Q := rfl
theorem r_bint : bF .int [.int i] M Q = Q (.int i) M := rfl
theorem r_bintb {k : Bool} : bF .int [.bl k] M Q = Q (.int (if k then 1 else 0)) M := rfl
theorem r_bgcd : bF .gcd [.int i, .int j] M Q = Q (.int (Int.gcd i j : Int)) M := rfl
theorem r_bdm : bF .divmod [.int i, .int j] M Q = (0 < j ∧ noPy i j ∧ Q (.tup [.int (i / j), .int (i % j)]) M) := rfl
theorem r_brep : bF .repr [d] M Q = reprF d M Q := rfl
theorem r_tt : tupF (.tup xs) M Q = Q (.tup xs) M := rfl
theorem r_tr : tupF (.scr ns) M Q = Q (.tup (ns.map .int)) M := rfl
theorem r_to : tupF (.ob a) M Q = ∃ ds, M a = some (.lst ds) ∧ Q (.tup ds) M := rfl
theorem r_lot : lstF (.tup xs) M Q = ∀ p, M p = none → Q (.ob p) (M.put p (.lst xs)) := rfl
theorem r_lor : lstF (.scr ns) M Q = ∀ p, M p = none → Q (.ob p) (M.put p (.lst (ns.map .int))) := rfl
theorem r_loo : lstF (.ob a) M Q = ∃ ds, M a = some (.lst ds) ∧ ∀ p, M p = none → Q (.ob p) (M.put p (.lst ds)) := rfl
theorem r_opt {v : α} {Q : α → Prop} : optF (some v) Q = Q v := rfl
theorem r_ixt : ixF (.tup xs) (.int i) M Q = optF (atI xs i) fun d => Q d M := rfl
theorem r_ixo : ixF (.ob a) (.int i) M Q = ∃ ds, M a = some (.lst ds) ∧ optF (atI ds i) fun d => Q d M := rfl
theorem r_ixr : ixF (.scr ns) (.int i) M Q = optF (atI ns i) fun n => Q (.int n) M := rfl
theorem r_ixs : ixF (.str s) (.int i) M Q = (s.length ≤ sizeLine ∧ optF (atI s.cps.toList i) fun c => Q (.str ⟨#[c]⟩) M) := rfl
theorem r_slt {lo hi : Option Int} : slF (.tup xs) lo hi M Q = Q (.tup (cutD xs lo hi)) M := rfl
theorem r_slo {lo hi : Option Int} : slF (.ob a) lo hi M Q = ∃ ds, M a = some (.lst ds) ∧ ∀ p, M p = none → Q (.ob p) (M.put p (.lst (cutD ds lo hi))) := rfl
theorem r_slr {lo hi : Option Int} : slF (.scr ns) lo hi M Q = ∀ p, M p = none → Q (.ob p) (M.put p (.lst ((cutD ns lo hi).map .int))) := rfl
theorem r_sls {lo hi : Option Int} : slF (.str s) lo hi M Q = (s.length ≤ sizeLine ∧ Q (.str (cutS s lo hi)) M) := rfl
theorem r_set {Q : Mem → Prop} : setF (.ob a) (.int i) d M Q = ∃ ds, M a = some (.lst ds) ∧ optF (ixN ds.length i) fun j => Q (M.put a (.lst (ds.set j d))) := rfl
theorem r_app : appF (.ob a) d M Q = ∃ ds, M a = some (.lst ds) ∧ ds.length < sizeLine ∧ Q .non (M.put a (.lst (ds ++ [d]))) := rfl
theorem r_lat : lstAt (.ob a) M = ∃ ds, M a = some (.lst ds) := rfl
variable {k : Src → Mem → Prop}
theorem r_itt : itF (.tup xs) M k = k ⟨xs, fun _ => True⟩ M := rfl
theorem r_itr : itF (.scr ns) M k = k ⟨ns.map .int, fun _ => True⟩ M := rfl
theorem r_ito : itF (.ob a) M k = ∃ ds, M a = some (.lst ds) ∧ k ⟨ds, fun M' => M' a = some (.lst ds)⟩ M := rfl
theorem r_its : itF (.str s) M k = k ⟨s.cps.toList.map fun c => .str ⟨#[c]⟩, fun _ => True⟩ M := rfl
theorem r_rg : rgF (.int i) (.int j) M k = ((-(2 ^ 62) ≤ i ∧ i < 2 ^ 62 ∧ -(2 ^ 62) ≤ j ∧ j < 2 ^ 62) ∧ k ⟨(intsTo (j - i).toNat).map fun k => .int (i + k), fun _ => True⟩ M) := rfl
theorem r_en : enF (.ob a) M k = ∃ ds, M a = some (.lst ds) ∧ k ⟨ds.zipIdx.map fun p => .tup [.int p.2, p.1], fun M' => M' a = some (.lst ds)⟩ M := rfl
theorem r_ent : enF (.tup xs) M k = k ⟨xs.zipIdx.map fun p => .tup [.int p.2, p.1], fun _ => True⟩ M := rfl
theorem r_zp : zpF (.tup xs) (.tup ys) M k = k ⟨(xs.zip ys).map fun p => .tup [p.1, p.2], fun _ => True⟩ M := rfl
theorem r_stt {Q : List D → Prop} : starF (.tup xs) M Q = Q xs := rfl
theorem r_str {Q : List D → Prop} : starF (.scr ns) M Q = Q (ns.map .int) := rfl
theorem r_sto {Q : List D → Prop} : starF (.ob a) M Q = ∃ ds, M a = some (.lst ds) ∧ Q ds := rfl
end
theorem r_g0 {d : D} {τ : Tau} {Q : D → Prop} : getV (some d :: τ) 0 Q = Q d := rfl
theorem r_gs {o : Option D} {τ : Tau} {i : Nat} {Q : D → Prop} : getV (o :: τ) (i + 1) Q = getV τ i Q := rfl
theorem r_newL {ds : List D} {M : Mem} {Q : QD} : newL ds M Q = (ds.length ≤ sizeLine ∧ ∀ p, M p = none → Q (.ob p) (M.put p (.lst ds))) := rfl
theorem mulL {a b : Int} (h1 : -18446744073709551616 < a) (h2 : a < 18446744073709551616) : IntMulOk a b = True := eq_true (.of_left (intBits_le_64 (by omega) (by omega)))
theorem mulR {a b : Int} (h1 : -18446744073709551616 < b) (h2 : b < 18446744073709551616) : IntMulOk a b = True := eq_true (.of_right (intBits_le_64 (by omega) (by omega)))
theorem noPyR {a b : Int} (h1 : -1073741824 < b) (h2 : b < 1073741824) : noPy a b = True := eq_true (PyProof.noPylong_small (by omega))
theorem cp64 : CPow 10 64 = True := eq_true (by unfold CPow; decide)
theorem cp18 : CPow 10 18 = True := eq_true (by unfold CPow; decide)
theorem cp15 : CPow 10 15 = True := eq_true (by unfold CPow; decide)
/-! ## places in a row told out -/
section
variable {α : Type} {x y z u v : α} {xs : List α} {n : Nat}
theorem ixN_nat {k : Nat} (h : k < n) : ixN n (k : Int) = some k := by
  unfold ixN
  rw [if_pos (by omega), if_pos (by omega)]; simp
theorem atK {k : Nat} (h : k < xs.length) : atI xs (k : Int) = some xs[k] := by
  unfold atI
  rw [ixN_nat h]; simp [h]
theorem atI_last (h : 0 < xs.length) : atI xs (-1) = some (xs[xs.length - 1]'(by omega)) := by
  unfold atI ixN
  rw [if_neg (by omega), if_pos (by omega)]
  have : (-1 + (xs.length : Int)).toNat = xs.length - 1 := by omega
  simp only [Option.bind_some, this]
  simp
theorem at_0 : atI (x :: xs) 0 = some x := atK (k := 0) (by simp)
theorem at_1 : atI (x :: y :: xs) 1 = some y := atK (k := 1) (by simp)
theorem at_2 : atI (x :: y :: z :: xs) 2 = some z := atK (k := 2) (by simp)
theorem at_3 : atI (x :: y :: z :: u :: xs) 3 = some u := atK (k := 3) (by simp)
theorem at_4 : atI (x :: y :: z :: u :: v :: xs) 4 = some v := atK (k := 4) (by simp)
theorem at_ap : atI (xs ++ [x]) (-1) = some x := by
  rw [atI_last (by simp)]
  simp
theorem at_l1 : atI [x] (-1) = some x := atI_last (by simp)
theorem at_l2 : atI [x, y] (-1) = some y := atI_last (by simp)
theorem at_l3 : atI [x, y, z] (-1) = some z := atI_last (by simp)
theorem ix_0 : ixN (n + 1) 0 = some 0 := ixN_nat (k := 0) (by omega)
theorem ix_1 : ixN (n + 2) 1 = some 1 := ixN_nat (k := 1) (by omega)
theorem ix_2 : ixN (n + 3) 2 = some 2 := ixN_nat (k := 2) (by omega)
theorem ix30 : ixN 3 0 = some 0 := rfl
theorem ix31 : ixN 3 1 = some 1 := rfl
theorem ix32 : ixN 3 2 = some 2 := rfl
theorem ix20 : ixN 2 0 = some 0 := rfl
theorem ix21 : ixN 2 1 = some 1 := rfl
end
/-! ## a for over a range -/
theorem intsTo_length (n : Nat) : (intsTo n).length = n := by simp [intsTo]
theorem intsTo_at {n k : Nat} (h : k < (intsTo n).length) : (intsTo n)[k] = (k : Int) := by simp [intsTo]
theorem for_rg {asg : D → Tau → Mem → (Tau → Mem → Prop) → Prop} {body : DEnds → Tau → Mem → Prop} {ok : Mem → Prop} {d0 : DEnds} (J : Nat → Tau → Mem → Prop) {f : Int → D} {n : Nat} {τ : Tau} {M : Mem}
    (h0 : J 0 τ M) (hend : ∀ τ M, J n τ M → ok M ∧ d0.nx τ M)
    (step : ∀ k, k < n → ∀ τ M, J k τ M → ∀ nx : Tau → Mem → Prop, (∀ τ' M', J (k + 1) τ' M' → nx τ' M') → ok M ∧ asg (f (k : Int)) τ M fun τ1 M1 => body { d0 with nx := nx, ct := nx, bk := d0.nx } τ1 M1) :
    forF asg body ok d0 ((intsTo n).map f) τ M := by
  refine forF_inv (J := fun ds τ M => ∃ k, k ≤ n ∧ ds = ((intsTo n).map f).drop k ∧ J k τ M) ?_ ?_ _ _ _ ⟨0, Nat.zero_le _, rfl, h0⟩
  · rintro τ M ⟨k, hk, e, j⟩
    have : k = n := by
      have := congrArg List.length e
      simp only [List.length_drop, List.length_map, intsTo_length, List.length_nil] at this
      omega
    subst this
    exact hend τ M j
  · rintro d ds τ M ⟨k, hk, e, j⟩ nx hn
    have hlt : k < n := by
      have := congrArg List.length e
      simp only [List.length_drop, List.length_map, intsTo_length, List.length_cons] at this
      omega
    have e2 := List.drop_eq_getElem_cons (l := (intsTo n).map f) (i := k) (by rw [List.length_map, intsTo_length]; exact hlt)
    rw [e2] at e
    simp only [List.cons.injEq] at e
    obtain ⟨rfl, rfl⟩ := e
    rw [List.getElem_map, intsTo_at]
    exact step k hlt τ M j nx fun τ' M' j' => hn τ' M' ⟨k + 1, hlt, rfl, j'⟩
theorem mem_rg {n : Nat} {f : Int → D} {d : D} (h : d ∈ (intsTo n).map f) : ∃ k : Nat, k < n ∧ d = f k := by
  obtain ⟨i, hi, rfl⟩ := List.mem_map.1 h
  obtain ⟨k, hk, rfl⟩ := List.mem_map.1 hi
  exact ⟨k, List.mem_range.1 hk, rfl⟩
end Fx

set_option maxRecDepth 100000
set_option exponentiation.threshold 10000
namespace Fx
open PySem L2 PyProof.Rows
/-! ## data that may be shown and compared: no dict, depth, length of its text -/
structure Shp (n h : Nat) (p : PyData) : Prop where
  s : p.showable = true
  d : p.hasDict = false
  h : p.depth ≤ h
  n : p.shown.length ≤ n
  c : p.canLay0 = true
theorem Shp.up {n h n' h' : Nat} {p : PyData} (x : Shp n h p) (hn : n ≤ n') (hh : h ≤ h') : Shp n' h' p := ⟨x.s, x.d, Nat.le_trans x.h hh, Nat.le_trans x.n hn, x.c⟩
theorem Shp.non {h : Nat} : Shp 4 h .none := ⟨rfl, rfl, Nat.zero_le _, Nat.le_refl 4, rfl⟩
theorem Shp.bl {h : Nat} {b : Bool} : Shp 5 h (.bool b) := ⟨rfl, rfl, Nat.zero_le _, by cases b <;> decide, rfl⟩
theorem shown_int {i : Int} {k : Nat} (hk : 0 < k) (h : i.natAbs < 10 ^ k) : (PyData.shown (.int i)).length ≤ k + 1 := by
  show (Str.ofString (toString i)).length ≤ k + 1
  rw [PySem.ofString_length]
  exact int_text_length_le10 hk h
theorem Shp.int {h : Nat} {i : Int} (k : Nat) (hi : i.natAbs < 10 ^ k) (hk : 0 < k) (hk' : k ≤ 570) : Shp (k + 1) h (.int i) := by
  refine ⟨?_, rfl, Nat.zero_le _, shown_int hk hi, rfl⟩
  simp only [PyData.showable, decide_eq_true_eq]
  by_cases z : i.natAbs = 0
  · rw [z]; decide
  · refine (Nat.log2_lt z).2 (Nat.lt_of_lt_of_le hi ?_)
    refine Nat.le_trans (Nat.pow_le_pow_right (by decide) hk') (by decide)
theorem Shp.int64 {h : Nat} {i : Int} (hi : i.natAbs < 2 ^ 64) : Shp 21 h (.int i) := Shp.int 20 (by omega) (by decide) (by decide)
def ShpAll (n h : Nat) (ps : List PyData) : Prop := ∀ p, p ∈ ps → Shp n h p
section
variable {n h : Nat} {ps : List PyData}
theorem ShpAll.facts (x : ShpAll n h ps) : PyData.showableAll ps = true ∧ PyData.hasDictAll ps = false ∧ PyData.depthAll ps ≤ h ∧ ((PyData.shownAll ps).map (·.length)).sum ≤ n * ps.length ∧ PyData.canLayAll0 ps = true := by
  induction ps with
  | nil => simp [PyData.showableAll, PyData.hasDictAll, PyData.depthAll, PyData.shownAll, PyData.canLayAll0]
  | cons p ps ih =>
    obtain ⟨a, b, c, d, e⟩ := ih fun q hq => x q (List.mem_cons_of_mem _ hq)
    have y := x p (List.mem_cons_self ..)
    simp only [PyData.showableAll, PyData.hasDictAll, PyData.depthAll, PyData.shownAll, PyData.canLayAll0, a, b, e, y.s, y.d, y.c, List.map_cons, List.sum_cons, List.length_cons]
    have := y.n
    have := y.h
    refine ⟨rfl, rfl, by omega, ?_, rfl⟩
    rw [Nat.mul_add]; omega
theorem Shp.tup (x : ShpAll n h ps) : Shp ((n + 2) * ps.length + 3) (h + 1) (.tuple ps) := by
  obtain ⟨a, b, c, d, e⟩ := x.facts
  refine ⟨by simpa only [PyData.showable] using a, by simpa only [PyData.hasDict] using b, by simp only [PyData.depth]; omega, ?_, by simpa only [PyData.canLay0] using e⟩
  have h2 := tupleText_len_le (PyData.shownAll ps)
  have h3 := PyData.shownAll_length ps
  simp only [PyData.shown]
  rw [Nat.add_mul]
  omega
theorem Shp.lst (x : ShpAll n h ps) : Shp ((n + 2) * ps.length + 3) (h + 1) (.list ps) := by
  obtain ⟨a, b, c, d, e⟩ := x.facts
  refine ⟨by simpa only [PyData.showable] using a, by simpa only [PyData.hasDict] using b, by simp only [PyData.depth]; omega, ?_, by simpa only [PyData.canLay0] using e⟩
  have h2 := listText_len_le (PyData.shownAll ps)
  have h3 := PyData.shownAll_length ps
  simp only [PyData.shown]
  rw [Nat.add_mul]
  omega
end
/-- data that stands for p, fit to be shown -/
def Vw (M : Mem) (n h : Nat) (d : D) (p : PyData) : Prop := PyD M d p ∧ Shp n h p
inductive Vws (M : Mem) (n h : Nat) : List D → List PyData → Prop
  | nil : Vws M n h [] []
  | cons {d : D} {p : PyData} {ds : List D} {ps : List PyData} : Vw M n h d p → Vws M n h ds ps → Vws M n h (d :: ds) (p :: ps)
section
variable {M : Mem} {n h n' h' : Nat} {d : D} {p : PyData} {ds : List D} {ps : List PyData}
theorem Vw.up (x : Vw M n h d p) (hn : n ≤ n') (hh : h ≤ h') : Vw M n' h' d p := ⟨x.1, x.2.up hn hh⟩
theorem Vws.split (x : Vws M n h ds ps) : PyDs M ds ps ∧ ShpAll n h ps ∧ ps.length = ds.length := by
  induction x with
  | nil => exact ⟨.nil, (fun _ h => nomatch h), rfl⟩
  | cons a _ ih =>
    refine ⟨.cons a.1 ih.1, fun q hq => ?_, by simp [ih.2.2]⟩
    rcases List.mem_cons.1 hq with rfl | z
    · exact a.2
    · exact ih.2.1 q z
theorem Vw.int {i : Int} (hi : i.natAbs < 2 ^ 64) : Vw M 21 h (.int i) (.int i) := ⟨.int i, .int64 hi⟩
theorem Vw.bl {b : Bool} : Vw M 5 h (.bl b) (.bool b) := ⟨.bl b, .bl⟩
theorem Vw.non : Vw M 4 h .non .none := ⟨.non, .non⟩
theorem Vw.tup (x : Vws M n h ds ps) : Vw M ((n + 2) * ds.length + 3) (h + 1) (.tup ds) (.tuple ps) := by
  obtain ⟨a, b, c⟩ := x.split
  exact ⟨.tup a, by rw [← c]; exact .tup b⟩
theorem Vw.ob {a : Addr} (e : M a = some (.lst ds)) (x : Vws M n h ds ps) : Vw M ((n + 2) * ds.length + 3) (h + 1) (.ob a) (.list ps) := by
  obtain ⟨y, b, c⟩ := x.split
  exact ⟨.ob e y, by rw [← c]; exact .lst b⟩
/-- a list of the same thing told f -/
theorem Vws.map {α : Type} (f : α → D) (g : α → PyData) : ∀ xs : List α, (∀ x, x ∈ xs → Vw M n h (f x) (g x)) → Vws M n h (xs.map f) (xs.map g)
  | [], _ => .nil
  | x :: xs, w => .cons (w x (List.mem_cons_self ..)) (Vws.map f g xs fun y hy => w y (List.mem_cons_of_mem _ hy))
/-- repr -/
theorem rep_ok {Q : QD} (x : Vw M n h d p) (hd : isDisplay p = true) (hn : n ≤ sizeLine) (hh : h ≤ 64) (k : Q (.str p.shown) M) : reprF d M Q := ⟨p, x.1, ⟨x.2.s, x.2.d, hd, Nat.le_trans x.2.h hh, Nat.le_trans x.2.n hn⟩, k⟩
theorem shaped_of (x : Shp n h p) (hh : h ≤ 64) : SeqAt.shaped p = true := by
  have := x.h
  simp only [SeqAt.shaped, x.c, Bool.true_and, decide_eq_true_eq]; omega
/-- == of what is the same data -/
theorem eq_same {d' : D} {B : Bool → Prop} (x : Vw M n h d p) (y : PyD M d' p) (hh : h ≤ 64) (k : B true) : eqF d d' M B := by
  have z := shaped_of x.2 hh
  have g : ∃ p r, PyD M d p ∧ PyD M d' r ∧ SeqAt.shaped p = true ∧ SeqAt.shaped r = true ∧ B (PyData.eqv p r) := ⟨p, p, x.1, y, z, z, by rw [SeqAt.eqv_refl p x.2.c]; exact k⟩
  have q := x.1
  unfold eqF
  split
  · cases q; cases y; simpa using k
  · cases q; cases y; simpa using k
  · exact g
end
mutual
theorem PyD.ext {M M' : Mem} (hx : Ext M M') : ∀ {d : D} {p : PyData}, PyD M d p → PyD M' d p
  | _, _, .non => .non
  | _, _, .bl b => .bl b
  | _, _, .int i => .int i
  | _, _, .str x => .str x
  | _, _, .tup h => .tup (PyDs.ext hx h)
  | _, _, .ob e h => .ob (hx _ _ e) (PyDs.ext hx h)
  | _, _, .scr ns => .scr ns
theorem PyDs.ext {M M' : Mem} (hx : Ext M M') : ∀ {ds : List D} {ps : List PyData}, PyDs M ds ps → PyDs M' ds ps
  | _, _, .nil => .nil
  | _, _, .cons h t => .cons (PyD.ext hx h) (PyDs.ext hx t)
end
theorem Vw.ext {M M' : Mem} {n h : Nat} {d : D} {p : PyData} (hx : Ext M M') (v : Vw M n h d p) : Vw M' n h d p := ⟨v.1.ext hx, v.2⟩
theorem Vws.ext {M M' : Mem} {n h : Nat} {ds : List D} {ps : List PyData} (hx : Ext M M') (v : Vws M n h ds ps) : Vws M' n h ds ps := by
  induction v with
  | nil => exact .nil
  | cons a _ ih => exact .cons (a.ext hx) ih
/-- repr([..]) -/
theorem rep_new {M : Mem} {n h : Nat} {ds : List D} {ps : List PyData} {Q : QD} (x : Vws M n h ds ps) (k : ∀ M', Ext M M' → Q (.str (PyData.list ps).shown) M') (hh : h < 64 := by decide) (hn : (n + 2) * ds.length + 3 ≤ sizeLine := by (simp only [List.length_cons, List.length_nil]; decide)) :
    ∀ p, M p = none → reprF (.ob p) (M.put p (.lst ds)) Q := fun p hp =>
  rep_ok (Vw.ob put_at (x.ext (Ext.new hp))) rfl hn hh (k _ (Ext.new hp))
theorem Vw.i2 {M : Mem} {a b : Int} (h1 : a.natAbs < 2 ^ 64) (h2 : b.natAbs < 2 ^ 64) : Vw M 49 1 (.tup [.int a, .int b]) (.tuple [.int a, .int b]) := Vw.tup (.cons (.int h1) (.cons (.int h2) .nil))
theorem ite_same {c : Prop} [Decidable c] {A K : Prop} (k : K) (h : c → K → A) : if c then A else K := by
  by_cases z : c
  · rw [if_pos z]; exact h z k
  · rw [if_neg z]; exact k
/-- a comprehension over a range -/
theorem lcF_rg {asg : D → Tau → Mem → (Tau → Mem → Prop) → Prop} {tst : Tau → Mem → (Bool → Mem → Prop) → Prop} {elt : Tau → Mem → QD → Prop} {ok : Mem → Prop} {τ0 : Tau} {p : Addr} {q : Mem → Prop} {g : Int → D} {n : Nat} {M : Mem} (c : Nat → Bool) (y : Nat → D) (R : Mem → Prop)
    (stay : ∀ M ds, R M → R (M.put p (.lst ds))) (hl : n ≤ sizeLine) (hR : R M) (hp : M p = some (.lst []))
    (hok : ∀ M, R M → ok M) (hq : ∀ M', R M' → M' p = some (.lst (((List.range n).filter c).map y)) → q M')
    (step : ∀ k, k < n → ∀ M acc (kk : QD) (no : Mem → Prop), R M → M p = some (.lst acc) → (c k = true → ∀ M', R M' → M' p = some (.lst acc) → kk (y k) M') → (c k = false → ∀ M', R M' → M' p = some (.lst acc) → no M') →
      asg (g (k : Int)) τ0 M fun τ1 M1 => tst τ1 M1 fun b M2 => if b = true then elt τ1 M2 kk else no M2) :
    lcF asg tst elt ok τ0 p q ((intsTo n).map g) M := by
  refine lcF_inv (J := fun rest acc M => R M ∧ ∃ k, k ≤ n ∧ rest = ((intsTo n).map g).drop k ∧ acc = ((List.range k).filter c).map y) ?_ ?_ _ [] M ⟨hR, 0, Nat.zero_le _, rfl, rfl⟩ hp
  · rintro acc M ⟨r, k, hk, e, rfl⟩ hp'
    have : k = n := by
      have := congrArg List.length e
      simp only [List.length_drop, List.length_map, intsTo_length, List.length_nil] at this
      omega
    subst this
    exact ⟨hok M r, hq M r hp'⟩
  · rintro d rest acc M ⟨r, k, hk, e, rfl⟩ hp' kk no hkk hno
    have hlt : k < n := by
      have := congrArg List.length e
      simp only [List.length_drop, List.length_map, intsTo_length, List.length_cons] at this
      omega
    have e2 := List.drop_eq_getElem_cons (l := (intsTo n).map g) (i := k) (by rw [List.length_map, intsTo_length]; exact hlt)
    rw [e2] at e
    simp only [List.cons.injEq] at e
    obtain ⟨rfl, rfl⟩ := e
    have l1 : (((List.range k).filter c).map y).length ≤ k := by
      rw [List.length_map]
      exact Nat.le_trans (List.length_filter_le ..) (by rw [List.length_range]; exact Nat.le_refl k)
    refine ⟨hok M r, ?_⟩
    rw [List.getElem_map, intsTo_at]
    refine step k hlt M _ kk no r hp' (fun hc M' r' hp'' => hkk _ M' hp'' (by omega) ⟨stay _ _ r', k + 1, hlt, rfl, ?_⟩) fun hc M' r' hp'' => hno M' hp'' ⟨r', k + 1, hlt, rfl, ?_⟩
    · rw [List.range_succ, List.filter_append, List.map_append, List.filter_cons, if_pos hc]; rfl
    · rw [List.range_succ, List.filter_append, List.map_append, List.filter_cons, if_neg (by rw [hc]; decide)]; simp
theorem filter_one {n i : Nat} (h : i < n) : (List.range n).filter (fun k => decide (k = i)) = [i] := by
  induction n with
  | zero => omega
  | succ n ih =>
    rw [List.range_succ, List.filter_append]
    by_cases e : i = n
    · subst e
      have : (List.range i).filter (fun k => decide (k = i)) = [] := by
        rw [List.filter_eq_nil_iff]
        intro k hk
        have := List.mem_range.1 hk
        simp only [decide_eq_true_eq]; omega
      rw [this]; simp
    · rw [ih (by omega), List.filter_cons, if_neg (by simp only [decide_eq_true_eq]; omega)]; rfl
/-- == of two pairs of numbers -/
theorem eq_i2 {M : Mem} {a b c d : Int} {B : Bool → Prop} (k : B (decide ((a, b) = (c, d)))) : eqF (.tup [.int a, .int b]) (.tup [.int c, .int d]) M B := by
  refine ⟨.tuple [.int a, .int b], .tuple [.int c, .int d], PyD.of _ _ rfl, PyD.of _ _ rfl, rfl, rfl, ?_⟩
  have : PyData.eqv (.tuple [.int a, .int b]) (.tuple [.int c, .int d]) = decide ((a, b) = (c, d)) := by
    simp only [PyData.eqv, PyData.eqvAll, Prod.mk.injEq, Bool.and_true]
    rw [Bool.decide_and]
    rfl
  rw [this]; exact k
theorem szl_ok {n : Nat} (h : n < 100000) : n < sizeLine := Nat.lt_of_lt_of_le h (by decide)
theorem ne_put {M : Mem} {a b : Addr} {c : Cell} (h : M.put a c b = none) : b ≠ a ∧ M b = none := by
  have n : b ≠ a := fun e => by subst e; rw [put_at] at h; cases h
  exact ⟨n, by rw [put_ne n] at h; exact h⟩
end Fx

set_option maxRecDepth 100000
namespace Sh
open PySem L2 Fx
local macro_rules | `(tactic| walk_at "fx") => `(tactic| simp only [
  wSsx, wSx, wEx, wBx, wLx, wOx, wGx, wGsx, wIx, startD, isiF, r_newL, mulL, mulR, noPyR, cp15, cp18, cp64, Int.reduceNeg, Int.reduceLT, Int.reduceEq, Int.reduceLE, Int.reduceSub, Int.reduceAdd, Int.reducePow, Int.reduceMul, Int.reduceToNat,  r_g0, r_gs, r_add, r_adds, r_addt, r_addo, r_sub, r_mul, r_mulo, r_div, r_mod, r_pow, r_shl, r_shr, 
  r_band, r_neg, r_eqi, r_eqs, r_cEq, r_cNe, r_cLt, r_cLe, r_cGt, r_cGe, r_cIs, r_cIsN, r_cIsB, r_cIsNB, r_ent, r_cIn, r_cNi, r_ins, r_tb, r_lt, r_lr, r_ls, r_lo, r_blen, r_babs, 
  r_bmax, r_bmin, r_btup, r_blst, r_bsum, r_ball, r_bany, r_bint, r_bintb, r_bgcd, r_bdm, r_brep, r_tt, r_tr, r_to, r_lot, r_lor, r_loo, r_opt, r_ixt, 
  r_ixo, r_ixr, r_ixs, r_slt, r_slo, r_slr, r_sls, r_set, r_app, r_lat, r_itt, r_itr, r_ito, r_its, r_rg, r_en, r_zp, r_stt, r_str, r_sto, at_0, at_1, 
  at_2, at_3, at_4, at_l1, at_ap, at_l2, at_l3, ix_0, ix_1, ix_2, ix30, ix31, ix32, ix20, ix21, List.map_cons, List.map_nil, List.length_cons, List.length_nil, 
  List.replicate_succ, List.replicate_zero, List.cons_append, List.nil_append, List.getElem?_cons_zero, List.getElem?_cons_succ, List.set_cons_zero, List.set_cons_succ, 
  List.set_nil, wipeD, Nat.reduceAdd, Nat.reduceSub, Nat.reduceLeDiff, true_and, and_true, decide_eq_true_eq, decide_eq_false_iff_not, Bool.not_eq_true', 
  Bool.not_eq_false', Bool.not_true, Bool.not_false, if_true, if_false, not_true_eq_false, not_false_eq_true, ite_self, Nat.reduceMul, List.flatten_cons, List.flatten_nil, List.append_nil, Bool.false_eq_true, Tgs.len, Option.some.injEq, Cell.lst.injEq, exists_eq_left', 
  exists_eq', put_at, List.filterMap_cons, List.filterMap_nil, sz0, sz1, sz2, sz3, sz4, sz5, sz6])
local macro_rules | `(tactic| walk_at "fy") => `(tactic| simp only [
  wSsx, wSx, wEx, wBx, wLx, wOx, wGx, wGsx, wIx, startD, isiF, r_newL, mulL, mulR, noPyR, cp15, cp18, cp64, Int.reduceNeg, Int.reduceLT, Int.reduceEq, Int.reduceLE, Int.reduceSub, Int.reduceAdd, Int.reducePow, Int.reduceMul, Int.reduceToNat,  r_g0, r_gs, r_add, r_adds, r_addt, r_addo, r_sub, r_mul, r_mulo, r_div, r_mod, r_pow, r_shl, r_shr, 
  r_band, r_neg, r_eqi, r_eqs, r_cEq, r_cNe, r_cLt, r_cLe, r_cGt, r_cGe, r_cIs, r_cIsN, r_cIsB, r_cIsNB, r_ent, r_cIn, r_cNi, r_ins, r_tb, r_lt, r_lr, r_ls, r_lo, r_blen, r_babs, 
  r_bmax, r_bmin, r_btup, r_blst, r_bsum, r_ball, r_bany, r_bint, r_bintb, r_bgcd, r_bdm, r_brep, r_tt, r_tr, r_to, r_lot, r_lor, r_loo, r_opt, r_ixt, 
  r_ixo, r_ixr, r_ixs, r_slt, r_slo, r_slr, r_sls, r_set, r_app, r_lat, r_itt, r_itr, r_ito, r_its, r_rg, r_en, r_zp, r_stt, r_str, r_sto, at_0, at_1, 
  at_2, at_3, at_4, at_l1, at_ap, at_l2, at_l3, ix_0, ix_1, ix_2, ix30, ix31, ix32, ix20, ix21, List.map_cons, List.map_nil, List.length_cons, List.length_nil, 
  List.replicate_succ, List.replicate_zero, List.cons_append, List.nil_append, List.getElem?_cons_zero, List.getElem?_cons_succ, List.set_cons_zero, List.set_cons_succ, 
  List.set_nil, wipeD, Nat.reduceAdd, Nat.reduceSub, Nat.reduceLeDiff, true_and, and_true, decide_eq_true_eq, decide_eq_false_iff_not, Bool.not_eq_true', 
  Bool.not_eq_false', Bool.not_true, Bool.not_false, if_true, if_false, not_true_eq_false, not_false_eq_true, ite_self, Nat.reduceMul, List.flatten_cons, List.flatten_nil, List.append_nil, Bool.false_eq_true, Tgs.len, Option.some.injEq, Cell.lst.injEq, exists_eq_left', 
  exists_eq', put_at, List.filterMap_cons, List.filterMap_nil, sz0, sz1, sz2, sz3, sz4, sz5, sz6, put_ne, ne_eq, *])
/-! ## shared: what the package's small defs do -/
def noD : DSp := fun _ _ _ _ => False
theorem noPy_lt {i j : Int} (h : j.natAbs < 2 ^ 9000) : noPy i j := PyProof.noPylong_of_log2 (PySem.Flt.log2_lt_of (by decide) h)
theorem noPy_small {i j : Int} (h : j.natAbs < 1073741824) : noPy i j := PyProof.noPylong_small h
theorem noPy_le {i j : Int} (h : i.natAbs ≤ j.natAbs) : noPy i j := by
  unfold noPy Builtin.divisionGoesByPylong
  by_cases hi : i = 0
  · subst hi
    by_cases hj : j = 0
    · subst hj; rfl
    · have : ¬ ((if (0 : Int) == 0 then 0 else (0 : Int).natAbs.log2 / 30 + 1) > (if j == 0 then 0 else j.natAbs.log2 / 30 + 1) + 150) := by simp
      simp only [decide_eq_false this, Bool.and_false]
  · have hj : j ≠ 0 := by omega
    have l : i.natAbs.log2 ≤ j.natAbs.log2 := by
      have h0 : i.natAbs ≠ 0 := by omega
      have h1 : j.natAbs ≠ 0 := by omega
      exact (Nat.le_log2 h1).2 (Nat.le_trans (Nat.log2_self_le h0) h)
    have : ¬ ((if i == 0 then 0 else i.natAbs.log2 / 30 + 1) > (if j == 0 then 0 else j.natAbs.log2 / 30 + 1) + 150) := by
      rw [if_neg (by simpa using hi), if_neg (by simpa using hj)]
      have := Nat.div_le_div_right (c := 30) l
      omega
    simp only [decide_eq_false this, Bool.and_false]
theorem mul_r {a b : Int} (h1 : -(2 ^ 64) < b) (h2 : b < 2 ^ 64) : IntMulOk a b := .of_right (intBits_le_64 h1 h2)
theorem mul_l {a b : Int} (h1 : -(2 ^ 64) < a) (h2 : a < 2 ^ 64) : IntMulOk a b := .of_left (intBits_le_64 h1 h2)
/-- a fraction's two numbers -/
abbrev fr (p : Int × Int) : D := .tup [.int p.1, .int p.2]
def lstOk (d : D) (M : Mem) : Prop := match d with
  | .ob a => ∃ ds, M a = some (.lst ds)
  | _ => True
def isInt : D → Bool
  | .int _ => true
  | _ => false
def btwI (d : D) (lo hi : Int) : Bool := match d with
  | .int v => decide (lo ≤ v ∧ v ≤ hi)
  | _ => false
/-- lowest terms, the number below above 0 -/
def low (a b : Int) : Int × Int := (a / (Int.gcd a b : Int), b / (Int.gcd a b : Int))
@[reducible] def d_lowest : DSp := fun ds M e q => match ds with
  | [.int a, .int b] => 0 < b ∧ (a.natAbs < 2 ^ 9000 ∨ b.natAbs < 2 ^ 9000) ∧ q (fr (low a b)) M
  | _ => False
@[reducible] def d_is_whole : DSp := fun ds M e q => match ds with
  | [d] => lstOk d M ∧ q (.bl (isInt d)) M
  | _ => False
@[reducible] def d_is_between : DSp := fun ds M e q => match ds with
  | [d, .int lo, .int hi] => lstOk d M ∧ q (.bl (btwI d lo hi)) M
  | _ => False
def ir_lowest : Iss := (.cons (.asg 2 (.ite (.tcmp .Gt (.v 1) (.ci 0)) (.blt .gcd (.cons (.v 0) (.cons (.v 1) .nil))) (.neg (.blt .gcd (.cons (.v 0) (.cons (.v 1) .nil))))))
  (.cons (.ret (.tup (.cons (.bin .FloorDiv (.v 0) (.v 2)) (.cons (.bin .FloorDiv (.v 1) (.v 2)) .nil))))
  .nil))
@[reducible] def T_lowest : Nat → DSp
  | _ => noD
@[reducible] def C_lowest : Nat → D
  | _ => .non
-- slots of lowest: 0 over 1 under 2 common
def ir_is_whole : Iss := (.cons (.ret (.and (.isi (.v 0) "int") (.one (.nt (.isi (.v 0) "bool")))))
  .nil)
@[reducible] def T_is_whole : Nat → DSp
  | _ => noD
@[reducible] def C_is_whole : Nat → D
  | _ => .non
-- slots of is_whole: 0 value
def ir_is_between : Iss := (.cons (.ret (.and (.call 0 1 0 (.cons (.v 0) .nil) .nil) (.one (.cmp2 .LtE .LtE (.v 1) (.v 0) (.v 2)))))
  .nil)
@[reducible] def T_is_between : Nat → DSp
  | 0 => d_is_whole
  | _ => noD
@[reducible] def C_is_between : Nat → D
  | _ => .non
-- slots of is_between: 0 value 1 least 2 most
theorem low_no {a b : Int} (hb : 0 < b) (hs : a.natAbs < 2 ^ 9000 ∨ b.natAbs < 2 ^ 9000) : 0 < Int.gcd a b ∧ noPy a (Int.gcd a b : Int) ∧ noPy b (Int.gcd a b : Int) := by
  have g0 : 0 < Int.gcd a b := Int.gcd_pos_of_ne_zero_right a (by omega)
  have ga : Int.gcd a b ≤ a.natAbs ∨ a = 0 := by
    by_cases z : a = 0
    · exact .inr z
    · exact .inl (Nat.le_of_dvd (by omega) (Nat.gcd_dvd_left _ _))
  have gb : Int.gcd a b ≤ b.natAbs := Nat.le_of_dvd (by omega) (Nat.gcd_dvd_right _ _)
  refine ⟨g0, ?_, ?_⟩
  · rcases hs with z | z
    · rcases ga with y | y
      · exact noPy_lt (Nat.lt_of_le_of_lt (by omega) z)
      · subst y; exact noPy_le (by omega)
    · exact noPy_lt (Nat.lt_of_le_of_lt (by omega) z)
  · rcases hs with z | z
    · rcases ga with y | y
      · exact noPy_lt (Nat.lt_of_le_of_lt (by omega) z)
      · subst y
        refine noPy_le ?_
        rw [Int.gcd_zero_left]; omega
    · exact noPy_lt (Nat.lt_of_le_of_lt (by omega) z)
theorem body_lowest (ds : List D) (M : Mem) (e : Exn → Mem → Prop) (q : D → Mem → Prop) (hl : ds.length = 2) (h : d_lowest ds M e q) :
    wSsx T_lowest C_lowest ir_lowest (fun x _ M' => e x M') { nx := fun _ M' => q .non M', rt := q } (startD 3 ds) M := by
  unfold d_lowest at h
  split at h
  · rename_i a b
    obtain ⟨hb, hs, h⟩ := h
    obtain ⟨g0, n1, n2⟩ := low_no hb hs
    unfold ir_lowest
    walk_at "fx"
    rw [if_pos hb]
    exact ⟨by exact_mod_cast g0, n1, by exact_mod_cast g0, n2, h⟩
  · exact h.elim
theorem body_is_whole (ds : List D) (M : Mem) (e : Exn → Mem → Prop) (q : D → Mem → Prop) (hl : ds.length = 1) (h : d_is_whole ds M e q) :
    wSsx T_is_whole C_is_whole ir_is_whole (fun x _ M' => e x M') { nx := fun _ M' => q .non M', rt := q } (startD 1 ds) M := by
  unfold d_is_whole at h
  split at h
  · rename_i d
    unfold ir_is_whole
    walk_at "fx"
    obtain ⟨h1, h2⟩ := h
    cases d <;> simp [isiF, tyN, isInt, truF, lstOk] at h1 h2 ⊢ <;> first | exact h2 | exact ⟨h1, h2⟩
  · exact h.elim
theorem body_is_between (ds : List D) (M : Mem) (e : Exn → Mem → Prop) (q : D → Mem → Prop) (hl : ds.length = 3) (h : d_is_between ds M e q) :
    wSsx T_is_between C_is_between ir_is_between (fun x _ M' => e x M') { nx := fun _ M' => q .non M', rt := q } (startD 3 ds) M := by
  unfold d_is_between at h
  split at h
  · rename_i d lo hi
    unfold ir_is_between
    walk_at "fx"
    obtain ⟨h1, h2⟩ := h
    refine ⟨h1, ?_⟩
    cases d <;> simp only [isInt, btwI, truF, if_true, Bool.false_eq_true, if_false] at h2 ⊢ <;> try exact h2
    rename_i v
    walk_at "fx"
    by_cases c : lo ≤ v
    · rw [if_pos c]; simpa [c] using h2
    · rw [if_neg c]; simpa [c] using h2
  · exact h.elim
end Sh

set_option maxRecDepth 100000
namespace Sh
open PySem L2 Fx
local macro_rules | `(tactic| walk_at "fx") => `(tactic| simp only [
  wSsx, wSx, wEx, wBx, wLx, wOx, wGx, wGsx, wIx, startD, isiF, r_newL, mulL, mulR, noPyR, cp15, cp18, cp64, Int.reduceNeg, Int.reduceLT, Int.reduceEq, Int.reduceLE, Int.reduceSub, Int.reduceAdd, Int.reducePow, Int.reduceMul, Int.reduceToNat,  r_g0, r_gs, r_add, r_adds, r_addt, r_addo, r_sub, r_mul, r_mulo, r_div, r_mod, r_pow, r_shl, r_shr, 
  r_band, r_neg, r_eqi, r_eqs, r_cEq, r_cNe, r_cLt, r_cLe, r_cGt, r_cGe, r_cIs, r_cIsN, r_cIsB, r_cIsNB, r_ent, r_cIn, r_cNi, r_ins, r_tb, r_lt, r_lr, r_ls, r_lo, r_blen, r_babs, 
  r_bmax, r_bmin, r_btup, r_blst, r_bsum, r_ball, r_bany, r_bint, r_bintb, r_bgcd, r_bdm, r_brep, r_tt, r_tr, r_to, r_lot, r_lor, r_loo, r_opt, r_ixt, 
  r_ixo, r_ixr, r_ixs, r_slt, r_slo, r_slr, r_sls, r_set, r_app, r_lat, r_itt, r_itr, r_ito, r_its, r_rg, r_en, r_zp, r_stt, r_str, r_sto, at_0, at_1, 
  at_2, at_3, at_4, at_l1, at_ap, at_l2, at_l3, ix_0, ix_1, ix_2, ix30, ix31, ix32, ix20, ix21, List.map_cons, List.map_nil, List.length_cons, List.length_nil, 
  List.replicate_succ, List.replicate_zero, List.cons_append, List.nil_append, List.getElem?_cons_zero, List.getElem?_cons_succ, List.set_cons_zero, List.set_cons_succ, 
  List.set_nil, wipeD, Nat.reduceAdd, Nat.reduceSub, Nat.reduceLeDiff, true_and, and_true, decide_eq_true_eq, decide_eq_false_iff_not, Bool.not_eq_true', 
  Bool.not_eq_false', Bool.not_true, Bool.not_false, if_true, if_false, not_true_eq_false, not_false_eq_true, ite_self, Nat.reduceMul, List.flatten_cons, List.flatten_nil, List.append_nil, Bool.false_eq_true, Tgs.len, Option.some.injEq, Cell.lst.injEq, exists_eq_left', 
  exists_eq', put_at, List.filterMap_cons, List.filterMap_nil, sz0, sz1, sz2, sz3, sz4, sz5, sz6])
local macro_rules | `(tactic| walk_at "fy") => `(tactic| simp only [
  wSsx, wSx, wEx, wBx, wLx, wOx, wGx, wGsx, wIx, startD, isiF, r_newL, mulL, mulR, noPyR, cp15, cp18, cp64, Int.reduceNeg, Int.reduceLT, Int.reduceEq, Int.reduceLE, Int.reduceSub, Int.reduceAdd, Int.reducePow, Int.reduceMul, Int.reduceToNat,  r_g0, r_gs, r_add, r_adds, r_addt, r_addo, r_sub, r_mul, r_mulo, r_div, r_mod, r_pow, r_shl, r_shr, 
  r_band, r_neg, r_eqi, r_eqs, r_cEq, r_cNe, r_cLt, r_cLe, r_cGt, r_cGe, r_cIs, r_cIsN, r_cIsB, r_cIsNB, r_ent, r_cIn, r_cNi, r_ins, r_tb, r_lt, r_lr, r_ls, r_lo, r_blen, r_babs, 
  r_bmax, r_bmin, r_btup, r_blst, r_bsum, r_ball, r_bany, r_bint, r_bintb, r_bgcd, r_bdm, r_brep, r_tt, r_tr, r_to, r_lot, r_lor, r_loo, r_opt, r_ixt, 
  r_ixo, r_ixr, r_ixs, r_slt, r_slo, r_slr, r_sls, r_set, r_app, r_lat, r_itt, r_itr, r_ito, r_its, r_rg, r_en, r_zp, r_stt, r_str, r_sto, at_0, at_1, 
  at_2, at_3, at_4, at_l1, at_ap, at_l2, at_l3, ix_0, ix_1, ix_2, ix30, ix31, ix32, ix20, ix21, List.map_cons, List.map_nil, List.length_cons, List.length_nil, 
  List.replicate_succ, List.replicate_zero, List.cons_append, List.nil_append, List.getElem?_cons_zero, List.getElem?_cons_succ, List.set_cons_zero, List.set_cons_succ, 
  List.set_nil, wipeD, Nat.reduceAdd, Nat.reduceSub, Nat.reduceLeDiff, true_and, and_true, decide_eq_true_eq, decide_eq_false_iff_not, Bool.not_eq_true', 
  Bool.not_eq_false', Bool.not_true, Bool.not_false, if_true, if_false, not_true_eq_false, not_false_eq_true, ite_self, Nat.reduceMul, List.flatten_cons, List.flatten_nil, List.append_nil, Bool.false_eq_true, Tgs.len, Option.some.injEq, Cell.lst.injEq, exists_eq_left', 
  exists_eq', put_at, List.filterMap_cons, List.filterMap_nil, sz0, sz1, sz2, sz3, sz4, sz5, sz6, put_ne, ne_eq, *])
/-! ## shared: the second family's pool -/
@[reducible] def d_law_bag : DSp := fun ds M e q => match ds with
  | [.scr ns, .int lap] => ns.length ≤ 63 ∧ 0 ≤ lap ∧ lap < 64 ∧ ∀ a M', M a = none → Ext M M' → Pool M' a → q (.ob a) M'
  | _ => False
@[reducible] def d_law_take : DSp := fun ds M e q => match ds with
  | [.ob a, .int top] => Pool M a ∧ 0 < top ∧ top < 1073741824 ∧ ∀ r M', 0 ≤ r → r < top → ExtP a M M' → q (.int r) M'
  | _ => False
@[reducible] def d_law_pull : DSp := fun ds M e q => match ds with
  | [.ob a, .ob b] => Pool M a ∧ a ≠ b ∧ ∃ xs, M b = some (.lst xs) ∧ 0 < xs.length ∧ xs.length < 1073741824 ∧ ∀ x M', x ∈ xs → ExtP a M M' → q x M'
  | [.ob a, .tup xs] => Pool M a ∧ 0 < xs.length ∧ xs.length < 1073741824 ∧ ∀ x M', x ∈ xs → ExtP a M M' → q x M'
  | _ => False
@[reducible] def d_law_common : DSp := fun ds M e q => match ds with
  | [.int a, .int b] => q (.int (Int.gcd a b : Int)) M
  | _ => False
@[reducible] def d_law_lowest : DSp := d_lowest
def ir_law_bag : Iss := (.cons (.asg 2 (.bin .Add (.ci 52027) (.bin .Mult (.ci 8009) (.v 1))))
  (.cons (.for (.nm 3) (.ex (.sl (.v 0) .none (.some (.ci 16)))) (.cons (.asg 2 (.bin .Mod (.blt .int (.cons (.bin .Add (.bin .Add (.bin .Mult (.v 2) (.ci 48271)) (.bin .Mod (.blt .int (.cons (.v 3) .nil)) (.ci 2147483629))) (.ci 23)) .nil)) (.ci 2147483647)))
  .nil))
  (.cons (.asg 4 (.ite (.tcmp .Lt (.v 1) (.blt .len (.cons (.v 0) .nil))) (.blt .int (.cons (.ix (.v 0) (.v 1)) .nil)) (.ci 0)))
  (.cons (.asg 2 (.bin .Mod (.blt .int (.cons (.bin .Add (.bin .Add (.bin .Mult (.v 2) (.ci 31)) (.bin .Mult (.bin .Mod (.blt .int (.cons (.v 4) .nil)) (.ci 2147483629)) (.ci 17))) (.ci 3)) .nil)) (.ci 2147483647)))
  (.cons (.ret (.lst (.cons (.ite (.tor (.tcmp .Lt (.v 4) (.ci 0)) (.tone (.tcmp .GtE (.v 4) (.bin .Pow (.ci 10) (.ci 15))))) (.blt .abs (.cons (.v 4) .nil)) (.ci 0)) (.cons (.v 2) (.cons (.ci 0) .nil)))))
  .nil)))))
@[reducible] def T_law_bag : Nat → DSp
  | _ => noD
@[reducible] def C_law_bag : Nat → D
  | _ => .non
-- slots of law_bag: 0 script 1 lap 2 stirred 3 cell 4 own
def ir_law_take : Iss := (.cons (.ifs (.tcmp .Gt (.ix (.v 0) (.ci 0)) (.ci 0)) (.cons (.asgT (.tp (.cons (.sub (.v 0) (.ci 0)) (.cons (.nm 2) .nil))) (.blt .divmod (.cons (.ix (.v 0) (.ci 0)) (.cons (.v 1) .nil))))
  (.cons (.ret (.v 2))
  .nil)) .nil)
  (.cons (.asgT (.sub (.v 0) (.ci 2)) (.bin .Add (.ix (.v 0) (.ci 2)) (.ci 1)))
  (.cons (.asgT (.sub (.v 0) (.ci 1)) (.bin .Mod (.blt .int (.cons (.bin .Add (.bin .Add (.bin .Mult (.ix (.v 0) (.ci 1)) (.ci 16807)) (.bin .Mult (.ci 4099) (.ix (.v 0) (.ci 2)))) (.ci 1)) .nil)) (.ci 2147483647)))
  (.cons (.ret (.bin .Mod (.blt .int (.cons (.bin .FloorDiv (.ix (.v 0) (.ci 1)) (.ci 911)) .nil)) (.v 1)))
  .nil))))
@[reducible] def T_law_take : Nat → DSp
  | _ => noD
@[reducible] def C_law_take : Nat → D
  | _ => .non
-- slots of law_take: 0 bag 1 top 2 digit
def ir_law_pull : Iss := (.cons (.ret (.ix (.v 1) (.call 0 2 0 (.cons (.v 0) (.cons (.blt .len (.cons (.v 1) .nil)) .nil)) .nil)))
  .nil)
@[reducible] def T_law_pull : Nat → DSp
  | 0 => d_law_take
  | _ => noD
@[reducible] def C_law_pull : Nat → D
  | _ => .non
-- slots of law_pull: 0 bag 1 some
def ir_law_common : Iss := (.cons (.par 0 1 (.blt .abs (.cons (.v 0) .nil)) (.blt .abs (.cons (.v 1) .nil)))
  (.cons (.whl (.tcmp .Gt (.v 1) (.ci 0)) (.cons (.par 0 1 (.v 1) (.bin .Mod (.blt .int (.cons (.v 0) .nil)) (.v 1)))
  .nil))
  (.cons (.ret (.v 0))
  .nil)))
@[reducible] def T_law_common : Nat → DSp
  | _ => noD
@[reducible] def C_law_common : Nat → D
  | _ => .non
-- slots of law_common: 0 one 1 two
def ir_law_lowest : Iss := (.cons (.asg 2 (.call 0 2 0 (.cons (.v 0) (.cons (.v 1) .nil)) .nil))
  (.cons (.asg 2 (.ite (.tcmp .Gt (.v 1) (.ci 0)) (.v 2) (.bin .Sub (.ci 0) (.v 2))))
  (.cons (.ret (.tup (.cons (.bin .FloorDiv (.v 0) (.v 2)) (.cons (.bin .FloorDiv (.v 1) (.v 2)) .nil))))
  .nil)))
@[reducible] def T_law_lowest : Nat → DSp
  | 0 => d_law_common
  | _ => noD
@[reducible] def C_law_lowest : Nat → D
  | _ => .non
-- slots of law_lowest: 0 top 1 low 2 part
theorem body_law_bag (ds : List D) (M : Mem) (e : Exn → Mem → Prop) (q : D → Mem → Prop) (hl : ds.length = 2) (h : d_law_bag ds M e q) :
    wSsx T_law_bag C_law_bag ir_law_bag (fun x _ M' => e x M') { nx := fun _ M' => q .non M', rt := q } (startD 5 ds) M := by
  unfold d_law_bag at h
  split at h
  · rename_i ns lap
    obtain ⟨hl, h0, h1, h⟩ := h
    unfold ir_law_bag
    walk_at "fx"
    intro p hp
    refine forF_inv (J := fun ds τ M' => (∀ d, d ∈ ds → ∃ i : Int, d = .int i) ∧ Ext M M' ∧ M' p = some (.lst ((cutD ns none (some 16)).map .int)) ∧ ∃ s u, τ = [some (.scr ns), some (.int lap), some (.int s), u, none]) ?_ ?_ _ _ _ ⟨?_, Ext.new hp, put_at, _, _, rfl⟩
    · rintro τ M' ⟨_, hx, hc, s, u, rfl⟩
      refine ⟨hc, ?_⟩
      have fin : ∀ u v : Int, ∀ p, M' p = none → q (.ob p) (M'.put p (.lst [.int u, .int v, .int 0])) := fun u v p hp => h p _ (by
        cases e : M p with
        | none => rfl
        | some c => rw [hx p c e] at hp; cases hp) (hx.put (by
        cases e : M p with
        | none => rfl
        | some c => rw [hx p c e] at hp; cases hp)) ⟨_, _, _, put_at⟩
      have tail : ∀ own : Int, if own < 0 then ∀ p, M' p = none → q (.ob p) (M'.put p (.lst [.int (if own < 0 then -own else own), .int ((s * 31 + own % 2147483629 * 17 + 3) % 2147483647), .int 0]))
          else if (10 : Int) ^ 15 ≤ own then ∀ p, M' p = none → q (.ob p) (M'.put p (.lst [.int (if own < 0 then -own else own), .int ((s * 31 + own % 2147483629 * 17 + 3) % 2147483647), .int 0])) else ∀ p, M' p = none → q (.ob p) (M'.put p (.lst [.int 0, .int ((s * 31 + own % 2147483629 * 17 + 3) % 2147483647), .int 0])) := by
        intro own
        split
        · exact fin _ _
        · split
          · exact fin _ _
          · exact fin _ _
      walk_at "fx"
      split
      · rename_i hlt
        obtain ⟨k, rfl⟩ : ∃ k : Nat, lap = k := ⟨lap.toNat, by omega⟩
        rw [atK (by omega)]
        exact tail _
      · exact fin _ _
    · rintro d ds τ M' ⟨hi, hx, hc, s, u, rfl⟩ nx hn
      obtain ⟨i, rfl⟩ := hi d (List.mem_cons_self ..)
      refine ⟨hc, ?_⟩
      walk_at "fx"
      exact hn _ _ ⟨fun d h => hi d (List.mem_cons_of_mem _ h), hx, hc, _, _, rfl⟩
    · intro d hd
      obtain ⟨i, _, rfl⟩ := List.mem_map.1 hd
      exact ⟨i, rfl⟩
  · exact h.elim
theorem body_law_take (ds : List D) (M : Mem) (e : Exn → Mem → Prop) (q : D → Mem → Prop) (hl : ds.length = 2) (h : d_law_take ds M e q) :
    wSsx T_law_take C_law_take ir_law_take (fun x _ M' => e x M') { nx := fun _ M' => q .non M', rt := q } (startD 3 ds) M := by
  unfold d_law_take at h
  split at h
  · rename_i a top
    obtain ⟨⟨x, y, z, hp⟩, h0, h1, h⟩ := h
    have np : noPy x top := PyProof.noPylong_small (by omega)
    unfold ir_law_take
    walk_at "fy"
    split
    · exact h _ _ (Int.emod_nonneg _ (by omega)) (Int.emod_lt_of_pos _ h0) ⟨fun b c n e => by rw [put_ne n]; exact e, _, _, _, put_at⟩
    · exact h _ _ (Int.emod_nonneg _ (by omega)) (Int.emod_lt_of_pos _ h0) ⟨fun b c n e => by rw [put_ne n, put_ne n]; exact e, _, _, _, put_at⟩
  · exact h.elim
theorem body_law_pull (ds : List D) (M : Mem) (e : Exn → Mem → Prop) (q : D → Mem → Prop) (hl : ds.length = 2) (h : d_law_pull ds M e q) :
    wSsx T_law_pull C_law_pull ir_law_pull (fun x _ M' => e x M') { nx := fun _ M' => q .non M', rt := q } (startD 2 ds) M := by
  unfold d_law_pull at h
  have go : ∀ (xs : List D) (r : Int) (P : D → Prop), 0 ≤ r → r < xs.length → (∀ x, x ∈ xs → P x) → optF (atI xs r) P := by
    intro xs r P h0 h1 h
    obtain ⟨k, rfl⟩ : ∃ k : Nat, r = k := ⟨r.toNat, by omega⟩
    rw [atK (by omega)]
    exact h _ (List.getElem_mem _)
  split at h
  · rename_i a b
    obtain ⟨hp, hn, xs, hb, hl, hu, h⟩ := h
    unfold ir_law_pull
    walk_at "fy"
    refine ⟨hp, by omega, by omega, fun r M' h0 h1 hx => ?_⟩
    refine ⟨xs, hx.1 b _ (Ne.symm hn) hb, go xs r _ h0 h1 fun x hm => h x M' hm hx⟩
  · rename_i a xs
    obtain ⟨hp, hl, hu, h⟩ := h
    unfold ir_law_pull
    walk_at "fx"
    refine ⟨hp, by omega, by omega, fun r M' h0 h1 hx => ?_⟩
    exact go xs r _ h0 h1 fun x hm => h x M' hm hx
  · exact h.elim
theorem body_law_common (ds : List D) (M : Mem) (e : Exn → Mem → Prop) (q : D → Mem → Prop) (hl : ds.length = 2) (h : d_law_common ds M e q) :
    wSsx T_law_common C_law_common ir_law_common (fun x _ M' => e x M') { nx := fun _ M' => q .non M', rt := q } (startD 2 ds) M := by
  unfold d_law_common at h
  split at h
  · rename_i a b
    unfold ir_law_common
    walk_at "fx"
    refine ⟨fun m τ M' => M' = M ∧ ∃ x y : Nat, τ = [some (.int x), some (.int y)] ∧ m = y ∧ Nat.gcd x y = Int.gcd a b, ⟨_, rfl, a.natAbs, b.natAbs, ?_, rfl, rfl⟩, ?_⟩
    · congr 3
      · split <;> omega
      · congr 2
        split <;> omega
    · rintro m τ M' ⟨rfl, x, y, rfl, hm, g⟩
      subst hm
      walk_at "fx"
      split
      · rename_i hy
        refine ⟨hy, _, ?_, m, x % m, by simp, rfl, ?_⟩
        · exact Nat.mod_lt _ (by omega)
        · rw [← g, Nat.gcd_comm m, ← Nat.gcd_rec, Nat.gcd_comm]
      · have : m = 0 := by omega
        subst this
        simp only [Nat.gcd_zero_right] at g
        rw [g]; exact h
  · exact h.elim
theorem body_law_lowest (ds : List D) (M : Mem) (e : Exn → Mem → Prop) (q : D → Mem → Prop) (hl : ds.length = 2) (h : d_law_lowest ds M e q) :
    wSsx T_law_lowest C_law_lowest ir_law_lowest (fun x _ M' => e x M') { nx := fun _ M' => q .non M', rt := q } (startD 3 ds) M := by
  unfold d_law_lowest at h
  unfold d_lowest at h
  split at h
  · rename_i a b
    obtain ⟨hb, hs, h⟩ := h
    obtain ⟨g0, n1, n2⟩ := low_no hb hs
    unfold ir_law_lowest
    walk_at "fx"
    simp only [T_law_lowest, d_law_common]
    walk_at "fx"
    rw [if_pos hb]
    exact ⟨by exact_mod_cast g0, n1, by exact_mod_cast g0, n2, h⟩
  · exact h.elim
end Sh

namespace Mx
/-! ## sums -/
def sm : Nat → (Nat → Int) → Int
  | 0, _ => 0
  | n + 1, f => sm n f + f n
theorem sm_congr {n : Nat} {f g : Nat → Int} (h : ∀ k, k < n → f k = g k) : sm n f = sm n g := by
  induction n with
  | zero => rfl
  | succ n ih => rw [sm, sm, ih fun k hk => h k (by omega), h n (by omega)]
theorem sm_add (n : Nat) (f g : Nat → Int) : sm n (fun k => f k + g k) = sm n f + sm n g := by
  induction n with
  | zero => rfl
  | succ n ih => simp only [sm, ih]; omega
theorem sm_mul (n : Nat) (c : Int) (f : Nat → Int) : sm n (fun k => c * f k) = c * sm n f := by
  induction n with
  | zero => simp [sm]
  | succ n ih => simp only [sm, ih, Int.mul_add]
theorem sm_sub (n : Nat) (f g : Nat → Int) : sm n (fun k => f k - g k) = sm n f - sm n g := by
  induction n with
  | zero => rfl
  | succ n ih => simp only [sm, ih]; omega
theorem sm_zero (n : Nat) : sm n (fun _ => 0) = 0 := by
  induction n with
  | zero => rfl
  | succ n ih => simp only [sm, ih]; rfl
theorem sm_const (n : Nat) (c : Int) : sm n (fun _ => c) = n * c := by
  induction n with
  | zero => simp [sm]
  | succ n ih => simp only [sm, ih]; grind
theorem sm_swap (n m : Nat) (f : Nat → Nat → Int) : sm n (fun k => sm m fun j => f k j) = sm m (fun j => sm n fun k => f k j) := by
  induction n with
  | zero => simp only [sm]; exact (sm_zero m).symm
  | succ n ih => simp only [sm, ih]; exact (sm_add m _ _).symm
theorem sm_pick (n j : Nat) (f : Nat → Int) (h : j < n) : sm n (fun k => if j = k then f k else 0) = f j := by
  induction n with
  | zero => omega
  | succ n ih =>
    by_cases e : j = n
    · subst e
      have : sm j (fun k => if j = k then f k else 0) = 0 := by
        exact (sm_congr (g := fun _ => 0) fun k hk => if_neg (by omega)).trans (sm_zero j)
      simp only [sm, this, if_pos]; omega
    · simp only [sm, ih (by omega), if_neg e]; omega
theorem sm_nonneg {n : Nat} {f : Nat → Int} (h : ∀ k, k < n → 0 ≤ f k) : 0 ≤ sm n f := by
  induction n with
  | zero => exact Int.le_refl 0
  | succ n ih => have := ih fun k hk => h k (by omega); have := h n (by omega); simp only [sm]; omega
theorem sm_all_zero {n : Nat} {f : Nat → Int} (h : ∀ k, k < n → 0 ≤ f k) (e : sm n f = 0) : ∀ k, k < n → f k = 0 := by
  induction n with
  | zero => intro k hk; omega
  | succ n ih =>
    have h1 := sm_nonneg (n := n) fun k hk => h k (by omega)
    have h2 := h n (by omega)
    simp only [sm] at e
    intro k hk
    by_cases e' : k = n
    · subst e'; omega
    · exact ih (fun k hk => h k (by omega)) (by omega) k (by omega)
theorem sm_le {n : Nat} {f g : Nat → Int} (h : ∀ k, k < n → f k ≤ g k) : sm n f ≤ sm n g := by
  induction n with
  | zero => exact Int.le_refl 0
  | succ n ih => have := ih fun k hk => h k (by omega); have := h n (by omega); simp only [sm]; omega
/-- how many k below n hold p -/
theorem sm_ind_le_one {n : Nat} {p : Nat → Prop} [DecidablePred p] (h : ∀ k k', k < n → k' < n → p k → p k' → k = k') : sm n (fun k => if p k then 1 else 0) ≤ 1 := by
  induction n with
  | zero => simp [sm]
  | succ n ih =>
    by_cases e : p n
    · have : sm n (fun k => if p k then (1 : Int) else 0) = 0 := by
        exact (sm_congr (g := fun _ => 0) fun k hk => if_neg fun z => by have := h k n (by omega) (by omega) z e; omega).trans (sm_zero n)
      simp only [sm, this, if_pos e]; decide
    · have := ih fun k k' a b => h k k' (by omega) (by omega)
      simp only [sm, if_neg e]; omega
/-- a map of the numbers below n into themselves that takes none twice leaves every sum as it is -/
theorem sm_perm {n : Nat} {g : Nat → Nat} (hg : ∀ k, k < n → g k < n) (inj : ∀ k k', k < n → k' < n → g k = g k' → k = k') (f : Nat → Int) : sm n (fun k => f (g k)) = sm n f := by
  have count : ∀ j, j < n → sm n (fun k => if g k = j then (1 : Int) else 0) = 1 := by
    have tot : sm n (fun j => 1 - sm n (fun k => if g k = j then (1 : Int) else 0)) = 0 := by
      rw [sm_sub, sm_const, sm_swap]
      have : sm n (fun k => sm n fun j => if g k = j then (1 : Int) else 0) = sm n (fun _ => 1) := sm_congr fun k hk => sm_pick n (g k) (fun _ => 1) (hg k hk)
      rw [this, sm_const]; omega
    have z := sm_all_zero (fun j hj => by
      have := sm_ind_le_one (n := n) (p := fun k => g k = j) fun k k' a b c d => inj k k' a b (by rw [c, d])
      omega) tot
    intro j hj
    have := z j hj
    omega
  have e : sm n (fun k => f (g k)) = sm n (fun k => sm n fun j => if g k = j then f j else 0) := sm_congr fun k hk => (sm_pick n (g k) f (hg k hk)).symm
  rw [e, sm_swap]
  refine sm_congr fun j hj => ?_
  have : sm n (fun k => if g k = j then f j else 0) = sm n (fun k => f j * (if g k = j then 1 else 0)) := sm_congr fun k hk => by split <;> omega
  rw [this, sm_mul, count j hj]; omega
theorem sm_id (n : Nat) : 2 * sm n (fun k => (k : Int)) = n * (n - 1) := by
  induction n with
  | zero => rfl
  | succ n ih => simp only [sm]; grind
theorem sm_sq (n : Nat) : 6 * sm n (fun k => (k : Int) * k) = n * (n - 1) * (2 * n - 1) := by
  induction n with
  | zero => rfl
  | succ n ih => simp only [sm]; grind
/-- the first k of them hold -/
theorem sm_first {n m : Nat} (h : m ≤ n) (f : Nat → Int) : sm n (fun k => if k < m then f k else 0) = sm m f := by
  induction n with
  | zero => obtain rfl : m = 0 := by omega
            rfl
  | succ n ih =>
    by_cases e : m = n + 1
    · subst e; exact sm_congr fun k hk => if_pos hk
    · rw [sm, ih (by omega), if_neg (by omega)]; omega

/-! ## the saw -/
/-- Σ over k below b of (2k - b)(2(ka mod b) - b), the nought left out -/
def saw (a b : Nat) : Int := sm b fun k => if 0 < k * a % b then (2 * (k : Int) - b) * (2 * ((k * a % b : Nat) : Int) - b) else 0
section
variable {a b : Nat}
theorem co_inj (h : Nat.Coprime a b) {k k' : Nat} (hk : k < b) (hk' : k' < b) (e : k * a % b = k' * a % b) : k = k' := by
  have main : ∀ {k k' : Nat}, k ≤ k' → k' < b → k * a % b = k' * a % b → k = k' := by
    intro k k' hle hk' e
    have d : b ∣ (k' - k) * a := by
      have : (k' - k) * a = k' * a - k * a := Nat.sub_mul _ _ _
      rw [this]
      exact (Nat.dvd_iff_mod_eq_zero).2 (by
        have := Nat.sub_mul_mod (x := 0) (k := 0) (n := b)
        exact Nat.sub_mod_eq_zero_of_mod_eq e.symm)
    have d' : b ∣ k' - k := (Nat.Coprime.dvd_of_dvd_mul_right h.symm d)
    have := Nat.eq_zero_of_dvd_of_lt d' (by omega)
    omega
  rcases Nat.le_total k k' with z | z
  · exact main z hk' e
  · exact (main z hk e.symm).symm
theorem co_pos (h : Nat.Coprime a b) {k : Nat} (h0 : 0 < k) (hk : k < b) : 0 < k * a % b := by
  rcases Nat.eq_zero_or_pos (k * a % b) with z | z
  · have := co_inj h hk (k' := 0) (by omega) (by rw [z]; simp)
    omega
  · exact z
theorem co_sum (h : Nat.Coprime a b) (f : Nat → Int) : sm b (fun k => f (k * a % b)) = sm b f :=
  sm_perm (g := fun k => k * a % b) (fun k hk => Nat.mod_lt _ (by omega)) (fun k k' hk hk' e => co_inj h hk hk' e) f
/-- all of it with k = 0 too -/
theorem saw_full (h : Nat.Coprime a b) (hb : 0 < b) : saw a b = 4 * sm b (fun k => (k : Int) * ((k * a % b : Nat) : Int)) - 2 * b * b * (b - 1) + b * b * b - b * b := by
  have e0 : saw a b = sm b (fun k => (2 * (k : Int) - b) * (2 * ((k * a % b : Nat) : Int) - b)) - b * b := by
    obtain ⟨n, rfl⟩ : ∃ n, b = n + 1 := ⟨b - 1, by omega⟩
    have front : ∀ (n : Nat) (f g : Nat → Int), (∀ k, 0 < k → k < n + 1 → f k = g k) → sm (n + 1) f = sm (n + 1) g - (g 0 - f 0) := by
      intro n f g w
      induction n with
      | zero => simp only [sm]; omega
      | succ n ih => 
                  have := ih fun k a b => w k a (by omega)
                  have := w (n + 1) (by omega) (by omega)
                  have e1 : sm (n + 1 + 1) f = sm (n + 1) f + f (n + 1) := rfl
                  have e2 : sm (n + 1 + 1) g = sm (n + 1) g + g (n + 1) := rfl
                  omega
    unfold saw
    rw [front n _ (fun k => (2 * (k : Int) - (n + 1 : Nat)) * (2 * ((k * a % (n + 1) : Nat) : Int) - (n + 1 : Nat))) fun k h0 h1 => if_pos (co_pos h h0 h1)]
    simp only [Nat.zero_mul, Nat.zero_mod, Nat.lt_irrefl, if_false]
    grind
  have e1 : sm b (fun k => (2 * (k : Int) - b) * (2 * ((k * a % b : Nat) : Int) - b)) = sm b (fun k => 4 * ((k : Int) * ((k * a % b : Nat) : Int)) + ((-2 * b) * (k : Int) + ((-2 * b) * ((k * a % b : Nat) : Int) + b * b))) := sm_congr fun k _ => by grind
  have e2 : sm b (fun k => ((k * a % b : Nat) : Int)) = sm b (fun k => (k : Int)) := co_sum h fun k => (k : Int)
  rw [e0, e1, sm_add, sm_add, sm_add, sm_mul, sm_mul, sm_mul, sm_const, e2]
  have := sm_id b
  grind
theorem floor_sum (h : Nat.Coprime a b) (ha : 0 < a) (hb : 0 < b) : 2 * sm b (fun k => ((k * a / b : Nat) : Int)) = (a - 1) * (b - 1) := by
  have e2 : sm b (fun k => ((k * a % b : Nat) : Int)) = sm b (fun k => (k : Int)) := co_sum h fun k => (k : Int)
  have e : sm b (fun k => ((k * a % b : Nat) : Int)) = sm b (fun k => (a : Int) * k - b * ((k * a / b : Nat) : Int)) := sm_congr fun k _ => by
    have := Nat.div_add_mod (k * a) b
    have z : ((b * (k * a / b) + k * a % b : Nat) : Int) = ((k * a : Nat) : Int) := by rw [this]
    push_cast at z ⊢
    grind
  rw [e, sm_sub, sm_mul, sm_mul] at e2
  have := sm_id b
  have hb' : (b : Int) ≠ 0 := by omega
  refine Int.eq_of_mul_eq_mul_left hb' ?_
  grind
/-- Σ (ka mod b)² = Σ k² -/
theorem sq_sum (h : Nat.Coprime a b) : (a : Int) * a * sm b (fun k => (k : Int) * k) - 2 * a * b * sm b (fun k => (k : Int) * ((k * a / b : Nat) : Int)) + b * b * sm b (fun k => ((k * a / b : Nat) : Int) * ((k * a / b : Nat) : Int)) = sm b (fun k => (k : Int) * k) := by
  have e2 : sm b (fun k => ((k * a % b : Nat) : Int) * ((k * a % b : Nat) : Int)) = sm b (fun k => (k : Int) * k) := co_sum h fun k => (k : Int) * k
  have e : sm b (fun k => ((k * a % b : Nat) : Int) * ((k * a % b : Nat) : Int)) = sm b (fun k => ((a : Int) * a) * ((k : Int) * k) + ((-2 * a * b) * ((k : Int) * ((k * a / b : Nat) : Int)) + (b * b) * (((k * a / b : Nat) : Int) * ((k * a / b : Nat) : Int)))) := sm_congr fun k _ => by
    have := Nat.div_add_mod (k * a) b
    have z : ((b * (k * a / b) + k * a % b : Nat) : Int) = ((k * a : Nat) : Int) := by rw [this]
    push_cast at z ⊢
    have z' : ((k : Int) * a % b) = k * a - b * ((k : Int) * a / b) := by omega
    rw [z']
    grind
  rw [e, sm_add, sm_add, sm_mul, sm_mul, sm_mul] at e2
  grind
theorem odd_sum (n : Nat) : sm n (fun j => 2 * (j : Int) + 1) = n * n := by
  induction n with
  | zero => rfl
  | succ n ih => rw [sm, ih]; grind
/-- how many k below b lie above j: those with jb ≤ ka, for 0 < j < a -/
theorem above_count (h : Nat.Coprime a b) (ha : 0 < a) (hb : 0 < b) {j : Nat} (hj : 0 < j) (hja : j < a) : sm b (fun k => if j ≤ k * a / b then (1 : Int) else 0) = b - 1 - ((j * b / a : Nat) : Int) := by
  have step : ∀ k, k < b → (if j ≤ k * a / b then (1 : Int) else 0) = 1 - (if k < j * b / a + 1 then 1 else 0) := by
    intro k hk
    have i1 : j ≤ k * a / b ↔ j * b ≤ k * a := Nat.le_div_iff_mul_le hb
    have i2 : k < j * b / a + 1 ↔ k * a ≤ j * b := by rw [Nat.lt_succ_iff]; exact Nat.le_div_iff_mul_le ha
    have ne : j * b ≠ k * a := by
      intro e
      have d : a ∣ j * b := ⟨k, by rw [e]; exact Nat.mul_comm _ _⟩
      have := Nat.eq_zero_of_dvd_of_lt (Nat.Coprime.dvd_of_dvd_mul_right h d) hja
      omega
    by_cases c : j * b ≤ k * a
    · rw [if_pos (i1.2 c), if_neg (fun z => by have := i2.1 z; omega)]; rfl
    · rw [if_neg (fun z => c (i1.1 z)), if_pos (i2.2 (by omega))]; rfl
  have lt : j * b / a + 1 ≤ b := by
    have : j * b / a < b := (Nat.div_lt_iff_lt_mul ha).2 (by rw [Nat.mul_comm b a]; exact Nat.mul_lt_mul_of_pos_right hja hb)
    omega
  rw [sm_congr step, sm_sub, sm_const, sm_first lt (fun _ => 1), sm_const]
  push_cast
  omega
theorem floor_sq (h : Nat.Coprime a b) (ha : 0 < a) (hb : 0 < b) : sm b (fun k => ((k * a / b : Nat) : Int) * ((k * a / b : Nat) : Int)) = (a * a - 2 * a) * (b - 1) - 2 * sm a (fun j => (j : Int) * ((j * b / a : Nat) : Int)) + sm a (fun j => ((j * b / a : Nat) : Int)) + (b - 1) := by
  have e : sm b (fun k => ((k * a / b : Nat) : Int) * ((k * a / b : Nat) : Int)) = sm b (fun k => sm a fun j => if 0 < j then (2 * (j : Int) - 1) * (if j ≤ k * a / b then 1 else 0) else 0) := by
    refine sm_congr fun k hk => ?_
    have lt : k * a / b < a := (Nat.div_lt_iff_lt_mul hb).2 (by rw [Nat.mul_comm a b]; exact Nat.mul_lt_mul_of_pos_right hk ha)
    generalize k * a / b = m at lt
    have : sm a (fun j => if 0 < j then (2 * (j : Int) - 1) * (if j ≤ m then 1 else 0) else 0) = sm a (fun j => if j < m + 1 then (if 0 < j then 2 * (j : Int) - 1 else 0) else 0) := sm_congr fun j _ => by
      by_cases c : 0 < j <;> by_cases d : j ≤ m
      · rw [if_pos c, if_pos d, if_pos (by omega), if_pos c]; omega
      · rw [if_pos c, if_neg d, if_neg (by omega)]; omega
      · rw [if_neg c, if_pos (by omega), if_neg c]
      · rw [if_neg c, if_neg (by omega)]
    rw [this, sm_first (by omega)]
    clear this lt
    have gen : ∀ m : Nat, sm (m + 1) (fun j => if 0 < j then 2 * (j : Int) - 1 else 0) = m * m := by
      intro m
      induction m with
      | zero => rfl
      | succ m ih => rw [sm, ih, if_pos (by omega)]; grind
    exact (gen m).symm
  rw [e, sm_swap]
  have f : sm a (fun j => sm b fun k => if 0 < j then (2 * (j : Int) - 1) * (if j ≤ k * a / b then 1 else 0) else 0) = sm a (fun j => ((2 * (b - 1)) * (j : Int) + ((-2) * ((j : Int) * ((j * b / a : Nat) : Int)) + (((j * b / a : Nat) : Int) + (-(b - 1))))) + (if 0 = j then (b - 1 : Int) else 0)) := sm_congr fun j hj => by
    by_cases c : 0 < j
    · have : sm b (fun k => if 0 < j then (2 * (j : Int) - 1) * (if j ≤ k * a / b then 1 else 0) else 0) = sm b (fun k => (2 * (j : Int) - 1) * (if j ≤ k * a / b then 1 else 0)) := sm_congr fun k _ => if_pos c
      rw [this, sm_mul, above_count h ha hb c hj, if_neg (by omega)]
      grind
    · obtain rfl : j = 0 := by omega
      have : sm b (fun k => if 0 < 0 then (2 * ((0 : Nat) : Int) - 1) * (if 0 ≤ k * a / b then 1 else 0) else 0) = 0 := (sm_congr (g := fun _ => 0) fun k _ => if_neg (by omega)).trans (sm_zero b)
      rw [this, if_pos rfl]
      simp only [Nat.zero_mul, Nat.zero_div]
      omega
  rw [f, sm_add, sm_add, sm_add, sm_add, sm_mul, sm_mul, sm_const, sm_pick a 0 (fun _ => (b - 1 : Int)) ha]
  have := sm_id a
  grind
theorem saw_law (h : Nat.Coprime a b) (ha : 0 < a) (hb : 0 < b) : 3 * ((a : Int) * a * saw a b + b * b * saw b a) = a * b * (a * a + b * b + 1 - 3 * a * b) := by
  have r : ∀ {a b : Nat}, Nat.Coprime a b → 0 < b → saw a b = 4 * (a * sm b (fun k => (k : Int) * k) - b * sm b (fun k => (k : Int) * ((k * a / b : Nat) : Int))) - 2 * b * b * (b - 1) + b * b * b - b * b := by
    intro a b h hb
    rw [saw_full h hb]
    have : sm b (fun k => (k : Int) * ((k * a % b : Nat) : Int)) = sm b (fun k => (a : Int) * ((k : Int) * k) - b * ((k : Int) * ((k * a / b : Nat) : Int))) := sm_congr fun k _ => by
      have := Nat.div_add_mod (k * a) b
      have z : ((b * (k * a / b) + k * a % b : Nat) : Int) = ((k * a : Nat) : Int) := by rw [this]
      push_cast at z ⊢
      have z' : ((k : Int) * a % b) = k * a - b * ((k : Int) * a / b) := by omega
      rw [z']
      grind
    rw [this, sm_sub, sm_mul, sm_mul]
  have r1 := r h hb
  have r2 := r h.symm ha
  have q1 := sq_sum h
  have f1 := floor_sq h ha hb
  have p1 := floor_sum h.symm hb ha
  have s1 := sm_sq b
  have s2 := sm_sq a
  rw [f1] at q1
  clear r f1
  generalize sm b (fun k => (k : Int) * ((k * a / b : Nat) : Int)) = A at *
  generalize sm a (fun j => (j : Int) * ((j * b / a : Nat) : Int)) = B at *
  generalize sm a (fun j => ((j * b / a : Nat) : Int)) = P at *
  generalize sm b (fun k => (k : Int) * k) = K2 at *
  generalize sm a (fun k => (k : Int) * k) = L2 at *
  have hb' : (b : Int) ≠ 0 := by omega
  rw [r1, r2]
  clear r1 r2
  refine Int.eq_of_mul_eq_mul_left hb' ?_
  refine Int.eq_of_sub_eq_zero ?_
  have q1' := Int.sub_eq_zero.2 q1
  have s1' := Int.sub_eq_zero.2 s1
  have s2' := Int.sub_eq_zero.2 s2
  have p1' := Int.sub_eq_zero.2 p1
  have all : ∀ a b A B P K L : Int, b * (3 * (a * a * (4 * (a * K - b * A) - 2 * b * b * (b - 1) + b * b * b - b * b) + b * b * (4 * (b * L - a * B) - 2 * a * a * (a - 1) + a * a * a - a * a))) - b * (a * b * (a * a + b * b + 1 - 3 * a * b))
      = 6 * a * b * (a * a * K - 2 * a * b * A + b * b * ((a * a - 2 * a) * (b - 1) - 2 * B + P + (b - 1)) - K) + (a * a * a * b + a * b) * (6 * K - b * (b - 1) * (2 * b - 1)) + 2 * b * b * b * b * (6 * L - a * (a - 1) * (2 * a - 1)) - 3 * a * b * b * b * (2 * P - (b - 1) * (a - 1)) := by
    intros; grind
  rw [all (P := P), q1', s1', s2', p1']
  simp
end
end Mx

set_option maxRecDepth 100000
set_option exponentiation.threshold 10000
namespace Sh
open PySem L2 Fx Mx
local macro_rules | `(tactic| walk_at "fx") => `(tactic| simp only [
  wSsx, wSx, wEx, wBx, wLx, wOx, wGx, wGsx, wIx, startD, isiF, r_newL, mulL, mulR, noPyR, cp15, cp18, cp64, Int.reduceNeg, Int.reduceLT, Int.reduceEq, Int.reduceLE, Int.reduceSub, Int.reduceAdd, Int.reducePow, Int.reduceMul, Int.reduceToNat,  r_g0, r_gs, r_add, r_adds, r_addt, r_addo, r_sub, r_mul, r_mulo, r_div, r_mod, r_pow, r_shl, r_shr, 
  r_band, r_neg, r_eqi, r_eqs, r_cEq, r_cNe, r_cLt, r_cLe, r_cGt, r_cGe, r_cIs, r_cIsN, r_cIsB, r_cIsNB, r_ent, r_cIn, r_cNi, r_ins, r_tb, r_lt, r_lr, r_ls, r_lo, r_blen, r_babs, 
  r_bmax, r_bmin, r_btup, r_blst, r_bsum, r_ball, r_bany, r_bint, r_bintb, r_bgcd, r_bdm, r_brep, r_tt, r_tr, r_to, r_lot, r_lor, r_loo, r_opt, r_ixt, 
  r_ixo, r_ixr, r_ixs, r_slt, r_slo, r_slr, r_sls, r_set, r_app, r_lat, r_itt, r_itr, r_ito, r_its, r_rg, r_en, r_zp, r_stt, r_str, r_sto, at_0, at_1, 
  at_2, at_3, at_4, at_l1, at_ap, at_l2, at_l3, ix_0, ix_1, ix_2, ix30, ix31, ix32, ix20, ix21, List.map_cons, List.map_nil, List.length_cons, List.length_nil, 
  List.replicate_succ, List.replicate_zero, List.cons_append, List.nil_append, List.getElem?_cons_zero, List.getElem?_cons_succ, List.set_cons_zero, List.set_cons_succ, 
  List.set_nil, wipeD, Nat.reduceAdd, Nat.reduceSub, Nat.reduceLeDiff, true_and, and_true, decide_eq_true_eq, decide_eq_false_iff_not, Bool.not_eq_true', 
  Bool.not_eq_false', Bool.not_true, Bool.not_false, if_true, if_false, not_true_eq_false, not_false_eq_true, ite_self, Nat.reduceMul, List.flatten_cons, List.flatten_nil, List.append_nil, Bool.false_eq_true, Tgs.len, Option.some.injEq, Cell.lst.injEq, exists_eq_left', 
  exists_eq', put_at, List.filterMap_cons, List.filterMap_nil, sz0, sz1, sz2, sz3, sz4, sz5, sz6])
local macro_rules | `(tactic| walk_at "fy") => `(tactic| simp only [
  wSsx, wSx, wEx, wBx, wLx, wOx, wGx, wGsx, wIx, startD, isiF, r_newL, mulL, mulR, noPyR, cp15, cp18, cp64, Int.reduceNeg, Int.reduceLT, Int.reduceEq, Int.reduceLE, Int.reduceSub, Int.reduceAdd, Int.reducePow, Int.reduceMul, Int.reduceToNat,  r_g0, r_gs, r_add, r_adds, r_addt, r_addo, r_sub, r_mul, r_mulo, r_div, r_mod, r_pow, r_shl, r_shr, 
  r_band, r_neg, r_eqi, r_eqs, r_cEq, r_cNe, r_cLt, r_cLe, r_cGt, r_cGe, r_cIs, r_cIsN, r_cIsB, r_cIsNB, r_ent, r_cIn, r_cNi, r_ins, r_tb, r_lt, r_lr, r_ls, r_lo, r_blen, r_babs, 
  r_bmax, r_bmin, r_btup, r_blst, r_bsum, r_ball, r_bany, r_bint, r_bintb, r_bgcd, r_bdm, r_brep, r_tt, r_tr, r_to, r_lot, r_lor, r_loo, r_opt, r_ixt, 
  r_ixo, r_ixr, r_ixs, r_slt, r_slo, r_slr, r_sls, r_set, r_app, r_lat, r_itt, r_itr, r_ito, r_its, r_rg, r_en, r_zp, r_stt, r_str, r_sto, at_0, at_1, 
  at_2, at_3, at_4, at_l1, at_ap, at_l2, at_l3, ix_0, ix_1, ix_2, ix30, ix31, ix32, ix20, ix21, List.map_cons, List.map_nil, List.length_cons, List.length_nil, 
  List.replicate_succ, List.replicate_zero, List.cons_append, List.nil_append, List.getElem?_cons_zero, List.getElem?_cons_succ, List.set_cons_zero, List.set_cons_succ, 
  List.set_nil, wipeD, Nat.reduceAdd, Nat.reduceSub, Nat.reduceLeDiff, true_and, and_true, decide_eq_true_eq, decide_eq_false_iff_not, Bool.not_eq_true', 
  Bool.not_eq_false', Bool.not_true, Bool.not_false, if_true, if_false, not_true_eq_false, not_false_eq_true, ite_self, Nat.reduceMul, List.flatten_cons, List.flatten_nil, List.append_nil, Bool.false_eq_true, Tgs.len, Option.some.injEq, Cell.lst.injEq, exists_eq_left', 
  exists_eq', put_at, List.filterMap_cons, List.filterMap_nil, sz0, sz1, sz2, sz3, sz4, sz5, sz6, put_ne, ne_eq, *])
/-! ## shared: saws -/
/-- the saw sum as the package tells it -/
def sawF (a b : Int) : Int × Int := low (saw a.toNat b.toNat) (4 * b * b)
@[reducible] def d_saw_by : DSp := fun ds M e q => match ds with
  | [.int a, .int b] => 0 ≤ a ∧ 1 ≤ b ∧ b < 10000 ∧ Int.gcd a b = 1 ∧ q (fr (sawF a b)) M
  | _ => False
@[reducible] def d_law_saw : DSp := d_saw_by
@[reducible] def d_are_apart : DSp := fun ds M e q => match ds with
  | [.int a, .int b] => q (.bl (decide (Int.gcd a b = 1))) M
  | _ => False
def ir_saw_by : Iss := (.cons (.asgT (.tp (.cons (.nm 3) (.cons (.nm 4) .nil))) (.tup (.cons (.ci 0) (.cons (.ci 0) .nil))))
  (.cons (.for (.nm 2) (.rg2 (.ci 1) (.v 1)) (.cons (.asg 4 (.bin .Mod (.bin .Add (.v 4) (.v 0)) (.v 1)))
  (.cons (.asg 3 (.bin .Add (.v 3) (.bin .Mult (.bin .Sub (.bin .Mult (.ci 2) (.v 2)) (.v 1)) (.bin .Sub (.bin .Mult (.ci 2) (.v 4)) (.v 1)))))
  .nil)))
  (.cons (.ret (.call 0 2 0 (.cons (.v 3) (.cons (.bin .Mult (.bin .Mult (.ci 4) (.v 1)) (.v 1)) .nil)) .nil))
  .nil)))
@[reducible] def T_saw_by : Nat → DSp
  | 0 => d_lowest
  | _ => noD
@[reducible] def C_saw_by : Nat → D
  | _ => .non
-- slots of saw_by: 0 above 1 below 2 own 3 told 4 rest
def ir_are_apart : Iss := (.cons (.ret (.cmp .Eq (.blt .gcd (.cons (.v 0) (.cons (.v 1) .nil))) (.ci 1)))
  .nil)
@[reducible] def T_are_apart : Nat → DSp
  | _ => noD
@[reducible] def C_are_apart : Nat → D
  | _ => .non
-- slots of are_apart: 0 above 1 below
def ir_law_saw : Iss := (.cons (.asg 2 (.ci 0))
  (.cons (.for (.nm 3) (.rg2 (.ci 1) (.v 1)) (.cons (.asg 4 (.bin .Mod (.blt .int (.cons (.bin .Mult (.v 3) (.v 0)) .nil)) (.v 1)))
  (.cons (.ifs (.tcmp .Gt (.v 4) (.ci 0)) (.cons (.asg 2 (.bin .Add (.v 2) (.bin .Mult (.bin .Sub (.bin .Mult (.ci 2) (.v 3)) (.v 1)) (.bin .Sub (.bin .Mult (.ci 2) (.v 4)) (.v 1)))))
  .nil) .nil)
  .nil)))
  (.cons (.ret (.call 0 2 0 (.cons (.v 2) (.cons (.bin .Mult (.bin .Mult (.ci 4) (.v 1)) (.v 1)) .nil)) .nil))
  .nil)))
@[reducible] def T_law_saw : Nat → DSp
  | 0 => d_law_lowest
  | _ => noD
@[reducible] def C_law_saw : Nat → D
  | _ => .non
-- slots of law_saw: 0 above 1 below 2 found 3 k 4 rest
theorem saw_term_bd {a b k : Nat} (hk : k < b) : -((b : Int) * b) ≤ (2 * (k : Int) - b) * (2 * ((k * a % b : Nat) : Int) - b) ∧ (2 * (k : Int) - b) * (2 * ((k * a % b : Nat) : Int) - b) ≤ b * b := by
  have h : k * a % b < b := Nat.mod_lt _ (by omega)
  generalize k * a % b = r at h
  have e1 : (2 * (k : Int) - b).natAbs ≤ b := by omega
  have e2 : (2 * (r : Int) - b).natAbs ≤ b := by omega
  have e3 : ((2 * (k : Int) - b) * (2 * (r : Int) - b)).natAbs ≤ b * b := by rw [Int.natAbs_mul]; exact Nat.mul_le_mul e1 e2
  have e4 : ((b * b : Nat) : Int) = (b : Int) * b := by push_cast; rfl
  omega
theorem saw_part {a b n : Nat} (hn : n ≤ b) : (sm n fun k => if 0 < k * a % b then (2 * (k : Int) - b) * (2 * ((k * a % b : Nat) : Int) - b) else 0).natAbs ≤ n * (b * b) := by
  induction n with
  | zero => simp [sm]
  | succ n ih =>
    have i := ih (by omega)
    have t := saw_term_bd (a := a) (b := b) (k := n) (by omega)
    have e4 : ((b * b : Nat) : Int) = (b : Int) * b := by push_cast; rfl
    have e5 : (n + 1) * (b * b) = n * (b * b) + b * b := by rw [Nat.add_mul]; omega
    simp only [sm]
    split <;> omega
theorem saw_bd {a b : Nat} : (saw a b).natAbs ≤ b * (b * b) := saw_part (Nat.le_refl b)
theorem saw_next {a b k : Nat} (hp : 0 < (k + 1) * a % b) : (sm (k + 1 + 1) fun k => if 0 < k * a % b then (2 * (k : Int) - b) * (2 * ((k * a % b : Nat) : Int) - b) else 0) = (sm (k + 1) fun k => if 0 < k * a % b then (2 * (k : Int) - b) * (2 * ((k * a % b : Nat) : Int) - b) else 0) + (2 * (1 + (k : Int)) - b) * (2 * (((k + 1) * a % b : Nat) : Int) - b) := by
  have e : ∀ f : Nat → Int, sm (k + 1 + 1) f = sm (k + 1) f + f (k + 1) := fun _ => rfl
  rw [e]
  rw [if_pos hp, Int.add_comm 1 (k : Int)]
  push_cast
  rfl
theorem mod_step {a b k : Nat} : (((k * a % b : Nat) : Int) + a) % b = (((k + 1) * a % b : Nat) : Int) := by
  have : ((k * a % b : Nat) : Int) + a = ((k * a % b + a : Nat) : Int) := by push_cast; rfl
  rw [this, ← Int.natCast_emod, Nat.mod_add_mod, Nat.add_mul, Nat.one_mul]
theorem cube_lt {b : Nat} (h : b < 10000) : b * (b * b) < 1000000000000 := by
  have h1 : b * b ≤ 9999 * 9999 := Nat.mul_le_mul (by omega) (by omega)
  have h2 : b * (b * b) ≤ 9999 * (9999 * 9999) := Nat.mul_le_mul (by omega) h1
  omega
theorem sq_lt {b : Nat} (h : b < 10000) : b * b < 100000000 := by
  have h1 : b * b ≤ 9999 * 9999 := Nat.mul_le_mul (by omega) (by omega)
  omega
theorem saw_lt {a b : Nat} (h : b < 10000) : (saw a b).natAbs < 1000000000000 := Nat.lt_of_le_of_lt saw_bd (cube_lt h)
theorem sawF_pre {b : Nat} (h1 : 1 ≤ b) (h : b < 10000) : (0 : Int) < 4 * b * b ∧ ((4 : Int) * b * b).natAbs < 400000000 := by
  have : (4 : Int) * b * b = ((4 * (b * b) : Nat) : Int) := by push_cast; grind
  have := sq_lt h
  have : 0 < b * b := Nat.mul_pos h1 h1
  omega
theorem lt_9000 {x : Int} (h : x.natAbs < 2 ^ 64) : x.natAbs < 2 ^ 9000 := Nat.lt_of_lt_of_le h (Nat.pow_le_pow_right (by decide) (by decide))
theorem body_saw_by (ds : List D) (M : Mem) (e : Exn → Mem → Prop) (q : D → Mem → Prop) (hl : ds.length = 2) (h : d_saw_by ds M e q) :
    wSsx T_saw_by C_saw_by ir_saw_by (fun x _ M' => e x M') { nx := fun _ M' => q .non M', rt := q } (startD 5 ds) M := by
  unfold d_saw_by at h
  split at h
  · rename_i a b
    obtain ⟨h0, h1, h2, hg, h⟩ := h
    obtain ⟨a, rfl⟩ : ∃ k : Nat, a = k := ⟨a.toNat, by omega⟩
    obtain ⟨b, rfl⟩ : ∃ k : Nat, b = k := ⟨b.toNat, by omega⟩
    have co : Nat.Coprime a b := hg
    have eb : ((b : Int) - 1).toNat + 1 = b := by omega
    unfold ir_saw_by
    walk_at "fx"
    refine ⟨by omega, for_rg (J := fun k τ M' => M' = M ∧ ∃ t, τ = [some (.int a), some (.int b), t, some (.int (sm (k + 1) fun k => if 0 < k * a % b then (2 * (k : Int) - b) * (2 * ((k * a % b : Nat) : Int) - b) else 0)), some (.int ((k * a % b : Nat) : Int))]) ?_ ?_ ?_⟩
    · refine ⟨rfl, none, ?_⟩
      simp [sm]
    · rintro τ M' ⟨rfl, t, rfl⟩
      walk_at "fx"
      have p := sawF_pre (b := b) (by omega) (by omega)
      refine ⟨.of_right (intBits_le_64 (by omega) (by omega)), p.1, .inr (lt_9000 (by omega)), ?_⟩
      rw [eb]
      exact h
    · rintro k hk τ M' ⟨rfl, t, rfl⟩ nx hn
      walk_at "fx"
      have hr : (((k + 1) * a % b : Nat) : Int) < b := by
        have := Nat.mod_lt ((k + 1) * a) (y := b) (by omega)
        omega
      have hp := co_pos co (k := k + 1) (by omega) (by omega)
      rw [mod_step]
      refine ⟨by omega, .of_right (intBits_le_64 (by omega) (by omega)), hn _ _ ⟨rfl, some (.int (1 + k)), ?_⟩⟩
      rw [saw_next hp]
  · exact h.elim
theorem body_are_apart (ds : List D) (M : Mem) (e : Exn → Mem → Prop) (q : D → Mem → Prop) (hl : ds.length = 2) (h : d_are_apart ds M e q) :
    wSsx T_are_apart C_are_apart ir_are_apart (fun x _ M' => e x M') { nx := fun _ M' => q .non M', rt := q } (startD 2 ds) M := by
  unfold d_are_apart at h
  split at h
  · rename_i a b
    unfold ir_are_apart
    walk_at "fx"
    have : decide ((Int.gcd a b : Int) = 1) = decide (Int.gcd a b = 1) := by
      rw [decide_eq_decide]; omega
    rw [this]; exact h
  · exact h.elim
theorem body_law_saw (ds : List D) (M : Mem) (e : Exn → Mem → Prop) (q : D → Mem → Prop) (hl : ds.length = 2) (h : d_law_saw ds M e q) :
    wSsx T_law_saw C_law_saw ir_law_saw (fun x _ M' => e x M') { nx := fun _ M' => q .non M', rt := q } (startD 5 ds) M := by
  unfold d_law_saw at h
  unfold d_saw_by at h
  split at h
  · rename_i a b
    obtain ⟨h0, h1, h2, hg, h⟩ := h
    obtain ⟨a, rfl⟩ : ∃ k : Nat, a = k := ⟨a.toNat, by omega⟩
    obtain ⟨b, rfl⟩ : ∃ k : Nat, b = k := ⟨b.toNat, by omega⟩
    have co : Nat.Coprime a b := hg
    have eb : ((b : Int) - 1).toNat + 1 = b := by omega
    unfold ir_law_saw
    walk_at "fx"
    refine ⟨by omega, for_rg (J := fun k τ M' => M' = M ∧ ∃ t u, τ = [some (.int a), some (.int b), some (.int (sm (k + 1) fun k => if 0 < k * a % b then (2 * (k : Int) - b) * (2 * ((k * a % b : Nat) : Int) - b) else 0)), t, u]) ?_ ?_ ?_⟩
    · refine ⟨rfl, none, none, ?_⟩
      simp [sm]
    · rintro τ M' ⟨rfl, t, u, rfl⟩
      walk_at "fx"
      have p := sawF_pre (b := b) (by omega) (by omega)
      refine ⟨.of_right (intBits_le_64 (by omega) (by omega)), p.1, .inr (lt_9000 (by omega)), ?_⟩
      rw [eb]
      exact h
    · rintro k hk τ M' ⟨rfl, t, u, rfl⟩ nx hn
      have hr : (((k + 1) * a % b : Nat) : Int) < b := by
        have := Nat.mod_lt ((k + 1) * a) (y := b) (by omega)
        omega
      have hp := co_pos co (k := k + 1) (by omega) (by omega)
      have er : (1 + (k : Int)) * a % b = (((k + 1) * a % b : Nat) : Int) := by
        push_cast
        rw [Int.add_comm 1 (k : Int)]
      walk_at "fx"
      rw [er, if_pos (by omega)]
      refine ⟨.of_left (intBits_le_64 (by omega) (by omega)), by omega, .of_right (intBits_le_64 (by omega) (by omega)), hn _ _ ⟨rfl, some (.int (1 + k)), some (.int (((k + 1) * a % b : Nat) : Int)), ?_⟩⟩
      rw [saw_next hp]
  · exact h.elim
theorem abs_mul_lt {a b : Int} {A B : Nat} (h1 : a.natAbs ≤ A) (h2 : b.natAbs ≤ B) : (a * b).natAbs ≤ A * B := by rw [Int.natAbs_mul]; exact Nat.mul_le_mul h1 h2
theorem low_le {a b : Int} : (low a b).1.natAbs ≤ a.natAbs ∧ (low a b).2.natAbs ≤ b.natAbs := by
  unfold low
  constructor
  · by_cases z : (Int.gcd a b : Int) = 0
    · simp only [z, Int.ediv_zero]; omega
    · exact Int.natAbs_ediv_le_natAbs _ _
  · by_cases z : (Int.gcd a b : Int) = 0
    · simp only [z, Int.ediv_zero]; omega
    · exact Int.natAbs_ediv_le_natAbs _ _
theorem low_pos {a b : Int} (hb : 0 < b) : 0 < (low a b).2 := by
  have g0 : 0 < Int.gcd a b := Int.gcd_pos_of_ne_zero_right a (by omega)
  have d : (Int.gcd a b : Int) ∣ b := Int.gcd_dvd_right ..
  exact Int.ediv_pos_of_pos_of_dvd hb (by omega) d
theorem sawF_pos {a b : Int} (h1 : 1 ≤ b) : 0 < (sawF a b).2 := low_pos (by
  have : 0 < b * b := Int.mul_pos h1 h1
  rw [Int.mul_assoc]; omega)
theorem sawF_lt {a b : Int} (h1 : 1 ≤ b) (h : b < 10000) : (sawF a b).1.natAbs < 1000000000000 ∧ (sawF a b).2.natAbs < 400000000 := by
  obtain ⟨b, rfl⟩ : ∃ k : Nat, b = k := ⟨b.toNat, by omega⟩
  have l := low_le (a := saw a.toNat b) (b := 4 * (b : Int) * b)
  have p := sawF_pre (b := b) (by omega) (by omega)
  have q := saw_lt (a := a.toNat) (b := b) (by omega)
  have e : sawF a b = low (saw a.toNat b) (4 * (b : Int) * b) := rfl
  rw [e]
  exact ⟨Nat.lt_of_le_of_lt l.1 q, Nat.lt_of_le_of_lt l.2 p.2⟩
theorem low_co {a b : Int} (h : 0 < b) : Int.gcd (low a b).1 (low a b).2 = 1 := by
  have g0 : 0 < Int.gcd a b := Int.gcd_pos_of_ne_zero_right a (by omega)
  unfold low
  rw [Int.gcd_ediv (Int.gcd_dvd_left ..) (Int.gcd_dvd_right ..), Int.natAbs_natCast, Nat.div_self g0]
theorem low_cross {a b : Int} : (low a b).1 * b = a * (low a b).2 := by
  unfold low
  have d1 : (Int.gcd a b : Int) ∣ a := Int.gcd_dvd_left ..
  have d2 : (Int.gcd a b : Int) ∣ b := Int.gcd_dvd_right ..
  generalize (Int.gcd a b : Int) = g at *
  obtain ⟨x, rfl⟩ := d1
  obtain ⟨y, rfl⟩ := d2
  by_cases z : g = 0
  · subst z; simp
  · simp only [Int.mul_ediv_cancel_left _ z]; grind
theorem co_uniq {p q p' q' : Int} (h1 : Int.gcd p q = 1) (h2 : Int.gcd p' q' = 1) (hq : 0 < q) (hq' : 0 < q') (e : p * q' = p' * q) : p = p' ∧ q = q' := by
  have d1 : q ∣ q' := by
    have : q ∣ p * q' := ⟨p', by rw [e]; exact Int.mul_comm _ _⟩
    have := Int.natAbs_dvd_natAbs.2 this
    rw [Int.natAbs_mul] at this
    exact Int.natAbs_dvd_natAbs.1 (Nat.Coprime.dvd_of_dvd_mul_left (k := q.natAbs) (m := p.natAbs) (by rw [Nat.Coprime, Nat.gcd_comm]; exact h1) this)
  have d2 : q' ∣ q := by
    have : q' ∣ p' * q := ⟨p, by rw [← e]; exact Int.mul_comm _ _⟩
    have := Int.natAbs_dvd_natAbs.2 this
    rw [Int.natAbs_mul] at this
    exact Int.natAbs_dvd_natAbs.1 (Nat.Coprime.dvd_of_dvd_mul_left (k := q'.natAbs) (m := p'.natAbs) (by rw [Nat.Coprime, Nat.gcd_comm]; exact h2) this)
  have eq : q = q' := Int.le_antisymm (Int.le_of_dvd hq' d1) (Int.le_of_dvd hq d2)
  subst eq
  exact ⟨Int.eq_of_mul_eq_mul_right (by omega) e, rfl⟩
theorem low_eq {x y x' y' : Int} (hy : 0 < y) (hy' : 0 < y') (e : x * y' = x' * y) : low x y = low x' y' := by
  have c1 := low_cross (a := x) (b := y)
  have c2 := low_cross (a := x') (b := y')
  have q1 := low_pos (a := x) hy
  have q2 := low_pos (a := x') hy'
  have e2 : (low x y).1 * (low x' y').2 = (low x' y').1 * (low x y).2 := by
    have hne : y * y' ≠ 0 := Int.ne_of_gt (Int.mul_pos hy hy')
    refine Int.eq_of_mul_eq_mul_left hne ?_
    generalize (low x y).1 = p at *
    generalize (low x y).2 = q at *
    generalize (low x' y').1 = p' at *
    generalize (low x' y').2 = q' at *
    have : y * y' * (p * q') = (p * y) * y' * q' := by grind
    rw [this, c1]
    have : y * y' * (p' * q) = (p' * y') * y * q := by grind
    rw [this, c2]
    grind
  obtain ⟨a, b⟩ := co_uniq (low_co hy) (low_co hy') q1 q2 e2
  exact Prod.ext a b
theorem low_neg {x y : Int} : low (-x) y = (-(low x y).1, (low x y).2) := by
  unfold low
  rw [Int.neg_gcd]
  simp only [Prod.mk.injEq, and_true]
  exact Int.neg_ediv_of_dvd (Int.gcd_dvd_left ..)
theorem saw_add {a b : Nat} : saw (a + b) b = saw a b := sm_congr fun k _ => by
  have : k * (a + b) % b = k * a % b := by rw [Nat.mul_add, Nat.add_mul_mod_self_right]
  rw [this]
theorem saw_sub {a b : Nat} (co : Nat.Coprime a b) (h : a ≤ b) : saw (b - a) b = - saw a b := by
  have e : - saw a b = sm b fun k => (-1) * (if 0 < k * a % b then (2 * (k : Int) - b) * (2 * ((k * a % b : Nat) : Int) - b) else 0) := by
    rw [sm_mul]; unfold saw; omega
  rw [e]
  refine sm_congr fun k hk => ?_
  by_cases z : k = 0
  · subst z; simp
  · have hp := co_pos co (k := k) (by omega) hk
    have lt : k * a % b < b := Nat.mod_lt _ (by omega)
    have er : k * (b - a) % b = b - k * a % b := by
      have d := Nat.div_add_mod (k * a) b
      have : k * (b - a) = (b - k * a % b) + b * (k - 1 - k * a / b) := by
        have l1 : k * a / b + 1 ≤ k := by
          have : k * a / b < k := by
            refine (Nat.div_lt_iff_lt_mul (by omega)).2 ?_
            have : a ≠ b := fun e => by
              subst e
              rw [Nat.mul_mod_left] at hp
              omega
            exact Nat.mul_lt_mul_of_pos_left (by omega) (by omega)
          omega
        have e1 : k * (b - a) = k * b - k * a := Nat.mul_sub ..
        have e2 : b * (k - 1 - k * a / b) = b * k - b * (1 + k * a / b) := by rw [Nat.sub_sub, Nat.mul_sub]
        have e3 : b * (1 + k * a / b) = b + b * (k * a / b) := by rw [Nat.mul_add, Nat.mul_one]
        have e4 : b * (1 + k * a / b) ≤ b * k := Nat.mul_le_mul_left _ (by omega)
        have e5 : b * k = k * b := Nat.mul_comm ..
        omega
      rw [this, Nat.add_mul_mod_self_left, Nat.mod_eq_of_lt (by omega)]
    rw [er, if_pos (by omega), if_pos hp]
    have : ((b - k * a % b : Nat) : Int) = b - ((k * a % b : Nat) : Int) := by omega
    rw [this]
    grind
theorem sawF_add {a b : Int} (ha : 0 ≤ a) (hb : 0 ≤ b) : sawF (a + b) b = sawF a b := by
  unfold sawF
  have : (a + b).toNat = a.toNat + b.toNat := by omega
  rw [this, saw_add]
theorem sawF_sub {a b : Int} (ha : 0 ≤ a) (hb : a < b) (hg : Int.gcd a b = 1) : sawF (b - a) b = (0 - (sawF a b).1, (sawF a b).2) := by
  unfold sawF
  have : (b - a).toNat = b.toNat - a.toNat := by omega
  have co : Nat.Coprime a.toNat b.toNat := by
    have e : Int.gcd a b = Nat.gcd a.toNat b.toNat := by
      unfold Int.gcd
      congr 1 <;> omega
    rw [e] at hg; exact hg
  rw [this, saw_sub co (by omega), low_neg]
  simp
theorem sawF_one {a : Int} : sawF a 1 = (0, 1) := by
  have : saw a.toNat 1 = 0 := by simp [saw, sm]
  unfold sawF
  have e : (1 : Int).toNat = 1 := rfl
  rw [e, this]; decide
def plusF (p o : Int × Int) : Int × Int := low (p.1 * o.2 + o.1 * p.2) (p.2 * o.2)
theorem plusF_comm {p o : Int × Int} : plusF p o = plusF o p := by
  unfold plusF
  rw [Int.mul_comm p.2, Int.add_comm]
/-- the reciprocity law -/
theorem saw_both {a b : Int} (ha : 1 ≤ a) (hb : 1 ≤ b) (hg : Int.gcd a b = 1) : plusF (sawF a b) (sawF b a) = low (a * a + b * b + 1 - 3 * a * b) (12 * a * b) := by
  obtain ⟨a, rfl⟩ : ∃ k : Nat, a = k := ⟨a.toNat, by omega⟩
  obtain ⟨b, rfl⟩ : ∃ k : Nat, b = k := ⟨b.toNat, by omega⟩
  have co : Nat.Coprime a b := hg
  have l := saw_law co (by omega) (by omega)
  have p1 := sawF_pos (a := (a : Int)) hb
  have p2 := sawF_pos (a := (b : Int)) ha
  have ab : (0 : Int) < (a : Int) * b := Int.mul_pos ha hb
  have bb : (0 : Int) < (b : Int) * b := Int.mul_pos hb hb
  have aa : (0 : Int) < (a : Int) * a := Int.mul_pos ha ha
  have c1 := low_cross (a := saw a b) (b := 4 * (b : Int) * b)
  have c2 := low_cross (a := saw b a) (b := 4 * (a : Int) * a)
  have e1 : sawF a b = low (saw a b) (4 * (b : Int) * b) := rfl
  have e2 : sawF b a = low (saw b a) (4 * (a : Int) * a) := rfl
  rw [← e1] at c1
  rw [← e2] at c2
  unfold plusF
  refine low_eq (Int.mul_pos p1 p2) (by rw [Int.mul_assoc]; omega) ?_
  clear e1 e2 p1 p2
  generalize saw a b = S at *
  generalize saw b a = T at *
  generalize (sawF a b).1 = x at *
  generalize (sawF a b).2 = y at *
  generalize (sawF b a).1 = z at *
  generalize (sawF b a).2 = w at *
  have hne : (4 * (b : Int) * b) * (4 * (a : Int) * a) ≠ 0 := by
    exact Int.ne_of_gt (Int.mul_pos (by rw [Int.mul_assoc]; omega) (by rw [Int.mul_assoc]; omega))
  refine Int.eq_of_mul_eq_mul_left hne ?_
  have s1 : ∀ a b x y z w : Int, (4 * b * b) * (4 * a * a) * ((x * w + z * y) * (12 * a * b)) = ((x * (4 * b * b)) * w * (4 * a * a) + (z * (4 * a * a)) * y * (4 * b * b)) * (12 * a * b) := by intros; grind
  rw [s1, c1, c2]
  have s2 : ∀ a b y w S T : Int, (S * y * w * (4 * a * a) + T * w * y * (4 * b * b)) * (12 * a * b) = 16 * a * b * y * w * (3 * (a * a * S + b * b * T)) := by intros; grind
  rw [s2, l]
  generalize (a : Int) = A
  generalize (b : Int) = B
  grind
end Sh

set_option maxRecDepth 100000
set_option exponentiation.threshold 10000
namespace Sh
open PySem L2 Fx Mx
local macro_rules | `(tactic| walk_at "fx") => `(tactic| simp only [
  wSsx, wSx, wEx, wBx, wLx, wOx, wGx, wGsx, wIx, startD, isiF, r_newL, mulL, mulR, noPyR, cp15, cp18, cp64, Int.reduceNeg, Int.reduceLT, Int.reduceEq, Int.reduceLE, Int.reduceSub, Int.reduceAdd, Int.reducePow, Int.reduceMul, Int.reduceToNat,  r_g0, r_gs, r_add, r_adds, r_addt, r_addo, r_sub, r_mul, r_mulo, r_div, r_mod, r_pow, r_shl, r_shr, 
  r_band, r_neg, r_eqi, r_eqs, r_cEq, r_cNe, r_cLt, r_cLe, r_cGt, r_cGe, r_cIs, r_cIsN, r_cIsB, r_cIsNB, r_ent, r_cIn, r_cNi, r_ins, r_tb, r_lt, r_lr, r_ls, r_lo, r_blen, r_babs, 
  r_bmax, r_bmin, r_btup, r_blst, r_bsum, r_ball, r_bany, r_bint, r_bintb, r_bgcd, r_bdm, r_brep, r_tt, r_tr, r_to, r_lot, r_lor, r_loo, r_opt, r_ixt, 
  r_ixo, r_ixr, r_ixs, r_slt, r_slo, r_slr, r_sls, r_set, r_app, r_lat, r_itt, r_itr, r_ito, r_its, r_rg, r_en, r_zp, r_stt, r_str, r_sto, at_0, at_1, 
  at_2, at_3, at_4, at_l1, at_ap, at_l2, at_l3, ix_0, ix_1, ix_2, ix30, ix31, ix32, ix20, ix21, List.map_cons, List.map_nil, List.length_cons, List.length_nil, 
  List.replicate_succ, List.replicate_zero, List.cons_append, List.nil_append, List.getElem?_cons_zero, List.getElem?_cons_succ, List.set_cons_zero, List.set_cons_succ, 
  List.set_nil, wipeD, Nat.reduceAdd, Nat.reduceSub, Nat.reduceLeDiff, true_and, and_true, decide_eq_true_eq, decide_eq_false_iff_not, Bool.not_eq_true', 
  Bool.not_eq_false', Bool.not_true, Bool.not_false, if_true, if_false, not_true_eq_false, not_false_eq_true, ite_self, Nat.reduceMul, List.flatten_cons, List.flatten_nil, List.append_nil, Bool.false_eq_true, Tgs.len, Option.some.injEq, Cell.lst.injEq, exists_eq_left', 
  exists_eq', put_at, List.filterMap_cons, List.filterMap_nil, sz0, sz1, sz2, sz3, sz4, sz5, sz6])
local macro_rules | `(tactic| walk_at "fy") => `(tactic| simp only [
  wSsx, wSx, wEx, wBx, wLx, wOx, wGx, wGsx, wIx, startD, isiF, r_newL, mulL, mulR, noPyR, cp15, cp18, cp64, Int.reduceNeg, Int.reduceLT, Int.reduceEq, Int.reduceLE, Int.reduceSub, Int.reduceAdd, Int.reducePow, Int.reduceMul, Int.reduceToNat,  r_g0, r_gs, r_add, r_adds, r_addt, r_addo, r_sub, r_mul, r_mulo, r_div, r_mod, r_pow, r_shl, r_shr, 
  r_band, r_neg, r_eqi, r_eqs, r_cEq, r_cNe, r_cLt, r_cLe, r_cGt, r_cGe, r_cIs, r_cIsN, r_cIsB, r_cIsNB, r_ent, r_cIn, r_cNi, r_ins, r_tb, r_lt, r_lr, r_ls, r_lo, r_blen, r_babs, 
  r_bmax, r_bmin, r_btup, r_blst, r_bsum, r_ball, r_bany, r_bint, r_bintb, r_bgcd, r_bdm, r_brep, r_tt, r_tr, r_to, r_lot, r_lor, r_loo, r_opt, r_ixt, 
  r_ixo, r_ixr, r_ixs, r_slt, r_slo, r_slr, r_sls, r_set, r_app, r_lat, r_itt, r_itr, r_ito, r_its, r_rg, r_en, r_zp, r_stt, r_str, r_sto, at_0, at_1, 
  at_2, at_3, at_4, at_l1, at_ap, at_l2, at_l3, ix_0, ix_1, ix_2, ix30, ix31, ix32, ix20, ix21, List.map_cons, List.map_nil, List.length_cons, List.length_nil, 
  List.replicate_succ, List.replicate_zero, List.cons_append, List.nil_append, List.getElem?_cons_zero, List.getElem?_cons_succ, List.set_cons_zero, List.set_cons_succ, 
  List.set_nil, wipeD, Nat.reduceAdd, Nat.reduceSub, Nat.reduceLeDiff, true_and, and_true, decide_eq_true_eq, decide_eq_false_iff_not, Bool.not_eq_true', 
  Bool.not_eq_false', Bool.not_true, Bool.not_false, if_true, if_false, not_true_eq_false, not_false_eq_true, ite_self, Nat.reduceMul, List.flatten_cons, List.flatten_nil, List.append_nil, Bool.false_eq_true, Tgs.len, Option.some.injEq, Cell.lst.injEq, exists_eq_left', 
  exists_eq', put_at, List.filterMap_cons, List.filterMap_nil, sz0, sz1, sz2, sz3, sz4, sz5, sz6, put_ne, ne_eq, *])
/-! ## shared: saws, the rest -/
def k_MOST_NUMBER : D := .int 999
@[reducible] def d_plus : DSp := fun ds M e q => match ds with
  | [.tup [.int a, .int b], .tup [.int c, .int d]] => 0 < b ∧ 0 < d ∧ b < 2 ^ 60 ∧ d < 2 ^ 60 ∧ q (fr (plusF (a, b) (c, d))) M
  | _ => False
@[reducible] def d_is_side : DSp := fun ds M e q => match ds with
  | [d] => lstOk d M ∧ q (.bl (btwI d 1 999)) M
  | _ => False
@[reducible] def d_check_sides : DSp := fun ds M e q => match ds with
  | [.int a, .int b] => 1 ≤ a ∧ a ≤ 999 ∧ 1 ≤ b ∧ b ≤ 999 ∧ q .non M
  | _ => False
@[reducible] def d_check_apart : DSp := fun ds M e q => match ds with
  | [.int a, .int b] => 1 ≤ a ∧ a ≤ 999 ∧ 1 ≤ b ∧ b ≤ 999 ∧ Int.gcd a b = 1 ∧ q .non M
  | _ => False
@[reducible] def d_saw_sum : DSp := fun ds M e q => match ds with
  | [.int a, .int b] => 1 ≤ a ∧ a ≤ 999 ∧ 1 ≤ b ∧ b ≤ 999 ∧ Int.gcd a b = 1 ∧ q (fr (sawF a b)) M
  | _ => False
@[reducible] def d_law_fraction : DSp := fun ds M e q => match ds with
  | [.ob p, .int most] => Pool M p ∧ 1 ≤ most ∧ most ≤ 1000 ∧ ∀ (a b : Int) M', 1 ≤ a → a ≤ most → 1 ≤ b → b ≤ most → Int.gcd a b = 1 → ExtP p M M' → q (fr (a, b)) M'
  | _ => False
@[reducible] def d_law_coprime : DSp := d_law_fraction
def ir_plus : Iss := (.cons (.ret (.call 0 2 0 (.cons (.bin .Add (.bin .Mult (.ix (.v 0) (.ci 0)) (.ix (.v 1) (.ci 1))) (.bin .Mult (.ix (.v 1) (.ci 0)) (.ix (.v 0) (.ci 1)))) (.cons (.bin .Mult (.ix (.v 0) (.ci 1)) (.ix (.v 1) (.ci 1))) .nil)) .nil))
  .nil)
@[reducible] def T_plus : Nat → DSp
  | 0 => d_lowest
  | _ => noD
@[reducible] def C_plus : Nat → D
  | _ => .non
-- slots of plus: 0 one 1 other
def ir_is_side : Iss := (.cons (.ret (.call 0 3 0 (.cons (.v 0) (.cons (.ci 1) (.cons (.gc 0) .nil))) .nil))
  .nil)
@[reducible] def T_is_side : Nat → DSp
  | 0 => d_is_between
  | _ => noD
@[reducible] def C_is_side : Nat → D
  | 0 => k_MOST_NUMBER
  | _ => .non
-- slots of is_side: 0 value
def ir_check_sides : Iss := (.cons (.for (.nm 2) (.ex (.tup (.cons (.v 0) (.cons (.v 1) .nil)))) (.cons (.ifs (.tnot (.tv (.call 0 1 0 (.cons (.v 2) .nil) .nil))) (.cons .never
  .nil) .nil)
  .nil))
  .nil)
@[reducible] def T_check_sides : Nat → DSp
  | 0 => d_is_side
  | _ => noD
@[reducible] def C_check_sides : Nat → D
  | _ => .non
-- slots of check_sides: 0 above 1 below 2 value
def ir_check_apart : Iss := (.cons (.ex (.call 0 2 0 (.cons (.v 0) (.cons (.v 1) .nil)) .nil))
  (.cons (.ifs (.tnot (.tv (.call 1 2 0 (.cons (.v 0) (.cons (.v 1) .nil)) .nil))) (.cons .never
  .nil) .nil)
  .nil))
@[reducible] def T_check_apart : Nat → DSp
  | 0 => d_check_sides
  | 1 => d_are_apart
  | _ => noD
@[reducible] def C_check_apart : Nat → D
  | _ => .non
-- slots of check_apart: 0 above 1 below
def ir_saw_sum : Iss := (.cons (.ex (.call 0 2 0 (.cons (.v 0) (.cons (.v 1) .nil)) .nil))
  (.cons (.ret (.call 1 2 0 (.cons (.v 0) (.cons (.v 1) .nil)) .nil))
  .nil))
@[reducible] def T_saw_sum : Nat → DSp
  | 0 => d_check_apart
  | 1 => d_saw_by
  | _ => noD
@[reducible] def C_saw_sum : Nat → D
  | _ => .non
-- slots of saw_sum: 0 above 1 below
def ir_law_fraction : Iss := (.cons (.ret (.call 0 2 0 (.cons (.bin .Add (.ci 1) (.call 1 2 0 (.cons (.v 0) (.cons (.v 1) .nil)) .nil)) (.cons (.bin .Add (.ci 1) (.call 1 2 0 (.cons (.v 0) (.cons (.v 1) .nil)) .nil)) .nil)) .nil))
  .nil)
@[reducible] def T_law_fraction : Nat → DSp
  | 0 => d_law_lowest
  | 1 => d_law_take
  | _ => noD
@[reducible] def C_law_fraction : Nat → D
  | _ => .non
-- slots of law_fraction: 0 bag 1 most
def ir_law_coprime : Iss := (.cons (.asgT (.tp (.cons (.nm 2) (.cons (.nm 3) .nil))) (.call 0 2 0 (.cons (.v 0) (.cons (.v 1) .nil)) .nil))
  (.cons (.ret (.tup (.cons (.v 2) (.cons (.v 3) .nil))))
  .nil))
@[reducible] def T_law_coprime : Nat → DSp
  | 0 => d_law_fraction
  | _ => noD
@[reducible] def C_law_coprime : Nat → D
  | _ => .non
-- slots of law_coprime: 0 bag 1 most 2 one 3 two
theorem z64 {x : Int} (h1 : -(2 ^ 64) < x) (h2 : x < 2 ^ 64) : PySem.Builtin.Int.intBits x ≤ 64 := intBits_le_64 h1 h2
theorem body_plus (ds : List D) (M : Mem) (e : Exn → Mem → Prop) (q : D → Mem → Prop) (hl : ds.length = 2) (h : d_plus ds M e q) :
    wSsx T_plus C_plus ir_plus (fun x _ M' => e x M') { nx := fun _ M' => q .non M', rt := q } (startD 2 ds) M := by
  unfold d_plus at h
  split at h
  · rename_i a b c d
    obtain ⟨h0, h1, h2, h3, h⟩ := h
    unfold ir_plus
    walk_at "fx"
    simp only [T_plus, C_plus, d_lowest]
    have e : (b * d).natAbs < 2 ^ 9000 := by
      have := abs_mul_lt (a := b) (b := d) (A := 2 ^ 60) (B := 2 ^ 60) (by omega) (by omega)
      exact Nat.lt_of_le_of_lt this (Nat.lt_of_lt_of_le (show 2 ^ 60 * 2 ^ 60 < 2 ^ 121 by decide) (Nat.pow_le_pow_right (by decide) (by decide)))
    exact ⟨.of_right (z64 (by omega) (by omega)), .of_right (z64 (by omega) (by omega)), .of_right (z64 (by omega) (by omega)), Int.mul_pos h0 h1, .inr e, h⟩
  · exact h.elim
theorem body_is_side (ds : List D) (M : Mem) (e : Exn → Mem → Prop) (q : D → Mem → Prop) (hl : ds.length = 1) (h : d_is_side ds M e q) :
    wSsx T_is_side C_is_side ir_is_side (fun x _ M' => e x M') { nx := fun _ M' => q .non M', rt := q } (startD 1 ds) M := by
  unfold d_is_side at h
  split at h
  · rename_i d
    unfold ir_is_side
    walk_at "fx"
    exact h
  · exact h.elim
theorem body_check_sides (ds : List D) (M : Mem) (e : Exn → Mem → Prop) (q : D → Mem → Prop) (hl : ds.length = 2) (h : d_check_sides ds M e q) :
    wSsx T_check_sides C_check_sides ir_check_sides (fun x _ M' => e x M') { nx := fun _ M' => q .non M', rt := q } (startD 3 ds) M := by
  unfold d_check_sides at h
  split at h
  · rename_i a b
    obtain ⟨h0, h1, h2, h3, h⟩ := h
    unfold ir_check_sides
    walk_at "fx"
    simp only [forF, T_check_sides, C_check_sides]
    walk_at "fx"
    have ba : btwI (.int a) 1 999 = true := by simp only [btwI, decide_eq_true_eq]; omega
    have bb : btwI (.int b) 1 999 = true := by simp only [btwI, decide_eq_true_eq]; omega
    simp only [d_is_side, lstOk, ba, bb]
    walk_at "fx"
    exact h
  · exact h.elim
theorem body_check_apart (ds : List D) (M : Mem) (e : Exn → Mem → Prop) (q : D → Mem → Prop) (hl : ds.length = 2) (h : d_check_apart ds M e q) :
    wSsx T_check_apart C_check_apart ir_check_apart (fun x _ M' => e x M') { nx := fun _ M' => q .non M', rt := q } (startD 2 ds) M := by
  unfold d_check_apart at h
  split at h
  · rename_i a b
    obtain ⟨h0, h1, h2, h3, hg, h⟩ := h
    unfold ir_check_apart
    walk_at "fx"
    refine ⟨h0, h1, h2, h3, ?_⟩
    simp only [T_check_apart, C_check_apart, d_are_apart, hg]
    walk_at "fx"
    simpa using h
  · exact h.elim
theorem body_saw_sum (ds : List D) (M : Mem) (e : Exn → Mem → Prop) (q : D → Mem → Prop) (hl : ds.length = 2) (h : d_saw_sum ds M e q) :
    wSsx T_saw_sum C_saw_sum ir_saw_sum (fun x _ M' => e x M') { nx := fun _ M' => q .non M', rt := q } (startD 2 ds) M := by
  unfold d_saw_sum at h
  split at h
  · rename_i a b
    obtain ⟨h0, h1, h2, h3, hg, h⟩ := h
    unfold ir_saw_sum
    walk_at "fx"
    exact ⟨h0, h1, h2, h3, hg, by omega, by omega, by omega, hg, h⟩
  · exact h.elim
theorem body_law_fraction (ds : List D) (M : Mem) (e : Exn → Mem → Prop) (q : D → Mem → Prop) (hl : ds.length = 2) (h : d_law_fraction ds M e q) :
    wSsx T_law_fraction C_law_fraction ir_law_fraction (fun x _ M' => e x M') { nx := fun _ M' => q .non M', rt := q } (startD 2 ds) M := by
  unfold d_law_fraction at h
  split at h
  · rename_i p most
    obtain ⟨hp, h0, h1, h⟩ := h
    unfold ir_law_fraction
    walk_at "fx"
    refine ⟨hp, by omega, by omega, fun a M1 a0 a1 x1 => ?_⟩
    walk_at "fx"
    refine ⟨x1.2, by omega, by omega, fun b M2 b0 b1 x2 => ?_⟩
    walk_at "fx"
    refine ⟨by omega, .inr ?_, ?_⟩
    · exact lt_9000 (by omega)
    · have l := low_le (a := 1 + a) (b := 1 + b)
      have p := low_pos (a := 1 + a) (b := 1 + b) (by omega)
      have p1 : 0 < (low (1 + a) (1 + b)).1 := Int.ediv_pos_of_pos_of_dvd (by omega) (by omega) (Int.gcd_dvd_left ..)
      exact h (low (1 + a) (1 + b)).1 (low (1 + a) (1 + b)).2 M2 (by omega) (by omega) (by omega) (by omega) (low_co (by omega)) (x1.trans x2)
  · exact h.elim
theorem body_law_coprime (ds : List D) (M : Mem) (e : Exn → Mem → Prop) (q : D → Mem → Prop) (hl : ds.length = 2) (h : d_law_coprime ds M e q) :
    wSsx T_law_coprime C_law_coprime ir_law_coprime (fun x _ M' => e x M') { nx := fun _ M' => q .non M', rt := q } (startD 4 ds) M := by
  unfold d_law_coprime at h
  unfold d_law_fraction at h
  split at h
  · rename_i p most
    obtain ⟨hp, h0, h1, h⟩ := h
    unfold ir_law_coprime
    walk_at "fx"
    refine ⟨hp, by omega, by omega, fun a b M1 a0 a1 b0 b1 hg x1 => ?_⟩
    walk_at "fx"
    exact h a b M1 a0 a1 b0 b1 hg x1
  · exact h.elim
end Sh

set_option maxRecDepth 100000
set_option exponentiation.threshold 10000
namespace Sh
open PySem L2 Fx Mx
/-! ## fractions as numbers -/
def val (p : Int × Int) : Rat := (p.1 : Rat) / p.2
structure Red (p : Int × Int) : Prop where
  pos : 0 < p.2
  co : Int.gcd p.1 p.2 = 1
theorem Red.ne {p : Int × Int} (h : Red p) : (p.2 : Rat) ≠ 0 := by
  have := h.pos
  exact_mod_cast (show p.2 ≠ 0 by omega)
theorem Red.low {x y : Int} (h : 0 < y) : Red (low x y) := ⟨low_pos h, low_co h⟩
theorem val_low {x y : Int} (h : 0 < y) : val (low x y) = (x : Rat) / y := by
  have c := low_cross (a := x) (b := y)
  have p := (Red.low (x := x) h).ne
  have q : (y : Rat) ≠ 0 := by exact_mod_cast (show y ≠ 0 by omega)
  have c' : ((low x y).1 : Rat) * y = x * (low x y).2 := by exact_mod_cast c
  unfold val
  grind
theorem Red.inj {p q : Int × Int} (hp : Red p) (hq : Red q) (e : val p = val q) : p = q := by
  have h1 := hp.ne
  have h2 := hq.ne
  have c : (p.1 : Rat) * q.2 = q.1 * p.2 := by
    unfold val at e
    grind
  have c' : p.1 * q.2 = q.1 * p.2 := by exact_mod_cast c
  obtain ⟨a, b⟩ := co_uniq hp.co hq.co hp.pos hq.pos c'
  exact Prod.ext a b
def minusF (p o : Int × Int) : Int × Int := low (p.1 * o.2 - o.1 * p.2) (p.2 * o.2)
section
variable {p o : Int × Int}
theorem val_plus (hp : 0 < p.2) (ho : 0 < o.2) : val (plusF p o) = val p + val o := by
  have h1 : (p.2 : Rat) ≠ 0 := by exact_mod_cast (show p.2 ≠ 0 by omega)
  have h2 : (o.2 : Rat) ≠ 0 := by exact_mod_cast (show o.2 ≠ 0 by omega)
  unfold plusF
  rw [val_low (Int.mul_pos hp ho)]
  unfold val
  push_cast
  grind
theorem val_minus (hp : 0 < p.2) (ho : 0 < o.2) : val (minusF p o) = val p - val o := by
  have h1 : (p.2 : Rat) ≠ 0 := by exact_mod_cast (show p.2 ≠ 0 by omega)
  have h2 : (o.2 : Rat) ≠ 0 := by exact_mod_cast (show o.2 ≠ 0 by omega)
  unfold minusF
  rw [val_low (Int.mul_pos hp ho)]
  unfold val
  push_cast
  grind
theorem Red.plus (hp : 0 < p.2) (ho : 0 < o.2) : Red (plusF p o) := .low (Int.mul_pos hp ho)
theorem Red.minus (hp : 0 < p.2) (ho : 0 < o.2) : Red (minusF p o) := .low (Int.mul_pos hp ho)
theorem minus_le (hp : 0 < p.2) (ho : 0 < o.2) : (minusF p o).2 ≤ p.2 * o.2 := by
  have := (low_le (a := p.1 * o.2 - o.1 * p.2) (b := p.2 * o.2)).2
  have := Int.mul_pos hp ho
  have := (Red.minus hp ho).pos
  unfold minusF at *
  omega
end
/-! ## what the rows rest on -/
theorem inv_ex {a b : Int} (ha : 0 ≤ a) (hb : 1 ≤ b) (hg : Int.gcd a b = 1) : ∃ i, 0 ≤ i ∧ i < b ∧ i * a % b = 1 % b := by
  obtain ⟨a, rfl⟩ : ∃ k : Nat, a = k := ⟨a.toNat, by omega⟩
  obtain ⟨b, rfl⟩ : ∃ k : Nat, b = k := ⟨b.toNat, by omega⟩
  have co : Nat.Coprime a b := hg
  by_cases h : ∃ k, k < b ∧ k * a % b = 1 % b
  · obtain ⟨k, hk, e⟩ := h
    exact ⟨k, by omega, by omega, by exact_mod_cast e⟩
  · have z := co_sum co fun j => if j = 1 % b then 1 else 0
    have z1 : sm b (fun k => if k * a % b = 1 % b then (1 : Int) else 0) = 0 := (sm_congr (g := fun _ => 0) fun k hk => if_neg fun e => h ⟨k, hk, e⟩).trans (sm_zero b)
    have z2 : sm b (fun j => if j = 1 % b then (1 : Int) else 0) = 1 := by
      have : (fun j : Nat => if j = 1 % b then (1 : Int) else 0) = fun j => if 1 % b = j then 1 else 0 := by
        funext j
        by_cases e : j = 1 % b
        · rw [if_pos e, if_pos e.symm]
        · rw [if_neg e, if_neg (Ne.symm e)]
      rw [this]
      exact sm_pick b (1 % b) (fun _ => 1) (Nat.mod_lt _ (by omega))
    rw [z1, z2] at z
    cases z
theorem inv_un {a b i j : Int} (ha : 0 ≤ a) (hg : Int.gcd a b = 1) (h1 : 0 ≤ i) (h2 : i < b) (h3 : 0 ≤ j) (h4 : j < b) (e : i * a % b = j * a % b) : i = j := by
  obtain ⟨a, rfl⟩ : ∃ k : Nat, a = k := ⟨a.toNat, by omega⟩
  obtain ⟨b, rfl⟩ : ∃ k : Nat, b = k := ⟨b.toNat, by omega⟩
  obtain ⟨i, rfl⟩ : ∃ k : Nat, i = k := ⟨i.toNat, by omega⟩
  obtain ⟨j, rfl⟩ : ∃ k : Nat, j = k := ⟨j.toNat, by omega⟩
  have co : Nat.Coprime a b := hg
  have := co_inj co (k := i) (k' := j) (by omega) (by omega) (by exact_mod_cast e)
  omega
theorem saw_inv {a a' b : Nat} (co : Nat.Coprime a b) (hb : 0 < b) (e : a * a' % b = 1 % b) : saw a' b = saw a b := by
  have back : ∀ k, k < b → (k * a % b) * a' % b = k := by
    intro k hk
    rw [Nat.mod_mul_mod, Nat.mul_assoc, Nat.mul_mod, e, Nat.mod_mul_mod, Nat.mul_mod_mod, Nat.mul_one, Nat.mod_eq_of_lt hk]
  unfold saw
  rw [← co_sum co fun j => if 0 < j * a' % b then (2 * (j : Int) - b) * (2 * ((j * a' % b : Nat) : Int) - b) else 0]
  refine sm_congr fun k hk => ?_
  rw [back k hk]
  by_cases z : k = 0
  · subst z; simp
  · rw [if_pos (by omega), if_pos (co_pos co (by omega) hk), Int.mul_comm]
theorem sawF_inv {a i b : Int} (ha : 0 ≤ a) (hi : 0 ≤ i) (hb : 1 ≤ b) (hg : Int.gcd a b = 1) (e : i * a % b = 1 % b) : sawF i b = sawF a b := by
  obtain ⟨a, rfl⟩ : ∃ k : Nat, a = k := ⟨a.toNat, by omega⟩
  obtain ⟨b, rfl⟩ : ∃ k : Nat, b = k := ⟨b.toNat, by omega⟩
  obtain ⟨i, rfl⟩ : ∃ k : Nat, i = k := ⟨i.toNat, by omega⟩
  have co : Nat.Coprime a b := hg
  unfold sawF
  have e' : a * i % b = 1 % b := by
    rw [Nat.mul_comm]
    exact_mod_cast e
  have := saw_inv co (by omega) e'
  simp only [Int.toNat_natCast, this]
theorem sawF_mod {a b : Int} (ha : 0 ≤ a) (hb : 1 ≤ b) : sawF (a % b) b = sawF a b := by
  obtain ⟨a, rfl⟩ : ∃ k : Nat, a = k := ⟨a.toNat, by omega⟩
  obtain ⟨b, rfl⟩ : ∃ k : Nat, b = k := ⟨b.toNat, by omega⟩
  unfold sawF
  have : saw (a % b) b = saw a b := sm_congr fun k _ => by
    have : k * (a % b) % b = k * a % b := by rw [Nat.mul_mod_mod]
    rw [this]
  have e : ((a : Int) % b).toNat = a % b := by
    have : (a : Int) % b = ((a % b : Nat) : Int) := by push_cast; rfl
    rw [this]; rfl
  rw [e]
  simp only [Int.toNat_natCast, this]
/-- the twelvefold -/
def twF (a b : Int) : Int := 12 * b * (sawF a b).1 / (sawF a b).2
theorem tw_law {a b i : Int} (ha : 1 ≤ a) (hb : 1 ≤ b) (hg : Int.gcd a b = 1) (e : i * a % b = 1 % b) : twF a b * (sawF a b).2 = (sawF a b).1 * 12 * b ∧ (twF a b - a - i) % b = 0 := by
  obtain ⟨a, rfl⟩ : ∃ k : Nat, a = k := ⟨a.toNat, by omega⟩
  obtain ⟨b, rfl⟩ : ∃ k : Nat, b = k := ⟨b.toNat, by omega⟩
  have co : Nat.Coprime a b := hg
  have l := saw_law co (by omega) (by omega)
  have c := low_cross (a := saw a b) (b := 4 * (b : Int) * b)
  have e1 : sawF a b = low (saw a b) (4 * (b : Int) * b) := rfl
  rw [← e1] at c
  have p := sawF_pos (a := (a : Int)) hb
  have hb0 : (b : Int) ≠ 0 := by omega
  unfold twF
  generalize saw a b = S at *
  generalize saw b a = T at *
  generalize (sawF a b).1 = x at *
  generalize (sawF a b).2 = y at *
  have dvd : ∀ {u v : Int}, Int.gcd u b = 1 → (b : Int) ∣ u * v → (b : Int) ∣ v := by
    intro u v hu hd
    have := Int.natAbs_dvd_natAbs.2 hd
    rw [Int.natAbs_mul] at this
    exact Int.natAbs_dvd_natAbs.1 (Nat.Coprime.dvd_of_dvd_mul_left (k := (b : Int).natAbs) (m := u.natAbs) (by rw [Nat.Coprime, Nat.gcd_comm]; exact hu) this)
  obtain ⟨u, hu⟩ : (b : Int) ∣ 3 * S := by
    have d : (b : Int) ∣ a * (a * (3 * S)) := ⟨a * (a * a + b * b + 1 - 3 * a * b) - 3 * b * T, by grind⟩
    exact dvd hg (dvd hg d)
  have w : 12 * (b : Int) * x = u * y := by
    refine Int.eq_of_mul_eq_mul_left hb0 ?_
    have : (b : Int) * (12 * b * x) = 3 * (x * (4 * b * b)) := by grind
    rw [this, c]
    grind
  rw [w, Int.mul_ediv_cancel _ (by omega)]
  refine ⟨by grind, ?_⟩
  have l2 : (a : Int) * a * u + 3 * b * T = a * (a * a + b * b + 1 - 3 * a * b) := by
    refine Int.eq_of_mul_eq_mul_left hb0 ?_
    grind
  have d1 : (b : Int) ∣ i * a - 1 := Int.dvd_of_emod_eq_zero (by
    rw [Int.sub_emod, e]; simp)
  obtain ⟨m, hm⟩ := d1
  have d2 : (b : Int) ∣ a * (a * (u - a - i)) := ⟨a * (b - 3 * a) - 3 * T - a * m, by
    have : (a : Int) * (a * (u - a - i)) = (a * a * u) - a * a * a - a * (i * a - 1) - a := by grind
    rw [this, hm]
    have : (a : Int) * a * u = a * (a * a + b * b + 1 - 3 * a * b) - 3 * b * T := by grind
    rw [this]
    grind⟩
  exact Int.emod_eq_zero_of_dvd (dvd hg (dvd hg d2))
end Sh

set_option maxRecDepth 100000
set_option exponentiation.threshold 10000
namespace Sp
open PySem L2 Fx
open Sh hiding ir_law_take T_law_take C_law_take d_law_take body_law_take
local macro_rules | `(tactic| walk_at "fx") => `(tactic| simp only [
  wSsx, wSx, wEx, wBx, wLx, wOx, wGx, wGsx, wIx, startD, isiF, r_newL, mulL, mulR, noPyR, cp15, cp18, cp64, Int.reduceNeg, Int.reduceLT, Int.reduceEq, Int.reduceLE, Int.reduceSub, Int.reduceAdd, Int.reducePow, Int.reduceMul, Int.reduceToNat,  r_g0, r_gs, r_add, r_adds, r_addt, r_addo, r_sub, r_mul, r_mulo, r_div, r_mod, r_pow, r_shl, r_shr, 
  r_band, r_neg, r_eqi, r_eqs, r_cEq, r_cNe, r_cLt, r_cLe, r_cGt, r_cGe, r_cIs, r_cIsN, r_cIsB, r_cIsNB, r_ent, r_cIn, r_cNi, r_ins, r_tb, r_lt, r_lr, r_ls, r_lo, r_blen, r_babs, 
  r_bmax, r_bmin, r_btup, r_blst, r_bsum, r_ball, r_bany, r_bint, r_bintb, r_bgcd, r_bdm, r_brep, r_tt, r_tr, r_to, r_lot, r_lor, r_loo, r_opt, r_ixt, 
  r_ixo, r_ixr, r_ixs, r_slt, r_slo, r_slr, r_sls, r_set, r_app, r_lat, r_itt, r_itr, r_ito, r_its, r_rg, r_en, r_zp, r_stt, r_str, r_sto, at_0, at_1, 
  at_2, at_3, at_4, at_l1, at_ap, at_l2, at_l3, ix_0, ix_1, ix_2, ix30, ix31, ix32, ix20, ix21, List.map_cons, List.map_nil, List.length_cons, List.length_nil, 
  List.replicate_succ, List.replicate_zero, List.cons_append, List.nil_append, List.getElem?_cons_zero, List.getElem?_cons_succ, List.set_cons_zero, List.set_cons_succ, 
  List.set_nil, wipeD, Nat.reduceAdd, Nat.reduceSub, Nat.reduceLeDiff, true_and, and_true, decide_eq_true_eq, decide_eq_false_iff_not, Bool.not_eq_true', 
  Bool.not_eq_false', Bool.not_true, Bool.not_false, if_true, if_false, not_true_eq_false, not_false_eq_true, ite_self, Nat.reduceMul, List.flatten_cons, List.flatten_nil, List.append_nil, Bool.false_eq_true, Tgs.len, Option.some.injEq, Cell.lst.injEq, exists_eq_left', 
  exists_eq', put_at, List.filterMap_cons, List.filterMap_nil, sz0, sz1, sz2, sz3, sz4, sz5, sz6])
local macro_rules | `(tactic| walk_at "fy") => `(tactic| simp only [
  wSsx, wSx, wEx, wBx, wLx, wOx, wGx, wGsx, wIx, startD, isiF, r_newL, mulL, mulR, noPyR, cp15, cp18, cp64, Int.reduceNeg, Int.reduceLT, Int.reduceEq, Int.reduceLE, Int.reduceSub, Int.reduceAdd, Int.reducePow, Int.reduceMul, Int.reduceToNat,  r_g0, r_gs, r_add, r_adds, r_addt, r_addo, r_sub, r_mul, r_mulo, r_div, r_mod, r_pow, r_shl, r_shr, 
  r_band, r_neg, r_eqi, r_eqs, r_cEq, r_cNe, r_cLt, r_cLe, r_cGt, r_cGe, r_cIs, r_cIsN, r_cIsB, r_cIsNB, r_ent, r_cIn, r_cNi, r_ins, r_tb, r_lt, r_lr, r_ls, r_lo, r_blen, r_babs, 
  r_bmax, r_bmin, r_btup, r_blst, r_bsum, r_ball, r_bany, r_bint, r_bintb, r_bgcd, r_bdm, r_brep, r_tt, r_tr, r_to, r_lot, r_lor, r_loo, r_opt, r_ixt, 
  r_ixo, r_ixr, r_ixs, r_slt, r_slo, r_slr, r_sls, r_set, r_app, r_lat, r_itt, r_itr, r_ito, r_its, r_rg, r_en, r_zp, r_stt, r_str, r_sto, at_0, at_1, 
  at_2, at_3, at_4, at_l1, at_ap, at_l2, at_l3, ix_0, ix_1, ix_2, ix30, ix31, ix32, ix20, ix21, List.map_cons, List.map_nil, List.length_cons, List.length_nil, 
  List.replicate_succ, List.replicate_zero, List.cons_append, List.nil_append, List.getElem?_cons_zero, List.getElem?_cons_succ, List.set_cons_zero, List.set_cons_succ, 
  List.set_nil, wipeD, Nat.reduceAdd, Nat.reduceSub, Nat.reduceLeDiff, true_and, and_true, decide_eq_true_eq, decide_eq_false_iff_not, Bool.not_eq_true', 
  Bool.not_eq_false', Bool.not_true, Bool.not_false, if_true, if_false, not_true_eq_false, not_false_eq_true, ite_self, Nat.reduceMul, List.flatten_cons, List.flatten_nil, List.append_nil, Bool.false_eq_true, Tgs.len, Option.some.injEq, Cell.lst.injEq, exists_eq_left', 
  exists_eq', put_at, List.filterMap_cons, List.filterMap_nil, sz0, sz1, sz2, sz3, sz4, sz5, sz6, put_ne, ne_eq, *])
/-! ## shared: the first family's pool, fractions that are given -/
def k_MOST_NUMBER : D := .int 999
@[reducible] def d_law_pool : DSp := fun ds M e q => match ds with
  | [.scr ns, .int k] => ns.length ≤ 63 ∧ 0 ≤ k ∧ k < 64 ∧ ∀ a M', M a = none → Ext M M' → Pool M' a → q (.ob a) M'
  | _ => False
@[reducible] def d_law_take : DSp := fun ds M e q => match ds with
  | [.ob a, .int top] => Pool M a ∧ 0 < top ∧ top < 1073741824 ∧ ∀ r M', 0 ≤ r → r < top → ExtP a M M' → q (.int r) M'
  | _ => False
@[reducible] def d_law_of : DSp := fun ds M e q => match ds with
  | [.ob a, .ob b] => Pool M a ∧ a ≠ b ∧ ∃ xs, M b = some (.lst xs) ∧ 0 < xs.length ∧ xs.length < 1073741824 ∧ ∀ x M', x ∈ xs → ExtP a M M' → q x M'
  | [.ob a, .tup xs] => Pool M a ∧ 0 < xs.length ∧ xs.length < 1073741824 ∧ ∀ x M', x ∈ xs → ExtP a M M' → q x M'
  | _ => False
@[reducible] def d_law_frac : DSp := fun ds M e q => match ds with
  | [.int a, .int b] => 0 < b ∧ (a.natAbs < 2 ^ 9000 ∨ b.natAbs < 2 ^ 9000) ∧ q (fr (low a b)) M
  | _ => False
@[reducible] def d_law_small : DSp := fun ds M e q => match ds with
  | [.ob p, .int most] => Pool M p ∧ 1 ≤ most ∧ most ≤ 1000 ∧ ∀ (a b : Int) M', 1 ≤ a → a ≤ b → b ≤ most → Int.gcd a b = 1 → ExtP p M M' → q (fr (a, b)) M'
  | _ => False
/-- the lists in it stand -/
def okD (d : D) (M : Mem) : Prop := match d with
  | .tup ds => ∀ x, x ∈ ds → lstOk x M
  | d => lstOk d M
def pairB (d : D) (n : Nat) : Bool := match d with
  | .tup ds => decide (ds.length = n)
  | _ => false
def givenB (d : D) : Bool := match d with
  | .tup [.int a, .int b] => decide (0 ≤ a ∧ a ≤ 999 ∧ 1 ≤ b ∧ b ≤ 999 ∧ Int.gcd a b = 1)
  | _ => false
def aboveB (d : D) : Bool := match d with
  | .tup [.int a, .int b] => givenB (.tup [.int a, .int b]) && decide (0 < a)
  | _ => false
def partB (d : D) : Bool := match d with
  | .tup [.int a, .int b] => aboveB (.tup [.int a, .int b]) && decide (a ≤ b)
  | _ => false
@[reducible] def d_is_tuple_of : DSp := fun ds M e q => match ds with
  | [d, .int n] => okD d M ∧ 0 ≤ n ∧ q (.bl (pairB d n.toNat)) M
  | _ => False
@[reducible] def d_is_given : DSp := fun ds M e q => match ds with
  | [d] => okD d M ∧ q (.bl (givenB d)) M
  | _ => False
@[reducible] def d_is_above : DSp := fun ds M e q => match ds with
  | [d] => okD d M ∧ q (.bl (aboveB d)) M
  | _ => False
@[reducible] def d_is_part : DSp := fun ds M e q => match ds with
  | [d] => okD d M ∧ q (.bl (partB d)) M
  | _ => False
@[reducible] def d_check_part : DSp := fun ds M e q => match ds with
  | [d] => okD d M ∧ partB d = true ∧ q .non M
  | _ => False
@[reducible] def d_ceiling_of : DSp := fun ds M e q => match ds with
  | [.tup [.int a, .int b]] => 0 < a ∧ a.natAbs < 2 ^ 9000 ∧ q (.int (-(-b / a))) M
  | _ => False
theorem big {a b : Int} (h : (decide (Builtin.Int.intBits a > shortFactorBits) && decide (Builtin.Int.intBits b > shortFactorBits) && Builtin.Int.intTooBig (Builtin.Int.intBits a + Builtin.Int.intBits b)) = false) : IntMulOk a b := by
  unfold IntMulOk
  rw [h]; decide
theorem okD_lst {d : D} {M : Mem} (h : okD d M) : lstOk d M := by
  cases d <;> first | trivial | exact h
def ir_law_pool : Iss := (.cons (.par 4 5 (.blt .sum (.cons (.sl (.v 0) (.some (.v 1)) (.some (.bin .Add (.v 1) (.ci 1)))) .nil)) (.bin .Add (.ci 50021) (.bin .Mult (.ci 977) (.v 1))))
  (.cons (.asg 2 (.bin .Mult (.bin .Mult (.bin .Mult (.bin .Mult (.bin .Mult (.bin .Pow (.ci 10) (.ci 64)) (.bin .Pow (.ci 10) (.ci 64))) (.bin .Pow (.ci 10) (.ci 64))) (.bin .Pow (.ci 10) (.ci 64))) (.bin .Pow (.ci 10) (.ci 64))) (.bin .Pow (.ci 10) (.ci 64))))
  (.cons (.for (.nm 3) (.ex (.sl (.v 0) .none (.some (.ci 12)))) (.cons (.asg 5 (.bin .Mod (.bin .Add (.bin .Add (.bin .Mult (.v 5) (.ci 48271)) (.bin .Mult (.bin .Mod (.v 3) (.ci 2147483399)) (.ci 19))) (.ci 7)) (.ci 2147483399)))
  .nil))
  (.cons (.ret (.lst (.cons (.ite (.tor (.tcmp .Lt (.v 4) (.ci 0)) (.tone (.tcmp .GtE (.v 4) (.bin .Pow (.ci 10) (.ci 18))))) (.bin .Mod (.blt .abs (.cons (.v 4) .nil)) (.v 2)) (.ci 0)) (.cons (.v 5) (.cons (.ci 0) .nil)))))
  .nil))))
@[reducible] def T_law_pool : Nat → DSp
  | _ => noD
@[reducible] def C_law_pool : Nat → D
  | _ => .non
-- slots of law_pool: 0 script 1 k 2 wide 3 each 4 cell 5 mixed
def ir_law_take : Iss := (.cons (.ifs (.tcmp .Gt (.ix (.v 0) (.ci 0)) (.ci 0)) (.cons (.asgT (.tp (.cons (.sub (.v 0) (.ci 0)) (.cons (.nm 3) .nil))) (.blt .divmod (.cons (.ix (.v 0) (.ci 0)) (.cons (.v 1) .nil))))
  (.cons (.ret (.v 3))
  .nil)) .nil)
  (.cons (.asgT (.sub (.v 0) (.ci 2)) (.bin .Add (.ix (.v 0) (.ci 2)) (.ci 1)))
  (.cons (.asg 2 (.bin .Mod (.bin .Add (.ix (.v 0) (.ci 1)) (.bin .Mult (.ci 28657) (.ix (.v 0) (.ci 2)))) (.ci 2147483399)))
  (.cons (.asgT (.sub (.v 0) (.ci 1)) (.bin .Mod (.bin .Add (.bin .Mult (.v 2) (.bin .Add (.bin .Mod (.v 2) (.ci 5003)) (.ci 48271))) (.bin .Mult (.ci 17) (.ix (.v 0) (.ci 2)))) (.ci 2147483399)))
  (.cons (.ret (.bin .Mod (.bin .FloorDiv (.ix (.v 0) (.ci 1)) (.ci 613)) (.v 1)))
  .nil)))))
@[reducible] def T_law_take : Nat → DSp
  | _ => noD
@[reducible] def C_law_take : Nat → D
  | _ => .non
-- slots of law_take: 0 pool 1 many 2 stirred 3 digit
def ir_law_of : Iss := (.cons (.ret (.ix (.v 1) (.call 0 2 0 (.cons (.v 0) (.cons (.blt .len (.cons (.v 1) .nil)) .nil)) .nil)))
  .nil)
@[reducible] def T_law_of : Nat → DSp
  | 0 => d_law_take
  | _ => noD
@[reducible] def C_law_of : Nat → D
  | _ => .non
-- slots of law_of: 0 pool 1 some
def ir_law_frac : Iss := (.cons (.par 2 3 (.blt .abs (.cons (.v 0) .nil)) (.v 1))
  (.cons (.whl (.tcmp .Gt (.v 3) (.ci 0)) (.cons (.par 2 3 (.v 3) (.bin .Mod (.v 2) (.v 3)))
  .nil))
  (.cons (.ret (.tup (.cons (.bin .FloorDiv (.v 0) (.v 2)) (.cons (.bin .FloorDiv (.v 1) (.v 2)) .nil))))
  .nil)))
@[reducible] def T_law_frac : Nat → DSp
  | _ => noD
@[reducible] def C_law_frac : Nat → D
  | _ => .non
-- slots of law_frac: 0 top 1 low 2 one 3 two
def ir_law_small : Iss := (.cons (.asg 2 (.bin .Add (.ci 1) (.call 0 2 0 (.cons (.v 0) (.cons (.v 1) .nil)) .nil)))
  (.cons (.ret (.call 1 2 0 (.cons (.bin .Add (.ci 1) (.call 0 2 0 (.cons (.v 0) (.cons (.v 2) .nil)) .nil)) (.cons (.v 2) .nil)) .nil))
  .nil))
@[reducible] def T_law_small : Nat → DSp
  | 0 => d_law_take
  | 1 => d_law_frac
  | _ => noD
@[reducible] def C_law_small : Nat → D
  | _ => .non
-- slots of law_small: 0 pool 1 most 2 low
def ir_is_tuple_of : Iss := (.cons (.ret (.and (.isi (.v 0) "tuple") (.one (.cmp .Eq (.blt .len (.cons (.v 0) .nil)) (.v 1)))))
  .nil)
@[reducible] def T_is_tuple_of : Nat → DSp
  | _ => noD
@[reducible] def C_is_tuple_of : Nat → D
  | _ => .non
-- slots of is_tuple_of: 0 value 1 many
def ir_is_given : Iss := (.cons (.ifs (.tor (.tnot (.tv (.call 1 2 0 (.cons (.v 0) (.cons (.ci 2) .nil)) .nil))) (.tone (.tnot (.tv (.call 0 3 0 (.cons (.ix (.v 0) (.ci 0)) (.cons (.ci 0) (.cons (.gc 0) .nil))) .nil))))) (.cons (.ret (.cb false))
  .nil) .nil)
  (.cons (.ret (.and (.call 0 3 0 (.cons (.ix (.v 0) (.ci 1)) (.cons (.ci 1) (.cons (.gc 0) .nil))) .nil) (.one (.cmp .Eq (.blt .gcd (.cons (.ix (.v 0) (.ci 0)) (.cons (.ix (.v 0) (.ci 1)) .nil))) (.ci 1)))))
  .nil))
@[reducible] def T_is_given : Nat → DSp
  | 0 => d_is_between
  | 1 => d_is_tuple_of
  | _ => noD
@[reducible] def C_is_given : Nat → D
  | 0 => k_MOST_NUMBER
  | _ => .non
-- slots of is_given: 0 value
def ir_is_above : Iss := (.cons (.ret (.and (.call 0 1 0 (.cons (.v 0) .nil) .nil) (.one (.cmp .Gt (.ix (.v 0) (.ci 0)) (.ci 0)))))
  .nil)
@[reducible] def T_is_above : Nat → DSp
  | 0 => d_is_given
  | _ => noD
@[reducible] def C_is_above : Nat → D
  | _ => .non
-- slots of is_above: 0 value
def ir_is_part : Iss := (.cons (.ret (.and (.call 0 1 0 (.cons (.v 0) .nil) .nil) (.one (.cmp .LtE (.ix (.v 0) (.ci 0)) (.ix (.v 0) (.ci 1))))))
  .nil)
@[reducible] def T_is_part : Nat → DSp
  | 0 => d_is_above
  | _ => noD
@[reducible] def C_is_part : Nat → D
  | _ => .non
-- slots of is_part: 0 value
def ir_check_part : Iss := (.cons (.ifs (.tnot (.tv (.call 0 1 0 (.cons (.v 0) .nil) .nil))) (.cons .never
  .nil) .nil)
  .nil)
@[reducible] def T_check_part : Nat → DSp
  | 0 => d_is_part
  | _ => noD
@[reducible] def C_check_part : Nat → D
  | _ => .non
-- slots of check_part: 0 fraction
def ir_ceiling_of : Iss := (.cons (.ret (.neg (.bin .FloorDiv (.neg (.ix (.v 0) (.ci 1))) (.ix (.v 0) (.ci 0)))))
  .nil)
@[reducible] def T_ceiling_of : Nat → DSp
  | _ => noD
@[reducible] def C_ceiling_of : Nat → D
  | _ => .non
-- slots of ceiling_of: 0 fraction
theorem body_law_pool (ds : List D) (M : Mem) (e : Exn → Mem → Prop) (q : D → Mem → Prop) (hl : ds.length = 2) (h : d_law_pool ds M e q) :
    wSsx T_law_pool C_law_pool ir_law_pool (fun x _ M' => e x M') { nx := fun _ M' => q .non M', rt := q } (startD 6 ds) M := by
  unfold d_law_pool at h
  split at h
  · rename_i ns k
    obtain ⟨hl, h0, h1, h⟩ := h
    unfold ir_law_pool
    walk_at "fx"
    intro p hp
    refine ⟨cutD ns (some k) (some (k + 1)), put_at, big (by decide +kernel), big (by decide +kernel), big (by decide +kernel), big (by decide +kernel), big (by decide +kernel), fun p2 hp2 => ?_⟩
    generalize (cutD ns (some k) (some (k + 1))).sum = cell
    have x0 : Ext M (M.put p (.lst ((cutD ns (some k) (some (k + 1))).map .int))) := Ext.new hp
    generalize M.put p (.lst ((cutD ns (some k) (some (k + 1))).map .int)) = M0 at *
    refine forF_inv (J := fun ds τ M' => (∀ d, d ∈ ds → ∃ i : Int, d = .int i) ∧ Ext M M' ∧ M' p2 = some (.lst ((cutD ns none (some 12)).map .int)) ∧ ∃ s u w, 0 < w ∧ τ = [some (.scr ns), some (.int k), some (.int w), u, some (.int cell), some (.int s)]) ?_ ?_ _ _ _ ⟨?_, x0.trans (Ext.new hp2), put_at, _, _, _, ?_, rfl⟩
    · rintro τ M' ⟨_, hx, hc, s, u, w, hw, rfl⟩
      refine ⟨hc, ?_⟩
      have fin : ∀ u v : Int, ∀ p, M' p = none → q (.ob p) (M'.put p (.lst [.int u, .int v, .int 0])) := fun u v p hp => h p _ (by
        cases e : M p with
        | none => rfl
        | some c => rw [hx p c e] at hp; cases hp) (hx.put (by
        cases e : M p with
        | none => rfl
        | some c => rw [hx p c e] at hp; cases hp)) ⟨_, _, _, put_at⟩
      walk_at "fx"
      split
      · exact ⟨hw, fin _ _⟩
      · split
        · exact ⟨hw, fin _ _⟩
        · exact fin _ _
    · rintro d ds τ M' ⟨hi, hx, hc, s, u, w, hw, rfl⟩ nx hn
      obtain ⟨i, rfl⟩ := hi d (List.mem_cons_self ..)
      refine ⟨hc, ?_⟩
      walk_at "fx"
      exact hn _ _ ⟨fun d h => hi d (List.mem_cons_of_mem _ h), hx, hc, _, _, _, hw, rfl⟩
    · intro d hd
      obtain ⟨i, _, rfl⟩ := List.mem_map.1 hd
      exact ⟨i, rfl⟩
    · decide
  · exact h.elim
theorem body_law_take (ds : List D) (M : Mem) (e : Exn → Mem → Prop) (q : D → Mem → Prop) (hl : ds.length = 2) (h : d_law_take ds M e q) :
    wSsx T_law_take C_law_take ir_law_take (fun x _ M' => e x M') { nx := fun _ M' => q .non M', rt := q } (startD 4 ds) M := by
  unfold d_law_take at h
  split at h
  · rename_i a top
    obtain ⟨⟨x, y, z, hp⟩, h0, h1, h⟩ := h
    have np : noPy x top := PyProof.noPylong_small (by omega)
    unfold ir_law_take
    walk_at "fy"
    split
    · exact h _ _ (Int.emod_nonneg _ (by omega)) (Int.emod_lt_of_pos _ h0) ⟨fun b c n e => by rw [put_ne n]; exact e, _, _, _, put_at⟩
    · refine ⟨.of_right (z64 (by omega) (by omega)), ?_⟩
      exact h _ _ (Int.emod_nonneg _ (by omega)) (Int.emod_lt_of_pos _ h0) ⟨fun b c n e => by rw [put_ne n, put_ne n]; exact e, _, _, _, put_at⟩
  · exact h.elim
theorem body_law_of (ds : List D) (M : Mem) (e : Exn → Mem → Prop) (q : D → Mem → Prop) (hl : ds.length = 2) (h : d_law_of ds M e q) :
    wSsx T_law_of C_law_of ir_law_of (fun x _ M' => e x M') { nx := fun _ M' => q .non M', rt := q } (startD 2 ds) M := by
  unfold d_law_of at h
  have go : ∀ (xs : List D) (r : Int) (P : D → Prop), 0 ≤ r → r < xs.length → (∀ x, x ∈ xs → P x) → optF (atI xs r) P := by
    intro xs r P h0 h1 h
    obtain ⟨k, rfl⟩ : ∃ k : Nat, r = k := ⟨r.toNat, by omega⟩
    rw [atK (by omega)]
    exact h _ (List.getElem_mem _)
  split at h
  · rename_i a b
    obtain ⟨hp, hn, xs, hb, hl, hu, h⟩ := h
    unfold ir_law_of
    walk_at "fy"
    refine ⟨hp, by omega, by omega, fun r M' h0 h1 hx => ?_⟩
    refine ⟨xs, hx.1 b _ (Ne.symm hn) hb, go xs r _ h0 h1 fun x hm => h x M' hm hx⟩
  · rename_i a xs
    obtain ⟨hp, hl, hu, h⟩ := h
    unfold ir_law_of
    walk_at "fx"
    refine ⟨hp, by omega, by omega, fun r M' h0 h1 hx => ?_⟩
    exact go xs r _ h0 h1 fun x hm => h x M' hm hx
  · exact h.elim
theorem body_law_frac (ds : List D) (M : Mem) (e : Exn → Mem → Prop) (q : D → Mem → Prop) (hl : ds.length = 2) (h : d_law_frac ds M e q) :
    wSsx T_law_frac C_law_frac ir_law_frac (fun x _ M' => e x M') { nx := fun _ M' => q .non M', rt := q } (startD 4 ds) M := by
  unfold d_law_frac at h
  split at h
  · rename_i a b
    obtain ⟨hb, hs, h⟩ := h
    obtain ⟨g0, n1, n2⟩ := low_no hb hs
    unfold ir_law_frac
    walk_at "fx"
    refine ⟨fun m τ M' => M' = M ∧ ∃ x y : Nat, τ = [some (.int a), some (.int b), some (.int x), some (.int y)] ∧ m = y ∧ Nat.gcd x y = Int.gcd a b, ⟨_, rfl, a.natAbs, b.natAbs, ?_, rfl, rfl⟩, ?_⟩
    · congr 5
      · split <;> omega
      · congr 2
        omega
    · rintro m τ M' ⟨rfl, x, y, rfl, hm, g⟩
      subst hm
      walk_at "fx"
      split
      · rename_i hy
        refine ⟨hy, _, ?_, m, x % m, by simp, rfl, ?_⟩
        · exact Nat.mod_lt _ (by omega)
        · rw [← g, Nat.gcd_comm m, ← Nat.gcd_rec, Nat.gcd_comm]
      · have : m = 0 := by omega
        subst this
        simp only [Nat.gcd_zero_right] at g
        rw [g]
        exact ⟨by exact_mod_cast g0, n1, by exact_mod_cast g0, n2, h⟩
  · exact h.elim
theorem body_law_small (ds : List D) (M : Mem) (e : Exn → Mem → Prop) (q : D → Mem → Prop) (hl : ds.length = 2) (h : d_law_small ds M e q) :
    wSsx T_law_small C_law_small ir_law_small (fun x _ M' => e x M') { nx := fun _ M' => q .non M', rt := q } (startD 3 ds) M := by
  unfold d_law_small at h
  split at h
  · rename_i p most
    obtain ⟨hp, h0, h1, h⟩ := h
    unfold ir_law_small
    walk_at "fx"
    refine ⟨hp, by omega, by omega, fun b M1 b0 b1 x1 => ?_⟩
    walk_at "fx"
    refine ⟨x1.2, by omega, by omega, fun a M2 a0 a1 x2 => ?_⟩
    walk_at "fx"
    refine ⟨by omega, .inr (lt_9000 (by omega)), ?_⟩
    have l := low_le (a := 1 + a) (b := 1 + b)
    have p := low_pos (a := 1 + a) (b := 1 + b) (by omega)
    have p1 : 0 < (low (1 + a) (1 + b)).1 := Int.ediv_pos_of_pos_of_dvd (by omega) (by omega) (Int.gcd_dvd_left ..)
    have g0 : 0 < Int.gcd (1 + a) (1 + b) := Int.gcd_pos_of_ne_zero_right _ (by omega)
    have le : (low (1 + a) (1 + b)).1 ≤ (low (1 + a) (1 + b)).2 := Int.ediv_le_ediv (by omega) (by omega)
    exact h (low (1 + a) (1 + b)).1 (low (1 + a) (1 + b)).2 M2 p1 le (by omega) (low_co (by omega)) (x1.trans x2)
  · exact h.elim
theorem body_is_tuple_of (ds : List D) (M : Mem) (e : Exn → Mem → Prop) (q : D → Mem → Prop) (hl : ds.length = 2) (h : d_is_tuple_of ds M e q) :
    wSsx T_is_tuple_of C_is_tuple_of ir_is_tuple_of (fun x _ M' => e x M') { nx := fun _ M' => q .non M', rt := q } (startD 2 ds) M := by
  unfold d_is_tuple_of at h
  split at h
  · rename_i d n
    obtain ⟨ho, hn, h⟩ := h
    unfold ir_is_tuple_of
    walk_at "fx"
    cases d
    case ob a =>
      obtain ⟨ds, e⟩ : ∃ ds, M a = some (.lst ds) := ho
      refine ⟨ds, e, ?_⟩
      rw [if_neg (by decide), decide_eq_false (by decide)]
      exact h
    case tup ds =>
      simp only [tyN, decide_true, Bool.true_or, if_true]
      walk_at "fx"
      have e : decide ((ds.length : Int) = n) = pairB (.tup ds) n.toNat := by
        unfold pairB
        rw [decide_eq_decide]; omega
      rw [e]; exact h
    all_goals (simp [tyN, pairB] at h ⊢; exact h)
  · exact h.elim
theorem body_is_given (ds : List D) (M : Mem) (e : Exn → Mem → Prop) (q : D → Mem → Prop) (hl : ds.length = 1) (h : d_is_given ds M e q) :
    wSsx T_is_given C_is_given ir_is_given (fun x _ M' => e x M') { nx := fun _ M' => q .non M', rt := q } (startD 1 ds) M := by
  unfold d_is_given at h
  split at h
  · rename_i d
    obtain ⟨ho, h⟩ := h
    unfold ir_is_given
    walk_at "fx"
    refine ⟨ho, by decide, ?_⟩
    walk_at "fx"
    by_cases hb : pairB d 2 = true
    · obtain ⟨x, y, rfl⟩ : ∃ x y, d = .tup [x, y] := by
        cases d <;> first | cases hb; done | skip
        rename_i ds
        have hl : ds.length = 2 := by simpa [pairB] using hb
        match ds, hl with
        | [x, y], _ => exact ⟨x, y, rfl⟩
      simp only [show (2 : Int).toNat = 2 from rfl, hb]
      walk_at "fx"
      have hx : lstOk x M := ho x (by simp)
      have hy : lstOk y M := ho y (by simp)
      have no : ∀ z, isInt z = false → btwI z 0 999 = false ∧ btwI z 1 999 = false := fun z hz => by cases z <;> first | (cases hz; done) | exact ⟨rfl, rfl⟩
      refine ⟨hx, ?_⟩
      cases hxi : btwI x 0 999
      · walk_at "fx"
        have : givenB (.tup [x, y]) = false := by
          cases x <;> cases y <;> simp only [givenB] <;> first | rfl | skip
          simp only [btwI, decide_eq_false_iff_not] at hxi ⊢
          omega
        rw [this] at h; exact h
      · walk_at "fx"
        refine ⟨hy, ?_⟩
        cases hyi : btwI y 1 999
        · walk_at "fx"
          have : givenB (.tup [x, y]) = false := by
            cases x <;> cases y <;> simp only [givenB] <;> first | rfl | skip
            simp only [btwI, decide_eq_false_iff_not] at hyi ⊢
            omega
          rw [this] at h; exact h
        · walk_at "fx"
          cases x <;> first | (cases hxi; done) | skip
          cases y <;> first | (cases hyi; done) | skip
          rename_i a b
          walk_at "fx"
          have : givenB (.tup [.int a, .int b]) = decide ((Int.gcd a b : Int) = 1) := by
            simp only [btwI, decide_eq_true_eq] at hxi hyi
            simp only [givenB, decide_eq_decide]
            omega
          rw [← this]; exact h
    · have hb' : pairB d 2 = false := by simpa using hb
      simp only [show (2 : Int).toNat = 2 from rfl, hb']
      walk_at "fx"
      have : givenB d = false := by
        unfold givenB
        split
        · simp [pairB] at hb
        · rfl
      rw [this] at h; exact h
  · exact h.elim
theorem body_is_above (ds : List D) (M : Mem) (e : Exn → Mem → Prop) (q : D → Mem → Prop) (hl : ds.length = 1) (h : d_is_above ds M e q) :
    wSsx T_is_above C_is_above ir_is_above (fun x _ M' => e x M') { nx := fun _ M' => q .non M', rt := q } (startD 1 ds) M := by
  unfold d_is_above at h
  split at h
  · rename_i d
    obtain ⟨ho, h⟩ := h
    unfold ir_is_above
    walk_at "fx"
    refine ⟨ho, ?_⟩
    unfold aboveB at h
    split at h
    · rename_i a b
      walk_at "fx"
      cases hg : givenB (.tup [.int a, .int b])
      · rw [hg] at h
        simpa using h
      · rw [hg] at h
        simpa using h
    · rename_i hn
      have : givenB d = false := by
        unfold givenB
        split
        · exact absurd rfl (hn _ _)
        · rfl
      rw [this]
      walk_at "fx"
      exact h
  · exact h.elim
theorem body_is_part (ds : List D) (M : Mem) (e : Exn → Mem → Prop) (q : D → Mem → Prop) (hl : ds.length = 1) (h : d_is_part ds M e q) :
    wSsx T_is_part C_is_part ir_is_part (fun x _ M' => e x M') { nx := fun _ M' => q .non M', rt := q } (startD 1 ds) M := by
  unfold d_is_part at h
  split at h
  · rename_i d
    obtain ⟨ho, h⟩ := h
    unfold ir_is_part
    walk_at "fx"
    refine ⟨ho, ?_⟩
    unfold partB at h
    split at h
    · rename_i a b
      walk_at "fx"
      cases hg : aboveB (.tup [.int a, .int b])
      · rw [hg] at h
        simpa using h
      · rw [hg] at h
        simpa using h
    · rename_i hn
      have : aboveB d = false := by
        unfold aboveB
        split
        · exact absurd rfl (hn _ _)
        · rfl
      rw [this]
      walk_at "fx"
      exact h
  · exact h.elim
theorem body_check_part (ds : List D) (M : Mem) (e : Exn → Mem → Prop) (q : D → Mem → Prop) (hl : ds.length = 1) (h : d_check_part ds M e q) :
    wSsx T_check_part C_check_part ir_check_part (fun x _ M' => e x M') { nx := fun _ M' => q .non M', rt := q } (startD 1 ds) M := by
  unfold d_check_part at h
  split at h
  · rename_i d
    obtain ⟨ho, hb, h⟩ := h
    unfold ir_check_part
    walk_at "fx"
    refine ⟨ho, ?_⟩
    rw [hb]
    walk_at "fx"
    exact h
  · exact h.elim
theorem body_ceiling_of (ds : List D) (M : Mem) (e : Exn → Mem → Prop) (q : D → Mem → Prop) (hl : ds.length = 1) (h : d_ceiling_of ds M e q) :
    wSsx T_ceiling_of C_ceiling_of ir_ceiling_of (fun x _ M' => e x M') { nx := fun _ M' => q .non M', rt := q } (startD 1 ds) M := by
  unfold d_ceiling_of at h
  split at h
  · rename_i a b
    obtain ⟨h0, hs, h⟩ := h
    unfold ir_ceiling_of
    walk_at "fx"
    exact ⟨h0, noPy_lt hs, h⟩
  · exact h.elim
end Sp

set_option maxRecDepth 100000
set_option exponentiation.threshold 10000
namespace K46
open PySem L2 Fx Sp
open Sh hiding ir_law_take T_law_take C_law_take d_law_take body_law_take
local macro_rules | `(tactic| walk_at "fx") => `(tactic| simp only [
  wSsx, wSx, wEx, wBx, wLx, wOx, wGx, wGsx, wIx, startD, isiF, r_newL, mulL, mulR, noPyR, cp15, cp18, cp64, Int.reduceNeg, Int.reduceLT, Int.reduceEq, Int.reduceLE, Int.reduceSub, Int.reduceAdd, Int.reducePow, Int.reduceMul, Int.reduceToNat,  r_g0, r_gs, r_add, r_adds, r_addt, r_addo, r_sub, r_mul, r_mulo, r_div, r_mod, r_pow, r_shl, r_shr, 
  r_band, r_neg, r_eqi, r_eqs, r_cEq, r_cNe, r_cLt, r_cLe, r_cGt, r_cGe, r_cIs, r_cIsN, r_cIsB, r_cIsNB, r_ent, r_cIn, r_cNi, r_ins, r_tb, r_lt, r_lr, r_ls, r_lo, r_blen, r_babs, 
  r_bmax, r_bmin, r_btup, r_blst, r_bsum, r_ball, r_bany, r_bint, r_bintb, r_bgcd, r_bdm, r_brep, r_tt, r_tr, r_to, r_lot, r_lor, r_loo, r_opt, r_ixt, 
  r_ixo, r_ixr, r_ixs, r_slt, r_slo, r_slr, r_sls, r_set, r_app, r_lat, r_itt, r_itr, r_ito, r_its, r_rg, r_en, r_zp, r_stt, r_str, r_sto, at_0, at_1, 
  at_2, at_3, at_4, at_l1, at_ap, at_l2, at_l3, ix_0, ix_1, ix_2, ix30, ix31, ix32, ix20, ix21, List.map_cons, List.map_nil, List.length_cons, List.length_nil, 
  List.replicate_succ, List.replicate_zero, List.cons_append, List.nil_append, List.getElem?_cons_zero, List.getElem?_cons_succ, List.set_cons_zero, List.set_cons_succ, 
  List.set_nil, wipeD, Nat.reduceAdd, Nat.reduceSub, Nat.reduceLeDiff, true_and, and_true, decide_eq_true_eq, decide_eq_false_iff_not, Bool.not_eq_true', 
  Bool.not_eq_false', Bool.not_true, Bool.not_false, if_true, if_false, not_true_eq_false, not_false_eq_true, ite_self, Nat.reduceMul, List.flatten_cons, List.flatten_nil, List.append_nil, Bool.false_eq_true, Tgs.len, Option.some.injEq, Cell.lst.injEq, exists_eq_left', 
  exists_eq', put_at, List.filterMap_cons, List.filterMap_nil, sz0, sz1, sz2, sz3, sz4, sz5, sz6])
local macro_rules | `(tactic| walk_at "fy") => `(tactic| simp only [
  wSsx, wSx, wEx, wBx, wLx, wOx, wGx, wGsx, wIx, startD, isiF, r_newL, mulL, mulR, noPyR, cp15, cp18, cp64, Int.reduceNeg, Int.reduceLT, Int.reduceEq, Int.reduceLE, Int.reduceSub, Int.reduceAdd, Int.reducePow, Int.reduceMul, Int.reduceToNat,  r_g0, r_gs, r_add, r_adds, r_addt, r_addo, r_sub, r_mul, r_mulo, r_div, r_mod, r_pow, r_shl, r_shr, 
  r_band, r_neg, r_eqi, r_eqs, r_cEq, r_cNe, r_cLt, r_cLe, r_cGt, r_cGe, r_cIs, r_cIsN, r_cIsB, r_cIsNB, r_ent, r_cIn, r_cNi, r_ins, r_tb, r_lt, r_lr, r_ls, r_lo, r_blen, r_babs, 
  r_bmax, r_bmin, r_btup, r_blst, r_bsum, r_ball, r_bany, r_bint, r_bintb, r_bgcd, r_bdm, r_brep, r_tt, r_tr, r_to, r_lot, r_lor, r_loo, r_opt, r_ixt, 
  r_ixo, r_ixr, r_ixs, r_slt, r_slo, r_slr, r_sls, r_set, r_app, r_lat, r_itt, r_itr, r_ito, r_its, r_rg, r_en, r_zp, r_stt, r_str, r_sto, at_0, at_1, 
  at_2, at_3, at_4, at_l1, at_ap, at_l2, at_l3, ix_0, ix_1, ix_2, ix30, ix31, ix32, ix20, ix21, List.map_cons, List.map_nil, List.length_cons, List.length_nil, 
  List.replicate_succ, List.replicate_zero, List.cons_append, List.nil_append, List.getElem?_cons_zero, List.getElem?_cons_succ, List.set_cons_zero, List.set_cons_succ, 
  List.set_nil, wipeD, Nat.reduceAdd, Nat.reduceSub, Nat.reduceLeDiff, true_and, and_true, decide_eq_true_eq, decide_eq_false_iff_not, Bool.not_eq_true', 
  Bool.not_eq_false', Bool.not_true, Bool.not_false, if_true, if_false, not_true_eq_false, not_false_eq_true, ite_self, Nat.reduceMul, List.flatten_cons, List.flatten_nil, List.append_nil, Bool.false_eq_true, Tgs.len, Option.some.injEq, Cell.lst.injEq, exists_eq_left', 
  exists_eq', put_at, List.filterMap_cons, List.filterMap_nil, sz0, sz1, sz2, sz3, sz4, sz5, sz6, put_ne, ne_eq, *])
/-! ## law k46 -/
def k_ONE : D := .tup [.int 1, .int 1]
def timesF (p o : Int × Int) : Int × Int := low (p.1 * o.1) (p.2 * o.2)
@[reducible] def d_less_by : DSp := fun ds M e q => match ds with
  | [.tup [.int a, .int b], .tup [.int c, .int d]] => 0 < b ∧ 0 < d ∧ b < 2 ^ 60 ∧ d < 2 ^ 60 ∧ q (fr (minusF (a, b) (c, d))) M
  | _ => False
@[reducible] def d_times : DSp := fun ds M e q => match ds with
  | [.tup [.int a, .int b], .tup [.int c, .int d]] => 0 < b ∧ 0 < d ∧ b < 2 ^ 60 ∧ d < 2 ^ 60 ∧ a.natAbs < 2 ^ 60 ∧ q (fr (timesF (a, b) (c, d))) M
  | _ => False
/-- the steps of t / b -/
def eng (b : Int) : Nat → Int → List Int
  | 0, _ => []
  | m + 1, t => if 0 < t then (b + t - 1) / t :: eng b m (t * ((b + t - 1) / t) - b) else []
/-- the swings -/
def pie (b : Int) : Nat → Int → List Int
  | 0, _ => []
  | m + 1, t => if 0 < t then b / t :: pie b m (b % t) else []
def Ok1 (a b : Int) : Prop := 1 ≤ a ∧ a ≤ b ∧ b ≤ 999 ∧ Int.gcd a b = 1
@[reducible] def d_steps_by : DSp := fun ds M e q => match ds with
  | [.tup [.int a, .int b]] => Ok1 a b ∧ ∀ M', Ext M M' → q (.tup ((eng b 999 a).map .int)) M'
  | _ => False
@[reducible] def d_steps : DSp := d_steps_by
@[reducible] def d_swings_by : DSp := fun ds M e q => match ds with
  | [.tup [.int a, .int b]] => Ok1 a b ∧ ∀ M', Ext M M' → q (.tup ((pie b 999 a).map .int)) M'
  | _ => False
@[reducible] def d_swings : DSp := d_swings_by
@[reducible] def d_law_right : DSp := fun ds M e q => match ds with
  | [.ob p, .int most] => Pool M p ∧ 1 ≤ most ∧ most ≤ 999 ∧ ∀ M', ExtP p M M' → q (.bl true) M'
  | _ => False
@[reducible] def d_law : DSp := lawD
theorem eng_step {b t : Int} (ht : 0 < t) (hb : t ≤ b) : 0 ≤ t * ((b + t - 1) / t) - b ∧ t * ((b + t - 1) / t) - b < t ∧ 1 ≤ (b + t - 1) / t ∧ (b + t - 1) / t ≤ b := by
  have e := Int.mul_ediv_add_emod (b + t - 1) t
  have r0 := Int.emod_nonneg (b + t - 1) (b := t) (by omega)
  have r1 := Int.emod_lt_of_pos (b + t - 1) ht
  refine ⟨by omega, by omega, ?_, ?_⟩
  · refine (Int.le_ediv_iff_mul_le ht).2 (by omega)
  · refine Int.ediv_le_of_le_mul ht ?_
    have := Int.mul_nonneg (show 0 ≤ b - 1 by omega) (show 0 ≤ t - 1 by omega)
    grind
theorem pie_step {b t : Int} (ht : 0 < t) (hb : t ≤ b) : 0 ≤ b % t ∧ b % t < t ∧ 1 ≤ b / t ∧ b / t ≤ b ∧ b % t = b - t * (b / t) := by
  refine ⟨Int.emod_nonneg _ (by omega), Int.emod_lt_of_pos _ ht, (Int.le_ediv_iff_mul_le ht).2 (by omega), ?_, Int.emod_def ..⟩
  exact Int.ediv_le_self _ (by omega)
theorem low_self {a b : Int} (h : Int.gcd a b = 1) : low a b = (a, b) := by
  unfold low
  rw [h]; simp
theorem low_top {t b : Int} (hb : 0 < b) (ht : 0 ≤ t) : 0 < (low t b).1 ↔ 0 < t := by
  have g0 : 0 < Int.gcd t b := Int.gcd_pos_of_ne_zero_right _ (by omega)
  have c := low_cross (a := t) (b := b)
  have p := low_pos (a := t) hb
  constructor
  · intro h
    have := Int.mul_pos h hb
    rw [c] at this
    exact Int.pos_of_mul_pos_left this p
  · intro h
    exact Int.ediv_pos_of_pos_of_dvd h (by omega) (Int.gcd_dvd_left ..)
theorem low_parts {t b : Int} (hb : 0 < b) : ∃ g : Int, 0 < g ∧ t = g * (low t b).1 ∧ b = g * (low t b).2 := by
  have g0 : 0 < Int.gcd t b := Int.gcd_pos_of_ne_zero_right _ (by omega)
  refine ⟨Int.gcd t b, by omega, ?_, ?_⟩
  · exact (Int.mul_ediv_cancel' (Int.gcd_dvd_left ..)).symm
  · exact (Int.mul_ediv_cancel' (Int.gcd_dvd_right ..)).symm
theorem ceil_low {t b : Int} (hb : 0 < b) (ht : 0 < t) : -(-(low t b).2 / (low t b).1) = (b + t - 1) / t := by
  have x0 := (low_top hb (Int.le_of_lt ht)).2 ht
  obtain ⟨g, g0, e1, e2⟩ := low_parts (t := t) hb
  generalize (low t b).1 = x at *
  generalize (low t b).2 = y at *
  have e := Int.mul_ediv_add_emod (-y) x
  have r0 := Int.emod_nonneg (-y) (b := x) (by omega)
  have r1 := Int.emod_lt_of_pos (-y) x0
  generalize (-y) % x = r at *
  generalize -y / x = n at *
  subst e1 e2
  have w := Int.mul_pos g0 (show 0 < x - r by omega)
  have z : g * y + g * x - 1 = (g * x - g * r - 1 + 2 * (g * r)) - 0 + (g * x) * (-n) - 2 * (g * r) := by grind
  have z' : g * y + g * x - 1 = (g * (x - r) - 1) + (g * x) * (-n) := by grind
  have gr := Int.mul_nonneg (Int.le_of_lt g0) r0
  rw [z', Int.add_mul_ediv_left _ _ (by omega), Int.ediv_eq_zero_of_lt (by omega) (by grind)]
  omega
theorem floor_low {t b : Int} (hb : 0 < b) (ht : 0 < t) : (low t b).2 / (low t b).1 = b / t := by
  obtain ⟨g, g0, e1, e2⟩ := low_parts (t := t) hb
  generalize (low t b).1 = x at *
  generalize (low t b).2 = y at *
  subst e1 e2
  rw [Int.mul_ediv_mul_of_pos _ _ g0]
theorem eng_left {t b n : Int} (hb : 0 < b) : minusF (timesF (low t b) (n, 1)) (1, 1) = low (t * n - b) b := by
  have p := low_pos (a := t) hb
  have q : 0 < (timesF (low t b) (n, 1)).2 := low_pos (by simpa using p)
  refine (Red.minus q (by decide)).inj (.low hb) ?_
  rw [val_minus q (by decide), val_low hb]
  have v : val (timesF (low t b) (n, 1)) = _ := val_low (x := (low t b).1 * n) (y := (low t b).2 * 1) (by simpa using p)
  have v2 : val (low t b) = _ := val_low hb
  have b0 : (b : Rat) ≠ 0 := by exact_mod_cast (show b ≠ 0 by omega)
  have p0 : ((low t b).2 : Rat) ≠ 0 := by exact_mod_cast (show (low t b).2 ≠ 0 by omega)
  rw [v]
  unfold val at *
  push_cast at *
  grind
theorem pie_left {t b n : Int} (hb : 0 < b) : minusF (1, 1) (timesF (low t b) (n, 1)) = low (b - t * n) b := by
  have p := low_pos (a := t) hb
  have q : 0 < (timesF (low t b) (n, 1)).2 := low_pos (by simpa using p)
  refine (Red.minus (by decide) q).inj (.low hb) ?_
  rw [val_minus (by decide) q, val_low hb]
  have v : val (timesF (low t b) (n, 1)) = _ := val_low (x := (low t b).1 * n) (y := (low t b).2 * 1) (by simpa using p)
  have v2 : val (low t b) = _ := val_low hb
  have b0 : (b : Rat) ≠ 0 := by exact_mod_cast (show b ≠ 0 by omega)
  have p0 : ((low t b).2 : Rat) ≠ 0 := by exact_mod_cast (show (low t b).2 ≠ 0 by omega)
  rw [v]
  unfold val at *
  push_cast at *
  grind
def ir_less_by : Iss := (.cons (.ret (.call 0 2 0 (.cons (.bin .Sub (.bin .Mult (.ix (.v 0) (.ci 0)) (.ix (.v 1) (.ci 1))) (.bin .Mult (.ix (.v 1) (.ci 0)) (.ix (.v 0) (.ci 1)))) (.cons (.bin .Mult (.ix (.v 0) (.ci 1)) (.ix (.v 1) (.ci 1))) .nil)) .nil))
  .nil)
@[reducible] def T_less_by : Nat → DSp
  | 0 => d_lowest
  | _ => noD
@[reducible] def C_less_by : Nat → D
  | _ => .non
-- slots of less_by: 0 one 1 other
def ir_times : Iss := (.cons (.ret (.call 0 2 0 (.cons (.bin .Mult (.ix (.v 0) (.ci 0)) (.ix (.v 1) (.ci 0))) (.cons (.bin .Mult (.ix (.v 0) (.ci 1)) (.ix (.v 1) (.ci 1))) .nil)) .nil))
  .nil)
@[reducible] def T_times : Nat → DSp
  | 0 => d_lowest
  | _ => noD
@[reducible] def C_times : Nat → D
  | _ => .non
-- slots of times: 0 one 1 other
def ir_steps_by : Iss := (.cons (.par 1 2 (.lst .nil) (.v 0))
  (.cons (.whl (.tcmp .Gt (.ix (.v 2) (.ci 0)) (.ci 0)) (.cons (.ex (.app (.v 1) (.call 0 1 0 (.cons (.v 2) .nil) .nil)))
  (.cons (.asg 2 (.call 1 2 0 (.cons (.call 2 2 0 (.cons (.v 2) (.cons (.tup (.cons (.ix (.v 1) (.neg (.ci 1))) (.cons (.ci 1) .nil))) .nil)) .nil) (.cons (.gc 0) .nil)) .nil))
  .nil)))
  (.cons (.ret (.blt .tuple (.cons (.v 1) .nil)))
  .nil)))
@[reducible] def T_steps_by : Nat → DSp
  | 0 => d_ceiling_of
  | 1 => d_less_by
  | 2 => d_times
  | _ => noD
@[reducible] def C_steps_by : Nat → D
  | 0 => k_ONE
  | _ => .non
-- slots of steps_by: 0 fraction 1 found 2 left
def ir_swings_by : Iss := (.cons (.par 1 2 (.lst .nil) (.v 0))
  (.cons (.whl (.tcmp .Gt (.ix (.v 2) (.ci 0)) (.ci 0)) (.cons (.ex (.app (.v 1) (.bin .FloorDiv (.ix (.v 2) (.ci 1)) (.ix (.v 2) (.ci 0)))))
  (.cons (.asg 2 (.call 0 2 0 (.cons (.gc 0) (.cons (.call 1 2 0 (.cons (.v 2) (.cons (.tup (.cons (.ix (.v 1) (.neg (.ci 1))) (.cons (.ci 1) .nil))) .nil)) .nil) .nil)) .nil))
  .nil)))
  (.cons (.ret (.blt .tuple (.cons (.v 1) .nil)))
  .nil)))
@[reducible] def T_swings_by : Nat → DSp
  | 0 => d_less_by
  | 1 => d_times
  | _ => noD
@[reducible] def C_swings_by : Nat → D
  | 0 => k_ONE
  | _ => .non
-- slots of swings_by: 0 fraction 1 found 2 left
def ir_steps : Iss := (.cons (.ex (.call 0 1 0 (.cons (.v 0) .nil) .nil))
  (.cons (.ret (.call 1 1 0 (.cons (.v 0) .nil) .nil))
  .nil))
@[reducible] def T_steps : Nat → DSp
  | 0 => d_check_part
  | 1 => d_steps_by
  | _ => noD
@[reducible] def C_steps : Nat → D
  | _ => .non
-- slots of steps: 0 fraction
def ir_swings : Iss := (.cons (.ex (.call 0 1 0 (.cons (.v 0) .nil) .nil))
  (.cons (.ret (.call 1 1 0 (.cons (.v 0) .nil) .nil))
  .nil))
@[reducible] def T_swings : Nat → DSp
  | 0 => d_check_part
  | 1 => d_swings_by
  | _ => noD
@[reducible] def C_swings : Nat → D
  | _ => .non
-- slots of swings: 0 fraction
def ir_law_right : Iss := (.cons (.for (.nm 2) (.rg1 (.ci 4)) (.cons (.asg 3 (.call 0 2 0 (.cons (.v 0) (.cons (.v 1) .nil)) .nil))
  (.cons (.par3 4 7 5 (.ix (.v 3) (.ci 0)) (.ix (.v 3) (.ci 1)) (.lst (.cons (.lst .nil) (.cons (.lst .nil) .nil))))
  (.cons (.whl (.tcmp .Gt (.v 4) (.ci 0)) (.cons (.ex (.app (.ix (.v 5) (.ci 0)) (.bin .FloorDiv (.bin .Sub (.bin .Add (.v 7) (.v 4)) (.ci 1)) (.v 4))))
  (.cons (.asg 4 (.bin .Sub (.bin .Mult (.v 4) (.ix (.ix (.v 5) (.ci 0)) (.neg (.ci 1)))) (.v 7)))
  .nil)))
  (.cons (.asg 4 (.ix (.v 3) (.ci 0)))
  (.cons (.whl (.tcmp .Gt (.v 4) (.ci 0)) (.cons (.ex (.app (.ix (.v 5) (.ci 1)) (.bin .FloorDiv (.v 7) (.v 4))))
  (.cons (.asg 4 (.bin .Mod (.v 7) (.v 4)))
  .nil)))
  (.cons (.asg 5 (.lst (.cons (.blt .tuple (.cons (.ix (.v 5) (.ci 0)) .nil)) (.cons (.blt .tuple (.cons (.ix (.v 5) (.ci 1)) .nil)) .nil))))
  (.cons (.par 8 9 (.lst (.cons (.ci 1) (.cons (.ci 1) .nil))) (.lst (.cons (.tup (.cons (.ci 0) (.cons (.ci 1) .nil))) (.cons (.tup (.cons (.ci 0) (.cons (.ci 1) .nil))) .nil))))
  (.cons (.for (.nm 6) (.rg1 (.ci 2)) (.cons (.for (.tp (.cons (.nm 10) (.cons (.nm 11) .nil))) (.enm (.ix (.v 5) (.v 6))) (.cons (.asgT (.sub (.v 8) (.v 6)) (.bin .Mult (.ix (.v 8) (.v 6)) (.v 11)))
  (.cons (.asg 12 (.ite (.tand (.tcmp .Eq (.v 6) (.ci 1)) (.tone (.tcmp .Eq (.bin .Mod (.v 10) (.ci 2)) (.ci 1)))) (.bin .Sub (.ci 0) (.ci 1)) (.ci 1)))
  (.cons (.asgT (.sub (.v 9) (.v 6)) (.call 1 2 0 (.cons (.bin .Add (.bin .Mult (.ix (.ix (.v 9) (.v 6)) (.ci 0)) (.ix (.v 8) (.v 6))) (.bin .Mult (.v 12) (.ix (.ix (.v 9) (.v 6)) (.ci 1)))) (.cons (.bin .Mult (.ix (.ix (.v 9) (.v 6)) (.ci 1)) (.ix (.v 8) (.v 6))) .nil)) .nil))
  .nil))))
  .nil))
  (.cons (.ifs (.tcmp .NotEq (.v 9) (.lst (.cons (.v 3) (.cons (.v 3) .nil)))) (.cons (.ret (.cb false))
  .nil) .nil)
  (.cons (.ifs (.tcmp .NotEq (.blt .repr (.cons (.lst (.cons (.call 3 1 0 (.cons (.v 3) .nil) .nil) (.cons (.call 2 1 0 (.cons (.v 3) .nil) .nil) .nil))) .nil)) (.blt .repr (.cons (.v 5) .nil))) (.cons (.ret (.cb false))
  .nil) .nil)
  (.cons (.ifs (.tcmp .NotEq (.blt .repr (.cons (.lst (.cons (.call 5 0 1 .nil (.cons (.v 3) .nil)) (.cons (.call 4 0 1 .nil (.cons (.v 3) .nil)) .nil))) .nil)) (.blt .repr (.cons (.v 5) .nil))) (.cons (.ret (.cb false))
  .nil) .nil)
  .nil))))))))))))
  (.cons (.ret (.and (.cmp .Eq (.call 3 1 0 (.cons (.tup (.cons (.ci 3) (.cons (.ci 7) .nil))) .nil) .nil) (.tup (.cons (.ci 3) (.cons (.ci 4) (.cons (.ci 7) .nil))))) (.one (.cmp .Eq (.call 2 1 0 (.cons (.tup (.cons (.ci 1) (.cons (.ci 1) .nil))) .nil) .nil) (.tup (.cons (.ci 1) .nil))))))
  .nil))
@[reducible] def T_law_right : Nat → DSp
  | 0 => d_law_small
  | 1 => d_law_frac
  | 2 => d_swings
  | 3 => d_steps
  | 4 => (fun ds M e q => d_swings (Fx.pick [0] ds) M e q)
  | 5 => (fun ds M e q => d_steps (Fx.pick [0] ds) M e q)
  | _ => noD
@[reducible] def C_law_right : Nat → D
  | _ => .non
-- slots of law_right: 0 pool 1 most 2 turn 3 fraction 4 top 5 due 6 k 7 low 8 whole 9 sums 10 j 11 number 12 sign
def ir_law : Iss := (.cons (.for (.nm 1) (.rg1 (.blt .max (.cons (.ci 2) (.cons (.blt .min (.cons (.blt .len (.cons (.v 0) .nil)) (.cons (.ci 3) .nil))) .nil)))) (.cons (.asg 2 (.call 0 2 0 (.cons (.v 0) (.cons (.v 1) .nil)) .nil))
  (.cons (.for (.nm 3) (.ex (.lst (.cons (.ci 9) (.cons (.ci 30) (.cons (.ci 99) (.cons (.ci 999) (.cons (.ci 12) (.cons (.ci 400) .nil)))))))) (.cons (.ifs (.tnot (.tv (.call 1 2 0 (.cons (.v 2) (.cons (.v 3) .nil)) .nil))) (.cons (.ret (.cb false))
  .nil) .nil)
  .nil))
  .nil)))
  (.cons (.ret (.cb true))
  .nil))
@[reducible] def T_law : Nat → DSp
  | 0 => d_law_pool
  | 1 => d_law_right
  | _ => noD
@[reducible] def C_law : Nat → D
  | _ => .non
-- slots of law: 0 script 1 k 2 pool 3 most
theorem body_less_by (ds : List D) (M : Mem) (e : Exn → Mem → Prop) (q : D → Mem → Prop) (hl : ds.length = 2) (h : d_less_by ds M e q) :
    wSsx T_less_by C_less_by ir_less_by (fun x _ M' => e x M') { nx := fun _ M' => q .non M', rt := q } (startD 2 ds) M := by
  unfold d_less_by at h
  split at h
  · rename_i a b c d
    obtain ⟨h0, h1, h2, h3, h⟩ := h
    unfold ir_less_by
    walk_at "fx"
    simp only [T_less_by, C_less_by, d_lowest]
    have e : (b * d).natAbs < 2 ^ 9000 := by
      have := abs_mul_lt (a := b) (b := d) (A := 2 ^ 60) (B := 2 ^ 60) (by omega) (by omega)
      exact Nat.lt_of_le_of_lt this (Nat.lt_of_lt_of_le (show 2 ^ 60 * 2 ^ 60 < 2 ^ 121 by decide) (Nat.pow_le_pow_right (by decide) (by decide)))
    exact ⟨.of_right (z64 (by omega) (by omega)), .of_right (z64 (by omega) (by omega)), .of_right (z64 (by omega) (by omega)), Int.mul_pos h0 h1, .inr e, h⟩
  · exact h.elim
theorem body_times (ds : List D) (M : Mem) (e : Exn → Mem → Prop) (q : D → Mem → Prop) (hl : ds.length = 2) (h : d_times ds M e q) :
    wSsx T_times C_times ir_times (fun x _ M' => e x M') { nx := fun _ M' => q .non M', rt := q } (startD 2 ds) M := by
  unfold d_times at h
  split at h
  · rename_i a b c d
    obtain ⟨h0, h1, h2, h3, h4, h⟩ := h
    unfold ir_times
    walk_at "fx"
    simp only [T_times, C_times, d_lowest]
    have e : (b * d).natAbs < 2 ^ 9000 := by
      have := abs_mul_lt (a := b) (b := d) (A := 2 ^ 60) (B := 2 ^ 60) (by omega) (by omega)
      exact Nat.lt_of_le_of_lt this (Nat.lt_of_lt_of_le (show 2 ^ 60 * 2 ^ 60 < 2 ^ 121 by decide) (Nat.pow_le_pow_right (by decide) (by decide)))
    exact ⟨.of_left (z64 (by omega) (by omega)), .of_right (z64 (by omega) (by omega)), Int.mul_pos h0 h1, .inr e, h⟩
  · exact h.elim
theorem body_steps_by (ds : List D) (M : Mem) (e : Exn → Mem → Prop) (q : D → Mem → Prop) (hl : ds.length = 1) (h : d_steps_by ds M e q) :
    wSsx T_steps_by C_steps_by ir_steps_by (fun x _ M' => e x M') { nx := fun _ M' => q .non M', rt := q } (startD 3 ds) M := by
  unfold d_steps_by at h
  split at h
  · rename_i a b
    obtain ⟨⟨h0, h1, h2, hg⟩, h⟩ := h
    unfold ir_steps_by
    walk_at "fx"
    intro p hp
    refine ⟨fun m τ M' => Ext M M' ∧ ∃ (acc : List Int) (t : Int), τ = [some (fr (a, b)), some (.ob p), some (fr (low t b))] ∧ M' p = some (.lst (acc.map .int)) ∧ 0 ≤ t ∧ t ≤ b ∧ t ≤ m ∧ acc ++ eng b m t = eng b 999 a ∧ acc.length + m ≤ 999, ⟨999, Ext.new hp, [], a, by rw [low_self hg], put_at, by omega, h1, by omega, rfl, by decide⟩, ?_⟩
    rintro m τ M' ⟨hx, acc, t, rfl, hc, t0, tb, tm, e, hl⟩
    walk_at "fx"
    by_cases ht : 0 < t
    · have x0 := (low_top (b := b) (by omega) t0).2 ht
      have y0 := low_pos (a := t) (b := b) (by omega)
      have ll := low_le (a := t) (b := b)
      rw [if_pos x0]
      walk_at "fy"
      obtain ⟨s0, s1, s2, s3⟩ := eng_step ht tb
      obtain ⟨m', rfl⟩ : ∃ m', m = m' + 1 := ⟨m - 1, by omega⟩
      refine ⟨x0, lt_9000 (by omega), ?_⟩
      walk_at "fy"
      rw [ceil_low (by omega) ht]
      refine ⟨szl_ok (by rw [List.length_map]; omega), ?_⟩
      have q : 0 < (timesF (low t b) ((b + t - 1) / t, 1)).2 := low_pos (by simpa using y0)
      have ql := (low_le (a := (low t b).1 * ((b + t - 1) / t)) (b := (low t b).2 * 1)).2
      have qe : (timesF ((low t b).1, (low t b).2) ((b + t - 1) / t, 1)).2 = (low ((low t b).1 * ((b + t - 1) / t)) ((low t b).2 * 1)).2 := rfl
      refine ⟨y0, by decide, by omega, by decide, by omega, q, by decide, by omega, by decide, m', by omega, hx.put hp, acc ++ [(b + t - 1) / t], t * ((b + t - 1) / t) - b, ?_, ?_, s0, by omega, by omega, ?_, ?_⟩
      · rw [← eng_left (t := t) (n := (b + t - 1) / t) (by omega)]
      · rw [put_at, List.map_append]; rfl
      · rw [← e, eng, if_pos ht, List.append_assoc]; rfl
      · rw [List.length_append, List.length_singleton]; omega
    · have t00 : t = 0 := by omega
      subst t00
      rw [if_neg (fun z => ht ((low_top (b := b) (by omega) t0).1 z))]
      have : eng b m 0 = [] := by cases m <;> rfl
      rw [this, List.append_nil] at e
      subst e
      refine ⟨_, hc, h M' hx⟩
  · exact h.elim
theorem body_swings_by (ds : List D) (M : Mem) (e : Exn → Mem → Prop) (q : D → Mem → Prop) (hl : ds.length = 1) (h : d_swings_by ds M e q) :
    wSsx T_swings_by C_swings_by ir_swings_by (fun x _ M' => e x M') { nx := fun _ M' => q .non M', rt := q } (startD 3 ds) M := by
  unfold d_swings_by at h
  split at h
  · rename_i a b
    obtain ⟨⟨h0, h1, h2, hg⟩, h⟩ := h
    unfold ir_swings_by
    walk_at "fx"
    intro p hp
    refine ⟨fun m τ M' => Ext M M' ∧ ∃ (acc : List Int) (t : Int), τ = [some (fr (a, b)), some (.ob p), some (fr (low t b))] ∧ M' p = some (.lst (acc.map .int)) ∧ 0 ≤ t ∧ t ≤ b ∧ t ≤ m ∧ acc ++ pie b m t = pie b 999 a ∧ acc.length + m ≤ 999, ⟨999, Ext.new hp, [], a, by rw [low_self hg], put_at, by omega, h1, by omega, rfl, by decide⟩, ?_⟩
    rintro m τ M' ⟨hx, acc, t, rfl, hc, t0, tb, tm, e, hl⟩
    walk_at "fx"
    by_cases ht : 0 < t
    · have x0 := (low_top (b := b) (by omega) t0).2 ht
      have y0 := low_pos (a := t) (b := b) (by omega)
      have ll := low_le (a := t) (b := b)
      rw [if_pos x0]
      walk_at "fy"
      obtain ⟨s0, s1, s2, s3, s4⟩ := pie_step ht tb
      obtain ⟨m', rfl⟩ : ∃ m', m = m' + 1 := ⟨m - 1, by omega⟩
      refine ⟨noPy_lt (lt_9000 (by omega)), szl_ok (by rw [List.length_map]; omega), ?_⟩
      rw [floor_low (by omega) ht]
      have q : 0 < (timesF (low t b) (b / t, 1)).2 := low_pos (by simpa using y0)
      have ql := (low_le (a := (low t b).1 * (b / t)) (b := (low t b).2 * 1)).2
      have qe : (timesF ((low t b).1, (low t b).2) (b / t, 1)).2 = (low ((low t b).1 * (b / t)) ((low t b).2 * 1)).2 := rfl
      refine ⟨y0, by decide, by omega, by decide, by omega, by decide, q, by decide, by omega, m', by omega, hx.put hp, acc ++ [b / t], b % t, ?_, ?_, s0, by omega, by omega, ?_, ?_⟩
      · rw [s4, ← pie_left (t := t) (n := b / t) (by omega)]
      · rw [put_at, List.map_append]; rfl
      · rw [← e, pie, if_pos ht, List.append_assoc]; rfl
      · rw [List.length_append, List.length_singleton]; omega
    · have t00 : t = 0 := by omega
      subst t00
      rw [if_neg (fun z => ht ((low_top (b := b) (by omega) t0).1 z))]
      have : pie b m 0 = [] := by cases m <;> rfl
      rw [this, List.append_nil] at e
      subst e
      refine ⟨_, hc, h M' hx⟩
  · exact h.elim
theorem part_ok {a b : Int} (h : Ok1 a b) : partB (.tup [.int a, .int b]) = true := by
  obtain ⟨h0, h1, h2, hg⟩ := h
  simp only [partB, aboveB, givenB, Bool.and_eq_true, decide_eq_true_eq]
  omega
theorem okD_i2 {a b : Int} {M : Mem} : okD (.tup [.int a, .int b]) M := by
  intro x hx
  simp only [List.mem_cons, List.not_mem_nil, or_false] at hx
  rcases hx with rfl | rfl <;> trivial
theorem body_steps (ds : List D) (M : Mem) (e : Exn → Mem → Prop) (q : D → Mem → Prop) (hl : ds.length = 1) (h : d_steps ds M e q) :
    wSsx T_steps C_steps ir_steps (fun x _ M' => e x M') { nx := fun _ M' => q .non M', rt := q } (startD 1 ds) M := by
  unfold d_steps at h
  unfold d_steps_by at h
  split at h
  · rename_i a b
    obtain ⟨ho, h⟩ := h
    unfold ir_steps
    walk_at "fx"
    exact ⟨okD_i2, part_ok ho, ho, h⟩
  · exact h.elim
theorem body_swings (ds : List D) (M : Mem) (e : Exn → Mem → Prop) (q : D → Mem → Prop) (hl : ds.length = 1) (h : d_swings ds M e q) :
    wSsx T_swings C_swings ir_swings (fun x _ M' => e x M') { nx := fun _ M' => q .non M', rt := q } (startD 1 ds) M := by
  unfold d_swings at h
  unfold d_swings_by at h
  split at h
  · rename_i a b
    obtain ⟨ho, h⟩ := h
    unfold ir_swings
    walk_at "fx"
    exact ⟨okD_i2, part_ok ho, ho, h⟩
  · exact h.elim
/-- 1 and the products of what the numbers 999 / s, upward, may be at most -/
def cap : Nat → Nat
  | 0 => 1
  | s + 1 => cap s * ((999 + s) / (s + 1))
theorem cap_999 : cap 999 < 2 ^ 3000 := by decide +kernel
theorem cap_pos (n : Nat) : 0 < cap n := by
  induction n with
  | zero => decide
  | succ n ih => exact Nat.mul_pos ih (Nat.div_pos (by omega) (by omega))
theorem cap_mono {n m : Nat} (h : n ≤ m) : cap n ≤ cap m := by
  induction h with
  | refl => exact Nat.le_refl _
  | step _ ih => exact Nat.le_trans ih (Nat.le_mul_of_pos_right _ (Nat.div_pos (by omega) (by omega)))
theorem cap_step {t' t : Nat} (n : Nat) (h : t' < t) (ht : t ≤ 999) (hn : n ≤ (999 + t - 1) / t) {W B : Nat} (hw : W * cap t ≤ B) : W * n * cap t' ≤ B := by
  obtain ⟨s, rfl⟩ : ∃ s, t = s + 1 := ⟨t - 1, by omega⟩
  refine Nat.le_trans ?_ hw
  rw [cap, Nat.mul_assoc]
  refine Nat.mul_le_mul_left _ ?_
  rw [Nat.mul_comm]
  exact Nat.mul_le_mul (cap_mono (by omega)) (by simpa using hn)
theorem mul_9000 {a b : Int} (h1 : a.natAbs < 2 ^ 9000) (h2 : b.natAbs < 2 ^ 9000) : IntMulOk a b := by
  have l : ∀ {x : Int}, x.natAbs < 2 ^ 9000 → Builtin.Int.intBits x ≤ 9000 := by
    intro x h
    unfold Builtin.Int.intBits
    split
    · omega
    · rename_i z
      have n : x.natAbs ≠ 0 := by simpa using z
      have := (Nat.log2_lt n).2 h
      omega
  have a1 := l h1
  have b1 := l h2
  refine big ?_
  have : Builtin.Int.intTooBig ((Builtin.Int.intBits a : Int) + (Builtin.Int.intBits b : Int)) = false := by
    unfold Builtin.Int.intTooBig
    rw [decide_eq_false_iff_not]
    have : (bitsLine : Int) = 134217728 := rfl
    omega
  rw [this, Bool.and_false]
theorem sum_step {z n s : Int} {W : Int} (hW : 0 < W) (hn : 0 < n) : low ((low z W).1 * (W * n) + s * (low z W).2) ((low z W).2 * (W * n)) = low (z * n + s) (W * n) := by
  have c := low_cross (a := z) (b := W)
  have p := low_pos (a := z) hW
  have wn := Int.mul_pos hW hn
  refine low_eq (Int.mul_pos p wn) wn ?_
  generalize (low z W).1 = x at *
  generalize (low z W).2 = y at *
  grind
/-- the numbers stay below a line -/
theorem cap_lt {W : Nat} {n : Nat} (h : W * cap n ≤ cap 999) : W < 2 ^ 3000 := by
  have := cap_pos n
  have := Nat.le_mul_of_pos_right W this
  have := cap_999
  omega
theorem p3000 {x : Nat} (h : x < 2 ^ 3000) : x < 2 ^ 9000 := Nat.lt_of_lt_of_le h (Nat.pow_le_pow_right (by decide) (by decide))
theorem p6000 {x y : Int} (h1 : x.natAbs < 2 ^ 3000) (h2 : y.natAbs < 2 ^ 3000) : (x * y).natAbs < 2 ^ 9000 := by
  have := abs_mul_lt (Nat.le_of_lt h1) (Nat.le_of_lt h2)
  rw [← Nat.pow_add] at this
  exact Nat.lt_of_le_of_lt this (Nat.pow_lt_pow_right (by decide) (by decide))
theorem eng_len (b : Int) : ∀ (m : Nat) (t : Int), (eng b m t).length ≤ m
  | 0, _ => Nat.le_refl _
  | m + 1, t => by
    rw [eng]
    split
    · rw [List.length_cons]; have := eng_len b m (t * ((b + t - 1) / t) - b); omega
    · simp
theorem pie_len (b : Int) : ∀ (m : Nat) (t : Int), (pie b m t).length ≤ m
  | 0, _ => Nat.le_refl _
  | m + 1, t => by
    rw [pie]
    split
    · rw [List.length_cons]; have := pie_len b m (b % t); omega
    · simp
theorem eng_all {b : Int} (hb : b ≤ 999) : ∀ (m : Nat) (t : Int), 0 ≤ t → t ≤ b → ∀ x, x ∈ eng b m t → x.natAbs < 2 ^ 64
  | 0, _, _, _, _, h => nomatch h
  | m + 1, t, t0, tb, x, h => by
    rw [eng] at h
    split at h
    · rename_i ht
      obtain ⟨s0, s1, s2, s3⟩ := eng_step ht tb
      rcases List.mem_cons.1 h with rfl | h
      · omega
      · exact eng_all hb m _ s0 (by omega) x h
    · cases h
theorem pie_all {b : Int} (hb : b ≤ 999) : ∀ (m : Nat) (t : Int), 0 ≤ t → t ≤ b → ∀ x, x ∈ pie b m t → x.natAbs < 2 ^ 64
  | 0, _, _, _, _, h => nomatch h
  | m + 1, t, t0, tb, x, h => by
    rw [pie] at h
    split at h
    · rename_i ht
      obtain ⟨s0, s1, s2, s3, s4⟩ := pie_step ht tb
      rcases List.mem_cons.1 h with rfl | h
      · omega
      · exact pie_all hb m _ s0 (by omega) x h
    · cases h
theorem ints_vw {M : Mem} {xs : List Int} (h : ∀ x, x ∈ xs → x.natAbs < 2 ^ 64) (hl : xs.length ≤ 999) : Vw M 23000 1 (.tup (xs.map .int)) (.tuple (xs.map .int)) := by
  refine (Vw.tup (Vws.map D.int PyData.int xs fun x hx => Vw.int (h := 0) (h x hx))).up ?_ (Nat.le_refl _)
  rw [List.length_map]; omega
theorem z_bd {z a b t s : Int} {W : Nat} (hz : z * b = a * W - s * t) (hs : s = 1 ∨ s = -1) (ha : 0 ≤ a) (hab : a ≤ b) (hb : 0 < b) (t0 : 0 ≤ t) (tb : t ≤ b) : z.natAbs ≤ W + 1 := by
  have h1 : a * W ≤ b * W := Int.mul_le_mul_of_nonneg_right hab (by omega)
  have h0 : 0 ≤ a * W := Int.mul_nonneg ha (by omega)
  have st : -b ≤ s * t ∧ s * t ≤ b := by rcases hs with rfl | rfl <;> omega
  have e : ((W + 1 : Nat) : Int) * b = b * W + b := by push_cast; grind
  have l1 : z ≤ (W + 1 : Nat) := Int.le_of_mul_le_mul_right (by rw [hz, e]; omega) hb
  have e2 : -((W + 1 : Nat) : Int) * b = -(b * W + b) := by push_cast; grind
  have l2 : -((W + 1 : Nat) : Int) ≤ z := Int.le_of_mul_le_mul_right (by rw [hz, e2]; omega) hb
  omega
theorem low_fst {z W : Int} (hW : 0 < W) (h0 : 0 ≤ z) (h : z ≤ W) : 0 ≤ (low z W).1 ∧ (low z W).1 ≤ (low z W).2 := by
  have g0 : 0 < Int.gcd z W := Int.gcd_pos_of_ne_zero_right _ (by omega)
  exact ⟨Int.ediv_nonneg h0 (by omega), Int.ediv_le_ediv (by omega) h⟩
theorem body_law_right (ds : List D) (M : Mem) (e : Exn → Mem → Prop) (q : D → Mem → Prop) (hl : ds.length = 2) (h : d_law_right ds M e q) :
    wSsx T_law_right C_law_right ir_law_right (fun x _ M' => e x M') { nx := fun _ M' => q .non M', rt := q } (startD 13 ds) M := by
  unfold d_law_right at h
  split at h
  · rename_i p most
    obtain ⟨hp, m0, m1, h⟩ := h
    unfold ir_law_right
    walk_at "fx"
    refine for_rg (J := fun k τ M' => ExtP p M M' ∧ ∃ a1 a2 a3 a4 a5 a6 a7 a8 a9 a10 a11, τ = [some (.ob p), some (.int most), a1, a2, a3, a4, a5, a6, a7, a8, a9, a10, a11]) ⟨.of hp .rfl', _, _, _, _, _, _, _, _, _, _, _, rfl⟩ ?_ ?_
    · rintro τ M' ⟨hx, _⟩
      refine ⟨trivial, ⟨by decide, by decide, by decide, by decide⟩, fun M1 x1 => ?_⟩
      have e1 : eng 7 999 3 = [3, 4, 7] := by decide +kernel
      rw [e1]
      refine eq_same (Vw.tup (n := 21) (h := 0) (.cons (.int (by decide)) (.cons (.int (by decide)) (.cons (.int (by decide)) .nil)))) (PyD.of _ _ rfl) (by decide) ?_
      rw [if_pos rfl]
      refine ⟨⟨by decide, by decide, by decide, by decide⟩, fun M2 x2 => ?_⟩
      have e2 : pie 1 999 1 = [1] := by decide +kernel
      rw [e2]
      refine eq_same (Vw.tup (n := 21) (h := 0) (.cons (.int (by decide)) .nil)) (PyD.of _ _ rfl) (by decide) ?_
      exact h _ ((hx.ext x1).ext x2)
    · rintro k hk τ M' ⟨hx, a1, a2, a3, a4, a5, a6, a7, a8, a9, a10, a11, rfl⟩ nx hn
      refine ⟨trivial, ?_⟩
      walk_at "fx"
      refine ⟨hx.2, m0, by omega, fun a b M1 h0 h1 h2 hg x1 => ?_⟩
      have X1 := hx.trans x1
      clear hx x1
      walk_at "fx"
      intro p0 hp0 p1 hp1 pd hpd
      obtain ⟨n10, hp1⟩ := ne_put hp1
      obtain ⟨nd1, hpd⟩ := ne_put hpd
      obtain ⟨nd0, hpd⟩ := ne_put hpd
      have n01 := Ne.symm n10
      have n1d := Ne.symm nd1
      have n0d := Ne.symm nd0
      refine ⟨fun m τ M' => Ext M1 M' ∧ ∃ (acc : List Int) (t : Int), τ = [some (.ob p), some (.int most), some (.int (0 + k)), some (fr (a, b)), some (.int t), some (.ob pd), a5, some (.int b), a7, a8, a9, a10, a11] ∧ M' p0 = some (.lst (acc.map .int)) ∧ M' p1 = some (.lst []) ∧ M' pd = some (.lst [.ob p0, .ob p1]) ∧ 0 ≤ t ∧ t ≤ b ∧ t ≤ m ∧ acc ++ eng b m t = eng b 999 a ∧ acc.length + m ≤ 999, ⟨999, ?_, [], a, rfl, ?_, ?_, ?_, by omega, h1, by omega, rfl, by decide⟩, ?_⟩
      · exact ((Ext.new hp0).put hp1).put hpd
      · rw [put_ne n0d, put_ne n01, put_at]; rfl
      · rw [put_ne n1d, put_at]
      · rw [put_at]
      · rintro m τ M' ⟨hx, acc, t, rfl, hc0, hc1, hcd, t0, tb, tm, e, hl⟩
        walk_at "fx"
        by_cases ht : 0 < t
        · rw [if_pos ht]
          obtain ⟨s0, s1, s2, s3⟩ := eng_step ht tb
          obtain ⟨m', rfl⟩ : ∃ m', m = m' + 1 := ⟨m - 1, by omega⟩
          walk_at "fy"
          refine ⟨PyProof.noPylong_small (by omega), szl_ok (by rw [List.length_map]; omega), .of_right (z64 (by omega) (by omega)), m', by omega, hx.put hp0, acc ++ [(b + t - 1) / t], t * ((b + t - 1) / t) - b, rfl, by rw [List.map_append]; rfl, s0, by omega, by omega, ?_, ?_⟩
          · rw [← e, eng, if_pos ht, List.append_assoc]; rfl
          · rw [List.length_append, List.length_singleton]; omega
        · have t00 : t = 0 := by omega
          subst t00
          have : eng b m 0 = [] := by cases m <;> rfl
          rw [this, List.append_nil] at e
          rw [if_neg ht]
          subst e
          clear this tm hl
          refine ⟨fun m τ M' => Ext M1 M' ∧ ∃ (acc : List Int) (t : Int), τ = [some (.ob p), some (.int most), some (.int (0 + k)), some (fr (a, b)), some (.int t), some (.ob pd), a5, some (.int b), a7, a8, a9, a10, a11] ∧ M' p1 = some (.lst (acc.map .int)) ∧ M' p0 = some (.lst ((eng b 999 a).map .int)) ∧ M' pd = some (.lst [.ob p0, .ob p1]) ∧ 0 ≤ t ∧ t ≤ b ∧ t ≤ m ∧ acc ++ pie b m t = pie b 999 a ∧ acc.length + m ≤ 999, ⟨999, hx, [], a, rfl, hc1, hc0, hcd, by omega, h1, by omega, rfl, by decide⟩, ?_⟩
          clear hx hc0 hc1 hcd t0 tb ht
          rintro m τ M' ⟨hx, acc, t, rfl, hc1, hc0, hcd, t0, tb, tm, e, hl⟩
          walk_at "fx"
          by_cases ht : 0 < t
          · rw [if_pos ht]
            obtain ⟨m', rfl⟩ : ∃ m', m = m' + 1 := ⟨m - 1, by omega⟩
            walk_at "fy"
            obtain ⟨s0, s1, s2, s3, s4⟩ := pie_step ht tb
            refine ⟨PyProof.noPylong_small (by omega), szl_ok (by rw [List.length_map]; omega), m', by omega, hx.put hp1, acc ++ [b / t], b % t, rfl, by rw [List.map_append]; rfl, s0, by omega, by omega, ?_, ?_⟩
            · rw [← e, pie, if_pos ht, List.append_assoc]; rfl
            · rw [List.length_append, List.length_singleton]; omega
          · have t00 : t = 0 := by omega
            subst t00
            have : pie b m 0 = [] := by cases m <;> rfl
            rw [this, List.append_nil] at e
            rw [if_neg ht]
            subst e
            clear this tm hl
            walk_at "fy"
            intro pe hpe pw hpw ps hps
            obtain ⟨nwe, hpw⟩ := ne_put hpw
            obtain ⟨nsw, hps⟩ := ne_put hps
            obtain ⟨nse, hps⟩ := ne_put hps
            have X2 := X1.ext hx
            have x3 : Ext M' (((M'.put pe (.lst [.tup ((eng b 999 a).map .int), .tup ((pie b 999 a).map .int)])).put pw (.lst [.int 1, .int 1])).put ps (.lst [.tup [.int 0, .int 1], .tup [.int 0, .int 1]])) := ((Ext.new hpe).put hpw).put hps
            have ce : (((M'.put pe (.lst [.tup ((eng b 999 a).map .int), .tup ((pie b 999 a).map .int)])).put pw (.lst [.int 1, .int 1])).put ps (.lst [.tup [.int 0, .int 1], .tup [.int 0, .int 1]])) pe = some (.lst [.tup ((eng b 999 a).map .int), .tup ((pie b 999 a).map .int)]) := by
              rw [put_ne (Ne.symm nse), put_ne (Ne.symm nwe), put_at]
            have cw : (((M'.put pe (.lst [.tup ((eng b 999 a).map .int), .tup ((pie b 999 a).map .int)])).put pw (.lst [.int 1, .int 1])).put ps (.lst [.tup [.int 0, .int 1], .tup [.int 0, .int 1]])) pw = some (.lst [.int 1, .int 1]) := by
              rw [put_ne (Ne.symm nsw), put_at]
            have cs : (((M'.put pe (.lst [.tup ((eng b 999 a).map .int), .tup ((pie b 999 a).map .int)])).put pw (.lst [.int 1, .int 1])).put ps (.lst [.tup [.int 0, .int 1], .tup [.int 0, .int 1]])) ps = some (.lst [.tup [.int 0, .int 1], .tup [.int 0, .int 1]]) := put_at
            generalize (((M'.put pe (.lst [.tup ((eng b 999 a).map .int), .tup ((pie b 999 a).map .int)])).put pw (.lst [.int 1, .int 1])).put ps (.lst [.tup [.int 0, .int 1], .tup [.int 0, .int 1]])) = M2 at *
            have X3 := X2.ext x3
            have np : p ≠ ps ∧ p ≠ pw := ⟨ExtP.ne X2.2 hps, ExtP.ne X2.2 hpw⟩
            have it2 : (intsTo 2) = [0, 1] := rfl
            simp only [it2, List.map_cons, List.map_nil, forF]
            refine ⟨trivial, ?_⟩
            walk_at "fy"
            have m9 : b ≤ 999 := by omega
            refine forF_inv (J := fun ds τ M'' => Ext M' M'' ∧ M'' pe = some (.lst [.tup ((eng b 999 a).map .int), .tup ((pie b 999 a).map .int)]) ∧ ∃ (m j : Nat) (t z : Int) (W : Nat) (y10 y11 y12 : Option D), ds = (((eng b m t).map D.int).zipIdx j).map (fun p => .tup [.int p.2, p.1]) ∧ 0 ≤ t ∧ t ≤ b ∧ t ≤ m ∧ 0 < W ∧ W * cap t.toNat ≤ cap 999 ∧ z * b = a * W - t ∧
              τ = [some (.ob p), some (.int most), some (.int (0 + k)), some (fr (a, b)), some (.int 0), some (.ob pe), some (.int (0 + 0)), some (.int b), some (.ob pw), some (.ob ps), y10, y11, y12] ∧ M'' pw = some (.lst [.int W, .int 1]) ∧ M'' ps = some (.lst [fr (low z W), .tup [.int 0, .int 1]])) ?_ ?_ _ _ _ ⟨x3, ce, 999, 0, a, 0, 1, _, _, _, rfl, by omega, h1, by omega, by decide, ?_, by omega, rfl, cw, ?_⟩
            · rintro τ M3 ⟨hx3, ce3, m, j, t, z, W, y10, y11, y12, e, t0, tb, tm, hW, hcap, hz, rfl, cw3, cs3⟩
              have t00 : t = 0 := by
                by_cases ht : 0 < t
                · obtain ⟨m', rfl⟩ : ∃ m', m = m' + 1 := ⟨m - 1, by omega⟩
                  rw [eng, if_pos ht] at e
                  cases e
                · omega
              subst t00
              have W1 := cap_lt hcap
              have es : low z W = (a, b) := by
                rw [← low_self hg]
                exact low_eq (by omega) (by omega) (by rw [hz]; omega)
              rw [es] at cs3
              clear e hcap hz es
              refine ⟨trivial, ?_⟩
              walk_at "fy"
              refine forF_inv (J := fun ds τ M'' => Ext M' M'' ∧ M'' pe = some (.lst [.tup ((eng b 999 a).map .int), .tup ((pie b 999 a).map .int)]) ∧ ∃ (m j : Nat) (t z s : Int) (w0 : Int) (W : Nat) (y10 y11 y12 : Option D), ds = (((pie b m t).map D.int).zipIdx j).map (fun p => .tup [.int p.2, p.1]) ∧ 0 ≤ t ∧ t ≤ b ∧ t ≤ m ∧ 0 < W ∧ W * cap t.toNat ≤ cap 999 ∧ z * b = a * W - s * t ∧ s = (if (j : Int) % 2 = 1 then -1 else 1) ∧
                τ = [some (.ob p), some (.int most), some (.int (0 + k)), some (fr (a, b)), some (.int 0), some (.ob pe), some (.int 1), some (.int b), some (.ob pw), some (.ob ps), y10, y11, y12] ∧ M'' pw = some (.lst [.int w0, .int W]) ∧ M'' ps = some (.lst [fr (a, b), fr (low z W)])) ?_ ?_ _ _ _ ⟨hx3, ce3, 999, 0, a, 0, 1, _, 1, _, _, _, rfl, by omega, h1, by omega, by decide, ?_, by omega, by decide, rfl, cw3, ?_⟩
              · clear cw3 cs3 hW W1 ce3 hx3 tm
                rintro τ M4 ⟨hx4, ce4, m, j, t, z, s, w0, W, y10, y11, y12, e, t0, tb, tm, hW, hcap, hz, hs, rfl, cw4, cs4⟩
                have t00 : t = 0 := by
                  by_cases ht : 0 < t
                  · obtain ⟨m', rfl⟩ : ∃ m', m = m' + 1 := ⟨m - 1, by omega⟩
                    rw [pie, if_pos ht] at e
                    cases e
                  · omega
                subst t00
                have es : low z W = (a, b) := by
                  rw [← low_self hg]
                  exact low_eq (by omega) (by omega) (by rw [hz]; simp)
                rw [es] at cs4
                clear e hcap hz es hs
                refine ⟨trivial, ?_⟩
                walk_at "fy"
                intro pf hpf
                have nfs : ps ≠ pf := fun e => by subst e; rw [hpf] at cs4; cases cs4
                have nfe : pe ≠ pf := fun e => by subst e; rw [hpf] at ce4; cases ce4
                have vf : ∀ M', Vw M' 49 1 (fr (a, b)) (.tuple [.int a, .int b]) := fun M' => Vw.i2 (by omega) (by omega)
                have X5 : ExtP p M (M4.put pf (.lst [fr (a, b), fr (a, b)])) := (X2.ext hx4).ext (Ext.new hpf)
                have ce5 : (M4.put pf (.lst [fr (a, b), fr (a, b)])) pe = some (.lst [.tup ((eng b 999 a).map .int), .tup ((pie b 999 a).map .int)]) := by rw [put_ne nfe]; exact ce4
                refine eq_same (Vw.ob (by rw [put_ne nfs]; exact cs4) (.cons (vf _) (.cons (vf _) .nil))) (Vw.ob put_at (.cons (vf _) (.cons (vf _) .nil))).1 (by decide) ?_
                generalize M4.put pf (.lst [fr (a, b), fr (a, b)]) = M5 at *
                rw [if_neg (by decide)]
                have ok1 : Ok1 a b := ⟨h0, h1, by omega, hg⟩
                have ve : ∀ M', Vw M' 23000 1 (.tup ((eng b 999 a).map .int)) (.tuple ((eng b 999 a).map .int)) := fun M' => ints_vw (eng_all (by omega) 999 a (by omega) h1) (eng_len b 999 a)
                have vp : ∀ M', Vw M' 23000 1 (.tup ((pie b 999 a).map .int)) (.tuple ((pie b 999 a).map .int)) := fun M' => ints_vw (pie_all (by omega) 999 a (by omega) h1) (pie_len b 999 a)
                refine ⟨ok1, fun M6 x6 => ⟨ok1, fun M7 x7 => ?_⟩⟩
                refine rep_new (.cons (ve _) (.cons (vp _) .nil)) fun M8 x8 => ?_
                have ce8 := x8 _ _ (x7 _ _ (x6 _ _ ce5))
                refine rep_ok (Vw.ob ce8 (.cons (ve _) (.cons (vp _) .nil))) rfl (by simp only [List.length_cons, List.length_nil]; decide) (by decide) ?_
                walk_at "fx"
                refine ⟨ok1, fun M9 x9 => ⟨ok1, fun M10 x10 => ?_⟩⟩
                refine rep_new (.cons (ve _) (.cons (vp _) .nil)) fun M11 x11 => ?_
                have ce11 := x11 _ _ (x10 _ _ (x9 _ _ ce8))
                refine rep_ok (Vw.ob ce11 (.cons (ve _) (.cons (vp _) .nil))) rfl (by simp only [List.length_cons, List.length_nil]; decide) (by decide) ?_
                walk_at "fx"
                exact hn _ _ ⟨(((((X5.ext x6).ext x7).ext x8).ext x9).ext x10).ext x11, _, _, _, _, _, _, _, _, _, _, _, rfl⟩
              · clear cw3 cs3 hW W1 ce3 hx3 tm
                rintro d ds τ M4 ⟨hx4, ce4, m, j, t, z, s, w0, W, y10, y11, y12, e, t0, tb, tm, hW, hcap, hz, hs, rfl, cw4, cs4⟩ nx' hn'
                refine ⟨trivial, ?_⟩
                have ht : 0 < t := by
                  by_cases ht : 0 < t
                  · exact ht
                  · have t00 : t = 0 := by omega
                    subst t00
                    have : pie b m 0 = [] := by cases m <;> rfl
                    rw [this] at e; cases e
                obtain ⟨m', rfl⟩ : ∃ m', m = m' + 1 := ⟨m - 1, by omega⟩
                rw [pie, if_pos ht] at e
                simp only [List.map_cons, List.zipIdx_cons, List.cons.injEq] at e
                obtain ⟨rfl, rfl⟩ := e
                obtain ⟨s0, s1, s2, s3, s4⟩ := pie_step ht tb
                have W1 := cap_lt hcap
                have s12 : s = 1 ∨ s = -1 := by rw [hs]; split <;> simp
                have zb := z_bd (z := z) (a := a) (b := b) (t := t) (s := s) (W := W) hz s12 (by omega) h1 (by omega) t0 tb
                have ll := low_le (a := z) (b := W)
                have lp := low_pos (a := z) (b := W) (by omega)
                have hn : ((b / t).toNat : Int) = b / t := by omega
                have cap' := cap_step (t' := (b % t).toNat) (b / t).toNat (by omega) (by omega) (by
                  have : b ≤ 999 + t - 1 := by omega
                  have := Int.ediv_le_ediv ht this
                  have e : ((999 + t.toNat - 1 : Nat) : Int) = 999 + t - 1 := by omega
                  have e2 : (((999 + t.toNat - 1) / t.toNat : Nat) : Int) = (999 + t - 1) / t := by
                    rw [Int.natCast_ediv, e]
                    congr 1
                    omega
                  exact Int.toNat_le.2 (by rw [e2]; exact this)) hcap
                have W2 := cap_lt cap'
                have ew : ((W * (b / t).toNat : Nat) : Int) = W * (b / t) := by rw [Int.natCast_mul, hn]
                generalize hN : b / t = n at *
                generalize hR : b % t = r at *
                have b1 : (low z W).1.natAbs < 2 ^ 3001 := by omega
                have b2 : (low z W).2.natAbs < 2 ^ 3000 := by omega
                have b3 : ((W : Int) * n).natAbs < 2 ^ 3000 := by omega
                have wp : 0 < (W : Int) * n := Int.mul_pos (by omega) (by omega)
                have q1 : IntMulOk W n := .of_right (z64 (by omega) (by omega))
                have q2 : IntMulOk (low z W).1 (W * n) := mul_9000 (Nat.lt_of_lt_of_le b1 (Nat.pow_le_pow_right (by decide) (by decide))) (p3000 b3)
                have q3 : IntMulOk (low z W).2 (W * n) := mul_9000 (p3000 b2) (p3000 b3)
                have q4 := Int.mul_pos lp wp
                have q5 := p6000 b2 b3
                clear hN hR
                walk_at "fy"
                by_cases hj : (j : Int) % 2 = 1
                · rw [if_pos hj] at hs ⊢
                  subst hs
                  refine ⟨q4, .inr q5, ?_⟩
                  rw [sum_step (by omega) (by omega), ← ew]
                  walk_at "fy"
                  refine hn' _ _ ⟨(hx4.put hpw).put hps, by rw [put_ne (Ne.symm nse), put_ne (Ne.symm nwe)]; exact ce4, m', j + 1, r, z * n + -1, 1, w0, W * n.toNat, some (.int j), some (.int n), some (.int (-1)), rfl, s0, by omega, by omega, Nat.mul_pos hW (by omega), cap', ?_, ?_, rfl, by rw [put_ne (Ne.symm nsw), put_at, ew], by rw [put_at, ew]⟩
                  · rw [ew]; grind
                  · rw [if_neg (by omega)]
                · rw [if_neg hj] at hs ⊢
                  subst hs
                  refine ⟨q4, .inr q5, ?_⟩
                  rw [sum_step (by omega) (by omega), ← ew]
                  walk_at "fy"
                  refine hn' _ _ ⟨(hx4.put hpw).put hps, by rw [put_ne (Ne.symm nse), put_ne (Ne.symm nwe)]; exact ce4, m', j + 1, r, z * n + 1, -1, w0, W * n.toNat, some (.int j), some (.int n), some (.int 1), rfl, s0, by omega, by omega, Nat.mul_pos hW (by omega), cap', ?_, ?_, rfl, by rw [put_ne (Ne.symm nsw), put_at, ew], by rw [put_at, ew]⟩
                  · rw [ew]; grind
                  · rw [if_pos (by omega)]
              · have e1 : 1 * cap a.toNat ≤ cap 999 := by rw [Nat.one_mul]; exact cap_mono (by omega)
                exact e1
              · rw [cs3]
                have : low 0 ((1 : Nat) : Int) = (0, 1) := by decide
                rw [this]
            · rintro d ds τ M3 ⟨hx3, ce3, m, j, t, z, W, y10, y11, y12, e, t0, tb, tm, hW, hcap, hz, rfl, cw3, cs3⟩ nx' hn'
              refine ⟨trivial, ?_⟩
              have ht : 0 < t := by
                by_cases ht : 0 < t
                · exact ht
                · have t00 : t = 0 := by omega
                  subst t00
                  have : eng b m 0 = [] := by cases m <;> rfl
                  rw [this] at e; cases e
              obtain ⟨m', rfl⟩ : ∃ m', m = m' + 1 := ⟨m - 1, by omega⟩
              rw [eng, if_pos ht] at e
              simp only [List.map_cons, List.zipIdx_cons, List.cons.injEq] at e
              obtain ⟨rfl, rfl⟩ := e
              obtain ⟨s0, s1, s2, s3⟩ := eng_step ht tb
              have W1 := cap_lt hcap
              have zb := z_bd (z := z) (a := a) (b := b) (t := t) (s := 1) (W := W) (by rw [hz]; omega) (.inl rfl) (by omega) h1 (by omega) t0 tb
              have ll := low_le (a := z) (b := W)
              have lp := low_pos (a := z) (b := W) (by omega)
              have hn : (((b + t - 1) / t).toNat : Int) = (b + t - 1) / t := by omega
              have cap' := cap_step (t' := (t * ((b + t - 1) / t) - b).toNat) ((b + t - 1) / t).toNat (by omega) (by omega) (by
                have : b + t - 1 ≤ 999 + t - 1 := by omega
                have := Int.ediv_le_ediv ht this
                have e : ((999 + t.toNat - 1 : Nat) : Int) = 999 + t - 1 := by omega
                have e2 : (((999 + t.toNat - 1) / t.toNat : Nat) : Int) = (999 + t - 1) / t := by
                  rw [Int.natCast_ediv, e]
                  congr 1
                  omega
                exact Int.toNat_le.2 (by rw [e2]; exact this)) hcap
              have W2 := cap_lt cap'
              have ew : ((W * ((b + t - 1) / t).toNat : Nat) : Int) = W * ((b + t - 1) / t) := by rw [Int.natCast_mul, hn]
              generalize hN : (b + t - 1) / t = n at *
              walk_at "fy"
              have b1 : (low z W).1.natAbs < 2 ^ 3001 := by omega
              have b2 : (low z W).2.natAbs < 2 ^ 3000 := by omega
              have b3 : ((W : Int) * n).natAbs < 2 ^ 3000 := by omega
              have wp : 0 < (W : Int) * n := Int.mul_pos (by omega) (by omega)
              refine ⟨.of_right (z64 (by omega) (by omega)), mul_9000 (Nat.lt_of_lt_of_le b1 (Nat.pow_le_pow_right (by decide) (by decide))) (p3000 b3), mul_9000 (p3000 b2) (p3000 b3), Int.mul_pos lp wp, .inr (p6000 b2 b3), ?_⟩
              rw [sum_step (by omega) (by omega), ← ew]
              walk_at "fy"
              refine hn' _ _ ⟨(hx3.put hpw).put hps, by rw [put_ne (Ne.symm nse), put_ne (Ne.symm nwe)]; exact ce3, m', j + 1, t * n - b, z * n + 1, W * n.toNat, some (.int j), some (.int n), some (.int 1), rfl, s0, by omega, by omega, Nat.mul_pos hW (by omega), cap', ?_, rfl, by rw [put_ne (Ne.symm nsw), put_at, ew], by rw [put_at, ew]⟩
              rw [ew]
              grind
            · have e1 : 1 * cap a.toNat ≤ cap 999 := by rw [Nat.one_mul]; exact cap_mono (by omega)
              exact e1
            · rw [cs]
              have : low 0 ((1 : Nat) : Int) = (0, 1) := by decide
              rw [this]
  · exact h.elim
theorem body_law (ds : List D) (M : Mem) (e : Exn → Mem → Prop) (q : D → Mem → Prop) (hl : ds.length = 1) (h : d_law ds M e q) :
    wSsx T_law C_law ir_law (fun x _ M' => e x M') { nx := fun _ M' => q .non M', rt := q } (startD 4 ds) M := by
  unfold d_law at h
  obtain ⟨ns, rfl, hl, h⟩ := h
  unfold ir_law
  walk_at "fx"
  generalize hk : (if (if 3 < (ns.length : Int) then (3 : Int) else ns.length) > 2 then if 3 < (ns.length : Int) then (3 : Int) else ns.length else 2) = laps
  have hk' : 0 ≤ laps ∧ laps ≤ 3 := by
    subst hk
    split <;> split <;> omega
  refine ⟨by omega, for_rg (J := fun k τ M' => ∃ x y z, τ = [some (.scr ns), x, y, z]) ⟨_, _, _, rfl⟩ ?_ ?_⟩
  · rintro τ M' ⟨x, y, z, rfl⟩
    exact ⟨trivial, h M'⟩
  · rintro k hk τ M' ⟨x, y, z, rfl⟩ nx hn
    refine ⟨trivial, ?_⟩
    walk_at "fx"
    refine ⟨hl, by omega, by omega, fun a M1 _ _ hp => ?_⟩
    walk_at "fx"
    intro p hp'
    have np := ExtP.ne hp hp'
    refine forF_inv (J := fun ds τ M' => Pool M' a ∧ M' p = some (.lst [.int 9, .int 30, .int 99, .int 999, .int 12, .int 400]) ∧ (∀ d, d ∈ ds → ∃ i : Int, d = .int i ∧ 1 ≤ i ∧ i ≤ 999) ∧ ∃ y, τ = [some (.scr ns), some (.int (0 + k)), some (.ob a), y]) ?_ ?_ _ _ _ ⟨hp.put np, put_at, ?_, z, rfl⟩
    · rintro τ M2 ⟨hp2, hc, _, y, rfl⟩
      exact ⟨hc, hn _ _ ⟨_, _, _, rfl⟩⟩
    · rintro d ds τ M2 ⟨hp2, hc, hd, y, rfl⟩ nx' hn'
      obtain ⟨i, rfl, i1, i2⟩ := hd d (List.mem_cons_self ..)
      refine ⟨hc, ?_⟩
      walk_at "fx"
      refine ⟨hp2, i1, i2, fun M3 x3 => ?_⟩
      walk_at "fx"
      exact hn' _ _ ⟨x3.2, x3.1 _ _ (Ne.symm np) hc, fun d h => hd d (List.mem_cons_of_mem _ h), _, rfl⟩
    · intro d hd
      simp only [List.mem_cons, List.not_mem_nil, or_false] at hd
      rcases hd with rfl | rfl | rfl | rfl | rfl | rfl <;> exact ⟨_, rfl, by decide, by decide⟩
end K46

set_option maxRecDepth 100000
set_option maxHeartbeats 0
namespace K46
open PySem PySem.Spec PyProof.Rows L2 Fx Sp
open Sh hiding ir_law_take T_law_take C_law_take d_law_take body_law_take k_MOST_NUMBER
/-! ## the text by places, each def against its telling (written by wip/gen.py) -/
def topS (i : Nat) : Stmt := PySem.Challenge.pw_fractiontrees_k46_steps_and_swings.main.body.getD i (.Pass ⟨0, 0, 0, 0⟩)
abbrev st_is_whole : Stmt := topS 5
theorem sc_is_whole : FnScope ["value"] ["value"] (defScope st_is_whole) := ⟨rfl, rfl, rfl, by decide +kernel, rfl, by decide +kernel, by decide +kernel⟩
def c_is_whole : Cc := { N := ["value"], sc := defScope st_is_whole, top := true, forms := [], consts := [], blts := ["isinstance", "bool", "int"], imps := [] }
theorem m_is_whole : mSs ir_is_whole c_is_whole (defBody st_is_whole) = true := by decide +kernel
abbrev st_is_between : Stmt := topS 6
theorem sc_is_between : FnScope ["value", "least", "most"] ["value", "least", "most"] (defScope st_is_between) := ⟨rfl, rfl, rfl, by decide +kernel, rfl, by decide +kernel, by decide +kernel⟩
def c_is_between : Cc := { N := ["value", "least", "most"], sc := defScope st_is_between, top := true, forms := [⟨"is_whole", 1, []⟩], consts := [], blts := [], imps := [] }
theorem m_is_between : mSs ir_is_between c_is_between (defBody st_is_between) = true := by decide +kernel
abbrev st_is_tuple_of : Stmt := topS 7
theorem sc_is_tuple_of : FnScope ["value", "many"] ["value", "many"] (defScope st_is_tuple_of) := ⟨rfl, rfl, rfl, by decide +kernel, rfl, by decide +kernel, by decide +kernel⟩
def c_is_tuple_of : Cc := { N := ["value", "many"], sc := defScope st_is_tuple_of, top := true, forms := [], consts := [], blts := ["len", "isinstance", "tuple"], imps := [] }
theorem m_is_tuple_of : mSs ir_is_tuple_of c_is_tuple_of (defBody st_is_tuple_of) = true := by decide +kernel
abbrev st_lowest : Stmt := topS 9
theorem sc_lowest : FnScope ["over", "under", "common"] ["over", "under"] (defScope st_lowest) := ⟨rfl, rfl, rfl, by decide +kernel, rfl, by decide +kernel, by decide +kernel⟩
def c_lowest : Cc := { N := ["over", "under", "common"], sc := defScope st_lowest, top := true, forms := [], consts := [], blts := [], imps := ["gcd"] }
theorem m_lowest : mSs ir_lowest c_lowest (defBody st_lowest) = true := by decide +kernel
abbrev st_less_by : Stmt := topS 10
theorem sc_less_by : FnScope ["one", "other"] ["one", "other"] (defScope st_less_by) := ⟨rfl, rfl, rfl, by decide +kernel, rfl, by decide +kernel, by decide +kernel⟩
def c_less_by : Cc := { N := ["one", "other"], sc := defScope st_less_by, top := true, forms := [⟨"lowest", 2, []⟩], consts := [], blts := [], imps := [] }
theorem m_less_by : mSs ir_less_by c_less_by (defBody st_less_by) = true := by decide +kernel
abbrev st_times : Stmt := topS 11
theorem sc_times : FnScope ["one", "other"] ["one", "other"] (defScope st_times) := ⟨rfl, rfl, rfl, by decide +kernel, rfl, by decide +kernel, by decide +kernel⟩
def c_times : Cc := { N := ["one", "other"], sc := defScope st_times, top := true, forms := [⟨"lowest", 2, []⟩], consts := [], blts := [], imps := [] }
theorem m_times : mSs ir_times c_times (defBody st_times) = true := by decide +kernel
abbrev st_is_given : Stmt := topS 14
theorem sc_is_given : FnScope ["value"] ["value"] (defScope st_is_given) := ⟨rfl, rfl, rfl, by decide +kernel, rfl, by decide +kernel, by decide +kernel⟩
def c_is_given : Cc := { N := ["value"], sc := defScope st_is_given, top := true, forms := [⟨"is_between", 3, []⟩, ⟨"is_tuple_of", 2, []⟩], consts := ["MOST_NUMBER"], blts := [], imps := ["gcd"] }
theorem m_is_given : mSs ir_is_given c_is_given (defBody st_is_given) = true := by decide +kernel
abbrev st_is_above : Stmt := topS 15
theorem sc_is_above : FnScope ["value"] ["value"] (defScope st_is_above) := ⟨rfl, rfl, rfl, by decide +kernel, rfl, by decide +kernel, by decide +kernel⟩
def c_is_above : Cc := { N := ["value"], sc := defScope st_is_above, top := true, forms := [⟨"is_given", 1, []⟩], consts := [], blts := [], imps := [] }
theorem m_is_above : mSs ir_is_above c_is_above (defBody st_is_above) = true := by decide +kernel
abbrev st_is_part : Stmt := topS 17
theorem sc_is_part : FnScope ["value"] ["value"] (defScope st_is_part) := ⟨rfl, rfl, rfl, by decide +kernel, rfl, by decide +kernel, by decide +kernel⟩
def c_is_part : Cc := { N := ["value"], sc := defScope st_is_part, top := true, forms := [⟨"is_above", 1, []⟩], consts := [], blts := [], imps := [] }
theorem m_is_part : mSs ir_is_part c_is_part (defBody st_is_part) = true := by decide +kernel
abbrev st_ceiling_of : Stmt := topS 18
theorem sc_ceiling_of : FnScope ["fraction"] ["fraction"] (defScope st_ceiling_of) := ⟨rfl, rfl, rfl, by decide +kernel, rfl, by decide +kernel, by decide +kernel⟩
def c_ceiling_of : Cc := { N := ["fraction"], sc := defScope st_ceiling_of, top := true, forms := [], consts := [], blts := [], imps := [] }
theorem m_ceiling_of : mSs ir_ceiling_of c_ceiling_of (defBody st_ceiling_of) = true := by decide +kernel
abbrev st_steps_by : Stmt := topS 19
theorem sc_steps_by : FnScope ["fraction", "found", "left"] ["fraction"] (defScope st_steps_by) := ⟨rfl, rfl, rfl, by decide +kernel, rfl, by decide +kernel, by decide +kernel⟩
def c_steps_by : Cc := { N := ["fraction", "found", "left"], sc := defScope st_steps_by, top := true, forms := [⟨"ceiling_of", 1, []⟩, ⟨"less_by", 2, []⟩, ⟨"times", 2, []⟩], consts := ["ONE"], blts := ["tuple"], imps := [] }
theorem m_steps_by : mSs ir_steps_by c_steps_by (defBody st_steps_by) = true := by decide +kernel
abbrev st_swings_by : Stmt := topS 20
theorem sc_swings_by : FnScope ["fraction", "found", "left"] ["fraction"] (defScope st_swings_by) := ⟨rfl, rfl, rfl, by decide +kernel, rfl, by decide +kernel, by decide +kernel⟩
def c_swings_by : Cc := { N := ["fraction", "found", "left"], sc := defScope st_swings_by, top := true, forms := [⟨"less_by", 2, []⟩, ⟨"times", 2, []⟩], consts := ["ONE"], blts := ["tuple"], imps := [] }
theorem m_swings_by : mSs ir_swings_by c_swings_by (defBody st_swings_by) = true := by decide +kernel
abbrev st_check_part : Stmt := topS 21
theorem sc_check_part : FnScope ["fraction"] ["fraction"] (defScope st_check_part) := ⟨rfl, rfl, rfl, by decide +kernel, rfl, by decide +kernel, by decide +kernel⟩
def c_check_part : Cc := { N := ["fraction"], sc := defScope st_check_part, top := true, forms := [⟨"is_part", 1, []⟩], consts := [], blts := [], imps := [] }
theorem m_check_part : mSs ir_check_part c_check_part (defBody st_check_part) = true := by decide +kernel
abbrev st_steps : Stmt := topS 22
theorem sc_steps : FnScope ["fraction"] ["fraction"] (defScope st_steps) := ⟨rfl, rfl, rfl, by decide +kernel, rfl, by decide +kernel, by decide +kernel⟩
def c_steps : Cc := { N := ["fraction"], sc := defScope st_steps, top := true, forms := [⟨"check_part", 1, []⟩, ⟨"steps_by", 1, []⟩], consts := [], blts := [], imps := [] }
theorem m_steps : mSs ir_steps c_steps (defBody st_steps) = true := by decide +kernel
abbrev st_swings : Stmt := topS 23
theorem sc_swings : FnScope ["fraction"] ["fraction"] (defScope st_swings) := ⟨rfl, rfl, rfl, by decide +kernel, rfl, by decide +kernel, by decide +kernel⟩
def c_swings : Cc := { N := ["fraction"], sc := defScope st_swings, top := true, forms := [⟨"check_part", 1, []⟩, ⟨"swings_by", 1, []⟩], consts := [], blts := [], imps := [] }
theorem m_swings : mSs ir_swings c_swings (defBody st_swings) = true := by decide +kernel
abbrev st_law_pool : Stmt := topS 25
theorem sc_law_pool : FnScope ["script", "k", "wide", "each", "cell", "mixed"] ["script", "k"] (defScope st_law_pool) := ⟨rfl, rfl, rfl, by decide +kernel, rfl, by decide +kernel, by decide +kernel⟩
def c_law_pool : Cc := { N := ["script", "k", "wide", "each", "cell", "mixed"], sc := defScope st_law_pool, top := true, forms := [], consts := [], blts := ["sum", "abs"], imps := [] }
theorem m_law_pool : mSs ir_law_pool c_law_pool (defBody st_law_pool) = true := by decide +kernel
abbrev st_law_take : Stmt := topS 26
theorem sc_law_take : FnScope ["pool", "many", "stirred", "digit"] ["pool", "many"] (defScope st_law_take) := ⟨rfl, rfl, rfl, by decide +kernel, rfl, by decide +kernel, by decide +kernel⟩
def c_law_take : Cc := { N := ["pool", "many", "stirred", "digit"], sc := defScope st_law_take, top := true, forms := [], consts := [], blts := ["divmod"], imps := [] }
theorem m_law_take : mSs ir_law_take c_law_take (defBody st_law_take) = true := by decide +kernel
abbrev st_law_frac : Stmt := topS 28
theorem sc_law_frac : FnScope ["top", "low", "one", "two"] ["top", "low"] (defScope st_law_frac) := ⟨rfl, rfl, rfl, by decide +kernel, rfl, by decide +kernel, by decide +kernel⟩
def c_law_frac : Cc := { N := ["top", "low", "one", "two"], sc := defScope st_law_frac, top := true, forms := [], consts := [], blts := ["abs"], imps := [] }
theorem m_law_frac : mSs ir_law_frac c_law_frac (defBody st_law_frac) = true := by decide +kernel
abbrev st_law_small : Stmt := topS 29
theorem sc_law_small : FnScope ["pool", "most", "low"] ["pool", "most"] (defScope st_law_small) := ⟨rfl, rfl, rfl, by decide +kernel, rfl, by decide +kernel, by decide +kernel⟩
def c_law_small : Cc := { N := ["pool", "most", "low"], sc := defScope st_law_small, top := true, forms := [⟨"_law_take", 2, []⟩, ⟨"_law_frac", 2, []⟩], consts := [], blts := [], imps := [] }
theorem m_law_small : mSs ir_law_small c_law_small (defBody st_law_small) = true := by decide +kernel
abbrev st_law_right : Stmt := topS 30
theorem sc_law_right : FnScope ["pool", "most", "turn", "fraction", "top", "due", "k", "low", "whole", "sums", "j", "number", "sign"] ["pool", "most"] (defScope st_law_right) := ⟨rfl, rfl, rfl, by decide +kernel, rfl, by decide +kernel, by decide +kernel⟩
def c_law_right : Cc := { N := ["pool", "most", "turn", "fraction", "top", "due", "k", "low", "whole", "sums", "j", "number", "sign"], sc := defScope st_law_right, top := true, forms := [⟨"_law_small", 2, []⟩, ⟨"_law_frac", 2, []⟩, ⟨"swings", 1, []⟩, ⟨"steps", 1, []⟩, ⟨"swings", 0, ["fraction"]⟩, ⟨"steps", 0, ["fraction"]⟩], consts := [], blts := ["range", "tuple", "enumerate", "repr"], imps := [] }
theorem m_law_right : mSs ir_law_right c_law_right (defBody st_law_right) = true := by decide +kernel
abbrev st_law : Stmt := topS 31
theorem sc_law : FnScope ["script", "k", "pool", "most"] ["script"] (defScope st_law) := ⟨rfl, rfl, rfl, by decide +kernel, rfl, by decide +kernel, by decide +kernel⟩
def c_law : Cc := { N := ["script", "k", "pool", "most"], sc := defScope st_law, top := true, forms := [⟨"_law_pool", 2, []⟩, ⟨"_law_right", 2, []⟩], consts := [], blts := ["range", "max", "min", "len"], imps := [] }
theorem m_law : mSs ir_law c_law (defBody st_law) = true := by decide +kernel
structure Txt (K : PySem.W.Frag) (mg : Str → Option Value) where
  f0 : Addr
  e0 : FuncData
  F0 : Fun K "is_whole" "is_whole" st_is_whole f0 e0
  g0 : mg "is_whole" = some (.ref f0)
  b0 : ∀ (s : Shared) (us : List Value), us.length = 1 → BindsTo s e0 ⟨us, []⟩ ((["value"] : List Str).zip us)
  f1 : Addr
  e1 : FuncData
  F1 : Fun K "is_between" "is_between" st_is_between f1 e1
  g1 : mg "is_between" = some (.ref f1)
  b1 : ∀ (s : Shared) (us : List Value), us.length = 3 → BindsTo s e1 ⟨us, []⟩ ((["value", "least", "most"] : List Str).zip us)
  f2 : Addr
  e2 : FuncData
  F2 : Fun K "is_tuple_of" "is_tuple_of" st_is_tuple_of f2 e2
  g2 : mg "is_tuple_of" = some (.ref f2)
  b2 : ∀ (s : Shared) (us : List Value), us.length = 2 → BindsTo s e2 ⟨us, []⟩ ((["value", "many"] : List Str).zip us)
  f3 : Addr
  e3 : FuncData
  F3 : Fun K "lowest" "lowest" st_lowest f3 e3
  g3 : mg "lowest" = some (.ref f3)
  b3 : ∀ (s : Shared) (us : List Value), us.length = 2 → BindsTo s e3 ⟨us, []⟩ ((["over", "under"] : List Str).zip us)
  f4 : Addr
  e4 : FuncData
  F4 : Fun K "less_by" "less_by" st_less_by f4 e4
  g4 : mg "less_by" = some (.ref f4)
  b4 : ∀ (s : Shared) (us : List Value), us.length = 2 → BindsTo s e4 ⟨us, []⟩ ((["one", "other"] : List Str).zip us)
  f5 : Addr
  e5 : FuncData
  F5 : Fun K "times" "times" st_times f5 e5
  g5 : mg "times" = some (.ref f5)
  b5 : ∀ (s : Shared) (us : List Value), us.length = 2 → BindsTo s e5 ⟨us, []⟩ ((["one", "other"] : List Str).zip us)
  f6 : Addr
  e6 : FuncData
  F6 : Fun K "is_given" "is_given" st_is_given f6 e6
  g6 : mg "is_given" = some (.ref f6)
  b6 : ∀ (s : Shared) (us : List Value), us.length = 1 → BindsTo s e6 ⟨us, []⟩ ((["value"] : List Str).zip us)
  f7 : Addr
  e7 : FuncData
  F7 : Fun K "is_above" "is_above" st_is_above f7 e7
  g7 : mg "is_above" = some (.ref f7)
  b7 : ∀ (s : Shared) (us : List Value), us.length = 1 → BindsTo s e7 ⟨us, []⟩ ((["value"] : List Str).zip us)
  f8 : Addr
  e8 : FuncData
  F8 : Fun K "is_part" "is_part" st_is_part f8 e8
  g8 : mg "is_part" = some (.ref f8)
  b8 : ∀ (s : Shared) (us : List Value), us.length = 1 → BindsTo s e8 ⟨us, []⟩ ((["value"] : List Str).zip us)
  f9 : Addr
  e9 : FuncData
  F9 : Fun K "ceiling_of" "ceiling_of" st_ceiling_of f9 e9
  g9 : mg "ceiling_of" = some (.ref f9)
  b9 : ∀ (s : Shared) (us : List Value), us.length = 1 → BindsTo s e9 ⟨us, []⟩ ((["fraction"] : List Str).zip us)
  f10 : Addr
  e10 : FuncData
  F10 : Fun K "steps_by" "steps_by" st_steps_by f10 e10
  g10 : mg "steps_by" = some (.ref f10)
  b10 : ∀ (s : Shared) (us : List Value), us.length = 1 → BindsTo s e10 ⟨us, []⟩ ((["fraction"] : List Str).zip us)
  f11 : Addr
  e11 : FuncData
  F11 : Fun K "swings_by" "swings_by" st_swings_by f11 e11
  g11 : mg "swings_by" = some (.ref f11)
  b11 : ∀ (s : Shared) (us : List Value), us.length = 1 → BindsTo s e11 ⟨us, []⟩ ((["fraction"] : List Str).zip us)
  f12 : Addr
  e12 : FuncData
  F12 : Fun K "check_part" "check_part" st_check_part f12 e12
  g12 : mg "check_part" = some (.ref f12)
  b12 : ∀ (s : Shared) (us : List Value), us.length = 1 → BindsTo s e12 ⟨us, []⟩ ((["fraction"] : List Str).zip us)
  f13 : Addr
  e13 : FuncData
  F13 : Fun K "steps" "steps" st_steps f13 e13
  g13 : mg "steps" = some (.ref f13)
  b13 : ∀ (s : Shared) (us : List Value), us.length = 1 → BindsTo s e13 ⟨us, []⟩ ((["fraction"] : List Str).zip us)
  f14 : Addr
  e14 : FuncData
  F14 : Fun K "swings" "swings" st_swings f14 e14
  g14 : mg "swings" = some (.ref f14)
  b14 : ∀ (s : Shared) (us : List Value), us.length = 1 → BindsTo s e14 ⟨us, []⟩ ((["fraction"] : List Str).zip us)
  f15 : Addr
  e15 : FuncData
  F15 : Fun K "_law_pool" "_law_pool" st_law_pool f15 e15
  g15 : mg "_law_pool" = some (.ref f15)
  b15 : ∀ (s : Shared) (us : List Value), us.length = 2 → BindsTo s e15 ⟨us, []⟩ ((["script", "k"] : List Str).zip us)
  f16 : Addr
  e16 : FuncData
  F16 : Fun K "_law_take" "_law_take" st_law_take f16 e16
  g16 : mg "_law_take" = some (.ref f16)
  b16 : ∀ (s : Shared) (us : List Value), us.length = 2 → BindsTo s e16 ⟨us, []⟩ ((["pool", "many"] : List Str).zip us)
  f17 : Addr
  e17 : FuncData
  F17 : Fun K "_law_frac" "_law_frac" st_law_frac f17 e17
  g17 : mg "_law_frac" = some (.ref f17)
  b17 : ∀ (s : Shared) (us : List Value), us.length = 2 → BindsTo s e17 ⟨us, []⟩ ((["top", "low"] : List Str).zip us)
  f18 : Addr
  e18 : FuncData
  F18 : Fun K "_law_small" "_law_small" st_law_small f18 e18
  g18 : mg "_law_small" = some (.ref f18)
  b18 : ∀ (s : Shared) (us : List Value), us.length = 2 → BindsTo s e18 ⟨us, []⟩ ((["pool", "most"] : List Str).zip us)
  f19 : Addr
  e19 : FuncData
  F19 : Fun K "_law_right" "_law_right" st_law_right f19 e19
  g19 : mg "_law_right" = some (.ref f19)
  b19 : ∀ (s : Shared) (us : List Value), us.length = 2 → BindsTo s e19 ⟨us, []⟩ ((["pool", "most"] : List Str).zip us)
  f20 : Addr
  e20 : FuncData
  F20 : Fun K "law" "law" st_law f20 e20
  g20 : mg "law" = some (.ref f20)
  b20 : ∀ (s : Shared) (us : List Value), us.length = 1 → BindsTo s e20 ⟨us, []⟩ ((["script"] : List Str).zip us)
  w0 : ∀ (s : Shared) (us ws : List Value), us.length = 0 → ws.length = 1 → BindsTo s e14 ⟨us, (["fraction"] : List Str).zip ws⟩ ((["fraction"] : List Str).zip (Fx.pick [0] (us ++ ws)))
  w1 : ∀ (s : Shared) (us ws : List Value), us.length = 0 → ws.length = 1 → BindsTo s e13 ⟨us, (["fraction"] : List Str).zip ws⟩ ((["fraction"] : List Str).zip (Fx.pick [0] (us ++ ws)))
  n_abs : mg "abs" = none
  n_bool : mg "bool" = none
  n_divmod : mg "divmod" = none
  n_enumerate : mg "enumerate" = none
  n_int : mg "int" = none
  n_isinstance : mg "isinstance" = none
  n_len : mg "len" = none
  n_max : mg "max" = none
  n_min : mg "min" = none
  n_range : mg "range" = none
  n_repr : mg "repr" = none
  n_sum : mg "sum" = none
  n_tuple : mg "tuple" = none
  i_gcd : mg "gcd" = some (Blt.gcd).fn
  v_ONE : ∃ u v, mg "ONE" = some u ∧ RelV v u ∧ ∀ H, Rep K H k_ONE v
  v_MOST_NUMBER : ∃ u v, mg "MOST_NUMBER" = some u ∧ RelV v u ∧ ∀ H, Rep K H k_MOST_NUMBER v
section
variable {P : Program} {w : World} {K : PySem.W.Frag} {mg : Str → Option Value} {base : Heap} {Cl : Nat → Addr × Str}
theorem ok_is_whole (Z : Txt K mg) : FnG P w K mg base 1 Z.f0 Z.e0 ["value"] (spD K Cl 1 d_is_whole) := by
  refine def_ok (T := T_is_whole) (C := C_is_whole) (c := c_is_whole) (k := 0) ir_is_whole Z.F0 sc_is_whole rfl rfl m_is_whole ⟨?_, ?_, ?_, ?_⟩ body_is_whole
  · intro A hr j f h
    exact nomatch h
  · intro j x h
    exact nomatch h
  · intro x h
    have h' : x ∈ (["isinstance", "bool", "int"] : List Str) := by simpa [c_is_whole] using h
    simp only [List.mem_cons, List.not_mem_nil, or_false] at h'
    rcases h' with rfl | rfl | rfl
    · exact Z.n_isinstance
    · exact Z.n_bool
    · exact Z.n_int
  · intro b hb h
    cases b <;> first | (cases hb; done) | skip
    exact absurd h (by decide +kernel)
theorem ok_is_tuple_of (Z : Txt K mg) : FnG P w K mg base 1 Z.f2 Z.e2 ["value", "many"] (spD K Cl 2 d_is_tuple_of) := by
  refine def_ok (T := T_is_tuple_of) (C := C_is_tuple_of) (c := c_is_tuple_of) (k := 0) ir_is_tuple_of Z.F2 sc_is_tuple_of rfl rfl m_is_tuple_of ⟨?_, ?_, ?_, ?_⟩ body_is_tuple_of
  · intro A hr j f h
    exact nomatch h
  · intro j x h
    exact nomatch h
  · intro x h
    have h' : x ∈ (["len", "isinstance", "tuple"] : List Str) := by simpa [c_is_tuple_of] using h
    simp only [List.mem_cons, List.not_mem_nil, or_false] at h'
    rcases h' with rfl | rfl | rfl
    · exact Z.n_len
    · exact Z.n_isinstance
    · exact Z.n_tuple
  · intro b hb h
    cases b <;> first | (cases hb; done) | skip
    exact absurd h (by decide +kernel)
theorem ok_lowest (Z : Txt K mg) : FnG P w K mg base 1 Z.f3 Z.e3 ["over", "under"] (spD K Cl 2 d_lowest) := by
  refine def_ok (T := T_lowest) (C := C_lowest) (c := c_lowest) (k := 0) ir_lowest Z.F3 sc_lowest rfl rfl m_lowest ⟨?_, ?_, ?_, ?_⟩ body_lowest
  · intro A hr j f h
    exact nomatch h
  · intro j x h
    exact nomatch h
  · intro x h
    have h' : x ∈ ([] : List Str) := by simpa [c_lowest] using h
    simp at h'
  · intro b hb h
    cases b <;> first | (cases hb; done) | skip
    exact Z.i_gcd
theorem ok_ceiling_of (Z : Txt K mg) : FnG P w K mg base 1 Z.f9 Z.e9 ["fraction"] (spD K Cl 1 d_ceiling_of) := by
  refine def_ok (T := T_ceiling_of) (C := C_ceiling_of) (c := c_ceiling_of) (k := 0) ir_ceiling_of Z.F9 sc_ceiling_of rfl rfl m_ceiling_of ⟨?_, ?_, ?_, ?_⟩ body_ceiling_of
  · intro A hr j f h
    exact nomatch h
  · intro j x h
    exact nomatch h
  · intro x h
    have h' : x ∈ ([] : List Str) := by simpa [c_ceiling_of] using h
    simp at h'
  · intro b hb h
    cases b <;> first | (cases hb; done) | skip
    exact absurd h (by decide +kernel)
theorem ok_law_pool (Z : Txt K mg) : FnG P w K mg base 1 Z.f15 Z.e15 ["script", "k"] (spD K Cl 2 d_law_pool) := by
  refine def_ok (T := T_law_pool) (C := C_law_pool) (c := c_law_pool) (k := 0) ir_law_pool Z.F15 sc_law_pool rfl rfl m_law_pool ⟨?_, ?_, ?_, ?_⟩ body_law_pool
  · intro A hr j f h
    exact nomatch h
  · intro j x h
    exact nomatch h
  · intro x h
    have h' : x ∈ (["sum", "abs"] : List Str) := by simpa [c_law_pool] using h
    simp only [List.mem_cons, List.not_mem_nil, or_false] at h'
    rcases h' with rfl | rfl
    · exact Z.n_sum
    · exact Z.n_abs
  · intro b hb h
    cases b <;> first | (cases hb; done) | skip
    exact absurd h (by decide +kernel)
theorem ok_law_take (Z : Txt K mg) : FnG P w K mg base 1 Z.f16 Z.e16 ["pool", "many"] (spD K Cl 2 d_law_take) := by
  refine def_ok (T := T_law_take) (C := C_law_take) (c := c_law_take) (k := 0) ir_law_take Z.F16 sc_law_take rfl rfl m_law_take ⟨?_, ?_, ?_, ?_⟩ body_law_take
  · intro A hr j f h
    exact nomatch h
  · intro j x h
    exact nomatch h
  · intro x h
    have h' : x ∈ (["divmod"] : List Str) := by simpa [c_law_take] using h
    simp only [List.mem_cons, List.not_mem_nil, or_false] at h'
    rcases h' with rfl
    · exact Z.n_divmod
  · intro b hb h
    cases b <;> first | (cases hb; done) | skip
    exact absurd h (by decide +kernel)
theorem ok_law_frac (Z : Txt K mg) : FnG P w K mg base 1 Z.f17 Z.e17 ["top", "low"] (spD K Cl 2 d_law_frac) := by
  refine def_ok (T := T_law_frac) (C := C_law_frac) (c := c_law_frac) (k := 0) ir_law_frac Z.F17 sc_law_frac rfl rfl m_law_frac ⟨?_, ?_, ?_, ?_⟩ body_law_frac
  · intro A hr j f h
    exact nomatch h
  · intro j x h
    exact nomatch h
  · intro x h
    have h' : x ∈ (["abs"] : List Str) := by simpa [c_law_frac] using h
    simp only [List.mem_cons, List.not_mem_nil, or_false] at h'
    rcases h' with rfl
    · exact Z.n_abs
  · intro b hb h
    cases b <;> first | (cases hb; done) | skip
    exact absurd h (by decide +kernel)
theorem ok_is_between (Z : Txt K mg) : FnG P w K mg base 2 Z.f1 Z.e1 ["value", "least", "most"] (spD K Cl 3 d_is_between) := by
  refine def_ok (T := T_is_between) (C := C_is_between) (c := c_is_between) (k := 1) ir_is_between Z.F1 sc_is_between rfl rfl m_is_between ⟨?_, ?_, ?_, ?_⟩ body_is_between
  · intro A hr j f h
    match j, h with
    | 0, rfl => exact call_pos (ok_is_whole Z) Z.g0 Z.F0.kp hr (by decide) rfl Z.b0
    | _ + 1, h => exact nomatch h
  · intro j x h
    exact nomatch h
  · intro x h
    have h' : x ∈ ([] : List Str) := by simpa [c_is_between] using h
    simp at h'
  · intro b hb h
    cases b <;> first | (cases hb; done) | skip
    exact absurd h (by decide +kernel)
theorem ok_less_by (Z : Txt K mg) : FnG P w K mg base 2 Z.f4 Z.e4 ["one", "other"] (spD K Cl 2 d_less_by) := by
  refine def_ok (T := T_less_by) (C := C_less_by) (c := c_less_by) (k := 1) ir_less_by Z.F4 sc_less_by rfl rfl m_less_by ⟨?_, ?_, ?_, ?_⟩ body_less_by
  · intro A hr j f h
    match j, h with
    | 0, rfl => exact call_pos (ok_lowest Z) Z.g3 Z.F3.kp hr (by decide) rfl Z.b3
    | _ + 1, h => exact nomatch h
  · intro j x h
    exact nomatch h
  · intro x h
    have h' : x ∈ ([] : List Str) := by simpa [c_less_by] using h
    simp at h'
  · intro b hb h
    cases b <;> first | (cases hb; done) | skip
    exact absurd h (by decide +kernel)
theorem ok_times (Z : Txt K mg) : FnG P w K mg base 2 Z.f5 Z.e5 ["one", "other"] (spD K Cl 2 d_times) := by
  refine def_ok (T := T_times) (C := C_times) (c := c_times) (k := 1) ir_times Z.F5 sc_times rfl rfl m_times ⟨?_, ?_, ?_, ?_⟩ body_times
  · intro A hr j f h
    match j, h with
    | 0, rfl => exact call_pos (ok_lowest Z) Z.g3 Z.F3.kp hr (by decide) rfl Z.b3
    | _ + 1, h => exact nomatch h
  · intro j x h
    exact nomatch h
  · intro x h
    have h' : x ∈ ([] : List Str) := by simpa [c_times] using h
    simp at h'
  · intro b hb h
    cases b <;> first | (cases hb; done) | skip
    exact absurd h (by decide +kernel)
theorem ok_law_small (Z : Txt K mg) : FnG P w K mg base 2 Z.f18 Z.e18 ["pool", "most"] (spD K Cl 2 d_law_small) := by
  refine def_ok (T := T_law_small) (C := C_law_small) (c := c_law_small) (k := 1) ir_law_small Z.F18 sc_law_small rfl rfl m_law_small ⟨?_, ?_, ?_, ?_⟩ body_law_small
  · intro A hr j f h
    match j, h with
    | 0, rfl => exact call_pos (ok_law_take Z) Z.g16 Z.F16.kp hr (by decide) rfl Z.b16
    | 1, rfl => exact call_pos (ok_law_frac Z) Z.g17 Z.F17.kp hr (by decide) rfl Z.b17
    | _ + 2, h => exact nomatch h
  · intro j x h
    exact nomatch h
  · intro x h
    have h' : x ∈ ([] : List Str) := by simpa [c_law_small] using h
    simp at h'
  · intro b hb h
    cases b <;> first | (cases hb; done) | skip
    exact absurd h (by decide +kernel)
theorem ok_is_given (Z : Txt K mg) : FnG P w K mg base 3 Z.f6 Z.e6 ["value"] (spD K Cl 1 d_is_given) := by
  refine def_ok (T := T_is_given) (C := C_is_given) (c := c_is_given) (k := 2) ir_is_given Z.F6 sc_is_given rfl rfl m_is_given ⟨?_, ?_, ?_, ?_⟩ body_is_given
  · intro A hr j f h
    match j, h with
    | 0, rfl => exact call_pos (ok_is_between Z) Z.g1 Z.F1.kp hr (by decide) rfl Z.b1
    | 1, rfl => exact call_pos (ok_is_tuple_of Z) Z.g2 Z.F2.kp hr (by decide) rfl Z.b2
    | _ + 2, h => exact nomatch h
  · intro j x h
    match j, h with
    | 0, rfl => exact Z.v_MOST_NUMBER
    | _ + 1, h => exact nomatch h
  · intro x h
    have h' : x ∈ ([] : List Str) := by simpa [c_is_given] using h
    simp at h'
  · intro b hb h
    cases b <;> first | (cases hb; done) | skip
    exact Z.i_gcd
theorem ok_steps_by (Z : Txt K mg) : FnG P w K mg base 3 Z.f10 Z.e10 ["fraction"] (spD K Cl 1 d_steps_by) := by
  refine def_ok (T := T_steps_by) (C := C_steps_by) (c := c_steps_by) (k := 2) ir_steps_by Z.F10 sc_steps_by rfl rfl m_steps_by ⟨?_, ?_, ?_, ?_⟩ body_steps_by
  · intro A hr j f h
    match j, h with
    | 0, rfl => exact call_pos (ok_ceiling_of Z) Z.g9 Z.F9.kp hr (by decide) rfl Z.b9
    | 1, rfl => exact call_pos (ok_less_by Z) Z.g4 Z.F4.kp hr (by decide) rfl Z.b4
    | 2, rfl => exact call_pos (ok_times Z) Z.g5 Z.F5.kp hr (by decide) rfl Z.b5
    | _ + 3, h => exact nomatch h
  · intro j x h
    match j, h with
    | 0, rfl => exact Z.v_ONE
    | _ + 1, h => exact nomatch h
  · intro x h
    have h' : x ∈ (["tuple"] : List Str) := by simpa [c_steps_by] using h
    simp only [List.mem_cons, List.not_mem_nil, or_false] at h'
    rcases h' with rfl
    · exact Z.n_tuple
  · intro b hb h
    cases b <;> first | (cases hb; done) | skip
    exact absurd h (by decide +kernel)
theorem ok_swings_by (Z : Txt K mg) : FnG P w K mg base 3 Z.f11 Z.e11 ["fraction"] (spD K Cl 1 d_swings_by) := by
  refine def_ok (T := T_swings_by) (C := C_swings_by) (c := c_swings_by) (k := 2) ir_swings_by Z.F11 sc_swings_by rfl rfl m_swings_by ⟨?_, ?_, ?_, ?_⟩ body_swings_by
  · intro A hr j f h
    match j, h with
    | 0, rfl => exact call_pos (ok_less_by Z) Z.g4 Z.F4.kp hr (by decide) rfl Z.b4
    | 1, rfl => exact call_pos (ok_times Z) Z.g5 Z.F5.kp hr (by decide) rfl Z.b5
    | _ + 2, h => exact nomatch h
  · intro j x h
    match j, h with
    | 0, rfl => exact Z.v_ONE
    | _ + 1, h => exact nomatch h
  · intro x h
    have h' : x ∈ (["tuple"] : List Str) := by simpa [c_swings_by] using h
    simp only [List.mem_cons, List.not_mem_nil, or_false] at h'
    rcases h' with rfl
    · exact Z.n_tuple
  · intro b hb h
    cases b <;> first | (cases hb; done) | skip
    exact absurd h (by decide +kernel)
theorem ok_is_above (Z : Txt K mg) : FnG P w K mg base 4 Z.f7 Z.e7 ["value"] (spD K Cl 1 d_is_above) := by
  refine def_ok (T := T_is_above) (C := C_is_above) (c := c_is_above) (k := 3) ir_is_above Z.F7 sc_is_above rfl rfl m_is_above ⟨?_, ?_, ?_, ?_⟩ body_is_above
  · intro A hr j f h
    match j, h with
    | 0, rfl => exact call_pos (ok_is_given Z) Z.g6 Z.F6.kp hr (by decide) rfl Z.b6
    | _ + 1, h => exact nomatch h
  · intro j x h
    exact nomatch h
  · intro x h
    have h' : x ∈ ([] : List Str) := by simpa [c_is_above] using h
    simp at h'
  · intro b hb h
    cases b <;> first | (cases hb; done) | skip
    exact absurd h (by decide +kernel)
theorem ok_is_part (Z : Txt K mg) : FnG P w K mg base 5 Z.f8 Z.e8 ["value"] (spD K Cl 1 d_is_part) := by
  refine def_ok (T := T_is_part) (C := C_is_part) (c := c_is_part) (k := 4) ir_is_part Z.F8 sc_is_part rfl rfl m_is_part ⟨?_, ?_, ?_, ?_⟩ body_is_part
  · intro A hr j f h
    match j, h with
    | 0, rfl => exact call_pos (ok_is_above Z) Z.g7 Z.F7.kp hr (by decide) rfl Z.b7
    | _ + 1, h => exact nomatch h
  · intro j x h
    exact nomatch h
  · intro x h
    have h' : x ∈ ([] : List Str) := by simpa [c_is_part] using h
    simp at h'
  · intro b hb h
    cases b <;> first | (cases hb; done) | skip
    exact absurd h (by decide +kernel)
theorem ok_check_part (Z : Txt K mg) : FnG P w K mg base 6 Z.f12 Z.e12 ["fraction"] (spD K Cl 1 d_check_part) := by
  refine def_ok (T := T_check_part) (C := C_check_part) (c := c_check_part) (k := 5) ir_check_part Z.F12 sc_check_part rfl rfl m_check_part ⟨?_, ?_, ?_, ?_⟩ body_check_part
  · intro A hr j f h
    match j, h with
    | 0, rfl => exact call_pos (ok_is_part Z) Z.g8 Z.F8.kp hr (by decide) rfl Z.b8
    | _ + 1, h => exact nomatch h
  · intro j x h
    exact nomatch h
  · intro x h
    have h' : x ∈ ([] : List Str) := by simpa [c_check_part] using h
    simp at h'
  · intro b hb h
    cases b <;> first | (cases hb; done) | skip
    exact absurd h (by decide +kernel)
theorem ok_steps (Z : Txt K mg) : FnG P w K mg base 7 Z.f13 Z.e13 ["fraction"] (spD K Cl 1 d_steps) := by
  refine def_ok (T := T_steps) (C := C_steps) (c := c_steps) (k := 6) ir_steps Z.F13 sc_steps rfl rfl m_steps ⟨?_, ?_, ?_, ?_⟩ body_steps
  · intro A hr j f h
    match j, h with
    | 0, rfl => exact call_pos (ok_check_part Z) Z.g12 Z.F12.kp hr (by decide) rfl Z.b12
    | 1, rfl => exact call_pos (ok_steps_by Z) Z.g10 Z.F10.kp hr (by decide) rfl Z.b10
    | _ + 2, h => exact nomatch h
  · intro j x h
    exact nomatch h
  · intro x h
    have h' : x ∈ ([] : List Str) := by simpa [c_steps] using h
    simp at h'
  · intro b hb h
    cases b <;> first | (cases hb; done) | skip
    exact absurd h (by decide +kernel)
theorem ok_swings (Z : Txt K mg) : FnG P w K mg base 7 Z.f14 Z.e14 ["fraction"] (spD K Cl 1 d_swings) := by
  refine def_ok (T := T_swings) (C := C_swings) (c := c_swings) (k := 6) ir_swings Z.F14 sc_swings rfl rfl m_swings ⟨?_, ?_, ?_, ?_⟩ body_swings
  · intro A hr j f h
    match j, h with
    | 0, rfl => exact call_pos (ok_check_part Z) Z.g12 Z.F12.kp hr (by decide) rfl Z.b12
    | 1, rfl => exact call_pos (ok_swings_by Z) Z.g11 Z.F11.kp hr (by decide) rfl Z.b11
    | _ + 2, h => exact nomatch h
  · intro j x h
    exact nomatch h
  · intro x h
    have h' : x ∈ ([] : List Str) := by simpa [c_swings] using h
    simp at h'
  · intro b hb h
    cases b <;> first | (cases hb; done) | skip
    exact absurd h (by decide +kernel)
theorem ok_law_right (Z : Txt K mg) : FnG P w K mg base 8 Z.f19 Z.e19 ["pool", "most"] (spD K Cl 2 d_law_right) := by
  refine def_ok (T := T_law_right) (C := C_law_right) (c := c_law_right) (k := 7) ir_law_right Z.F19 sc_law_right rfl rfl m_law_right ⟨?_, ?_, ?_, ?_⟩ body_law_right
  · intro A hr j f h
    match j, h with
    | 0, rfl => exact call_pos (ok_law_small Z) Z.g18 Z.F18.kp hr (by decide) rfl Z.b18
    | 1, rfl => exact call_pos (ok_law_frac Z) Z.g17 Z.F17.kp hr (by decide) rfl Z.b17
    | 2, rfl => exact call_pos (ok_swings Z) Z.g14 Z.F14.kp hr (by decide) rfl Z.b14
    | 3, rfl => exact call_pos (ok_steps Z) Z.g13 Z.F13.kp hr (by decide) rfl Z.b13
    | 4, rfl => exact call_kw (pm := [0]) (ok_swings Z) Z.g14 Z.F14.kp hr (by decide) (by decide) rfl Z.w0
    | 5, rfl => exact call_kw (pm := [0]) (ok_steps Z) Z.g13 Z.F13.kp hr (by decide) (by decide) rfl Z.w1
    | _ + 6, h => exact nomatch h
  · intro j x h
    exact nomatch h
  · intro x h
    have h' : x ∈ (["range", "tuple", "enumerate", "repr"] : List Str) := by simpa [c_law_right] using h
    simp only [List.mem_cons, List.not_mem_nil, or_false] at h'
    rcases h' with rfl | rfl | rfl | rfl
    · exact Z.n_range
    · exact Z.n_tuple
    · exact Z.n_enumerate
    · exact Z.n_repr
  · intro b hb h
    cases b <;> first | (cases hb; done) | skip
    exact absurd h (by decide +kernel)
theorem ok_law (Z : Txt K mg) : FnG P w K mg base 9 Z.f20 Z.e20 ["script"] (spD K Cl 1 d_law) := by
  refine def_ok (T := T_law) (C := C_law) (c := c_law) (k := 8) ir_law Z.F20 sc_law rfl rfl m_law ⟨?_, ?_, ?_, ?_⟩ body_law
  · intro A hr j f h
    match j, h with
    | 0, rfl => exact call_pos (ok_law_pool Z) Z.g15 Z.F15.kp hr (by decide) rfl Z.b15
    | 1, rfl => exact call_pos (ok_law_right Z) Z.g19 Z.F19.kp hr (by decide) rfl Z.b19
    | _ + 2, h => exact nomatch h
  · intro j x h
    exact nomatch h
  · intro x h
    have h' : x ∈ (["range", "max", "min", "len"] : List Str) := by simpa [c_law] using h
    simp only [List.mem_cons, List.not_mem_nil, or_false] at h'
    rcases h' with rfl | rfl | rfl | rfl
    · exact Z.n_range
    · exact Z.n_max
    · exact Z.n_min
    · exact Z.n_len
  · intro b hb h
    cases b <;> first | (cases hb; done) | skip
    exact absurd h (by decide +kernel)
end
theorem all_mk {P : Program} {w : World} {K : PySem.W.Frag} {h : Heap} {mg : Str → Option Value} {fa : Addr} (X : K.In h) (G : h.Ns mainGlobals mg) (hfa : mg "law" = some (.ref fa))
    {f0 f1 f2 f3 f4 f5 f6 f7 f8 f9 f10 f11 f12 f13 f14 f15 f16 f17 f18 f19 f20 : Addr} {od0 an0 od1 an1 od2 an2 od3 an3 od4 an4 od5 an5 od6 an6 od7 an7 od8 an8 od9 an9 od10 an10 od11 an11 od12 an12 od13 an13 od14 an14 od15 an15 od16 an16 od17 an17 od18 an18 od19 an19 od20 an20 : Option Addr} {sl0 sl1 sl2 sl3 sl4 sl5 sl6 sl7 sl8 sl9 sl10 sl11 sl12 sl13 sl14 sl15 sl16 sl17 sl18 sl19 sl20 : Array (Option Value)} {oc0 kV0 dc0 pm0 cd0 ct0 oc1 kV1 dc1 pm1 cd1 ct1 oc2 kV2 dc2 pm2 cd2 ct2 oc3 kV3 dc3 pm3 cd3 ct3 oc4 kV4 dc4 pm4 cd4 ct4 oc5 kV5 dc5 pm5 cd5 ct5 oc6 kV6 dc6 pm6 cd6 ct6 oc7 kV7 dc7 pm7 cd7 ct7 oc8 kV8 dc8 pm8 cd8 ct8 oc9 kV9 dc9 pm9 cd9 ct9 oc10 kV10 dc10 pm10 cd10 ct10 oc11 kV11 dc11 pm11 cd11 ct11 oc12 kV12 dc12 pm12 cd12 ct12 oc13 kV13 dc13 pm13 cd13 ct13 oc14 kV14 dc14 pm14 cd14 ct14 oc15 kV15 dc15 pm15 cd15 ct15 oc16 kV16 dc16 pm16 cd16 ct16 oc17 kV17 dc17 pm17 cd17 ct17 oc18 kV18 dc18 pm18 cd18 ct18 oc19 kV19 dc19 pm19 cd19 ct19 oc20 kV20 dc20 pm20 cd20 ct20 : Value}
    {ad_ONE : Addr} {od_ONE : Option Addr} {nn_ONE : Nat} {ps_ONE : Array (Option Value)} {tk0_ONE tk1_ONE : Tok}
    {tk_MOST_NUMBER : Tok}
    (a0 : PySem.W.nsIn K mainGlobals "is_whole" = some (some (.ref f0))) (l0 : K.lookup f0 = some ⟨oc0, od0, .func (PySem.W.fnOf "is_whole" "is_whole" (defArgs st_is_whole) (defBody st_is_whole) (defScope st_is_whole) .none kV0 dc0 pm0 an0 cd0 ct0), sl0⟩) (c0 : PySem.W.codeIn K cd0 "is_whole" = true) (k0 : PySem.W.keepIn K (.ref f0) = true)
    (a1 : PySem.W.nsIn K mainGlobals "is_between" = some (some (.ref f1))) (l1 : K.lookup f1 = some ⟨oc1, od1, .func (PySem.W.fnOf "is_between" "is_between" (defArgs st_is_between) (defBody st_is_between) (defScope st_is_between) .none kV1 dc1 pm1 an1 cd1 ct1), sl1⟩) (c1 : PySem.W.codeIn K cd1 "is_between" = true) (k1 : PySem.W.keepIn K (.ref f1) = true)
    (a2 : PySem.W.nsIn K mainGlobals "is_tuple_of" = some (some (.ref f2))) (l2 : K.lookup f2 = some ⟨oc2, od2, .func (PySem.W.fnOf "is_tuple_of" "is_tuple_of" (defArgs st_is_tuple_of) (defBody st_is_tuple_of) (defScope st_is_tuple_of) .none kV2 dc2 pm2 an2 cd2 ct2), sl2⟩) (c2 : PySem.W.codeIn K cd2 "is_tuple_of" = true) (k2 : PySem.W.keepIn K (.ref f2) = true)
    (a3 : PySem.W.nsIn K mainGlobals "lowest" = some (some (.ref f3))) (l3 : K.lookup f3 = some ⟨oc3, od3, .func (PySem.W.fnOf "lowest" "lowest" (defArgs st_lowest) (defBody st_lowest) (defScope st_lowest) .none kV3 dc3 pm3 an3 cd3 ct3), sl3⟩) (c3 : PySem.W.codeIn K cd3 "lowest" = true) (k3 : PySem.W.keepIn K (.ref f3) = true)
    (a4 : PySem.W.nsIn K mainGlobals "less_by" = some (some (.ref f4))) (l4 : K.lookup f4 = some ⟨oc4, od4, .func (PySem.W.fnOf "less_by" "less_by" (defArgs st_less_by) (defBody st_less_by) (defScope st_less_by) .none kV4 dc4 pm4 an4 cd4 ct4), sl4⟩) (c4 : PySem.W.codeIn K cd4 "less_by" = true) (k4 : PySem.W.keepIn K (.ref f4) = true)
    (a5 : PySem.W.nsIn K mainGlobals "times" = some (some (.ref f5))) (l5 : K.lookup f5 = some ⟨oc5, od5, .func (PySem.W.fnOf "times" "times" (defArgs st_times) (defBody st_times) (defScope st_times) .none kV5 dc5 pm5 an5 cd5 ct5), sl5⟩) (c5 : PySem.W.codeIn K cd5 "times" = true) (k5 : PySem.W.keepIn K (.ref f5) = true)
    (a6 : PySem.W.nsIn K mainGlobals "is_given" = some (some (.ref f6))) (l6 : K.lookup f6 = some ⟨oc6, od6, .func (PySem.W.fnOf "is_given" "is_given" (defArgs st_is_given) (defBody st_is_given) (defScope st_is_given) .none kV6 dc6 pm6 an6 cd6 ct6), sl6⟩) (c6 : PySem.W.codeIn K cd6 "is_given" = true) (k6 : PySem.W.keepIn K (.ref f6) = true)
    (a7 : PySem.W.nsIn K mainGlobals "is_above" = some (some (.ref f7))) (l7 : K.lookup f7 = some ⟨oc7, od7, .func (PySem.W.fnOf "is_above" "is_above" (defArgs st_is_above) (defBody st_is_above) (defScope st_is_above) .none kV7 dc7 pm7 an7 cd7 ct7), sl7⟩) (c7 : PySem.W.codeIn K cd7 "is_above" = true) (k7 : PySem.W.keepIn K (.ref f7) = true)
    (a8 : PySem.W.nsIn K mainGlobals "is_part" = some (some (.ref f8))) (l8 : K.lookup f8 = some ⟨oc8, od8, .func (PySem.W.fnOf "is_part" "is_part" (defArgs st_is_part) (defBody st_is_part) (defScope st_is_part) .none kV8 dc8 pm8 an8 cd8 ct8), sl8⟩) (c8 : PySem.W.codeIn K cd8 "is_part" = true) (k8 : PySem.W.keepIn K (.ref f8) = true)
    (a9 : PySem.W.nsIn K mainGlobals "ceiling_of" = some (some (.ref f9))) (l9 : K.lookup f9 = some ⟨oc9, od9, .func (PySem.W.fnOf "ceiling_of" "ceiling_of" (defArgs st_ceiling_of) (defBody st_ceiling_of) (defScope st_ceiling_of) .none kV9 dc9 pm9 an9 cd9 ct9), sl9⟩) (c9 : PySem.W.codeIn K cd9 "ceiling_of" = true) (k9 : PySem.W.keepIn K (.ref f9) = true)
    (a10 : PySem.W.nsIn K mainGlobals "steps_by" = some (some (.ref f10))) (l10 : K.lookup f10 = some ⟨oc10, od10, .func (PySem.W.fnOf "steps_by" "steps_by" (defArgs st_steps_by) (defBody st_steps_by) (defScope st_steps_by) .none kV10 dc10 pm10 an10 cd10 ct10), sl10⟩) (c10 : PySem.W.codeIn K cd10 "steps_by" = true) (k10 : PySem.W.keepIn K (.ref f10) = true)
    (a11 : PySem.W.nsIn K mainGlobals "swings_by" = some (some (.ref f11))) (l11 : K.lookup f11 = some ⟨oc11, od11, .func (PySem.W.fnOf "swings_by" "swings_by" (defArgs st_swings_by) (defBody st_swings_by) (defScope st_swings_by) .none kV11 dc11 pm11 an11 cd11 ct11), sl11⟩) (c11 : PySem.W.codeIn K cd11 "swings_by" = true) (k11 : PySem.W.keepIn K (.ref f11) = true)
    (a12 : PySem.W.nsIn K mainGlobals "check_part" = some (some (.ref f12))) (l12 : K.lookup f12 = some ⟨oc12, od12, .func (PySem.W.fnOf "check_part" "check_part" (defArgs st_check_part) (defBody st_check_part) (defScope st_check_part) .none kV12 dc12 pm12 an12 cd12 ct12), sl12⟩) (c12 : PySem.W.codeIn K cd12 "check_part" = true) (k12 : PySem.W.keepIn K (.ref f12) = true)
    (a13 : PySem.W.nsIn K mainGlobals "steps" = some (some (.ref f13))) (l13 : K.lookup f13 = some ⟨oc13, od13, .func (PySem.W.fnOf "steps" "steps" (defArgs st_steps) (defBody st_steps) (defScope st_steps) .none kV13 dc13 pm13 an13 cd13 ct13), sl13⟩) (c13 : PySem.W.codeIn K cd13 "steps" = true) (k13 : PySem.W.keepIn K (.ref f13) = true)
    (a14 : PySem.W.nsIn K mainGlobals "swings" = some (some (.ref f14))) (l14 : K.lookup f14 = some ⟨oc14, od14, .func (PySem.W.fnOf "swings" "swings" (defArgs st_swings) (defBody st_swings) (defScope st_swings) .none kV14 dc14 pm14 an14 cd14 ct14), sl14⟩) (c14 : PySem.W.codeIn K cd14 "swings" = true) (k14 : PySem.W.keepIn K (.ref f14) = true)
    (a15 : PySem.W.nsIn K mainGlobals "_law_pool" = some (some (.ref f15))) (l15 : K.lookup f15 = some ⟨oc15, od15, .func (PySem.W.fnOf "_law_pool" "_law_pool" (defArgs st_law_pool) (defBody st_law_pool) (defScope st_law_pool) .none kV15 dc15 pm15 an15 cd15 ct15), sl15⟩) (c15 : PySem.W.codeIn K cd15 "_law_pool" = true) (k15 : PySem.W.keepIn K (.ref f15) = true)
    (a16 : PySem.W.nsIn K mainGlobals "_law_take" = some (some (.ref f16))) (l16 : K.lookup f16 = some ⟨oc16, od16, .func (PySem.W.fnOf "_law_take" "_law_take" (defArgs st_law_take) (defBody st_law_take) (defScope st_law_take) .none kV16 dc16 pm16 an16 cd16 ct16), sl16⟩) (c16 : PySem.W.codeIn K cd16 "_law_take" = true) (k16 : PySem.W.keepIn K (.ref f16) = true)
    (a17 : PySem.W.nsIn K mainGlobals "_law_frac" = some (some (.ref f17))) (l17 : K.lookup f17 = some ⟨oc17, od17, .func (PySem.W.fnOf "_law_frac" "_law_frac" (defArgs st_law_frac) (defBody st_law_frac) (defScope st_law_frac) .none kV17 dc17 pm17 an17 cd17 ct17), sl17⟩) (c17 : PySem.W.codeIn K cd17 "_law_frac" = true) (k17 : PySem.W.keepIn K (.ref f17) = true)
    (a18 : PySem.W.nsIn K mainGlobals "_law_small" = some (some (.ref f18))) (l18 : K.lookup f18 = some ⟨oc18, od18, .func (PySem.W.fnOf "_law_small" "_law_small" (defArgs st_law_small) (defBody st_law_small) (defScope st_law_small) .none kV18 dc18 pm18 an18 cd18 ct18), sl18⟩) (c18 : PySem.W.codeIn K cd18 "_law_small" = true) (k18 : PySem.W.keepIn K (.ref f18) = true)
    (a19 : PySem.W.nsIn K mainGlobals "_law_right" = some (some (.ref f19))) (l19 : K.lookup f19 = some ⟨oc19, od19, .func (PySem.W.fnOf "_law_right" "_law_right" (defArgs st_law_right) (defBody st_law_right) (defScope st_law_right) .none kV19 dc19 pm19 an19 cd19 ct19), sl19⟩) (c19 : PySem.W.codeIn K cd19 "_law_right" = true) (k19 : PySem.W.keepIn K (.ref f19) = true)
    (a20 : PySem.W.nsIn K mainGlobals "law" = some (some (.ref f20))) (l20 : K.lookup f20 = some ⟨oc20, od20, .func (PySem.W.fnOf "law" "law" (defArgs st_law) (defBody st_law) (defScope st_law) .none kV20 dc20 pm20 an20 cd20 ct20), sl20⟩) (c20 : PySem.W.codeIn K cd20 "law" = true) (k20 : PySem.W.keepIn K (.ref f20) = true)
    (z_abs : PySem.W.nsIn K mainGlobals "abs" = some none)
    (z_bool : PySem.W.nsIn K mainGlobals "bool" = some none)
    (z_divmod : PySem.W.nsIn K mainGlobals "divmod" = some none)
    (z_enumerate : PySem.W.nsIn K mainGlobals "enumerate" = some none)
    (z_int : PySem.W.nsIn K mainGlobals "int" = some none)
    (z_isinstance : PySem.W.nsIn K mainGlobals "isinstance" = some none)
    (z_len : PySem.W.nsIn K mainGlobals "len" = some none)
    (z_max : PySem.W.nsIn K mainGlobals "max" = some none)
    (z_min : PySem.W.nsIn K mainGlobals "min" = some none)
    (z_range : PySem.W.nsIn K mainGlobals "range" = some none)
    (z_repr : PySem.W.nsIn K mainGlobals "repr" = some none)
    (z_sum : PySem.W.nsIn K mainGlobals "sum" = some none)
    (z_tuple : PySem.W.nsIn K mainGlobals "tuple" = some none)
    (y_gcd : PySem.W.nsIn K mainGlobals "gcd" = some (some (Blt.gcd).fn))
    (x_ONE : PySem.W.nsIn K mainGlobals "ONE" = some (some (.ref ad_ONE))) (o_ONE : K.lookup ad_ONE = some ⟨.type "tuple", od_ONE, .seq #[.int 1 tk0_ONE, .int 1 tk1_ONE] nn_ONE, ps_ONE⟩)
    (x_MOST_NUMBER : PySem.W.nsIn K mainGlobals "MOST_NUMBER" = some (some (.int 999 tk_MOST_NUMBER)))
    : ∃ (fd : FuncData) (Cl : Nat → Addr × Str), (∀ (s : Shared) (u : Value), BindsTo s fd ⟨[u], []⟩ [("script", u)]) ∧ ∀ base : Heap, K.In base → base.Ns mainGlobals mg → FnG P w K mg base 9 fa fd ["script"] (spD K Cl 1 lawD) := by
  have e : f20 = fa := Value.ref.inj (Option.some.inj ((PySem.W.mg_of X G a20).symm.trans hfa))
  subst e
  let Z : Txt K mg := {
    f0 := f0, e0 := _, F0 := fun_mk (st := st_is_whole) l0 c0 k0, g0 := PySem.W.mg_of X G a0, b0 := fun s us hl => match us, hl with | [_], _ => .of_eq rfl,
    f1 := f1, e1 := _, F1 := fun_mk (st := st_is_between) l1 c1 k1, g1 := PySem.W.mg_of X G a1, b1 := fun s us hl => match us, hl with | [_, _, _], _ => .of_eq rfl,
    f2 := f2, e2 := _, F2 := fun_mk (st := st_is_tuple_of) l2 c2 k2, g2 := PySem.W.mg_of X G a2, b2 := fun s us hl => match us, hl with | [_, _], _ => .of_eq rfl,
    f3 := f3, e3 := _, F3 := fun_mk (st := st_lowest) l3 c3 k3, g3 := PySem.W.mg_of X G a3, b3 := fun s us hl => match us, hl with | [_, _], _ => .of_eq rfl,
    f4 := f4, e4 := _, F4 := fun_mk (st := st_less_by) l4 c4 k4, g4 := PySem.W.mg_of X G a4, b4 := fun s us hl => match us, hl with | [_, _], _ => .of_eq rfl,
    f5 := f5, e5 := _, F5 := fun_mk (st := st_times) l5 c5 k5, g5 := PySem.W.mg_of X G a5, b5 := fun s us hl => match us, hl with | [_, _], _ => .of_eq rfl,
    f6 := f6, e6 := _, F6 := fun_mk (st := st_is_given) l6 c6 k6, g6 := PySem.W.mg_of X G a6, b6 := fun s us hl => match us, hl with | [_], _ => .of_eq rfl,
    f7 := f7, e7 := _, F7 := fun_mk (st := st_is_above) l7 c7 k7, g7 := PySem.W.mg_of X G a7, b7 := fun s us hl => match us, hl with | [_], _ => .of_eq rfl,
    f8 := f8, e8 := _, F8 := fun_mk (st := st_is_part) l8 c8 k8, g8 := PySem.W.mg_of X G a8, b8 := fun s us hl => match us, hl with | [_], _ => .of_eq rfl,
    f9 := f9, e9 := _, F9 := fun_mk (st := st_ceiling_of) l9 c9 k9, g9 := PySem.W.mg_of X G a9, b9 := fun s us hl => match us, hl with | [_], _ => .of_eq rfl,
    f10 := f10, e10 := _, F10 := fun_mk (st := st_steps_by) l10 c10 k10, g10 := PySem.W.mg_of X G a10, b10 := fun s us hl => match us, hl with | [_], _ => .of_eq rfl,
    f11 := f11, e11 := _, F11 := fun_mk (st := st_swings_by) l11 c11 k11, g11 := PySem.W.mg_of X G a11, b11 := fun s us hl => match us, hl with | [_], _ => .of_eq rfl,
    f12 := f12, e12 := _, F12 := fun_mk (st := st_check_part) l12 c12 k12, g12 := PySem.W.mg_of X G a12, b12 := fun s us hl => match us, hl with | [_], _ => .of_eq rfl,
    f13 := f13, e13 := _, F13 := fun_mk (st := st_steps) l13 c13 k13, g13 := PySem.W.mg_of X G a13, b13 := fun s us hl => match us, hl with | [_], _ => .of_eq rfl,
    f14 := f14, e14 := _, F14 := fun_mk (st := st_swings) l14 c14 k14, g14 := PySem.W.mg_of X G a14, b14 := fun s us hl => match us, hl with | [_], _ => .of_eq rfl,
    f15 := f15, e15 := _, F15 := fun_mk (st := st_law_pool) l15 c15 k15, g15 := PySem.W.mg_of X G a15, b15 := fun s us hl => match us, hl with | [_, _], _ => .of_eq rfl,
    f16 := f16, e16 := _, F16 := fun_mk (st := st_law_take) l16 c16 k16, g16 := PySem.W.mg_of X G a16, b16 := fun s us hl => match us, hl with | [_, _], _ => .of_eq rfl,
    f17 := f17, e17 := _, F17 := fun_mk (st := st_law_frac) l17 c17 k17, g17 := PySem.W.mg_of X G a17, b17 := fun s us hl => match us, hl with | [_, _], _ => .of_eq rfl,
    f18 := f18, e18 := _, F18 := fun_mk (st := st_law_small) l18 c18 k18, g18 := PySem.W.mg_of X G a18, b18 := fun s us hl => match us, hl with | [_, _], _ => .of_eq rfl,
    f19 := f19, e19 := _, F19 := fun_mk (st := st_law_right) l19 c19 k19, g19 := PySem.W.mg_of X G a19, b19 := fun s us hl => match us, hl with | [_, _], _ => .of_eq rfl,
    f20 := f20, e20 := _, F20 := fun_mk (st := st_law) l20 c20 k20, g20 := PySem.W.mg_of X G a20, b20 := fun s us hl => match us, hl with | [_], _ => .of_eq rfl,
    w0 := fun s us ws h1 h2 => match us, ws, h1, h2 with | [], [_], _, _ => .of_eq rfl,
    w1 := fun s us ws h1 h2 => match us, ws, h1, h2 with | [], [_], _, _ => .of_eq rfl,
    n_abs := PySem.W.mg_none_of X G z_abs,
    n_bool := PySem.W.mg_none_of X G z_bool,
    n_divmod := PySem.W.mg_none_of X G z_divmod,
    n_enumerate := PySem.W.mg_none_of X G z_enumerate,
    n_int := PySem.W.mg_none_of X G z_int,
    n_isinstance := PySem.W.mg_none_of X G z_isinstance,
    n_len := PySem.W.mg_none_of X G z_len,
    n_max := PySem.W.mg_none_of X G z_max,
    n_min := PySem.W.mg_none_of X G z_min,
    n_range := PySem.W.mg_none_of X G z_range,
    n_repr := PySem.W.mg_none_of X G z_repr,
    n_sum := PySem.W.mg_none_of X G z_sum,
    n_tuple := PySem.W.mg_none_of X G z_tuple,
    i_gcd := PySem.W.mg_of X G y_gcd,
    v_ONE := ⟨_, .ref ad_ONE, PySem.W.mg_of X G x_ONE, rfl, fun H => repT.2 ⟨_, [.int 1, .int 1], rfl, .inr ⟨_, _, _, o_ONE, rfl, rfl, (by show _ ≤ 2 ^ 24; simp), (.cons ⟨_, rfl⟩ (.cons ⟨_, rfl⟩ .nil))⟩, (.cons (repI.2 rfl) (.cons (repI.2 rfl) .nil))⟩⟩,
    v_MOST_NUMBER := ⟨_, .int 999, PySem.W.mg_of X G x_MOST_NUMBER, ⟨_, rfl⟩, fun _ => repI.2 rfl⟩ }
  exact ⟨Z.e20, fun _ => (0, ""), fun s u => Z.b20 s [u] rfl, fun base _ _ => ok_law Z⟩
end K46
open PySem PySem.W PyProof.Rows in
set_option maxRecDepth 100000 in
set_option maxHeartbeats 0 in
theorem PySem.Challenge.cw_fractiontrees_k46_steps_and_swings_holds : PySem.Challenge.rw_fractiontrees_k46_steps_and_swings.Holds := by
  w_on; o_law; k_head; (case hw => w_witness2)
  k_fill
  refine Fx.walkG (l := PySem.Challenge.rw_fractiontrees_k46_steps_and_swings) (k := 9) (x := "script") rfl rfl ⟨⟨rfl, by decide, by decide⟩, rfl⟩ (fun w h Y => PySem.W.kIn_of Y) ?F
  case F =>
    intro w mg fa h KX G hmg
    refine' K46.all_mk KX G hmg ?a0 ?l0 ?c0 ?k0 ?a1 ?l1 ?c1 ?k1 ?a2 ?l2 ?c2 ?k2 ?a3 ?l3 ?c3 ?k3 ?a4 ?l4 ?c4 ?k4 ?a5 ?l5 ?c5 ?k5 ?a6 ?l6 ?c6 ?k6 ?a7 ?l7 ?c7 ?k7 ?a8 ?l8 ?c8 ?k8 ?a9 ?l9 ?c9 ?k9 ?a10 ?l10 ?c10 ?k10 ?a11 ?l11 ?c11 ?k11 ?a12 ?l12 ?c12 ?k12 ?a13 ?l13 ?c13 ?k13 ?a14 ?l14 ?c14 ?k14 ?a15 ?l15 ?c15 ?k15 ?a16 ?l16 ?c16 ?k16 ?a17 ?l17 ?c17 ?k17 ?a18 ?l18 ?c18 ?k18 ?a19 ?l19 ?c19 ?k19 ?a20 ?l20 ?c20 ?k20 ?z_abs ?z_bool ?z_divmod ?z_enumerate ?z_int ?z_isinstance ?z_len ?z_max ?z_min ?z_range ?z_repr ?z_sum ?z_tuple ?y_gcd ?o_ONE ?x_ONE ?x_MOST_NUMBER
    (case a0 => k_is)
    (case l0 => k_is)
    (case c0 => k_is)
    (case k0 => k_is)
    (case a1 => k_is)
    (case l1 => k_is)
    (case c1 => k_is)
    (case k1 => k_is)
    (case a2 => k_is)
    (case l2 => k_is)
    (case c2 => k_is)
    (case k2 => k_is)
    (case a3 => k_is)
    (case l3 => k_is)
    (case c3 => k_is)
    (case k3 => k_is)
    (case a4 => k_is)
    (case l4 => k_is)
    (case c4 => k_is)
    (case k4 => k_is)
    (case a5 => k_is)
    (case l5 => k_is)
    (case c5 => k_is)
    (case k5 => k_is)
    (case a6 => k_is)
    (case l6 => k_is)
    (case c6 => k_is)
    (case k6 => k_is)
    (case a7 => k_is)
    (case l7 => k_is)
    (case c7 => k_is)
    (case k7 => k_is)
    (case a8 => k_is)
    (case l8 => k_is)
    (case c8 => k_is)
    (case k8 => k_is)
    (case a9 => k_is)
    (case l9 => k_is)
    (case c9 => k_is)
    (case k9 => k_is)
    (case a10 => k_is)
    (case l10 => k_is)
    (case c10 => k_is)
    (case k10 => k_is)
    (case a11 => k_is)
    (case l11 => k_is)
    (case c11 => k_is)
    (case k11 => k_is)
    (case a12 => k_is)
    (case l12 => k_is)
    (case c12 => k_is)
    (case k12 => k_is)
    (case a13 => k_is)
    (case l13 => k_is)
    (case c13 => k_is)
    (case k13 => k_is)
    (case a14 => k_is)
    (case l14 => k_is)
    (case c14 => k_is)
    (case k14 => k_is)
    (case a15 => k_is)
    (case l15 => k_is)
    (case c15 => k_is)
    (case k15 => k_is)
    (case a16 => k_is)
    (case l16 => k_is)
    (case c16 => k_is)
    (case k16 => k_is)
    (case a17 => k_is)
    (case l17 => k_is)
    (case c17 => k_is)
    (case k17 => k_is)
    (case a18 => k_is)
    (case l18 => k_is)
    (case c18 => k_is)
    (case k18 => k_is)
    (case a19 => k_is)
    (case l19 => k_is)
    (case c19 => k_is)
    (case k19 => k_is)
    (case a20 => k_is)
    (case l20 => k_is)
    (case c20 => k_is)
    (case k20 => k_is)
    (case z_abs => k_is)
    (case z_bool => k_is)
    (case z_divmod => k_is)
    (case z_enumerate => k_is)
    (case z_int => k_is)
    (case z_isinstance => k_is)
    (case z_len => k_is)
    (case z_max => k_is)
    (case z_min => k_is)
    (case z_range => k_is)
    (case z_repr => k_is)
    (case z_sum => k_is)
    (case z_tuple => k_is)
    (case y_gcd => k_is)
    (case o_ONE => k_is)
    (case x_ONE => k_is)
    (case x_MOST_NUMBER => k_is)

