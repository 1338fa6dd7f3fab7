import PyProof.Rows.All
import Wide.All
import OpenK.AllK
import Wide.FinOn
import HandS.ForMost
import HandS.Walk
import HandS.SortInts
import HandS.Deep
import HandS.Style
import HandS.IsInst
import HandS.ForExc
import HandS.More
import HandS.TryOnly
import HandS.Conv
import HandS.Rev
import HandS.TupAny
import HandS.WordsExc
import HandS.ExcIs
import HandS.HotCalls
import KE.SortData
import KE.GoesRaise
import HandS.Text
import HandS.Iter
import HandS.SuiteRaise
import PySem.Challenge.RW_flatstrip_k14_texts
set_option Elab.async false
set_option linter.all false
set_option maxRecDepth 100000
set_option maxHeartbeats 1000000
/-! value layer, part 1: data, the heap hidden, the frame -/
namespace VL
open PySem L2

/-! ### plain data -/
inductive D where
  | non | bl (b : Bool) | int (i : Int) | str (s : Str) | lst (xs : List D) | tup (xs : List D) | ro (xs : List D) | dk (kvs : List (Key × V)) | ob (C : Addr) (ks : List Str) (xs : List D) | dd (ks : List Key) (xs : List D) | raw (a : Addr)

def sclV : V → Bool
  | .ref _ => false
  | _ => true

inductive Rep (K : PySem.W.Frag) (H : Hp) : V → D → Prop
  | non : Rep K H .non .non
  | bl (b : Bool) : Rep K H (.bl b) (.bl b)
  | int (i : Int) : Rep K H (.int i) (.int i)
  | str (s : Str) : Rep K H (.str s) (.str s)
  | lst {a : Addr} {vs : List V} {ds : List D} : H a = some (.lst vs) → vs.length = ds.length → (∀ (i : Nat) v d, vs[i]? = some v → ds[i]? = some d → Rep K H v d) → Rep K H (.ref a) (.lst ds)
  | tup {a : Addr} {vs : List V} {ds : List D} : H a = some (.tup vs) → vs.length = ds.length → (∀ (i : Nat) v d, vs[i]? = some v → ds[i]? = some d → Rep K H v d) → Rep K H (.ref a) (.tup ds)
  | ro {a : Addr} {vs : List V} {ds : List D} : SqL K H a vs → vs.length = ds.length → (∀ (i : Nat) v d, vs[i]? = some v → ds[i]? = some d → Rep K H v d) → Rep K H (.ref a) (.ro ds)
  | dk {a : Addr} {kvs : List (Key × V)} : H a = some (.dK kvs) → (∀ p ∈ kvs, sclV p.2 = true) → Rep K H (.ref a) (.dk kvs)
  | ob {a C dx : Addr} {fs : List (Str × V)} {ks : List Str} {vs : List V} {ds : List D} : H a = some (.ins C dx fs) → vs.length = ks.length → (∀ (i : Nat) f v, ks[i]? = some f → vs[i]? = some v → fs.lookup f = some v) → (∀ f, fs.lookup f ≠ none → NoAttr K C f) → vs.length = ds.length →
      (∀ (i : Nat) v d, vs[i]? = some v → ds[i]? = some d → Rep K H v d) → Rep K H (.ref a) (.ob C ks ds)
  | dd {a : Addr} {kvs : List (Key × V)} {vs : List V} {ks : List Key} {ds : List D} : H a = some (.dK kvs) → vs.length = ks.length → (∀ (i : Nat) k v, ks[i]? = some k → vs[i]? = some v → valV kvs k = some v) → vs.length = ds.length → (∀ (i : Nat) v d, vs[i]? = some v → ds[i]? = some d → Rep K H v d) → Rep K H (.ref a) (.dd ks ds)
  | raw (a : Addr) : Rep K H (.ref a) (.raw a)

def Reps (K : PySem.W.Frag) (H : Hp) (vs : List V) (ds : List D) : Prop :=
  vs.length = ds.length ∧ ∀ (i : Nat) v d, vs[i]? = some v → ds[i]? = some d → Rep K H v d

section
variable {K : PySem.W.Frag} {H H' H1 H2 : Hp} {v : V} {d : D} {vs ws : List V} {ds es : List D}
theorem Rep.mono (s : Same H H') (r : Rep K H v d) : Rep K H' v d := by
  induction r with
  | non => exact .non
  | bl b => exact .bl b
  | int i => exact .int i
  | str s => exact .str s
  | lst h1 h2 h3 ih => exact .lst (s _ _ h1) h2 ih
  | tup h1 h2 h3 ih => exact .tup (s _ _ h1) h2 ih
  | ro h1 h2 h3 ih => exact .ro (s.seq h1) h2 ih
  | dk h1 h2 => exact .dk (s _ _ h1) h2
  | ob h1 h2 h3 h6 h4 h5 ih => exact .ob (s _ _ h1) h2 h3 h6 h4 ih
  | dd h1 h2 h3 h4 h5 ih => exact .dd (s _ _ h1) h2 h3 h4 ih
  | raw a => exact .raw a
theorem Reps.mono (s : Same H H') (r : Reps K H vs ds) : Reps K H' vs ds := ⟨r.1, fun i v d h1 h2 => (r.2 i v d h1 h2).mono s⟩
theorem Reps.nil : Reps K H [] [] := ⟨rfl, fun i v d h => by simp at h⟩
theorem Reps.cons (h : Rep K H v d) (t : Reps K H vs ds) : Reps K H (v :: vs) (d :: ds) := by
  refine ⟨by simp [t.1], fun i w e h1 h2 => ?_⟩
  cases i with
  | zero => simp at h1 h2; subst h1; subst h2; exact h
  | succ i => exact t.2 i w e (by simpa using h1) (by simpa using h2)
theorem Reps.cons_inv (t : Reps K H (v :: vs) (d :: ds)) : Rep K H v d ∧ Reps K H vs ds :=
  ⟨t.2 0 v d rfl rfl, by have := t.1; simpa using this, fun i w e h1 h2 => t.2 (i + 1) w e (by simpa using h1) (by simpa using h2)⟩
theorem Reps.cons_split : ∀ {vs : List V}, Reps K H vs (d :: ds) → ∃ v ws, vs = v :: ws ∧ Rep K H v d ∧ Reps K H ws ds
  | [], t => by have := t.1; simp at this
  | v :: ws, t => ⟨v, ws, rfl, t.cons_inv.1, t.cons_inv.2⟩
theorem Reps.nil_inv {vs : List V} (t : Reps K H vs []) : vs = [] := by
  have := t.1
  simpa using this
theorem Reps.append (a : Reps K H vs ds) (b : Reps K H ws es) : Reps K H (vs ++ ws) (ds ++ es) := by
  refine ⟨by simp [a.1, b.1], fun i v d h1 h2 => ?_⟩
  by_cases hi : i < vs.length
  · rw [List.getElem?_append_left hi] at h1
    rw [List.getElem?_append_left (by rw [← a.1]; exact hi)] at h2
    exact a.2 i v d h1 h2
  · rw [List.getElem?_append_right (by omega)] at h1
    rw [List.getElem?_append_right (by rw [← a.1]; omega), ← a.1] at h2
    exact b.2 _ v d h1 h2
theorem Reps.take (n : Nat) (a : Reps K H vs ds) : Reps K H (vs.take n) (ds.take n) := by
  refine ⟨by simp [a.1], fun i v d h1 h2 => ?_⟩
  rw [List.getElem?_take] at h1 h2
  split at h1
  · rename_i hi
    rw [if_pos hi] at h2
    exact a.2 i v d h1 h2
  · cases h1
theorem Reps.drop (n : Nat) (a : Reps K H vs ds) : Reps K H (vs.drop n) (ds.drop n) := by
  refine ⟨by simp [a.1], fun i v d h1 h2 => ?_⟩
  rw [List.getElem?_drop] at h1 h2
  exact a.2 _ v d h1 h2
theorem Reps.set (i : Nat) (h : Rep K H v d) (a : Reps K H vs ds) : Reps K H (vs.set i v) (ds.set i d) := by
  refine ⟨by simp [a.1], fun j w e h1 h2 => ?_⟩
  rw [List.getElem?_set] at h1 h2
  by_cases hij : i = j
  · subst hij
    rw [if_pos rfl] at h1 h2
    split at h1 <;> simp at h1
    split at h2 <;> simp at h2
    subst h1; subst h2
    exact h
  · rw [if_neg hij] at h1 h2
    exact a.2 j w e h1 h2
theorem Reps.reverse (a : Reps K H vs ds) : Reps K H vs.reverse ds.reverse := by
  refine ⟨by simp [a.1], fun i v d h1 h2 => ?_⟩
  have l1 := (List.getElem?_eq_some_iff.mp h1).1
  simp at l1
  have h1' := h1
  rw [List.getElem?_reverse l1] at h1
  rw [List.getElem?_reverse (by rw [← a.1]; exact l1), ← a.1] at h2
  exact a.2 _ v d h1 h2
theorem Reps.get (a : Reps K H vs ds) {i : Nat} (h : ds[i]? = some d) : ∃ v, vs[i]? = some v ∧ Rep K H v d := by
  have l := (List.getElem?_eq_some_iff.mp h).1
  rw [← a.1] at l
  exact ⟨vs[i], List.getElem?_eq_getElem l, a.2 i _ d (List.getElem?_eq_getElem l) h⟩
theorem Reps.getV (a : Reps K H vs ds) {i : Nat} (h : vs[i]? = some v) : ∃ d, ds[i]? = some d ∧ Rep K H v d := by
  have l := (List.getElem?_eq_some_iff.mp h).1
  rw [a.1] at l
  exact ⟨ds[i], List.getElem?_eq_getElem l, a.2 i v _ h (List.getElem?_eq_getElem l)⟩
theorem Reps.at (a : Reps K H vs ds) {z : Int} (h : atI ds z = some d) : ∃ v, atI vs z = some v ∧ Rep K H v d := by
  unfold atI at h ⊢
  rw [a.1]
  cases q : ixN ds.length z with
  | none => rw [q] at h; cases h
  | some j =>
    rw [q] at h
    exact a.get h
theorem Reps.rep (k : Nat) (a : Reps K H vs ds) : Reps K H (List.replicate k vs).flatten (List.replicate k ds).flatten := by
  induction k with
  | zero => exact .nil
  | succ k ih =>
    rw [List.replicate_succ, List.replicate_succ, List.flatten_cons, List.flatten_cons]
    exact a.append ih
theorem Reps.all_scl (a : Reps K H vs ds) : True := trivial
def cutD (xs : List D) (lo hi : Option Int) : List D := (xs.drop (HT.sIx xs.length 0 lo)).take (HT.sIx xs.length xs.length hi - HT.sIx xs.length 0 lo)
theorem Reps.cut (lo hi : Option Int) (a : Reps K H vs ds) : Reps K H (cutV vs lo hi) (cutD ds lo hi) := by
  unfold cutV cutD
  rw [a.1]
  exact (a.drop _).take _
theorem Rep.lst' {a : Addr} (h : H a = some (.lst vs)) (r : Reps K H vs ds) : Rep K H (.ref a) (.lst ds) := .lst h r.1 r.2
theorem Rep.tup' {a : Addr} (h : H a = some (.tup vs)) (r : Reps K H vs ds) : Rep K H (.ref a) (.tup ds) := .tup h r.1 r.2
theorem Rep.lst_inv (r : Rep K H v (.lst ds)) : ∃ a vs, v = .ref a ∧ H a = some (.lst vs) ∧ Reps K H vs ds := by
  cases r with
  | lst h1 h2 h3 => exact ⟨_, _, rfl, h1, h2, h3⟩
theorem Rep.tup_inv (r : Rep K H v (.tup ds)) : ∃ a vs, v = .ref a ∧ H a = some (.tup vs) ∧ Reps K H vs ds := by
  cases r with
  | tup h1 h2 h3 => exact ⟨_, _, rfl, h1, h2, h3⟩
theorem Rep.ro_inv (r : Rep K H v (.ro ds)) : ∃ a vs, v = .ref a ∧ SqL K H a vs ∧ Reps K H vs ds := by
  cases r with
  | ro h1 h2 h3 => exact ⟨_, _, rfl, h1, h2, h3⟩
theorem Rep.int_inv {i : Int} (r : Rep K H v (.int i)) : v = .int i := by cases r; rfl
theorem Rep.bl_inv {b : Bool} (r : Rep K H v (.bl b)) : v = .bl b := by cases r; rfl
theorem Rep.str_inv {x : Str} (r : Rep K H v (.str x)) : v = .str x := by cases r; rfl
theorem Rep.non_inv (r : Rep K H v .non) : v = .non := by cases r; rfl
theorem Rep.dk_inv {kvs : List (Key × V)} (r : Rep K H v (.dk kvs)) : ∃ a, v = .ref a ∧ H a = some (.dK kvs) ∧ ∀ p ∈ kvs, sclV p.2 = true := by
  cases r with
  | dk h1 h2 => exact ⟨_, rfl, h1, h2⟩
/-- a list or tuple or the script, read -/
theorem Rep.seq (r : Rep K H v (.lst ds)) : ∃ a vs, v = .ref a ∧ SqL K H a vs ∧ Reps K H vs ds := by
  obtain ⟨a, vs, e, h, q⟩ := r.lst_inv
  exact ⟨a, vs, e, SqL.of h, q⟩
theorem Reps.ints {ns : List Int} (r : Reps K H vs (ns.map D.int)) : vs = ns.map V.int := by
  induction ns generalizing vs with
  | nil => exact r.nil_inv
  | cons n ns ih =>
    obtain ⟨v, ws, e, h, t⟩ := r.cons_split
    rw [e, h.int_inv, ih t]; rfl
theorem Reps.bls {bs : List Bool} (r : Reps K H vs (bs.map D.bl)) : vs = bs.map V.bl := by
  induction bs generalizing vs with
  | nil => exact r.nil_inv
  | cons n ns ih =>
    obtain ⟨v, ws, e, h, t⟩ := r.cons_split
    rw [e, h.bl_inv, ih t]; rfl
theorem Reps.strs {bs : List Str} (r : Reps K H vs (bs.map D.str)) : vs = bs.map V.str := by
  induction bs generalizing vs with
  | nil => exact r.nil_inv
  | cons n ns ih =>
    obtain ⟨v, ws, e, h, t⟩ := r.cons_split
    rw [e, h.str_inv, ih t]; rfl
theorem reps_ints (ns : List Int) : Reps K H (ns.map V.int) (ns.map D.int) := by
  induction ns with
  | nil => exact .nil
  | cons n ns ih => exact .cons (.int n) ih
theorem reps_strs (ns : List Str) : Reps K H (ns.map V.str) (ns.map D.str) := by
  induction ns with
  | nil => exact .nil
  | cons n ns ih => exact .cons (.str n) ih
end

/-! ### data without lists -/
mutual
def D.free : D → Bool
  | .lst _ => false
  | .ro _ => false
  | .dk _ => false
  | .ob _ _ _ => false
  | .dd _ _ => false
  | .tup xs => freeAll xs
  | _ => true
def freeAll : List D → Bool
  | [] => true
  | x :: xs => x.free && freeAll xs
end
theorem freeAll_get : ∀ {xs : List D} {i : Nat} {d : D}, freeAll xs = true → xs[i]? = some d → d.free = true
  | [], i, d, _, h => by simp at h
  | x :: xs, 0, d, f, h => by
    simp at h; subst h
    unfold freeAll at f
    exact (Bool.and_eq_true_iff.mp f).1
  | x :: xs, i + 1, d, f, h => by
    unfold freeAll at f
    exact freeAll_get (Bool.and_eq_true_iff.mp f).2 (by simpa using h)

/-! ### hiding some lists -/
def mask (H : Hp) (as : List Addr) : Hp := fun b => if b ∈ as then none else H b
def join (M H : Hp) (as : List Addr) : Hp := fun b => if b ∈ as then H b else M b
section
variable {K : PySem.W.Frag} {H H' M : Hp} {as bs : List Addr} {a b : Addr} {o : HO}
theorem mask_in (h : b ∈ as) : mask H as b = none := if_pos h
theorem mask_out (h : b ∉ as) : mask H as b = H b := if_neg h
theorem mask_some (h : mask H as b = some o) : H b = some o ∧ b ∉ as := by
  unfold mask at h
  split at h
  · cases h
  · exact ⟨h, by assumption⟩
theorem mask_same : Same (mask H as) H := fun b o h => (mask_some h).1
theorem mask_sub (hs : ∀ a ∈ as, a ∈ bs) : Same (mask H bs) (mask H as) := fun b o h => by
  obtain ⟨h1, h2⟩ := mask_some h
  rw [mask_out (fun z => h2 (hs b z))]
  exact h1
theorem mask_same_of (s : Same H H') (hf : ∀ a ∈ as, H a = none) : Same H (mask H' as) := fun b o h => by
  rw [mask_out (fun z => by rw [hf b z] at h; cases h)]
  exact s b o h
theorem mask_upd_in (h : a ∈ as) : mask (upd H a o) as = mask H as := by
  funext b
  unfold mask
  split
  · rfl
  · rw [upd_ne (fun z => by subst z; contradiction)]
theorem mask_nil : mask H [] = H := by funext b; unfold mask; simp
theorem join_in (h : b ∈ as) : join M H as b = H b := if_pos h
theorem join_out (h : b ∉ as) : join M H as b = M b := if_neg h
theorem mask_join : mask (join M H as) as = mask M as := by
  funext b
  unfold mask join
  split <;> simp_all
theorem mask_of_none (h : ∀ a ∈ as, M a = none) : mask M as = M := by
  funext b
  unfold mask
  split
  · rw [h b (by assumption)]
  · rfl
theorem Rep.maskF {v : V} {d : D} (r : Rep K H v d) (f : d.free = true) (hl : ∀ a ∈ as, ∀ xs, H a ≠ some (.tup xs)) : Rep K (mask H as) v d := by
  induction r with
  | non => exact .non
  | bl b => exact .bl b
  | int i => exact .int i
  | str s => exact .str s
  | lst h1 h2 h3 ih => simp [D.free] at f
  | tup h1 h2 h3 ih =>
    unfold D.free at f
    refine .tup ?_ h2 (fun i v d q1 q2 => ih i v d q1 q2 (freeAll_get f q2))
    rw [mask_out (fun z => hl _ z _ h1)]
    exact h1
  | ro h1 h2 h3 ih => simp [D.free] at f
  | dk h1 h2 => simp [D.free] at f
  | ob h1 h2 h3 h6 h4 h5 ih => simp [D.free] at f
  | dd h1 h2 h3 h4 h5 ih => simp [D.free] at f
  | raw a => exact .raw a
end

/-! ### expressions over the heap -/
def WE (X : Cx) (e : Expr) (σ : L2.St) (H : Hp) (Q : VK) : Prop :=
  ∀ (pins : List (Addr × Obj)) (s : Shared), Inv X pins σ H s → wpAny (model X.prog X.w) X.A (eval e X.env) (EP X pins σ Q) X.xe s
section
variable {X : Cx} {e : Expr} {σ : L2.St} {H : Hp} {Q Q' : VK} {t : TE}
theorem pe_we : PE X e (WE X e) := ⟨fun pins s σ H Q I h => h pins s I⟩
theorem we_of (h : PE X e t) (q : t σ H Q) : WE X e σ H Q := fun pins s I => h.run pins s σ H Q I q
theorem WE.mono (h : WE X e σ H Q) (m : ∀ v H', Q v H' → Q' v H') : WE X e σ H Q' := fun pins s I =>
  thn (h pins s I) fun u s' ⟨v, H', I', r, q⟩ => ⟨v, H', I', r, m v H' q⟩

/-- what may be put aside: lists, instances with their dicts -/
def Hid (H : Hp) (as : List Addr) : Prop := ∀ a ∈ as, (∃ xs, H a = some (.lst xs)) ∨ (∃ C dx fs, H a = some (.ins C dx fs) ∧ dx ∈ as) ∨ (∃ y C fs, H a = some (.own y) ∧ y ∈ as ∧ H y = some (.ins C a fs))
def cellO : HO → Bool
  | .lst _ => true
  | .ins _ _ _ => true
  | .own _ => true
  | _ => false
theorem Hid.cell {as : List Addr} (h : Hid H as) {a : Addr} (ha : a ∈ as) : ∃ o, H a = some o ∧ cellO o = true := by
  rcases h a ha with ⟨xs, e⟩ | ⟨C, dx, fs, e, _⟩ | ⟨y, C, fs, e, _⟩
  · exact ⟨_, e, rfl⟩
  · exact ⟨_, e, rfl⟩
  · exact ⟨_, e, rfl⟩
theorem Hid.some {as : List Addr} (h : Hid H as) {a : Addr} (ha : a ∈ as) : H a ≠ none := fun e => by
  obtain ⟨o, q, _⟩ := h.cell ha
  rw [e] at q; cases q
theorem Hid.notup {as : List Addr} (h : Hid H as) {a : Addr} (ha : a ∈ as) (xs : List V) : H a ≠ Option.some (.tup xs) := fun e => by
  obtain ⟨o, q, c⟩ := h.cell ha
  rw [e] at q
  obtain rfl := Option.some.inj q
  cases c
theorem Hid.up {as : List Addr} {H' : Hp} (h : Hid H as) (k : ∀ a ∈ as, ∀ u, H a = Option.some u → H' a = Option.some u) : Hid H' as := fun a ha => by
  rcases h a ha with ⟨xs, e⟩ | ⟨C, dx, fs, e, d⟩ | ⟨y, C, fs, e, d, e2⟩
  · exact .inl ⟨xs, k a ha _ e⟩
  · exact .inr (.inl ⟨C, dx, fs, k a ha _ e, d⟩)
  · exact .inr (.inr ⟨y, C, fs, k a ha _ e, d, k y d _ e2⟩)
theorem Hid.nil : Hid H [] := fun a ha => by cases ha
theorem Hid.app {as bs : List Addr} (h : Hid H as) (h2 : Hid H bs) : Hid H (as ++ bs) := fun a ha => by
  rcases List.mem_append.mp ha with ha | ha
  · rcases h a ha with q | ⟨C, dx, fs, e, d⟩ | ⟨y, C, fs, e, d, e2⟩
    · exact .inl q
    · exact .inr (.inl ⟨C, dx, fs, e, List.mem_append_left _ d⟩)
    · exact .inr (.inr ⟨y, C, fs, e, List.mem_append_left _ d, e2⟩)
  · rcases h2 a ha with q | ⟨C, dx, fs, e, d⟩ | ⟨y, C, fs, e, d, e2⟩
    · exact .inl q
    · exact .inr (.inl ⟨C, dx, fs, e, List.mem_append_right _ d⟩)
    · exact .inr (.inr ⟨y, C, fs, e, List.mem_append_right _ d, e2⟩)
theorem Hid.cons {as : List Addr} {a : Addr} {xs : List V} (e : H a = Option.some (.lst xs)) (h : Hid H as) : Hid H (a :: as) := (show Hid H [a] from fun b hb => by
  obtain rfl : b = a := by simpa using hb
  exact .inl ⟨xs, e⟩).app h
theorem Hid.lists {as : List Addr} (h : ∀ a ∈ as, ∃ xs, H a = Option.some (.lst xs)) : Hid H as := fun a ha => .inl (h a ha)
theorem Hid.union {As : List (List Addr)} (h : ∀ A ∈ As, Hid H A) : Hid H As.flatten := by
  induction As with
  | nil => exact Hid.nil
  | cons A As ih => rw [List.flatten_cons]; exact (h A (List.mem_cons_self ..)).app (ih fun B hB => h B (List.mem_cons_of_mem _ hB))
/-- put aside, untracked and pinned -/
theorem Inv.hide {pins : List (Addr × Obj)} {s : Shared} {as : List Addr} (I : Inv X pins σ H s) (hl : Hid H as) :
    ∃ own : List (Addr × Obj), (∀ a ∈ as, ∃ o, (a, o) ∈ own ∧ s.heap.get? a = some o) ∧ (∀ p ∈ own, p.1 ∈ as) ∧ Inv X (pins ++ own) σ (mask H as) s := by
  have hob : ∀ a ∈ as, ∃ o, s.heap.get? a = some o ∧ ∀ v, o.data ≠ .cell v := fun a ha => by
    rcases hl a ha with ⟨xs, e⟩ | ⟨C, dx, fs, e, _⟩ | ⟨y, C, fs, e, d, e2⟩
    · obtain ⟨_, its, n, _, q⟩ := I.hok a _ e
      exact ⟨_, q, fun v z => by cases z⟩
    · obtain ⟨_, _, _, q, _⟩ := I.hok a _ e
      exact ⟨_, q, fun v z => by cases z⟩
    · obtain ⟨_, _, _, _, mA, ⟨od, es, ep, q, c⟩, _⟩ := I.hok y _ e2
      exact ⟨od, q, fun v z => by rw [c.1] at z; cases z⟩
  have some_of : ∀ a ∈ as, H a ≠ none := fun a ha => hl.some ha
  refine ⟨pinsAt as s.heap, fun a ha => ?_, fun p hp => (of_pinsAt hp).1, ?_⟩
  · obtain ⟨o, q, _⟩ := hob a ha
    exact ⟨_, mem_pinsAt ha q, q⟩
  have out : ∀ b o, H b = some o → cellO o = false → b ∉ as := fun b o e ne z => by
    obtain ⟨o', q, c⟩ := hl.cell z
    rw [e] at q
    obtain rfl := Option.some.inj q
    rw [ne] at c; cases c
  have hmask : ∀ b o, H b = some o → cellO o = false → mask H as b = some o := fun b o e ne => by
    rw [mask_out (out b o e ne)]; exact e
  refine ⟨I.ok, I.os, I.bare, ⟨fun b o q n hb hx => I.base.keep b o q n hb hx, fun b o q n hb hx => I.base.slot b o q n hb hx, fun b o q n hx => ?_, I.base.there, fun b xs q => ?_, fun b o u q => ?_, fun b ps q => ?_⟩, I.loc, I.cell, ?_, fun x c q => ?_, fun p hp => ?_, fun b o q => ?_, I.len⟩
  · have := I.base.free b o q n hx
    unfold mask
    split
    · rfl
    · exact this
  · exact hmask _ _ (I.base.tups b xs q) rfl
  · exact hmask _ _ (I.base.frzs b o u q) rfl
  · obtain ⟨m, q'⟩ := I.base.tbls b ps q
    exact ⟨m, hmask _ _ q' rfl⟩
  · have := I.free
    unfold mask
    split
    · rfl
    · exact this
  · have := I.freeC x c q
    unfold mask
    split
    · rfl
    · exact this
  · rcases List.mem_append.mp hp with hp | hp
    · obtain ⟨e, n, r⟩ := I.pin p (List.mem_append_left _ hp)
      refine ⟨e, ?_, r⟩
      unfold mask
      split
      · rfl
      · exact n
    · rcases List.mem_append.mp hp with hp | hp
      · obtain ⟨e, n, r⟩ := I.pin p (List.mem_append_right _ hp)
        refine ⟨e, ?_, r⟩
        unfold mask
        split
        · rfl
        · exact n
      · obtain ⟨hb, e⟩ := of_pinsAt hp
        obtain ⟨o, q, nc⟩ := hob p.1 hb
        rw [e] at q
        refine ⟨e, mask_in hb, fun z => ?_, fun z => ?_, fun v z => ?_⟩
        · exact some_of _ hb (by rw [z, I.free])
        · obtain ⟨_, o, ho, _⟩ := I.ok.funs.mem z
          exact some_of _ hb (I.base.free p.1 o ho (I.ok.frf p.1 z) fun y => I.ok.exfs p.1 y z)
        · rw [Option.some.inj q] at z; exact nc v z
  · obtain ⟨q1, q2⟩ := mask_some q
    refine (I.hok b o q1).stay (fun c u _ z => z) (fun c z => ?_) (fun c xs z => ?_)
    · rw [mask_out (fun y => ?_)]
      · exact z
      · rcases hl c y with ⟨xs, e⟩ | ⟨C, dx, fs, e, _⟩ | ⟨y2, C, fs, e, d, e2⟩
        · rw [z] at e; cases e
        · rw [z] at e; cases e
        · rw [z] at e
          cases e
          exact q2 d
    · exact hmask _ _ z rfl
/-- .. and taken back, as they were -/
theorem Inv.show' {pins own : List (Addr × Obj)} {s s' : Shared} {as : List Addr} {M : Hp} {σ' : L2.St} (I : Inv X pins σ H s) (hl : Hid H as)
    (ho : ∀ a ∈ as, ∃ o, (a, o) ∈ own ∧ s.heap.get? a = some o) (J : Inv X (pins ++ own) σ' M s') : Inv X pins σ' (join M H as) s' ∧ (∀ a ∈ as, M a = none) ∧ Same M (join M H as) := by
  have hpin : ∀ a ∈ as, ∃ o, s.heap.get? a = some o ∧ s'.heap.get? a = some o ∧ M a = none := fun a ha => by
    obtain ⟨o, h1, h2⟩ := ho a ha
    obtain ⟨q1, q2, _⟩ := J.pin (a, o) (List.mem_append_right _ (List.mem_append_right _ h1))
    exact ⟨o, h2, q1, q2⟩
  have hnone : ∀ a ∈ as, M a = none := fun a ha => let ⟨_, _, _, q⟩ := hpin a ha; q
  have hsame : ∀ a ∈ as, ∀ o, s.heap.get? a = some o → s'.heap.get? a = some o := fun a ha o e => by
    obtain ⟨o', h1, h2, _⟩ := hpin a ha
    rw [e] at h1
    rw [Option.some.inj h1]; exact h2
  have up : ∀ b o, M b = some o → join M H as b = some o := fun b o e => by
    rw [join_out (fun z => by rw [hnone b z] at e; cases e)]; exact e
  have none_of : ∀ b, M b = none → H b = none → join M H as b = none := fun b e ne => by
    rw [join_out (fun z => hl.some z ne)]; exact e
  refine ⟨⟨J.ok, J.os, J.bare, ⟨J.base.keep, J.base.slot, fun b o q n hx => ?_, J.base.there, fun b xs q => up _ _ (J.base.tups b xs q), fun b o u q => up _ _ (J.base.frzs b o u q), fun b ps q => ?_⟩, J.loc, J.cell, ?_, fun x c q => ?_, fun p hp => ?_, fun b o q => ?_, J.len⟩, hnone, up⟩
  · exact none_of b (J.base.free b o q n hx) (I.base.free b o q n hx)
  · obtain ⟨m, q'⟩ := J.base.tbls b ps q
    exact ⟨m, up _ _ q'⟩
  · exact none_of _ J.free I.free
  · exact none_of _ (J.freeC x c q) (I.freeC x c q)
  · have hp' : p ∈ X.pn ++ (pins ++ own) := by
      rcases List.mem_append.mp hp with z | z
      · exact List.mem_append_left _ z
      · exact List.mem_append_right _ (List.mem_append_left _ z)
    obtain ⟨e, n, r⟩ := J.pin p hp'
    exact ⟨e, none_of _ n (I.pin p hp).2.1, r⟩
  · by_cases hb : b ∈ as
    · rw [join_in hb] at q
      rcases hl b hb with ⟨xs, e⟩ | ⟨C, dx, fs, e, hdx⟩ | ⟨y, C, fs, e, d, e2⟩
      · rw [e] at q
        obtain rfl := Option.some.inj q
        obtain ⟨z, its, n, rv, g⟩ := I.hok b _ e
        exact ⟨z, its, n, rv, hsame b hb _ g⟩
      · rw [e] at q
        obtain rfl := Option.some.inj q
        obtain ⟨d, z, ne, g, mA, ⟨od, es, ep, g2, c⟩, r⟩ := I.hok b _ e
        exact ⟨by rw [join_in hdx]; exact d, z, ne, hsame b hb _ g, mA, ⟨od, es, ep, hsame dx hdx _ g2, c⟩, r⟩
      · rw [e] at q
        obtain rfl := Option.some.inj q
        obtain ⟨ob, g⟩ := I.hok b _ e
        exact ⟨ob, hsame b hb _ g⟩
    · rw [join_out hb] at q
      exact (J.hok b o q).stay (fun c u _ z => z) (fun c z => up _ _ z) (fun c xs z => up _ _ z)
theorem WE.frame {as : List Addr} (hl : Hid H as) (h : WE X e σ (mask H as) Q) :
    WE X e σ H (fun v H' => ∃ M, Q v M ∧ H' = join M H as ∧ (∀ a ∈ as, M a = none) ∧ Same M H') := fun pins s I => by
  obtain ⟨own, h1, h2, J⟩ := Inv.hide I hl
  refine thn (h _ s J) fun u s' ⟨v, M, J', r, q⟩ => ?_
  obtain ⟨I', n, up⟩ := Inv.show' I hl h1 J'
  exact ⟨v, _, I', r, M, q, rfl, n, up⟩
end
end VL
set_option Elab.async false
set_option linter.all false
set_option maxRecDepth 100000
set_option maxHeartbeats 1000000
/-! value layer, part 2: what an expression is worth -/
namespace VL
open PySem L2

abbrev Rho := List (Option D)
structure EnvS (K : PySem.W.Frag) (σ : L2.St) (H : Hp) (ρ : Rho) : Prop where
  len : σ.length = ρ.length
  get : ∀ (i : Nat) (d : D), ρ[i]? = some (some d) → ∃ v, σ[i]? = some (some v) ∧ Rep K H v d
theorem EnvS.mono {K : PySem.W.Frag} {σ : L2.St} {H H' : Hp} {ρ : Rho} (s : Same H H') (e : EnvS K σ H ρ) : EnvS K σ H' ρ := ⟨e.len, fun i d h =>
  let ⟨v, a, b⟩ := e.get i d h; ⟨v, a, b.mono s⟩⟩
theorem EnvS.set {K : PySem.W.Frag} {σ : L2.St} {H : Hp} {ρ : Rho} {v : V} {d : D} (i : Nat) (e : EnvS K σ H ρ) (r : Rep K H v d) : EnvS K (σ.set i (some v)) H (ρ.set i (some d)) := ⟨by simp [e.len], fun j x h => by
  rw [List.getElem?_set] at h ⊢
  split at h
  · rename_i hij
    rw [if_pos hij]
    split at h
    · rw [if_pos (by rw [e.len]; assumption)]
      have h := Option.some.inj (Option.some.inj h)
      subst h
      exact ⟨v, rfl, r⟩
    · cases h
  · rename_i hij
    rw [if_neg hij]
    exact e.get j x h⟩
theorem EnvS.unset {K : PySem.W.Frag} {σ : L2.St} {H : Hp} {ρ : Rho} (i : Nat) (e : EnvS K σ H ρ) : EnvS K (σ.set i none) H (ρ.set i none) := ⟨by simp [e.len], fun j x h => by
  rw [List.getElem?_set] at h ⊢
  split at h
  · split at h <;> cases h
  · rename_i hij
    rw [if_neg hij]
    exact e.get j x h⟩
theorem EnvS.hide {K : PySem.W.Frag} {σ : L2.St} {H : Hp} {ρ : Rho} (i : Nat) (e : EnvS K σ H ρ) : EnvS K σ H (ρ.set i none) := ⟨by simp [e.len], fun j x h => by
  rw [List.getElem?_set] at h
  split at h
  · split at h <;> cases h
  · exact e.get j x h⟩

/-- own data: lists that nobody else holds (ls), tuples of such (tu), and the rest (sh) -/
inductive O where
  | sh (d : D) | ls (xs : List O) | tu (xs : List O) | ob (C : Addr) (ks : List Str) (xs : List O) | dd (ks : List Key) (xs : List O) | pin (a : Addr) (o : O)
mutual
def O.data : O → D
  | .sh d => d
  | .ls xs => .lst (dataAll xs)
  | .tu xs => .tup (dataAll xs)
  | .ob C ks xs => .ob C ks (dataAll xs)
  | .dd ks xs => .dd ks (dataAll xs)
  | .pin _ o => o.data
def dataAll : List O → List D
  | [] => []
  | x :: xs => x.data :: dataAll xs
end
theorem dataAll_map : ∀ xs : List O, dataAll xs = xs.map O.data
  | [] => by simp [dataAll]
  | x :: xs => by simp [dataAll, dataAll_map xs]
theorem dataAll_sh (ds : List D) : dataAll (ds.map O.sh) = ds := by
  rw [dataAll_map, List.map_map]
  exact (List.map_congr_left (fun d _ => by simp [O.data])).trans (List.map_id ds)

inductive RepO (K : PySem.W.Frag) (H S : Hp) : V → O → List Addr → Prop
  | sh {v : V} {d : D} : Rep K S v d → RepO K H S v (.sh d) []
  | ls {a : Addr} {vs : List V} {os : List O} {As : List (List Addr)} : H a = some (.lst vs) → vs.length = os.length → As.length = os.length →
      (∀ (i : Nat) v o A, vs[i]? = some v → os[i]? = some o → As[i]? = some A → RepO K H S v o A) → RepO K H S (.ref a) (.ls os) (a :: As.flatten)
  | tu {a : Addr} {vs : List V} {os : List O} {As : List (List Addr)} : S a = some (.tup vs) → vs.length = os.length → As.length = os.length →
      (∀ (i : Nat) v o A, vs[i]? = some v → os[i]? = some o → As[i]? = some A → RepO K H S v o A) → RepO K H S (.ref a) (.tu os) As.flatten
  | ob {a C dx : Addr} {fs : List (Str × V)} {ks : List Str} {vs : List V} {os : List O} {As : List (List Addr)} : H a = some (.ins C dx fs) → H dx = some (.own a) → fs.length ≤ ks.length → vs.length = ks.length → (∀ (i : Nat) f v, ks[i]? = some f → vs[i]? = some v → fs.lookup f = some v) → (∀ f, fs.lookup f ≠ none → NoAttr K C f) → vs.length = os.length → As.length = os.length →
      (∀ (i : Nat) v o A, vs[i]? = some v → os[i]? = some o → As[i]? = some A → RepO K H S v o A) → RepO K H S (.ref a) (.ob C ks os) (a :: dx :: As.flatten)
  | dd {a : Addr} {kvs : List (Key × V)} {vs : List V} {ks : List Key} {os : List O} {As : List (List Addr)} : S a = some (.dK kvs) → vs.length = ks.length → (∀ (i : Nat) k v, ks[i]? = some k → vs[i]? = some v → valV kvs k = some v) → vs.length = os.length → As.length = os.length →
      (∀ (i : Nat) v o A, vs[i]? = some v → os[i]? = some o → As[i]? = some A → RepO K H S v o A) → RepO K H S (.ref a) (.dd ks os) As.flatten
  | pin {a : Addr} {o : O} {A : List Addr} : RepO K H S (.ref a) o A → RepO K H S (.ref a) (.pin a o) A
def RepOs (K : PySem.W.Frag) (H S : Hp) (vs : List V) (os : List O) (As : List (List Addr)) : Prop :=
  vs.length = os.length ∧ As.length = os.length ∧ ∀ (i : Nat) v o A, vs[i]? = some v → os[i]? = some o → As[i]? = some A → RepO K H S v o A
section
variable {K : PySem.W.Frag} {H H' S S' : Hp} {v : V} {o : O} {A : List Addr} {vs : List V} {os : List O} {As : List (List Addr)}
theorem RepO.keep (r : RepO K H S v o A) (h' : ∀ a ∈ A, ∀ u, H a = some u → H' a = some u) (s : Same S S') : RepO K H' S' v o A := by
  induction r with
  | sh q => exact .sh (q.mono s)
  | ls h1 h2 h3 h4 ih => exact .ls (h' _ (List.mem_cons_self ..) _ h1) h2 h3 fun i v o A q1 q2 q3 => ih i v o A q1 q2 q3 fun a ha u => h' a (List.mem_cons_of_mem _ (List.mem_flatten.mpr ⟨A, List.mem_of_getElem? q3, ha⟩)) u
  | tu h1 h2 h3 h4 ih => exact .tu (s _ _ h1) h2 h3 fun i v o A q1 q2 q3 => ih i v o A q1 q2 q3 fun a ha u => h' a (List.mem_flatten.mpr ⟨A, List.mem_of_getElem? q3, ha⟩) u
  | ob h1 h2 hz h3 h4 h5 h6 h7 h8 ih => exact .ob (h' _ (List.mem_cons_self ..) _ h1) (h' _ (List.mem_cons_of_mem _ (List.mem_cons_self ..)) _ h2) hz h3 h4 h5 h6 h7 fun i v o A q1 q2 q3 => ih i v o A q1 q2 q3 fun a ha u => h' a (List.mem_cons_of_mem _ (List.mem_cons_of_mem _ (List.mem_flatten.mpr ⟨A, List.mem_of_getElem? q3, ha⟩))) u
  | pin h ih => exact .pin (ih h')
  | dd h1 h2 h3 h4 h5 h6 ih => exact .dd (s _ _ h1) h2 h3 h4 h5 fun i v o A q1 q2 q3 => ih i v o A q1 q2 q3 fun a ha u => h' a (List.mem_flatten.mpr ⟨A, List.mem_of_getElem? q3, ha⟩) u
theorem hid_all {n : Nat} {vs : List V} {os : List O} {As : List (List Addr)} (h1 : vs.length = os.length) (h2 : As.length = os.length) (ih : ∀ (i : Nat) (v : V) (o : O) (A : List Addr), vs[i]? = some v → os[i]? = some o → As[i]? = some A → Hid H A) : Hid H As.flatten := Hid.union fun B hB => by
  obtain ⟨i, hi⟩ := List.getElem?_of_mem hB
  have l := (List.getElem?_eq_some_iff.mp hi).1
  exact ih i _ _ B (List.getElem?_eq_getElem (by omega)) (List.getElem?_eq_getElem (by omega)) hi
theorem RepO.cells (r : RepO K H S v o A) : Hid H A := by
  induction r with
  | sh q => exact Hid.nil
  | ls h1 h2 h3 h4 ih => exact Hid.cons h1 (hid_all (n := 0) h2 h3 ih)
  | tu h1 h2 h3 h4 ih => exact hid_all (n := 0) h2 h3 ih
  | @ob a C dx fs ks vs os As h1 h2 hz h3 h4 h5 h6 h7 h8 ih =>
    have q : Hid H [a, dx] := fun b hb => by
      rcases List.mem_cons.mp hb with e | hb
      · subst e; exact .inr (.inl ⟨C, dx, fs, h1, by simp⟩)
      · have e : b = dx := by simpa using hb
        subst e; exact .inr (.inr ⟨a, C, fs, h2, by simp, h1⟩)
    exact q.app (bs := As.flatten) (hid_all (n := 0) h6 h7 ih)
  | dd h1 h2 h3 h4 h5 h6 ih => exact hid_all (n := 0) h4 h5 ih
  | pin h ih => exact ih
theorem RepO.rep (r : RepO K H S v o A) (s : Same S H) : Rep K H v o.data := by
  induction r with
  | sh q => rw [O.data]; exact q.mono s
  | ls h1 h2 h3 h4 ih =>
    rw [O.data, dataAll_map]
    refine .lst h1 (by simp [h2]) fun i v d q1 q2 => ?_
    rw [List.getElem?_map] at q2
    obtain ⟨o', e, rfl⟩ := Option.map_eq_some_iff.mp q2
    have l := (List.getElem?_eq_some_iff.mp e).1
    exact ih i v o' _ q1 e (List.getElem?_eq_getElem (by omega))
  | tu h1 h2 h3 h4 ih =>
    rw [O.data, dataAll_map]
    refine .tup (s _ _ h1) (by simp [h2]) fun i v d q1 q2 => ?_
    rw [List.getElem?_map] at q2
    obtain ⟨o', e, rfl⟩ := Option.map_eq_some_iff.mp q2
    have l := (List.getElem?_eq_some_iff.mp e).1
    exact ih i v o' _ q1 e (List.getElem?_eq_getElem (by omega))
  | ob h1 h2 hz h3 h4 h5 h6 h7 h8 ih =>
    rw [O.data, dataAll_map]
    refine .ob h1 h3 h4 h5 (by simp [h6]) fun i v d q1 q2 => ?_
    rw [List.getElem?_map] at q2
    obtain ⟨o', e, rfl⟩ := Option.map_eq_some_iff.mp q2
    have l := (List.getElem?_eq_some_iff.mp e).1
    exact ih i v o' _ q1 e (List.getElem?_eq_getElem (by omega))
  | dd h1 h2 h3 h4 h5 h6 ih =>
    rw [O.data, dataAll_map]
    refine .dd (s _ _ h1) h2 h3 (by simp [h4]) fun i v d q1 q2 => ?_
    rw [List.getElem?_map] at q2
    obtain ⟨o', e, rfl⟩ := Option.map_eq_some_iff.mp q2
    have l := (List.getElem?_eq_some_iff.mp e).1
    exact ih i v o' _ q1 e (List.getElem?_eq_getElem (by omega))
  | pin h ih => rw [O.data]; exact ih
theorem RepOs.nil : RepOs K H S [] [] [] := ⟨rfl, rfl, fun i v o A h => by simp at h⟩
theorem RepOs.cons (h : RepO K H S v o A) (t : RepOs K H S vs os As) : RepOs K H S (v :: vs) (o :: os) (A :: As) := by
  refine ⟨by simp [t.1], by simp [t.2.1], fun i w p B h1 h2 h3 => ?_⟩
  cases i with
  | zero => simp at h1 h2 h3; subst h1; subst h2; subst h3; exact h
  | succ i => exact t.2.2 i w p B (by simpa using h1) (by simpa using h2) (by simpa using h3)
theorem RepOs.keep (r : RepOs K H S vs os As) (h : ∀ a ∈ As.flatten, ∀ u, H a = some u → H' a = some u) (s : Same S S') : RepOs K H' S' vs os As :=
  ⟨r.1, r.2.1, fun i v o A h1 h2 h3 => (r.2.2 i v o A h1 h2 h3).keep (fun a ha u => h a (List.mem_flatten.mpr ⟨A, List.mem_of_getElem? h3, ha⟩) u) s⟩
theorem RepOs.cells (r : RepOs K H S vs os As) : Hid H As.flatten := hid_all (n := 0) r.1 r.2.1 fun i v o A h1 h2 h3 => (r.2.2 i v o A h1 h2 h3).cells
theorem repOs_sh {ds : List D} (r : Reps K S vs ds) : RepOs K H S vs (ds.map O.sh) (ds.map fun _ => []) := by
  refine ⟨by simp [r.1], by simp, fun i v o A h1 h2 h3 => ?_⟩
  rw [List.getElem?_map] at h2 h3
  cases e : ds[i]? with
  | none => rw [e] at h2; cases h2
  | some d =>
    rw [e] at h2 h3
    cases h2; cases h3
    exact .sh (r.2 i v d h1 e)
theorem flat_nil : ∀ ds : List D, (ds.map fun _ => ([] : List Addr)).flatten = []
  | [] => rfl
  | d :: ds => by simp
end

section
variable {X : Cx} {ρ : Rho} {e e1 e2 a b : Expr} {d d1 d2 : D} {o : O} {pos : Pos}
structure Ev (X : Cx) (ρ : Rho) (e : Expr) (d : D) : Prop where
  run : ∀ (σ : L2.St) (H : Hp), EnvS X.K σ H ρ → ∀ Q : VK, (∀ v H', Same H H' → Rep X.K H' v d → Q v H') → WE X e σ H Q
/-- .. to own data -/
structure EvO (X : Cx) (ρ : Rho) (e : Expr) (o : O) : Prop where
  run : ∀ (σ : L2.St) (H : Hp), EnvS X.K σ H ρ → ∀ Q : VK, (∀ v H' A, Same H H' → (∀ a ∈ A, H a = none) → A.Nodup → RepO X.K H' (mask H' A) v o A → Q v H') → WE X e σ H Q
/-- arguments -/
def WA (X : Cx) (es : List Expr) (σ : L2.St) (H : Hp) (Q : List V → Hp → Prop) : Prop :=
  ∀ (pos : Pos) (pins : List (Addr × Obj)) (s : Shared), Inv X pins σ H s → wpAny (model X.prog X.w) X.A (spliced (backTo pos (starEach es X.env))) (AP X pins σ Q) X.xe s
theorem pa_wa {es : List Expr} : PA X es (WA X es) := ⟨fun pos pins s σ H Q I h => h pos pins s I⟩
theorem wa_of {es : List Expr} {t : TA} {σ : L2.St} {H : Hp} {Q : List V → Hp → Prop} (h : PA X es t) (q : t σ H Q) : WA X es σ H Q := fun pos pins s I => h.run pos pins s σ H Q I q
structure EvA (X : Cx) (ρ : Rho) (es : List Expr) (ds : List D) : Prop where
  run : ∀ (σ : L2.St) (H : Hp), EnvS X.K σ H ρ → ∀ Q : List V → Hp → Prop, (∀ vs H', Same H H' → Reps X.K H' vs ds → Q vs H') → WA X es σ H Q
structure EvAO (X : Cx) (ρ : Rho) (es : List Expr) (os : List O) : Prop where
  run : ∀ (σ : L2.St) (H : Hp), EnvS X.K σ H ρ → ∀ Q : List V → Hp → Prop, (∀ vs H' As, Same H H' → (∀ a ∈ As.flatten, H a = none) → As.flatten.Nodup → RepOs X.K H' (mask H' As.flatten) vs os As → Q vs H') → WA X es σ H Q
/-- a test -/
def WT (X : Cx) (e : Expr) (σ : L2.St) (H : Hp) (Q : Bool → Hp → Prop) : Prop :=
  ∀ (pins : List (Addr × Obj)) (s : Shared), Inv X pins σ H s → wpAny (model X.prog X.w) X.A (isTrue e X.env (eval e X.env)) (TP X pins σ Q) X.xe s
theorem pt_wt : PT X e (WT X e) := ⟨fun pins s σ H Q I h => h pins s I⟩
theorem wt_of {t : TT} {σ : L2.St} {H : Hp} {Q : Bool → Hp → Prop} (h : PT X e t) (q : t σ H Q) : WT X e σ H Q := fun pins s I => h.run pins s σ H Q I q
structure EvT (X : Cx) (ρ : Rho) (e : Expr) (b : Bool) : Prop where
  run : ∀ (σ : L2.St) (H : Hp), EnvS X.K σ H ρ → ∀ Q : Bool → Hp → Prop, (∀ H', Same H H' → Q b H') → WT X e σ H Q
def WW (X : Cx) (e : Expr) (σ : L2.St) (H : Hp) (Q : Bool → Hp → Prop) : Prop :=
  ∀ (whole : Sem Value) (pins : List (Addr × Obj)) (s : Shared), Inv X pins σ H s → wpAny (model X.prog X.w) X.A (isTrue e X.env whole) (TP X pins σ Q) X.xe s
theorem pw_ww : PW X e (WW X e) := ⟨fun wh pins s σ H Q I h => h wh pins s I⟩
theorem ww_of {t : TT} {σ : L2.St} {H : Hp} {Q : Bool → Hp → Prop} (h : PW X e t) (q : t σ H Q) : WW X e σ H Q := fun wh pins s I => h.run wh pins s σ H Q I q
structure EvW' (X : Cx) (ρ : Rho) (e : Expr) (b : Bool) : Prop where
  run : ∀ (σ : L2.St) (H : Hp), EnvS X.K σ H ρ → ∀ Q : Bool → Hp → Prop, (∀ H', Same H H' → Q b H') → WW X e σ H Q

theorem mask_sameO {H H' : Hp} {A : List Addr} (s : Same H H') (f : ∀ a ∈ A, H a = none) : Same H (mask H' A) := mask_same_of s f
theorem EvO.ev (h : EvO X ρ e o) : Ev X ρ e o.data := ⟨fun σ H en Q q => h.run σ H en Q fun v H' A s f n r => q v H' s (r.rep mask_same)⟩
theorem EvO.ev' (h : EvO X ρ e o) (hd : o.data = d) : Ev X ρ e d := hd ▸ h.ev
theorem Ev.evO (h : Ev X ρ e d) : EvO X ρ e (.sh d) := ⟨fun σ H en Q q => h.run σ H en Q fun v H' s r => q v H' [] s (fun a ha => by cases ha) List.nodup_nil (.sh (by rw [mask_nil]; exact r))⟩
theorem Ev.is (h : Ev X ρ e d) (e' : d = d1) : Ev X ρ e d1 := e' ▸ h
theorem EvO.is {o' : O} (h : EvO X ρ e o) (e' : o = o') : EvO X ρ e o' := e' ▸ h
theorem EvT.is {c c' : Bool} (h : EvT X ρ e c) (e' : c = c') : EvT X ρ e c' := e' ▸ h

/-! ### names, constants -/
theorem Ev.name {x : Str} (i : Nat) (hN : X.N[i]? = some x := by rfl) (hρ : ρ[i]? = some (some d) := by rfl) (hv : Vis X.env.scope x := by first | exact Or.inl rfl | exact Or.inr (Or.inl rfl) | exact Or.inr (Or.inr rfl))
    (hd : (x == ("__debug__" : Str)) = false := by decide) (hcd : (x == ("__classdict__" : Str)) = false := by decide) : Ev X ρ (.Name x pos) d :=
  ⟨fun σ H en Q q => by
    obtain ⟨v, hv', r⟩ := en.get i d hρ
    exact we_of (pe_var hN hv hd hcd) ⟨v, hv', q v H (Same.refl H) r⟩⟩
theorem Ev.int {i : Int} {j} : Ev X ρ (.Constant (.int i) j pos) (.int i) := ⟨fun σ H en Q q => we_of pe_int (q _ H (Same.refl H) (.int i))⟩
theorem Ev.str {x : Str} {j} : Ev X ρ (.Constant (.str x) j pos) (.str x) := ⟨fun σ H en Q q => we_of pe_str (q _ H (Same.refl H) (.str x))⟩
theorem Ev.bl {x : Bool} {j} : Ev X ρ (.Constant (.bool x) j pos) (.bl x) := ⟨fun σ H en Q q => we_of pe_bl (q _ H (Same.refl H) (.bl x))⟩
theorem Ev.non {j} : Ev X ρ (.Constant .none j pos) .non := ⟨fun σ H en Q q => we_of pe_non (q _ H (Same.refl H) .non)⟩

/-! ### operators -/
theorem Ev.op {op : Operator} {r : R2} (ho : OpR X (binaryOp op) r) (ha : Ev X ρ a d1) (hb : Ev X ρ b d2)
    (hr : ∀ x y H, Rep X.K H x d1 → Rep X.K H y d2 → ∀ Q : VK, (∀ v H', Same H H' → Rep X.K H' v d → Q v H') → r x y H Q) : Ev X ρ (.BinOp a op b pos) d :=
  ⟨fun σ H en Q q => we_of (pe_op ho pe_we pe_we) (ha.run σ H en _ fun x H1 s1 r1 => hb.run σ H1 (en.mono s1) _ fun y H2 s2 r2 =>
    hr x y H2 (r1.mono s2) r2 Q fun v H' s3 r3 => q v H' ((s1.trans s2).trans s3) r3)⟩
theorem Ev.opI {op : Operator} {C : Int → Int → Prop} {g : Int → Int → V} {i j : Int} (ho : OpR X (binaryOp op) (rI C g)) (ha : Ev X ρ a (.int i)) (hb : Ev X ρ b (.int j)) (hc : C i j) {k : Int} (hk : g i j = .int k) : Ev X ρ (.BinOp a op b pos) (.int k) :=
  Ev.op ho ha hb fun x y H rx ry Q q => ⟨i, j, rx.int_inv, ry.int_inv, hc, by rw [hk]; exact q _ H (Same.refl H) (.int k)⟩
theorem Ev.opI0 {op : Operator} {g : Int → Int → V} {i j : Int} (ho : OpR X (binaryOp op) (rI0 g)) (ha : Ev X ρ a (.int i)) (hb : Ev X ρ b (.int j)) {k : Int} (hk : g i j = .int k) : Ev X ρ (.BinOp a op b pos) (.int k) :=
  Ev.op ho ha hb fun x y H rx ry Q q => ⟨i, j, rx.int_inv, ry.int_inv, by rw [hk]; exact q _ H (Same.refl H) (.int k)⟩
variable {i j k : Int}
theorem Ev.add (ha : Ev X ρ a (.int i)) (hb : Ev X ρ b (.int j)) : Ev X ρ (.BinOp a .Add b pos) (.int (i + j)) := Ev.opI0 op_add ha hb rfl
theorem Ev.sub (ha : Ev X ρ a (.int i)) (hb : Ev X ρ b (.int j)) : Ev X ρ (.BinOp a .Sub b pos) (.int (i - j)) := Ev.opI0 op_sub ha hb rfl
theorem Ev.mul (ha : Ev X ρ a (.int i)) (hb : Ev X ρ b (.int j)) (hc : CMul i j) : Ev X ρ (.BinOp a .Mult b pos) (.int (i * j)) := Ev.opI op_mul ha hb hc rfl
theorem Ev.div (ha : Ev X ρ a (.int i)) (hb : Ev X ρ b (.int j)) (hc : CDiv i j) : Ev X ρ (.BinOp a .FloorDiv b pos) (.int (i / j)) := Ev.opI op_fdiv ha hb hc rfl
theorem Ev.mod (ha : Ev X ρ a (.int i)) (hb : Ev X ρ b (.int j)) (hc : 0 < j) : Ev X ρ (.BinOp a .Mod b pos) (.int (i % j)) := Ev.opI op_mod ha hb hc rfl
theorem Ev.neg (ha : Ev X ρ a (.int i)) : Ev X ρ (.UnaryOp .USub a pos) (.int (-i)) :=
  ⟨fun σ H en Q q => we_of (pe_un un_neg pe_we) (ha.run σ H en _ fun x H1 s1 r1 => ⟨i, r1.int_inv, q _ H1 s1 (.int _)⟩)⟩
theorem Ev.addS {x y : Str} (ha : Ev X ρ a (.str x)) (hb : Ev X ρ b (.str y)) (hl : x.length + y.length ≤ sizeLine) : Ev X ρ (.BinOp a .Add b pos) (.str (x ++ y)) :=
  Ev.op op_add_str ha hb fun v w H rv rw Q q => ⟨x, y, rv.str_inv, rw.str_inv, hl, q _ H (Same.refl H) (.str _)⟩

/-! ### comparisons -/
theorem Ev.cmpR {op : CmpOp} {r : R2} (ho : OpR X (compareOp op) r) (ha : Ev X ρ a d1) (hb : Ev X ρ b d2) (hm : behindInMarks op b = false)
    (hr : ∀ x y H, Rep X.K H x d1 → Rep X.K H y d2 → ∀ Q : VK, (∀ v H', Same H H' → Rep X.K H' v d → Q v H') → r x y H Q) : Ev X ρ (.Compare a [op] [b] pos) d :=
  ⟨fun σ H en Q q => we_of (pe_cmpR ho pe_we pe_we hm) (ha.run σ H en _ fun x H1 s1 r1 => hb.run σ H1 (en.mono s1) _ fun y H2 s2 r2 =>
    hr x y H2 (r1.mono s2) r2 Q fun v H' s3 r3 => q v H' ((s1.trans s2).trans s3) r3)⟩
theorem EvT.cmpR {op : CmpOp} {r : R2} {c : Bool} (ho : OpR X (compareOp op) r) (ha : Ev X ρ a d1) (hb : Ev X ρ b d2) (hm : behindInMarks op b = false)
    (hr : ∀ x y H, Rep X.K H x d1 → Rep X.K H y d2 → ∀ Q : VK, (∀ v H', Same H H' → Rep X.K H' v (.bl c) → Q v H') → r x y H Q) : EvT X ρ (.Compare a [op] [b] pos) c :=
  ⟨fun σ H en Q q => wt_of (pt_cmpR ho pe_we pe_we hm) (ha.run σ H en _ fun x H1 s1 r1 => hb.run σ H1 (en.mono s1) _ fun y H2 s2 r2 =>
    hr x y H2 (r1.mono s2) r2 _ fun v H' s3 r3 => ⟨c, r3.bl_inv, q H' ((s1.trans s2).trans s3)⟩)⟩
/-- what a comparison of two data is -/
def CmpD (X : Cx) (op : CmpOp) (x y : D) (c : Bool) : Prop :=
  ∃ r : R2, OpR X (compareOp op) r ∧ ∀ v w H, Rep X.K H v x → Rep X.K H w y → ∀ Q : VK, (∀ u H', Same H H' → Rep X.K H' u (.bl c) → Q u H') → r v w H Q
theorem Ev.cmp {op : CmpOp} {c : Bool} (ha : Ev X ρ a d1) (hb : Ev X ρ b d2) (hc : CmpD X op d1 d2 c) (hm : behindInMarks op b = false := by exact nomark _) : Ev X ρ (.Compare a [op] [b] pos) (.bl c) :=
  let ⟨_, ho, hr⟩ := hc; Ev.cmpR ho ha hb hm hr
theorem EvT.cmp {op : CmpOp} {c : Bool} (ha : Ev X ρ a d1) (hb : Ev X ρ b d2) (hc : CmpD X op d1 d2 c) (hm : behindInMarks op b = false := by exact nomark _) : EvT X ρ (.Compare a [op] [b] pos) c :=
  let ⟨_, ho, hr⟩ := hc; EvT.cmpR ho ha hb hm hr
theorem CmpD.int0 {op : CmpOp} {p : Int → Int → Bool} (ho : OpR X (compareOp op) (rI0 fun i j => .bl (p i j))) : CmpD X op (.int i) (.int j) (p i j) :=
  ⟨_, ho, fun v w H rv rw Q q => ⟨i, j, rv.int_inv, rw.int_inv, q _ H (Same.refl H) (.bl _)⟩⟩
theorem CmpD.lt : CmpD X .Lt (.int i) (.int j) (decide (i < j)) := .int0 op_lt
theorem CmpD.le : CmpD X .LtE (.int i) (.int j) (decide (i ≤ j)) := .int0 op_le
theorem CmpD.gt : CmpD X .Gt (.int i) (.int j) (decide (j < i)) := .int0 op_gt
theorem CmpD.ge : CmpD X .GtE (.int i) (.int j) (decide (j ≤ i)) := .int0 op_ge
theorem CmpD.eqI : CmpD X .Eq (.int i) (.int j) (decide (i = j)) :=
  ⟨_, op_eq, fun v w H rv rw Q q => by
    obtain rfl := rv.int_inv
    obtain rfl := rw.int_inv
    exact ⟨rfl, by rw [show decide (V.int i = V.int j) = decide (i = j) by simp]; exact q _ H (Same.refl H) (.bl _)⟩⟩
theorem CmpD.neI : CmpD X .NotEq (.int i) (.int j) (!decide (i = j)) :=
  ⟨_, op_ne, fun v w H rv rw Q q => by
    obtain rfl := rv.int_inv
    obtain rfl := rw.int_inv
    exact ⟨rfl, by rw [show decide (V.int i = V.int j) = decide (i = j) by simp]; exact q _ H (Same.refl H) (.bl _)⟩⟩
theorem CmpD.eqS {x y : Str} : CmpD X .Eq (.str x) (.str y) (decide (x = y)) :=
  ⟨_, op_eq, fun v w H rv rw Q q => by
    obtain rfl := rv.str_inv
    obtain rfl := rw.str_inv
    exact ⟨rfl, by rw [show decide (V.str x = V.str y) = decide (x = y) by simp]; exact q _ H (Same.refl H) (.bl _)⟩⟩
theorem CmpD.neS {x y : Str} : CmpD X .NotEq (.str x) (.str y) (!decide (x = y)) :=
  ⟨_, op_ne, fun v w H rv rw Q q => by
    obtain rfl := rv.str_inv
    obtain rfl := rw.str_inv
    exact ⟨rfl, by rw [show decide (V.str x = V.str y) = decide (x = y) by simp]; exact q _ H (Same.refl H) (.bl _)⟩⟩
theorem CmpD.eqB {x y : Bool} : CmpD X .Eq (.bl x) (.bl y) (decide (x = y)) :=
  ⟨_, op_eq, fun v w H rv rw Q q => by
    obtain rfl := rv.bl_inv
    obtain rfl := rw.bl_inv
    exact ⟨rfl, by rw [show decide (V.bl x = V.bl y) = decide (x = y) by simp]; exact q _ H (Same.refl H) (.bl _)⟩⟩
theorem CmpD.neB {x y : Bool} : CmpD X .NotEq (.bl x) (.bl y) (!decide (x = y)) :=
  ⟨_, op_ne, fun v w H rv rw Q q => by
    obtain rfl := rv.bl_inv
    obtain rfl := rw.bl_inv
    exact ⟨rfl, by rw [show decide (V.bl x = V.bl y) = decide (x = y) by simp]; exact q _ H (Same.refl H) (.bl _)⟩⟩
/-- is None -/
def D.isNon : D → Bool
  | .non => true
  | _ => false
theorem Rep.non_iff {K : PySem.W.Frag} {H : Hp} {v : V} (r : Rep K H v d) : decide (v = .non) = d.isNon := by
  cases r <;> simp [D.isNon]
theorem CmpD.isN : CmpD X .Is d .non d.isNon :=
  ⟨_, op_isN, fun v w H rv rw Q q => ⟨rw.non_inv, by rw [rv.non_iff]; exact q _ H (Same.refl H) (.bl _)⟩⟩
theorem CmpD.isNotN : CmpD X .IsNot d .non (!d.isNon) :=
  ⟨_, op_notN, fun v w H rv rw Q q => ⟨rw.non_inv, by rw [rv.non_iff]; exact q _ H (Same.refl H) (.bl _)⟩⟩
theorem CmpD.isB {x y : Bool} : CmpD X .Is (.bl x) (.bl y) (decide (x = y)) :=
  ⟨_, op_isBl, fun v w H rv rw Q q => ⟨x, y, rv.bl_inv, rw.bl_inv, q _ H (Same.refl H) (.bl _)⟩⟩
theorem CmpD.isNotB {x y : Bool} : CmpD X .IsNot (.bl x) (.bl y) (!decide (x = y)) :=
  ⟨_, op_notBl, fun v w H rv rw Q q => ⟨x, y, rv.bl_inv, rw.bl_inv, q _ H (Same.refl H) (.bl _)⟩⟩

/-! ### == of data -/
mutual
def D.py : D → PyData
  | .non => .none
  | .bl b => .bool b
  | .int i => .int i
  | .str s => .str s
  | .lst xs => .list (pyAll xs)
  | .tup xs => .tuple (pyAll xs)
  | .ro _ => .none
  | .dk _ => .none
  | .ob _ _ _ => .none
  | .dd _ _ => .none
  | .raw _ => .none
def pyAll : List D → List PyData
  | [] => []
  | x :: xs => x.py :: pyAll xs
end
mutual
/-- no dict, no script within -/
def D.plain : D → Bool
  | .lst xs => plainAll xs
  | .tup xs => plainAll xs
  | .ro _ => false
  | .dk _ => false
  | .ob _ _ _ => false
  | .dd _ _ => false
  | .raw _ => false
  | _ => true
def plainAll : List D → Bool
  | [] => true
  | x :: xs => x.plain && plainAll xs
end
theorem rep_dp_all {K : PySem.W.Frag} {H : Hp} : ∀ (ds : List D) (vs : List V), plainAll ds = true → vs.length = ds.length → (∀ (i : Nat) v d, vs[i]? = some v → ds[i]? = some d → d.plain = true → Dp K H v d.py) → DpAll K H vs (pyAll ds)
  | [], vs, _, hl, _ => by
    obtain rfl : vs = [] := by simpa using hl
    rw [pyAll]; exact .nil
  | d :: ds, [], _, hl, _ => by simp at hl
  | d :: ds, v :: vs, hp, hl, h => by
    rw [plainAll] at hp
    obtain ⟨p1, p2⟩ := Bool.and_eq_true_iff.mp hp
    rw [pyAll]
    exact .cons (h 0 v d rfl rfl p1) (rep_dp_all ds vs p2 (by simpa using hl) fun i w e q1 q2 => h (i + 1) w e (by simpa using q1) (by simpa using q2))
theorem Rep.dp {K : PySem.W.Frag} {H : Hp} {v : V} (r : Rep K H v d) (hp : d.plain = true) : Dp K H v d.py := by
  induction r with
  | non => rw [D.py]; exact .non
  | bl b => rw [D.py]; exact .bl b
  | int i => rw [D.py]; exact .int i
  | str s => rw [D.py]; exact .str s
  | lst h1 h2 h3 ih =>
    rw [D.py]
    rw [D.plain] at hp
    exact .lst (SqL.of h1) (rep_dp_all _ _ hp h2 fun i v d q1 q2 q3 => ih i v d q1 q2 q3)
  | tup h1 h2 h3 ih =>
    rw [D.py]
    rw [D.plain] at hp
    exact .tup (SqT.of h1) (rep_dp_all _ _ hp h2 fun i v d q1 q2 q3 => ih i v d q1 q2 q3)
  | ro h1 h2 h3 ih => simp [D.plain] at hp
  | dk h1 h2 => simp [D.plain] at hp
  | ob h1 h2 h3 h6 h4 h5 ih => simp [D.plain] at hp
  | dd h1 h2 h3 h4 h5 ih => simp [D.plain] at hp
  | raw a => simp [D.plain] at hp
def Shp (d : D) : Prop := d.plain = true ∧ SeqAt.shaped d.py = true
def eqvD (x y : D) : Bool := PyData.eqv x.py y.py
theorem CmpD.eqD (hu : X.A.units + 64 < cLine) (h1 : Shp d1) (h2 : Shp d2) : CmpD X .Eq d1 d2 (eqvD d1 d2) :=
  ⟨_, op_eqD hu, fun v w H rv rw Q q => ⟨_, _, rv.dp h1.1, rw.dp h2.1, h1.2, h2.2, q _ H (Same.refl H) (.bl _)⟩⟩
theorem CmpD.neD (hu : X.A.units + 64 < cLine) (h1 : Shp d1) (h2 : Shp d2) : CmpD X .NotEq d1 d2 (!eqvD d1 d2) :=
  ⟨_, op_neD hu, fun v w H rv rw Q q => ⟨_, _, rv.dp h1.1, rw.dp h2.1, h1.2, h2.2, q _ H (Same.refl H) (.bl _)⟩⟩
theorem Rep.dpL {K : PySem.W.Frag} {H : Hp} {v : V} {ds : List D} (r : Rep K H v (.lst ds)) (hp : (D.lst ds).plain = true) : Dp K H v (.list (pyAll ds)) := by
  have := r.dp hp
  rw [D.py] at this
  exact this
theorem CmpD.inD (hu : X.A.units + 65 < cLine) {ds : List D} (h1 : Shp d1) (h2 : Shp (.lst ds)) : CmpD X .In d1 (.lst ds) (ds.any fun z => eqvD z d1) :=
  ⟨_, op_inD hu, fun v w H rv rw Q q => ⟨_, _, rv.dp h1.1, rw.dpL h2.1, h1.2, by have := h2.2; rw [D.py] at this; exact this, by
    have e : ∀ ds : List D, (pyAll ds).any (fun z => PyData.eqv z d1.py) = ds.any fun z => eqvD z d1 := by
      intro ds
      induction ds with
      | nil => simp [pyAll]
      | cons x xs ih => simp [pyAll, eqvD]; rw [ih]; simp [eqvD]
    rw [e]
    exact q _ H (Same.refl H) (.bl _)⟩⟩
theorem CmpD.notInD (hu : X.A.units + 65 < cLine) {ds : List D} (h1 : Shp d1) (h2 : Shp (.lst ds)) : CmpD X .NotIn d1 (.lst ds) (!ds.any fun z => eqvD z d1) :=
  ⟨_, op_notInD hu, fun v w H rv rw Q q => ⟨_, _, rv.dp h1.1, rw.dpL h2.1, h1.2, by have := h2.2; rw [D.py] at this; exact this, by
    have e : ∀ ds : List D, (pyAll ds).any (fun z => PyData.eqv z d1.py) = ds.any fun z => eqvD z d1 := by
      intro ds
      induction ds with
      | nil => simp [pyAll]
      | cons x xs ih => simp [pyAll, eqvD]; rw [ih]; simp [eqvD]
    rw [e]
    exact q _ H (Same.refl H) (.bl _)⟩⟩

/-! ### chains -/
theorem Ev.chain {op op' : CmpOp} {c : Expr} {d3 : D} {p p' : Bool} (ha : Ev X ρ a d1) (hb : Ev X ρ b d2) (hc : Ev X ρ c d3) (h1 : CmpD X op d1 d2 p) (h2 : p = true → CmpD X op' d2 d3 p')
    (hm : lastMarks [op, op'] [b, c] = false := by with_unfolding_all rfl) : Ev X ρ (.Compare a [op, op'] [b, c] pos) (.bl (p && p')) := by
  obtain ⟨r, ho, hr⟩ := h1
  cases p with
  | false =>
    refine ⟨fun σ H en Q q => we_of (pe_chain (r' := fun _ _ _ _ => False) ho (fun pins s σ H x y v u Q I rx ry h => h.elim) pe_we pe_we pe_we hm) (ha.run σ H en _ fun x H1 s1 r1 => hb.run σ H1 (en.mono s1) _ fun y H2 s2 r2 => ?_)⟩
    refine hr x y H2 (r1.mono s2) r2 _ fun v H' s3 r3 => ⟨false, r3.bl_inv, ?_⟩
    exact iteF (q _ H' ((s1.trans s2).trans s3) (.bl _))
  | true =>
    obtain ⟨r', ho', hr'⟩ := h2 rfl
    refine ⟨fun σ H en Q q => we_of (pe_chain ho ho' pe_we pe_we pe_we hm) (ha.run σ H en _ fun x H1 s1 r1 => hb.run σ H1 (en.mono s1) _ fun y H2 s2 r2 => ?_)⟩
    refine hr x y H2 (r1.mono s2) r2 _ fun v H' s3 r3 => ⟨true, r3.bl_inv, ?_⟩
    refine iteT (hc.run σ H' (en.mono ((s1.trans s2).trans s3)) _ fun z H4 s4 r4 => ?_)
    refine hr' y z H4 (r2.mono (s3.trans s4)) r4 Q fun v5 H5 s5 r5 => ?_
    exact q v5 H5 ((((s1.trans s2).trans s3).trans s4).trans s5) r5
theorem EvT.chain {op op' : CmpOp} {c : Expr} {d3 : D} {p p' : Bool} (ha : Ev X ρ a d1) (hb : Ev X ρ b d2) (hc : Ev X ρ c d3) (h1 : CmpD X op d1 d2 p) (h2 : p = true → CmpD X op' d2 d3 p')
    (hm : lastMarks [op, op'] [b, c] = false := by with_unfolding_all rfl) : EvT X ρ (.Compare a [op, op'] [b, c] pos) (p && p') := by
  obtain ⟨r, ho, hr⟩ := h1
  cases p with
  | false =>
    refine ⟨fun σ H en Q q => wt_of (pt_chain (r' := fun _ _ _ _ => False) ho (fun pins s σ H x y v u Q I rx ry h => h.elim) pe_we pe_we pe_we hm) (ha.run σ H en _ fun x H1 s1 r1 => hb.run σ H1 (en.mono s1) _ fun y H2 s2 r2 => ?_)⟩
    refine hr x y H2 (r1.mono s2) r2 _ fun v H' s3 r3 => ⟨false, r3.bl_inv, ?_⟩
    exact iteF ⟨false, rfl, q H' ((s1.trans s2).trans s3)⟩
  | true =>
    obtain ⟨r', ho', hr'⟩ := h2 rfl
    refine ⟨fun σ H en Q q => wt_of (pt_chain ho ho' pe_we pe_we pe_we hm) (ha.run σ H en _ fun x H1 s1 r1 => hb.run σ H1 (en.mono s1) _ fun y H2 s2 r2 => ?_)⟩
    refine hr x y H2 (r1.mono s2) r2 _ fun v H' s3 r3 => ⟨true, r3.bl_inv, ?_⟩
    refine iteT (hc.run σ H' (en.mono ((s1.trans s2).trans s3)) _ fun z H4 s4 r4 => ?_)
    refine hr' y z H4 (r2.mono (s3.trans s4)) r4 _ fun v5 H5 s5 r5 => ?_
    exact ⟨p', r5.bl_inv, q H5 ((((s1.trans s2).trans s3).trans s4).trans s5)⟩

/-! ### tests: not, and, or -/
variable {c c1 c2 : Bool} {rest : List Expr}
theorem EvT.val (h : Ev X ρ e (.bl c)) (he : ∀ whole, isTrue e X.env whole = (do let v ← whole; standAt e.pos; holding [v] (truthy v)) := by intro _; rfl) : EvT X ρ e c :=
  ⟨fun σ H en Q q => wt_of (pt_val pe_we he) (h.run σ H en _ fun v H' s r => ⟨c, r.bl_inv, q H' s⟩)⟩
theorem EvT.not (h : EvT X ρ a c) : EvT X ρ (.UnaryOp .Not a pos) (!c) := ⟨fun σ H en Q q => wt_of (pt_not pt_wt) (h.run σ H en _ fun H' s => q H' s)⟩
theorem EvT.bool (h : EvW' X ρ e c) : EvT X ρ e c := ⟨fun σ H en Q q => wt_of pw_ww.pt (h.run σ H en Q q)⟩
theorem EvW'.and1 (h : EvT X ρ a c) : EvW' X ρ (.BoolOp .And [a] pos) c := ⟨fun σ H en Q q => ww_of (pw_and1 pt_wt) (h.run σ H en Q q)⟩
theorem EvW'.or1 (h : EvT X ρ a c) : EvW' X ρ (.BoolOp .Or [a] pos) c := ⟨fun σ H en Q q => ww_of (pw_or1 pt_wt) (h.run σ H en Q q)⟩
theorem EvW'.and (h1 : EvT X ρ a c1) (h2 : c1 = true → EvW' X ρ (.BoolOp .And (b :: rest) pos) c2) : EvW' X ρ (.BoolOp .And (a :: b :: rest) pos) (c1 && c2) :=
  ⟨fun σ H en Q q => ww_of (pw_and pt_wt pw_ww) (h1.run σ H en _ fun H' s => by
    cases c1 with
    | true => exact iteT ((h2 rfl).run σ H' (en.mono s) Q fun H2 s2 => q H2 (s.trans s2))
    | false => exact iteF (q H' s))⟩
theorem EvW'.or (h1 : EvT X ρ a c1) (h2 : c1 = false → EvW' X ρ (.BoolOp .Or (b :: rest) pos) c2) : EvW' X ρ (.BoolOp .Or (a :: b :: rest) pos) (c1 || c2) :=
  ⟨fun σ H en Q q => ww_of (pw_or pt_wt pw_ww) (h1.run σ H en _ fun H' s => by
    cases c1 with
    | true => exact iteT (q H' s)
    | false => exact iteF ((h2 rfl).run σ H' (en.mono s) Q fun H2 s2 => q H2 (s.trans s2)))⟩
/-- as values -/
theorem Ev.notV (h : Ev X ρ a (.bl c)) : Ev X ρ (.UnaryOp .Not a pos) (.bl (!c)) := ⟨fun σ H en Q q => we_of (pe_not pe_we) (h.run σ H en _ fun v H' s r => ⟨c, r.bl_inv, q _ H' s (.bl _)⟩)⟩
theorem Ev.one {op} (h : Ev X ρ a d) : Ev X ρ (.BoolOp op [a] pos) d := ⟨fun σ H en Q q => we_of (pe_one pe_we) (h.run σ H en Q q)⟩
theorem Ev.and (h1 : Ev X ρ a (.bl c1)) (h2 : c1 = true → Ev X ρ (.BoolOp .And (b :: rest) pos) (.bl c2)) : Ev X ρ (.BoolOp .And (a :: b :: rest) pos) (.bl (c1 && c2)) :=
  ⟨fun σ H en Q q => we_of (pe_and pe_we pe_we) (h1.run σ H en _ fun v H' s r => ⟨c1, r.bl_inv, by
    cases c1 with
    | true => exact iteT ((h2 rfl).run σ H' (en.mono s) Q fun v2 H2 s2 r2 => q v2 H2 (s.trans s2) r2)
    | false => exact iteF (q _ H' s (.bl _))⟩)⟩
theorem Ev.or (h1 : Ev X ρ a (.bl c1)) (h2 : c1 = false → Ev X ρ (.BoolOp .Or (b :: rest) pos) (.bl c2)) : Ev X ρ (.BoolOp .Or (a :: b :: rest) pos) (.bl (c1 || c2)) :=
  ⟨fun σ H en Q q => we_of (pe_or pe_we pe_we) (h1.run σ H en _ fun v H' s r => ⟨c1, r.bl_inv, by
    cases c1 with
    | true => exact iteT (q _ H' s (.bl _))
    | false => exact iteF ((h2 rfl).run σ H' (en.mono s) Q fun v2 H2 s2 r2 => q v2 H2 (s.trans s2) r2)⟩)⟩

/-! ### subscripts -/
theorem Ev.ixL {ds : List D} {z : Int} (ha : Ev X ρ a (.lst ds)) (hb : Ev X ρ b (.int z)) (h : atI ds z = some d) (hs : PlainIx b := by exact fun _ _ => rfl) : Ev X ρ (.Subscript a b pos) d :=
  ⟨fun σ H en Q q => we_of (pe_ix ix_list pe_we pe_we hs) (ha.run σ H en _ fun x H1 s1 r1 => hb.run σ H1 (en.mono s1) _ fun y H2 s2 r2 => by
    obtain ⟨p, vs, rfl, hp, rs⟩ := (r1.mono s2).lst_inv
    obtain rfl := r2.int_inv
    obtain ⟨v, hv, rv⟩ := rs.at h
    exact ⟨p, vs, z, v, rfl, rfl, SqL.of hp, hv, q v H2 (s1.trans s2) rv⟩)⟩
theorem Ev.ixRo {ds : List D} {z : Int} (ha : Ev X ρ a (.ro ds)) (hb : Ev X ρ b (.int z)) (h : atI ds z = some d) (hs : PlainIx b := by exact fun _ _ => rfl) : Ev X ρ (.Subscript a b pos) d :=
  ⟨fun σ H en Q q => we_of (pe_ix ix_list pe_we pe_we hs) (ha.run σ H en _ fun x H1 s1 r1 => hb.run σ H1 (en.mono s1) _ fun y H2 s2 r2 => by
    obtain ⟨p, vs, rfl, hp, rs⟩ := (r1.mono s2).ro_inv
    obtain rfl := r2.int_inv
    obtain ⟨v, hv, rv⟩ := rs.at h
    exact ⟨p, vs, z, v, rfl, rfl, hp, hv, q v H2 (s1.trans s2) rv⟩)⟩
theorem Ev.ixT {ds : List D} {z : Int} (ha : Ev X ρ a (.tup ds)) (hb : Ev X ρ b (.int z)) (h : atI ds z = some d) (hs : PlainIx b := by exact fun _ _ => rfl) : Ev X ρ (.Subscript a b pos) d :=
  ⟨fun σ H en Q q => we_of (pe_ix ix_tup pe_we pe_we hs) (ha.run σ H en _ fun x H1 s1 r1 => hb.run σ H1 (en.mono s1) _ fun y H2 s2 r2 => by
    obtain ⟨p, vs, rfl, hp, rs⟩ := (r1.mono s2).tup_inv
    obtain rfl := r2.int_inv
    obtain ⟨v, hv, rv⟩ := rs.at h
    exact ⟨p, vs, z, v, rfl, rfl, SqT.of hp, hv, q v H2 (s1.trans s2) rv⟩)⟩

/-! ### arguments, displays -/
theorem EvA.nil : EvA X ρ [] [] := ⟨fun σ H en Q q => wa_of pa_nil (q [] H (Same.refl H) .nil)⟩
theorem EvA.cons {es : List Expr} {ds : List D} (h : Ev X ρ e d) (t : EvA X ρ es ds) (hs : starEach (e :: es) X.env = (false, eval e X.env) :: starEach es X.env := by rfl) : EvA X ρ (e :: es) (d :: ds) :=
  ⟨fun σ H en Q q => wa_of (pa_cons pe_we pa_wa hs) (h.run σ H en _ fun v H1 s1 r1 => t.run σ H1 (en.mono s1) _ fun vs H2 s2 r2 => q _ H2 (s1.trans s2) (.cons (r1.mono s2) r2))⟩
theorem Ev.tup {es : List Expr} {ds : List D} {x1} (h : EvA X ρ es ds) (hl : ds.length ≤ 1000 := by simp) : Ev X ρ (.Tuple es x1 pos) (.tup ds) :=
  ⟨fun σ H en Q q => we_of (pe_tup pa_wa) (h.run σ H en _ fun vs H1 s1 r1 => ⟨by rw [r1.1]; exact Nat.le_trans hl (by decide), fun p hp =>
    have s2 : Same H1 (upd H1 p (.tup vs)) := fun c u z => by rw [upd_ne (ne_of_none z hp)]; exact z
    q _ _ (s1.trans s2) (.tup' upd_same (r1.mono s2))⟩)⟩
theorem Same.new {H : Hp} {p : Addr} {u : HO} (hp : H p = none) : Same H (upd H p u) := fun c o z => by rw [upd_ne (ne_of_none z hp)]; exact z
theorem rep_new_list {K : PySem.W.Frag} {H : Hp} {p : Addr} {vs : List V} {ds : List D} (hp : H p = none) (r : Reps K H vs ds) : RepO K (upd H p (.lst vs)) (mask (upd H p (.lst vs)) [p]) (.ref p) (.ls (ds.map O.sh)) [p] := by
  have hs : Same H (mask (upd H p (.lst vs)) [p]) := mask_same_of (Same.new hp) (fun a ha => by
    obtain rfl : a = p := by simpa using ha
    exact hp)
  have q := repOs_sh (K := K) (H := upd H p (.lst vs)) (r.mono hs)
  have := RepO.ls (K := K) (S := mask (upd H p (.lst vs)) [p]) (upd_same (H := H) (a := p) (o := .lst vs)) q.1 q.2.1 q.2.2
  rw [flat_nil] at this
  exact this
/-- a new list of shared items -/
def oL (ds : List D) : O := .ls (ds.map O.sh)
theorem oL_data (ds : List D) : (oL ds).data = .lst ds := by unfold oL; rw [O.data, dataAll_sh]
theorem EvO.newl {ds : List D} (h : ∀ (σ : L2.St) (H : Hp), EnvS X.K σ H ρ → ∀ Q : VK, (∀ p vs H', Same H H' → H' p = none → Reps X.K H' vs ds → Q (.ref p) (upd H' p (.lst vs))) → WE X e σ H Q) : EvO X ρ e (oL ds) :=
  ⟨fun σ H en Q q => h σ H en Q fun p vs H' s hp r => q _ _ [p] (s.trans (Same.new hp)) (fun a ha => by
    obtain rfl : a = p := by simpa using ha
    exact s.free hp) (by simp) (rep_new_list hp r)⟩
theorem EvO.list {es : List Expr} {ds : List D} (h : EvA X ρ es ds) (hl : ds.length ≤ 1000 := by simp) : EvO X ρ (.List es pos) (oL ds) :=
  .newl fun σ H en Q q => we_of (pe_lst pa_wa) (h.run σ H en _ fun vs H1 s1 r1 => ⟨by rw [r1.1]; exact Nat.le_trans hl (by decide), fun p hp => q p vs H1 s1 hp r1⟩)
theorem Ev.list {es : List Expr} {ds : List D} (h : EvA X ρ es ds) (hl : ds.length ≤ 1000 := by simp) : Ev X ρ (.List es pos) (.lst ds) := (EvO.list h hl).ev' (oL_data _)
/-- + of lists -/
theorem EvO.cat {xs ys : List D} (ha : Ev X ρ a (.lst xs)) (hb : Ev X ρ b (.lst ys)) (hl : xs.length + ys.length ≤ sizeLine) : EvO X ρ (.BinOp a .Add b pos) (oL (xs ++ ys)) :=
  .newl fun σ H en Q q => we_of (pe_op op_cat pe_we pe_we) (ha.run σ H en _ fun x H1 s1 r1 => hb.run σ H1 (en.mono s1) _ fun y H2 s2 r2 => by
    obtain ⟨p1, vs, rfl, h1, rs⟩ := (r1.mono s2).lst_inv
    obtain ⟨p2, ws, rfl, h2, rt⟩ := r2.lst_inv
    exact ⟨p1, p2, vs, ws, rfl, rfl, h1, h2, by rw [rs.1, rt.1]; exact hl, fun p hp => q p _ H2 (s1.trans s2) hp (rs.append rt)⟩)
theorem EvO.rep {xs : List D} {k : Int} (ha : Ev X ρ a (.lst xs)) (hb : Ev X ρ b (.int k)) (hk : -(2 ^ 63) ≤ k ∧ k < 2 ^ 63) (hl : xs.length * k.toNat ≤ sizeLine) : EvO X ρ (.BinOp a .Mult b pos) (oL (List.replicate k.toNat xs).flatten) :=
  .newl fun σ H en Q q => we_of (pe_op op_rep pe_we pe_we) (ha.run σ H en _ fun x H1 s1 r1 => hb.run σ H1 (en.mono s1) _ fun y H2 s2 r2 => by
    obtain ⟨p1, vs, rfl, h1, rs⟩ := (r1.mono s2).lst_inv
    obtain rfl := r2.int_inv
    exact ⟨p1, k, vs, rfl, rfl, h1, hk.1, hk.2, by rw [rs.1]; exact hl, fun p hp => q p _ H2 (s1.trans s2) hp (rs.rep _)⟩)
/-- slices -/
structure EvP (X : Cx) (ρ : Rho) (e : Option Expr) (o : Option Int) : Prop where
  run : ∃ t : TO, PO X e t ∧ ∀ (σ : L2.St) (H : Hp), EnvS X.K σ H ρ → ∀ Q : Option Int → Hp → Prop, (∀ H', Same H H' → Q o H') → t σ H Q
theorem EvP.none : EvP X ρ Option.none Option.none := ⟨_, po_none, fun σ H en Q q => q H (Same.refl H)⟩
theorem EvP.some {z : Int} (h : Ev X ρ e (.int z)) : EvP X ρ (Option.some e) (Option.some z) := ⟨_, po_some pe_we, fun σ H en Q q => h.run σ H en _ fun v H' s r => ⟨z, r.int_inv, q H' s⟩⟩
theorem EvO.slice {xs : List D} {el eh : Option Expr} {lo hi : Option Int} {p2 : Pos} (ha : Ev X ρ a (.lst xs)) (hl : EvP X ρ el lo) (hh : EvP X ρ eh hi) : EvO X ρ (.Subscript a (.Slice el eh Option.none p2) pos) (oL (cutD xs lo hi)) := by
  obtain ⟨tl, pl, ql⟩ := hl.run
  obtain ⟨th, ph, qh⟩ := hh.run
  exact .newl fun σ H en Q q => we_of (pe_slice sl_list pe_we pl ph) (ha.run σ H en _ fun x H1 s1 r1 => ql σ H1 (en.mono s1) _ fun H2 s2 => qh σ H2 (en.mono (s1.trans s2)) _ fun H3 s3 => by
    obtain ⟨p1, vs, rfl, h1, rs⟩ := (r1.mono (s2.trans s3)).lst_inv
    exact ⟨p1, vs, rfl, SqL.of h1, fun p hp => q p _ H3 ((s1.trans s2).trans s3) hp (rs.cut lo hi)⟩)
/-- xs[::-1] -/
theorem EvO.rev {xs : List D} {k : Nat} {p1 p2 p3 : Pos} (ha : Ev X ρ a (.lst xs)) : EvO X ρ (.Subscript a (.Slice Option.none Option.none (Option.some (.UnaryOp .USub (.Constant (.int 1) k p1) p2)) p3) pos) (oL xs.reverse) :=
  .newl fun σ H en Q q => we_of (pe_revL pe_we) (ha.run σ H en _ fun x H1 s1 r1 => by
    obtain ⟨p1, vs, rfl, h1, rs⟩ := r1.lst_inv
    exact ⟨p1, vs, rfl, SqL.of h1, fun p hp => q p _ H1 s1 hp rs.reverse⟩)
end
end VL
set_option Elab.async false
set_option linter.all false
set_option maxRecDepth 100000
set_option maxHeartbeats 1000000
/-! value layer, part 3: built-in calls, what is walked, comprehensions -/
namespace VL
open PySem L2
section
variable {X : Cx} {ρ : Rho} {e e1 e2 a b : Expr} {d d1 d2 : D} {o : O} {p pos : Pos} {es : List Expr} {ds : List D}
/-! ### built-ins by name -/
theorem Ev.callB {x : Str} {id : String} {r : List V → Hp → VK → Prop} (hc : CallR X (.builtin id) r) (hg : Gl X x) (hm : X.mg x = none) (hv : bootBuiltins x = some (.builtin id)) (ha : EvA X ρ (e :: es) ds)
    (hr : ∀ vs H, Reps X.K H vs ds → ∀ Q : VK, (∀ v H', Same H H' → Rep X.K H' v d → Q v H') → r vs H Q) (hn : x ≠ "__name__" := by decide) (hdb : (x == ("__debug__" : Str)) = false := by decide)
    (he : starEach (e :: es) X.env = (false, eval e X.env) :: starEach es X.env := by rfl) (hpl : (backTo pos (starEach es X.env)).any (·.1) = false := by rfl) : Ev X ρ (.Call (.Name x p) (e :: es) [] pos) d :=
  ⟨fun σ H en Q q => we_of (pe_callB hc hg hm hv pa_wa hn hdb he hpl) (ha.run σ H en _ fun vs H1 s1 r1 => hr vs H1 r1 Q fun v H2 s2 r2 => q v H2 (s1.trans s2) r2)⟩
theorem Ev.callTy {x : Str} {T : String} {r : List V → Hp → VK → Prop} (hc : CallR X (.type T) r) (hg : Gl X x) (hm : X.mg x = none) (hv : bootBuiltins x = some (.type T)) (ha : EvA X ρ (e :: es) ds)
    (hr : ∀ vs H, Reps X.K H vs ds → ∀ Q : VK, (∀ v H', Same H H' → Rep X.K H' v d → Q v H') → r vs H Q) (hn : x ≠ "__name__" := by decide) (hdb : (x == ("__debug__" : Str)) = false := by decide)
    (he : starEach (e :: es) X.env = (false, eval e X.env) :: starEach es X.env := by rfl) (hpl : (backTo pos (starEach es X.env)).any (·.1) = false := by rfl) : Ev X ρ (.Call (.Name x p) (e :: es) [] pos) d :=
  ⟨fun σ H en Q q => we_of (pe_callTy hc hg hm hv pa_wa hn hdb he hpl) (ha.run σ H en _ fun vs H1 s1 r1 => hr vs H1 r1 Q fun v H2 s2 r2 => q v H2 (s1.trans s2) r2)⟩
theorem EvO.callB {x : Str} {id : String} {r : List V → Hp → VK → Prop} {ys : List D} (hc : CallR X (.builtin id) r) (hg : Gl X x) (hm : X.mg x = none) (hv : bootBuiltins x = some (.builtin id)) (ha : EvA X ρ (e :: es) ds)
    (hr : ∀ vs H, Reps X.K H vs ds → ∀ Q : VK, (∀ p ws, H p = none → Reps X.K H ws ys → Q (.ref p) (upd H p (.lst ws))) → r vs H Q) (hn : x ≠ "__name__" := by decide) (hdb : (x == ("__debug__" : Str)) = false := by decide)
    (he : starEach (e :: es) X.env = (false, eval e X.env) :: starEach es X.env := by rfl) (hpl : (backTo pos (starEach es X.env)).any (·.1) = false := by rfl) : EvO X ρ (.Call (.Name x p) (e :: es) [] pos) (oL ys) :=
  .newl fun σ H en Q q => we_of (pe_callB hc hg hm hv pa_wa hn hdb he hpl) (ha.run σ H en _ fun vs H1 s1 r1 => hr vs H1 r1 Q fun p ws hp r2 => q p ws H1 s1 hp r2)
theorem EvO.callTy {x : Str} {T : String} {r : List V → Hp → VK → Prop} {ys : List D} (hc : CallR X (.type T) r) (hg : Gl X x) (hm : X.mg x = none) (hv : bootBuiltins x = some (.type T)) (ha : EvA X ρ (e :: es) ds)
    (hr : ∀ vs H, Reps X.K H vs ds → ∀ Q : VK, (∀ p ws, H p = none → Reps X.K H ws ys → Q (.ref p) (upd H p (.lst ws))) → r vs H Q) (hn : x ≠ "__name__" := by decide) (hdb : (x == ("__debug__" : Str)) = false := by decide)
    (he : starEach (e :: es) X.env = (false, eval e X.env) :: starEach es X.env := by rfl) (hpl : (backTo pos (starEach es X.env)).any (·.1) = false := by rfl) : EvO X ρ (.Call (.Name x p) (e :: es) [] pos) (oL ys) :=
  .newl fun σ H en Q q => we_of (pe_callTy hc hg hm hv pa_wa hn hdb he hpl) (ha.run σ H en _ fun vs H1 s1 r1 => hr vs H1 r1 Q fun p ws hp r2 => q p ws H1 s1 hp r2)
theorem Reps.one {K : PySem.W.Frag} {H : Hp} {vs : List V} (r : Reps K H vs [d]) : ∃ v, vs = [v] ∧ Rep K H v d := by
  obtain ⟨v, ws, rfl, h, t⟩ := r.cons_split
  obtain rfl := t.nil_inv
  exact ⟨v, rfl, h⟩
theorem Reps.two {K : PySem.W.Frag} {H : Hp} {vs : List V} (r : Reps K H vs [d1, d2]) : ∃ v w, vs = [v, w] ∧ Rep K H v d1 ∧ Rep K H w d2 := by
  obtain ⟨v, ws, rfl, h, t⟩ := r.cons_split
  obtain ⟨w, rfl, h2⟩ := t.one
  exact ⟨v, w, rfl, h, h2⟩
theorem EvA.one (h : Ev X ρ e d) (hs : starEach [e] X.env = (false, eval e X.env) :: starEach [] X.env := by rfl) : EvA X ρ [e] [d] := .cons h .nil hs
theorem EvA.two (h : Ev X ρ e1 d1) (h2 : Ev X ρ e2 d2) (hs : starEach [e1, e2] X.env = (false, eval e1 X.env) :: starEach [e2] X.env := by rfl) (hs2 : starEach [e2] X.env = (false, eval e2 X.env) :: starEach [] X.env := by rfl) : EvA X ρ [e1, e2] [d1, d2] := .cons h (.cons h2 .nil hs2) hs
theorem Ev.lenL (hm : X.mg "len" = none) (h : Ev X ρ e (.lst ds)) (hg : Gl X "len" := by rfl) (hs : starEach [e] X.env = (false, eval e X.env) :: starEach [] X.env := by rfl) (hpl : (backTo pos (starEach [] X.env)).any (·.1) = false := by rfl) : Ev X ρ (.Call (.Name "len" p) [e] [] pos) (.int ds.length) :=
  Ev.callB call_len_seq hg hm boot_len (.one h hs) (fun vs H r0 Q q => by
    obtain ⟨v, rfl, r⟩ := r0.one
    obtain ⟨a, ws, rfl, h, rs⟩ := r.lst_inv
    exact ⟨a, ws, rfl, .inl (SqL.of h), by rw [rs.1]; exact q _ H (Same.refl H) (.int _)⟩) (by decide) (by decide) hs hpl
theorem Ev.lenRo (hm : X.mg "len" = none) (h : Ev X ρ e (.ro ds)) (hg : Gl X "len" := by rfl) (hs : starEach [e] X.env = (false, eval e X.env) :: starEach [] X.env := by rfl) (hpl : (backTo pos (starEach [] X.env)).any (·.1) = false := by rfl) : Ev X ρ (.Call (.Name "len" p) [e] [] pos) (.int ds.length) :=
  Ev.callB call_len_seq hg hm boot_len (.one h hs) (fun vs H r0 Q q => by
    obtain ⟨v, rfl, r⟩ := r0.one
    obtain ⟨a, ws, rfl, h, rs⟩ := r.ro_inv
    exact ⟨a, ws, rfl, .inl h, by rw [rs.1]; exact q _ H (Same.refl H) (.int _)⟩) (by decide) (by decide) hs hpl
theorem Ev.lenT (hm : X.mg "len" = none) (h : Ev X ρ e (.tup ds)) (hg : Gl X "len" := by rfl) (hs : starEach [e] X.env = (false, eval e X.env) :: starEach [] X.env := by rfl) (hpl : (backTo pos (starEach [] X.env)).any (·.1) = false := by rfl) : Ev X ρ (.Call (.Name "len" p) [e] [] pos) (.int ds.length) :=
  Ev.callB call_len_seq hg hm boot_len (.one h hs) (fun vs H r0 Q q => by
    obtain ⟨v, rfl, r⟩ := r0.one
    obtain ⟨a, ws, rfl, h, rs⟩ := r.tup_inv
    exact ⟨a, ws, rfl, .inr (SqT.of h), by rw [rs.1]; exact q _ H (Same.refl H) (.int _)⟩) (by decide) (by decide) hs hpl
theorem Ev.lenS {x : Str} (hm : X.mg "len" = none) (h : Ev X ρ e (.str x)) (hl : x.length ≤ sizeLine) (hg : Gl X "len" := by rfl) (hs : starEach [e] X.env = (false, eval e X.env) :: starEach [] X.env := by rfl) (hpl : (backTo pos (starEach [] X.env)).any (·.1) = false := by rfl) : Ev X ρ (.Call (.Name "len" p) [e] [] pos) (.int x.length) :=
  Ev.callB call_len_str hg hm boot_len (.one h hs) (fun vs H r0 Q q => by
    obtain ⟨v, rfl, r⟩ := r0.one
    obtain rfl := r.str_inv
    exact ⟨x, rfl, hl, q _ H (Same.refl H) (.int _)⟩) (by decide) (by decide) hs hpl
variable {i j : Int}
theorem Ev.min2 (hc : X.calm = true) (hm : X.mg "min" = none) (h : Ev X ρ e1 (.int i)) (h2 : Ev X ρ e2 (.int j)) (hg : Gl X "min" := by rfl) (hs : starEach [e1, e2] X.env = (false, eval e1 X.env) :: starEach [e2] X.env := by rfl) (hs2 : starEach [e2] X.env = (false, eval e2 X.env) :: starEach [] X.env := by rfl)
    (hpl : (backTo pos (starEach [e2] X.env)).any (·.1) = false := by rfl) : Ev X ρ (.Call (.Name "min" p) [e1, e2] [] pos) (.int (min i j)) :=
  Ev.callB (call_min2 hc) hg hm (by decide +kernel) (.two h h2 hs hs2) (fun vs H r0 Q q => by
    obtain ⟨v, w, rfl, r1, r2⟩ := r0.two
    obtain rfl := r1.int_inv
    obtain rfl := r2.int_inv
    refine ⟨i, j, rfl, ?_⟩
    rw [show (if j < i then j else i) = min i j by split <;> omega]
    exact q _ H (Same.refl H) (.int _)) (by decide) (by decide) hs hpl
theorem Ev.max2 (hc : X.calm = true) (hm : X.mg "max" = none) (h : Ev X ρ e1 (.int i)) (h2 : Ev X ρ e2 (.int j)) (hg : Gl X "max" := by rfl) (hs : starEach [e1, e2] X.env = (false, eval e1 X.env) :: starEach [e2] X.env := by rfl) (hs2 : starEach [e2] X.env = (false, eval e2 X.env) :: starEach [] X.env := by rfl)
    (hpl : (backTo pos (starEach [e2] X.env)).any (·.1) = false := by rfl) : Ev X ρ (.Call (.Name "max" p) [e1, e2] [] pos) (.int (max i j)) :=
  Ev.callB (call_max2 hc) hg hm (by decide +kernel) (.two h h2 hs hs2) (fun vs H r0 Q q => by
    obtain ⟨v, w, rfl, r1, r2⟩ := r0.two
    obtain rfl := r1.int_inv
    obtain rfl := r2.int_inv
    refine ⟨i, j, rfl, ?_⟩
    rw [show (if j > i then j else i) = max i j by split <;> omega]
    exact q _ H (Same.refl H) (.int _)) (by decide) (by decide) hs hpl
theorem Ev.abs (hm : X.mg "abs" = none) (h : Ev X ρ e (.int i)) (hg : Gl X "abs" := by rfl) (hs : starEach [e] X.env = (false, eval e X.env) :: starEach [] X.env := by rfl) (hpl : (backTo pos (starEach [] X.env)).any (·.1) = false := by rfl) : Ev X ρ (.Call (.Name "abs" p) [e] [] pos) (.int (if i < 0 then -i else i)) :=
  Ev.callB call_abs hg hm (by decide +kernel) (.one h hs) (fun vs H r0 Q q => by
    obtain ⟨v, rfl, r⟩ := r0.one
    obtain rfl := r.int_inv
    exact ⟨i, rfl, q _ H (Same.refl H) (.int _)⟩) (by decide) (by decide) hs hpl
def b2i (c : Bool) : Int := if c then 1 else 0
theorem Ev.intB {c : Bool} (hm : X.mg "int" = none) (h : Ev X ρ e (.bl c)) (hg : Gl X "int" := by rfl) (hs : starEach [e] X.env = (false, eval e X.env) :: starEach [] X.env := by rfl) (hpl : (backTo pos (starEach [] X.env)).any (·.1) = false := by rfl) : Ev X ρ (.Call (.Name "int" p) [e] [] pos) (.int (b2i c)) :=
  Ev.callTy call_int1 hg hm (by decide +kernel) (.one h hs) (fun vs H r0 Q q => by
    obtain ⟨v, rfl, r⟩ := r0.one
    obtain rfl := r.bl_inv
    exact .inr ⟨c, rfl, q _ H (Same.refl H) (.int _)⟩) (by decide) (by decide) hs hpl
theorem EvO.listL (hm : X.mg "list" = none) (h : Ev X ρ e (.lst ds)) (hg : Gl X "list" := by rfl) (hs : starEach [e] X.env = (false, eval e X.env) :: starEach [] X.env := by rfl) (hpl : (backTo pos (starEach [] X.env)).any (·.1) = false := by rfl) : EvO X ρ (.Call (.Name "list" p) [e] [] pos) (oL ds) :=
  EvO.callTy call_list_of hg hm (by decide +kernel) (.one h hs) (fun vs H r0 Q q => by
    obtain ⟨v, rfl, r⟩ := r0.one
    obtain ⟨a, ws, rfl, h, rs⟩ := r.lst_inv
    exact ⟨a, ws, rfl, .inl (SqL.of h), fun l hl => q l ws hl rs⟩) (by decide) (by decide) hs hpl
theorem Ev.allB {bs : List Bool} (hc : X.calm = true) (hm : X.mg "all" = none) (h : Ev X ρ e (.lst (bs.map D.bl))) (hg : Gl X "all" := by rfl) (hs : starEach [e] X.env = (false, eval e X.env) :: starEach [] X.env := by rfl) (hpl : (backTo pos (starEach [] X.env)).any (·.1) = false := by rfl) :
    Ev X ρ (.Call (.Name "all" p) [e] [] pos) (.bl (bs.all id)) :=
  Ev.callB (cr_all hc) hg hm (by decide +kernel) (.one h hs) (fun vs H r0 Q q => by
    obtain ⟨v, rfl, r⟩ := r0.one
    obtain ⟨a, ws, rfl, h, rs⟩ := r.lst_inv
    obtain rfl := rs.bls
    exact ⟨a, bs, rfl, SqL.of h, q _ H (Same.refl H) (.bl _)⟩) (by decide) (by decide) hs hpl
def sortI (ns : List Int) : List Int := ns.mergeSort (fun a b => decide (a ≤ b))
theorem perm_sorted_unique : ∀ {l m : List Int}, l.Perm m → l.Pairwise (· ≤ ·) → m.Pairwise (· ≤ ·) → l = m
  | [], m, hp, _, _ => (List.nil_perm.mp hp).symm
  | a :: l, [], hp, _, _ => by have := hp.length_eq; simp at this
  | a :: l, b :: m, hp, h1, h2 => by
    have e : a = b := by
      have ha : a ∈ b :: m := hp.subset (List.mem_cons_self ..)
      have hb : b ∈ a :: l := hp.symm.subset (List.mem_cons_self ..)
      rcases List.mem_cons.mp ha with e | ha
      · exact e
      · rcases List.mem_cons.mp hb with e | hb
        · exact e.symm
        · have q1 := (List.pairwise_cons.mp h2).1 a ha
          have q2 := (List.pairwise_cons.mp h1).1 b hb
          omega
    subst e
    rw [perm_sorted_unique (List.perm_cons a |>.mp hp) (List.pairwise_cons.mp h1).2 (List.pairwise_cons.mp h2).2]
theorem sortI_perm (ns : List Int) : (sortI ns).Perm ns := List.mergeSort_perm ns _
theorem sortI_pw (ns : List Int) : (sortI ns).Pairwise (· ≤ ·) := by
  have := List.pairwise_mergeSort (le := fun a b : Int => decide (a ≤ b)) (by intro a b c; simp; omega) (by intro a b; simp; omega) ns
  exact this.imp (by intro a b h; simpa using h)
theorem EvO.sortedI {ns : List Int} (hm : X.mg "sorted" = none) (h : Ev X ρ e (.lst (ns.map D.int))) (hg : Gl X "sorted" := by rfl) (hs : starEach [e] X.env = (false, eval e X.env) :: starEach [] X.env := by rfl) (hpl : (backTo pos (starEach [] X.env)).any (·.1) = false := by rfl) :
    EvO X ρ (.Call (.Name "sorted" p) [e] [] pos) (oL ((sortI ns).map D.int)) :=
  EvO.callB cr_sortedI hg hm (by decide +kernel) (.one h hs) (fun vs H r0 Q q => by
    obtain ⟨v, rfl, r⟩ := r0.one
    obtain ⟨a, ws, rfl, h, rs⟩ := r.lst_inv
    obtain rfl := rs.ints
    refine ⟨a, ns, rfl, SqL.of h, fun ns' p h1 h2 hp => ?_⟩
    obtain rfl : ns' = sortI ns := perm_sorted_unique (h1.trans (sortI_perm ns).symm) h2 (sortI_pw ns)
    exact q p _ hp (reps_ints _)) (by decide) (by decide) hs hpl
/-- isinstance -/
def tyD : D → String
  | .non => "NoneType" | .bl _ => "bool" | .int _ => "int" | .str _ => "str" | .lst _ => "list" | .tup _ => "tuple" | .ro _ => "list" | .dk _ => "dict" | .ob _ _ _ => "?" | .dd _ _ => "dict" | .raw _ => "?"
def D.isOb : D → Bool
  | .ob _ _ _ => true
  | .raw _ => true
  | _ => false
theorem Rep.ty {K : PySem.W.Frag} {H : Hp} {v : V} (r : Rep K H v d) (hob : d.isOb = false) : TyX K H v (.type (tyD d)) := by
  cases r with
  | non => exact .base .non
  | bl b => exact .base (.bl b)
  | int i => exact .base (.int i)
  | str s => exact .base (.str s)
  | lst h1 h2 h3 => exact .base (.lst h1)
  | tup h1 h2 h3 => exact .base (.tup h1)
  | ro h1 h2 h3 =>
    rcases h1 with (h | ⟨o, h⟩) | ⟨o, its, n, h, hc, _⟩
    · exact .base (.lst h)
    · exact .base (.frz h)
    · exact .kList h hc
  | dk h1 h2 => exact .base (.dK h1)
  | ob h1 h2 h3 h6 h4 h5 => cases hob
  | dd h1 h2 h3 h4 h5 => exact .base (.dK h1)
  | raw a => cases hob
theorem Ev.isi {T : Str} {T' : String} {c : Bool} {q1 : Pos} (hm : X.mg "isinstance" = none) (hmT : X.mg T = none) (h : Ev X ρ e d) (hk : kitB (tyD d) T' = some c := by decide +kernel) (hob : d.isOb = false := by rfl) (hb : bootBuiltins T = some (.type T') := by decide +kernel)
    (hg : Gl X "isinstance" := by rfl) (hgT : Gl X T := by rfl) (hn : T ≠ "__name__" := by decide) (hd : (T == ("__debug__" : Str)) = false := by decide)
    (hs : starEach [e, .Name T q1] X.env = (false, eval e X.env) :: starEach [.Name T q1] X.env := by rfl) (hs2 : starEach [.Name T q1] X.env = (false, eval (.Name T q1) X.env) :: starEach [] X.env := by rfl)
    (hpl : (backTo pos (starEach [.Name T q1] X.env)).any (·.1) = false := by rfl) : Ev X ρ (.Call (.Name "isinstance" p) [e, .Name T q1] [] pos) (.bl c) :=
  ⟨fun σ H en Q q => we_of (pe_callB call_isi hg hm (by decide +kernel) (pa_cons pe_we (pa_cons (pe_bltn (v := .ty T') hgT hmT hb rfl hn hd) pa_nil hs2) hs) (by decide) (by decide) hs hpl)
    (h.run σ H en _ fun v H1 s1 r1 => ⟨v, .ty T', _, _, c, rfl, .ty T', r1.ty hob, kit_ty hk, q _ H1 s1 (.bl c)⟩)⟩

/-! ### what is walked -/
def WI (X : Cx) (tg iter : Expr) (σ : L2.St) (H : Hp) (R : It → Hp → Prop) : Prop :=
  ∀ (pins : List (Addr × Obj)) (s : Shared), Inv X pins σ H s → wpAny (model X.prog X.w) X.A (eval iter X.env) (fun v s1 => wpAny (model X.prog X.w) X.A (pyIter v) (PIE X pins σ tg R) X.xe s1) X.xe s
variable {tg iter : Expr} {σ : L2.St} {H : Hp} {R : It → Hp → Prop}
theorem pi_wi : PI X tg iter (WI X tg iter) := ⟨fun pins s σ H R I h => h pins s I⟩
theorem wi_of {t : TI} (h : PI X tg iter t) (q : t σ H R) : WI X tg iter σ H R := fun pins s I => h.run pins s σ H R I q
/-- the items of a walk from the heap H on -/
structure Src (K : PySem.W.Frag) (H : Hp) (J : It) (items : List D) : Prop where
  go : ∃ (G : Hp → Prop) (Y : Nat → Hp → V → Hp → Prop), Walk J items.length G Y ∧ (∀ H', Same H H' → G H') ∧
    ∀ (i : Nat) (H1 : Hp) (x : V) (H2 : Hp), i < items.length → Same H H1 → Y i H1 x H2 → Same H1 H2 ∧ ∃ d, items[i]? = some d ∧ ∀ as : List Addr, (∀ a ∈ as, H a = none ∧ H1 a ≠ none) → Rep K (mask H2 as) x d
structure EvI (X : Cx) (ρ : Rho) (tg iter : Expr) (items : List D) : Prop where
  run : ∀ (σ : L2.St) (H : Hp), EnvS X.K σ H ρ → ∀ R : It → Hp → Prop, (∀ J H', Same H H' → Src X.K H' J items → R J H') → WI X tg iter σ H R
theorem EvI.is {i1 i2 : List D} (h : EvI X ρ tg iter i1) (e : i1 = i2) : EvI X ρ tg iter i2 := e ▸ h
theorem src_seq {K : PySem.W.Frag} {J : It} {vs : List V} {G : Hp → Prop} (w : Walk J vs.length G (YAt vs)) (r : Reps K H vs ds) (hG : ∀ H', Same H H' → G H') : Src K H J ds :=
  ⟨G, YAt vs, by rw [← r.1]; exact w, hG, fun i H1 x H2 hi s y => by
    obtain ⟨rfl, y⟩ := y
    obtain ⟨d, hd, rd⟩ := r.getV y
    exact ⟨Same.refl _, d, hd, fun as ha => rd.mono (mask_same_of s fun a h => (ha a h).1)⟩⟩
theorem EvI.list (h : Ev X ρ iter (.lst ds)) : EvI X ρ tg iter ds :=
  ⟨fun σ H en R q => wi_of (pi_list pe_we) (h.run σ H en _ fun v H1 s1 r1 => by
    obtain ⟨a, vs, rfl, h1, rs⟩ := r1.lst_inv
    exact ⟨a, rfl, ⟨vs, SqL.of h1⟩, q _ H1 s1 (src_seq walk_list rs fun H' s => s.seq (SqL.of h1))⟩)⟩
theorem Same.seqT {K : PySem.W.Frag} {H H' : Hp} {a : Addr} {xs : List V} (e : Same H H') (h : SqT K H a xs) : SqT K H' a xs := by
  rcases h with (h | ⟨o, h⟩) | h
  · exact .inl (.inl (e _ _ h))
  · exact .inl (.inr ⟨o, e _ _ h⟩)
  · exact .inr h
theorem EvI.tup (h : Ev X ρ iter (.tup ds)) : EvI X ρ tg iter ds :=
  ⟨fun σ H en R q => wi_of (pi_tup pe_we) (h.run σ H en _ fun v H1 s1 r1 => by
    obtain ⟨a, vs, rfl, h1, rs⟩ := r1.tup_inv
    exact ⟨a, rfl, ⟨vs, SqT.of h1⟩, q _ H1 s1 (src_seq walk_tup rs fun H' s => Same.seqT s (SqT.of h1))⟩)⟩
def rangeD (lo : Int) (n : Nat) : List D := (List.range n).map fun (k : Nat) => D.int (lo + (k : Int))
theorem src_range {K : PySem.W.Frag} {lo : Int} {n : Nat} : Src K H (Itr lo n) (rangeD lo n) :=
  ⟨fun _ => True, YFn fun i => .int (lo + i), by have := walk_range (lo := lo) (n := n); unfold rangeD; simpa using this, fun _ _ => trivial, fun i H1 x H2 hi s y => by
    obtain ⟨rfl, rfl⟩ := y
    have hi' : i < n := by unfold rangeD at hi; simpa using hi
    exact ⟨Same.refl _, .int (lo + i), by unfold rangeD; simp [hi'], fun _ _ => .int _⟩⟩
theorem EvI.range1 (hm : X.mg "range" = none) (h : Ev X ρ a (.int j)) (hj : -(2 ^ 62) ≤ j ∧ j < 2 ^ 62) (hg : Gl X "range" := by rfl) (hs : starEach [a] X.env = [(false, eval a X.env)] := by rfl) : EvI X ρ tg (.Call (.Name "range" p) [a] [] pos) (rangeD 0 j.toNat) :=
  ⟨fun σ H en R q => wi_of (pi_range1 hg hm pa_wa hs) ((EvA.one h (by rw [hs]; rfl)).run σ H en _ fun vs H1 s1 r1 => by
    obtain ⟨v, rfl, r⟩ := r1.one
    obtain rfl := r.int_inv
    exact ⟨j, rfl, hj.1, hj.2, q _ H1 s1 src_range⟩)⟩
theorem EvI.range2 (hm : X.mg "range" = none) (h : Ev X ρ a (.int i)) (h2 : Ev X ρ b (.int j)) (hi : (-(2 ^ 62) ≤ i ∧ i < 2 ^ 62) ∧ -(2 ^ 62) ≤ j ∧ j < 2 ^ 62) (hg : Gl X "range" := by rfl)
    (hs : starEach [a, b] X.env = [(false, eval a X.env), (false, eval b X.env)] := by rfl) (hs2 : starEach [b] X.env = [(false, eval b X.env)] := by rfl) : EvI X ρ tg (.Call (.Name "range" p) [a, b] [] pos) (rangeD i (j - i).toNat) :=
  ⟨fun σ H en R q => wi_of (pi_range2 hg hm pa_wa hs hs2) ((EvA.two h h2 (by rw [hs, hs2]) (by rw [hs2]; rfl)).run σ H en _ fun vs H1 s1 r1 => by
    obtain ⟨v, w, rfl, r, r'⟩ := r1.two
    obtain rfl := r.int_inv
    obtain rfl := r'.int_inv
    exact ⟨i, j, rfl, ⟨hi.1.1, hi.1.2, hi.2.1, hi.2.2⟩, q _ H1 s1 src_range⟩)⟩
def enumD (ds : List D) : List D := ds.zipIdx.map fun q => D.tup [.int (q.2 : Int), q.1]
theorem enumD_get (ds : List D) (i : Nat) : (enumD ds)[i]? = ds[i]?.map fun d => D.tup [.int (i : Int), d] := by
  unfold enumD
  rw [List.getElem?_map, List.getElem?_zipIdx]
  cases ds[i]? <;> simp
theorem EvI.enum {elts : List Expr} {kk : Nat} {tpos : Pos} (hm : X.mg "enumerate" = none) (h : Ev X ρ e (.lst ds)) (hg : Gl X "enumerate" := by rfl) (hs : starEach [e] X.env = [(false, eval e X.env)] := by rfl) :
    EvI X ρ (.Tuple elts kk tpos) (.Call (.Name "enumerate" p) [e] [] pos) (enumD ds) :=
  ⟨fun σ H en R q => wi_of (pi_enum hg hm pa_wa hs) ((EvA.one h (by rw [hs]; rfl)).run σ H en _ fun vs H1 s1 r1 => by
    obtain ⟨v, rfl, r⟩ := r1.one
    obtain ⟨a, ws, rfl, h1, rs⟩ := r.lst_inv
    refine ⟨a, ws, rfl, SqL.of h1, q _ H1 s1 ⟨fun H' => SqL X.K H' a ws, YPair (fun i => some (.int (i : Nat))) (fun i => ws[i]?), ?_, fun H' s => s.seq (SqL.of h1), fun i H2 x H3 hi s y => ?_⟩⟩
    · have := walk_enum (K := X.K) (a := a) (xs := ws)
      rw [show (enumD ds).length = ws.length by unfold enumD; simp [rs.1]]
      exact this
    · obtain ⟨T, x1, y1, rfl, hT, rfl, e1, e2⟩ := y
      obtain ⟨d, hd, rd⟩ := rs.getV e2
      cases e1
      refine ⟨Same.new hT, D.tup [.int (i : Int), d], by rw [enumD_get, hd]; rfl, fun as ha => ?_⟩
      have sm : Same H1 (mask (upd H2 T (.tup [V.int (i : Int), y1])) as) := mask_same_of (s.trans (Same.new hT)) fun a h => (ha a h).1
      exact .tup' (by rw [mask_out (fun z => (ha T z).2 hT)]; exact upd_same) (.cons (.int _) (.cons (rd.mono sm) .nil)))⟩
def zipD (xs ys : List D) : List D := (xs.zip ys).map fun q => D.tup [q.1, q.2]
theorem EvI.zip {xs ys : List D} {elts : List Expr} {kk : Nat} {tpos : Pos} (hm : X.mg "zip" = none) (h : Ev X ρ e1 (.lst xs)) (h2 : Ev X ρ e2 (.lst ys)) (hg : Gl X "zip" := by rfl)
    (hs : starEach [e1, e2] X.env = [(false, eval e1 X.env), (false, eval e2 X.env)] := by rfl) (hs2 : starEach [e2] X.env = [(false, eval e2 X.env)] := by rfl) :
    EvI X ρ (.Tuple elts kk tpos) (.Call (.Name "zip" p) [e1, e2] [] pos) (zipD xs ys) :=
  ⟨fun σ H en R q => wi_of (pi_zip hg hm pa_wa (by rw [hs, hs2]) (by rw [hs2]; rfl)) ((EvA.two h h2 (by rw [hs, hs2]) (by rw [hs2]; rfl)).run σ H en _ fun vs H1 s1 r1 => by
    obtain ⟨v, w, rfl, r, r'⟩ := r1.two
    obtain ⟨a, ws, rfl, h1, rs⟩ := r.lst_inv
    obtain ⟨b, us, rfl, h2, rt⟩ := r'.lst_inv
    refine ⟨a, b, ws, us, rfl, SqL.of h1, SqL.of h2, q _ H1 s1 ⟨fun H' => SqL X.K H' a ws ∧ SqL X.K H' b us, YPair (fun i => ws[i]?) (fun i => us[i]?), ?_, fun H' s => ⟨s.seq (SqL.of h1), s.seq (SqL.of h2)⟩, fun i H2 x H3 hi s y => ?_⟩⟩
    · exact walk_zip (K := X.K) (a := a) (b := b) (xs := ws) (ys := us) (by unfold zipD; simp [rs.1, rt.1])
    · obtain ⟨T, x1, y1, rfl, hT, rfl, e1, e2⟩ := y
      obtain ⟨d, hd, rd⟩ := rs.getV e1
      obtain ⟨d', hd', rd'⟩ := rt.getV e2
      refine ⟨Same.new hT, D.tup [d, d'], ?_, fun as ha => ?_⟩
      rotate_left
      · have sm : Same H1 (mask (upd H2 T (.tup [x1, y1])) as) := mask_same_of (s.trans (Same.new hT)) fun a h => (ha a h).1
        exact .tup' (by rw [mask_out (fun z => (ha T z).2 hT)]; exact upd_same) (.cons (rd.mono sm) (.cons (rd'.mono sm) .nil))
      · unfold zipD
        rw [List.getElem?_map, (List.getElem?_zip_eq_some (z := (d, d'))).mpr ⟨hd, hd'⟩]
        rfl)⟩

/-! ### targets -/
def WG (X : Cx) (tg : Expr) (v : V) (σ : L2.St) (H : Hp) (Q : L2.St → Hp → Prop) : Prop :=
  ∀ (pins : List (Addr × Obj)) (s : Shared) (u : Value), Inv X pins σ H s → RelV v u → wpAny (model X.prog X.w) X.A (assign tg X.env u) (fun _ s' => ∃ σ' H', Inv X pins σ' H' s' ∧ Q σ' H') X.xe s
theorem pg_wg : PG X tg (WG X tg) := ⟨fun pins s σ H v u Q I r h => h pins s u I r⟩
theorem wg_of {t : TG} {v : V} {Q : L2.St → Hp → Prop} (h : PG X tg t) (q : t v σ H Q) : WG X tg v σ H Q := fun pins s u I r => h.run pins s σ H v u Q I r q
def setAll (σ : L2.St) : List Nat → List V → L2.St
  | i :: is, v :: vs => setAll (σ.set i (some v)) is vs
  | _, _ => σ
def setD (ρ : Rho) : List Nat → List D → Rho
  | i :: is, d :: ds => setD (ρ.set i (some d)) is ds
  | _, _ => ρ
theorem EnvS.setAll' {K : PySem.W.Frag} : ∀ {is : List Nat} {vs : List V} {ds : List D} {σ : L2.St} {ρ : Rho}, EnvS K σ H ρ → Reps K H vs ds → EnvS K (setAll σ is vs) H (setD ρ is ds)
  | [], vs, ds, σ, ρ, en, r => by unfold VL.setAll setD; exact en
  | i :: is, [], [], σ, ρ, en, r => by unfold VL.setAll setD; exact en
  | i :: is, [], d :: ds, σ, ρ, en, r => by have := r.1; simp at this
  | i :: is, v :: vs, [], σ, ρ, en, r => by have := r.1; simp at this
  | i :: is, v :: vs, d :: ds, σ, ρ, en, r => by
    unfold VL.setAll setD
    exact EnvS.setAll' (en.set i r.cons_inv.1) r.cons_inv.2
/-- binding d at the target stores ds at the places is -/
structure EvG (X : Cx) (tg : Expr) (d : D) (is : List Nat) (ds : List D) : Prop where
  len : is.length = ds.length
  run : ∀ (σ : L2.St) (H M : Hp) (v : V), Same M H → Rep X.K M v d → ∀ Q : L2.St → Hp → Prop, (∀ vs, Reps X.K M vs ds → Q (setAll σ is vs) H) → WG X tg v σ H Q
theorem EvG.name {x : Str} (i : Nat) (hN : X.N.Nodup) (hi : X.N[i]? = some x := by rfl) (hx : Loc X.env.scope x := by first | exact Or.inl rfl | exact Or.inr rfl) (hf : X.fn x = true ∨ X.env.scope.names.lookup x = some .local := by first | exact .inl rfl | exact .inr rfl) : EvG X (.Name x pos) d [i] [d] :=
  ⟨rfl, fun σ H M v sm r Q q => wg_of (pg_name hN hi hx hf) (q [v] (.cons r .nil))⟩
/-- two, three or four names -/
theorem EvG.two {x y : Str} (i j : Nat) {k : Nat} {p1 p2 : Pos} (hc : X.calm = true) (hN : X.N.Nodup) (hi : X.N[i]? = some x := by rfl) (hj : X.N[j]? = some y := by rfl) (hx : Loc X.env.scope x := by first | exact Or.inl rfl | exact Or.inr rfl) (hy : Loc X.env.scope y := by first | exact Or.inl rfl | exact Or.inr rfl)
    (hfx : X.fn x = true ∨ X.env.scope.names.lookup x = some .local := by first | exact .inl rfl | exact .inr rfl) (hfy : X.fn y = true ∨ X.env.scope.names.lookup y = some .local := by first | exact .inl rfl | exact .inr rfl)
    (h1 : (assignEach [.Name x p1, .Name y p2] X.env).map (·.2) = assign (.Name x p1) X.env :: (assignEach [.Name y p2] X.env).map (·.2) := by rfl) (h2 : (assignEach [.Name y p2] X.env).map (·.2) = assign (.Name y p2) X.env :: (assignEach [] X.env).map (·.2) := by rfl)
    (hn : (assignEach [.Name x p1, .Name y p2] X.env).length = 2 := by rfl) (hst : (assignEach [.Name x p1, .Name y p2] X.env).findIdx? (·.1) = none := by rfl) : EvG X (.Tuple [.Name x p1, .Name y p2] k pos) (.tup [d1, d2]) [i, j] [d1, d2] :=
  ⟨rfl, fun σ H M v sm r Q q => wg_of (pg_tup hc (pgs_cons (pg_name hN hi hx hfx) (pgs_cons (pg_name hN hj hy hfy) pgs_nil h2) h1) hn hst) (by
    obtain ⟨a, ws, rfl, h, rs⟩ := r.tup_inv
    obtain ⟨v, w, rfl, r1, r2⟩ := rs.two
    exact ⟨a, _, rfl, SqT.of (sm _ _ h), rfl, v, [w], rfl, w, [], rfl, rfl, q [v, w] rs⟩)⟩

/-! ### comprehensions -/
def wipeD (ρ : Rho) : List Nat → Rho
  | [] => ρ
  | i :: is => (wipeD ρ is).set i none
theorem EnvS.wipe {K : PySem.W.Frag} {σ : L2.St} {ρ : Rho} (en : EnvS K σ H ρ) : ∀ is : List Nat, EnvS K (wipe σ is) H (wipeD ρ is)
  | [] => en
  | i :: is => by
    unfold L2.wipe wipeD
    exact (EnvS.wipe en is).unset i
theorem wipe_get {σ : L2.St} : ∀ {vs : List Nat} {i : Nat}, i ∈ vs → i < σ.length → (wipe σ vs)[i]? = some none
  | v :: vs, i, h, hl => by
    unfold wipe
    by_cases e : v = i
    · subst e
      rw [List.getElem?_set_self (by rw [wipe_length]; exact hl)]
    · rw [List.getElem?_set_ne e]
      exact wipe_get ((List.mem_cons.mp h).resolve_left fun z => e z.symm) hl
theorem wipe_out {σ : L2.St} : ∀ {vs : List Nat} {i : Nat}, i ∉ vs → (wipe σ vs)[i]? = σ[i]?
  | [], i, h => rfl
  | v :: vs, i, h => by
    unfold wipe
    rw [List.getElem?_set_ne (fun z => h (by simp [z]))]
    exact wipe_out fun z => h (List.mem_cons_of_mem _ z)
theorem wipe_ext {σ τ : L2.St} {vs : List Nat} (hl : σ.length = τ.length) (h : ∀ i, i ∉ vs → σ[i]? = τ[i]?) : wipe σ vs = wipe τ vs := by
  apply List.ext_getElem?
  intro i
  by_cases hi : i ∈ vs
  · by_cases hlt : i < σ.length
    · rw [wipe_get hi hlt, wipe_get hi (by rw [← hl]; exact hlt)]
    · rw [List.getElem?_eq_none (by rw [wipe_length]; omega), List.getElem?_eq_none (by rw [wipe_length]; omega)]
  · rw [wipe_out hi, wipe_out hi, h i hi]
theorem setAll_length : ∀ {is : List Nat} {vs : List V} {σ : L2.St}, (setAll σ is vs).length = σ.length
  | [], vs, σ => by unfold setAll; rfl
  | i :: is, [], σ => by unfold setAll; rfl
  | i :: is, v :: vs, σ => by unfold setAll; rw [setAll_length]; simp
theorem setAll_out : ∀ {is : List Nat} {vs : List V} {σ : L2.St} {j : Nat}, j ∉ is → (setAll σ is vs)[j]? = σ[j]?
  | [], vs, σ, j, h => by unfold setAll; rfl
  | i :: is, [], σ, j, h => by unfold setAll; rfl
  | i :: is, v :: vs, σ, j, h => by
    unfold setAll
    rw [setAll_out (fun z => h (List.mem_cons_of_mem _ z)), List.getElem?_set_ne (fun z => h (by simp [z]))]
theorem wipe_setAll {σ : L2.St} {vs is : List Nat} {ws : List V} (h : ∀ i ∈ is, i ∈ vs) : wipe (setAll (wipe σ vs) is ws) vs = wipe σ vs :=
  wipe_ext (by rw [setAll_length, wipe_length]) fun i hi => by rw [setAll_out (fun z => hi (h i z)), wipe_out hi]
end
end VL
set_option Elab.async false
set_option linter.all false
set_option maxRecDepth 100000
set_option maxHeartbeats 1000000
/-! value layer, part 4: comprehensions, calls of defs -/
namespace VL
open PySem L2
section
variable {K : PySem.W.Frag} {H H' S S' : Hp} {v : V} {o : O} {A : List Addr} {vs : List V} {os : List O} {As : List (List Addr)}
theorem RepOs.snoc (r : RepOs K H S vs os As) (h : RepO K H S v o A) : RepOs K H S (vs ++ [v]) (os ++ [o]) (As ++ [A]) := by
  refine ⟨by simp [r.1], by simp [r.2.1], fun i w p B h1 h2 h3 => ?_⟩
  have l1 := r.1
  have l2 := r.2.1
  by_cases hi : i < os.length
  · rw [List.getElem?_append_left (by omega)] at h1 h2 h3
    exact r.2.2 i w p B h1 h2 h3
  · rw [List.getElem?_append_right (by omega)] at h1 h2 h3
    have hl := (List.getElem?_eq_some_iff.mp h2).1
    simp at hl
    have e : i = os.length := by omega
    subst e
    rw [l1] at h1
    rw [l2] at h3
    simp at h1 h2 h3
    subst h1; subst h2; subst h3
    exact h
end
/-- the tests of a clause -/
def WTs (X : Cx) (ifs : List Expr) (σ : L2.St) (H : Hp) (Q : Bool → Hp → Prop) : Prop :=
  ∀ (pins : List (Addr × Obj)) (s : Shared), Inv X pins σ H s →
    wpAny (model X.prog X.w) X.A (forIn ifs true fun c r => if r = true then do let ok ← isTrue c X.env (eval c X.env); pure (ForInStep.yield ok) else pure (ForInStep.yield r)) (TP X pins σ Q) X.xe s
theorem pts_wts {X : Cx} {ifs : List Expr} : PTs X ifs (WTs X ifs) := ⟨fun pins s σ H Q I h => h pins s I⟩
theorem wts_of {X : Cx} {ifs : List Expr} {t : TT} {σ : L2.St} {H : Hp} {Q : Bool → Hp → Prop} (h : PTs X ifs t) (q : t σ H Q) : WTs X ifs σ H Q := fun pins s I => h.run pins s σ H Q I q
structure EvTs (X : Cx) (ρ : Rho) (ifs : List Expr) (b : Bool) : Prop where
  run : ∀ (σ : L2.St) (H : Hp), EnvS X.K σ H ρ → ∀ Q : Bool → Hp → Prop, (∀ H', Same H H' → Q b H') → WTs X ifs σ H Q
theorem EvTs.nil {X : Cx} {ρ : Rho} : EvTs X ρ [] true := ⟨fun σ H en Q q => wts_of pts_nil (q H (Same.refl H))⟩
theorem EvTs.one {X : Cx} {ρ : Rho} {c : Expr} {b : Bool} (h : EvT X ρ c b) : EvTs X ρ [c] b := ⟨fun σ H en Q q => wts_of (pts_one pt_wt) (h.run σ H en Q q)⟩

theorem join_some {M H : Hp} {as : List Addr} {b : Addr} (h : b ∈ as) : join M H as b = H b := join_in h
def blkG (X : Cx) (scope : Scope) (tg : Expr) : TG := fun v σ' H' Q' => ∀ (s : Shared) (H0 : Hp) (C : Addr) (cl : List (Str × Addr)) (fp : List Addr), WG (X.blk s H0 scope (compEnvC scope cl C X.env) fp) tg v σ' H' Q'
def blkT (X : Cx) (scope : Scope) (ifs : List Expr) : TT := fun σ' H' Q' => ∀ (s : Shared) (H0 : Hp) (C : Addr) (cl : List (Str × Addr)) (fp : List Addr), WTs (X.blk s H0 scope (compEnvC scope cl C X.env) fp) ifs σ' H' Q'
def blkE (X : Cx) (scope : Scope) (elt : Expr) : TE := fun σ' H' Q' => ∀ (s : Shared) (H0 : Hp) (C : Addr) (cl : List (Str × Addr)) (fp : List Addr), WE (X.blk s H0 scope (compEnvC scope cl C X.env) fp) elt σ' H' Q'
section
variable {X : Cx} {ρ : Rho} {pos : Pos}
theorem compF_read {α : Type} {elt tg iter : Expr} {ifs : List Expr} {scope : Scope} {own : List (Str × Nat)} (L : List α) (h : α → D) (f : α → Bool) (g : α → O) (is : List Nat) (bs : α → List D)
    (hi : EvI X ρ tg iter (L.map h)) (his : ∀ i ∈ is, i ∈ own.map (·.2))
    (hg : ∀ x ∈ L, ∀ (s : Shared) (H : Hp) (C : Addr) (cl : List (Str × Addr)) (fp : List Addr), EvG (X.blk s H scope (compEnvC scope cl C X.env) fp) tg (h x) is (bs x))
    (ht : ∀ x ∈ L, ∀ (s : Shared) (H : Hp) (C : Addr) (cl : List (Str × Addr)) (fp : List Addr), EvTs (X.blk s H scope (compEnvC scope cl C X.env) fp) (setD (wipeD ρ (own.map (·.2))) is (bs x)) ifs (f x))
    (he : ∀ x ∈ L, f x = true → ∀ (s : Shared) (H : Hp) (C : Addr) (cl : List (Str × Addr)) (fp : List Addr), EvO (X.blk s H scope (compEnvC scope cl C X.env) fp) (setD (wipeD ρ (own.map (·.2))) is (bs x)) elt (g x))
    (hl : L.length < sizeLine) (σ : L2.St) (H : Hp) (en : EnvS X.K σ H ρ) (Q : VK) (q : ∀ v H' A, Same H H' → (∀ a ∈ A, H a = none) → A.Nodup → RepO X.K H' (mask H' A) v (.ls ((L.filter f).map g)) A → Q v H') :
    tLc (WI X tg iter) (blkG X scope tg) (blkT X scope ifs) (blkE X scope elt) (own.map (·.2)) σ H Q := by
  refine hi.run σ H en _ fun J H1 s1 src => ?_
  intro Dl hD
  obtain ⟨G, Y, wk, hG, hY⟩ := src.go
  rw [List.length_map] at wk hY
  let Pv : Nat → Hp → Prop := fun i H' => ∃ (acc : List V) (As : List (List Addr)), H' Dl = some (.lst acc) ∧ Same H1 H' ∧ (Dl :: As.flatten).Nodup ∧ (∀ a ∈ As.flatten, H1 a = none) ∧
    RepOs X.K H' (mask H' (Dl :: As.flatten)) acc (((L.take i).filter f).map g) As
  refine lc_it (g := blkG X scope tg) (tt := blkT X scope ifs) (te := blkE X scope elt) (vs := own.map (·.2)) (σ := σ) (H1 := H1) (D := Dl) (Qd := fun H => Q (.ref Dl) H) wk Pv ?_ ?_ ?_ ?_
  · exact ⟨[], [], upd_same, Same.new hD, by simp, by simp, by simpa using RepOs.nil⟩
  · rintro i H' _ ⟨acc, As, _, s, _⟩
    exact hG H' s
  · rintro i x H2 H3 hlt ⟨acc, As, hacc, s2, nd, fr, ro⟩ y
    have hlt' : i < L.length := hlt
    obtain ⟨s3, d, hd, rd⟩ := hY i H2 x H3 hlt s2 y
    rw [List.getElem?_map, List.getElem?_eq_getElem hlt'] at hd
    obtain rfl := Option.some.inj hd
    generalize hx : L[i] = z at rd
    have hz : z ∈ L := by rw [← hx]; exact List.getElem_mem hlt'
    have fr1 : ∀ a ∈ Dl :: As.flatten, H1 a = none := fun a ha => (List.mem_cons.mp ha).elim (fun e => e ▸ hD) (fr a)
    have lst2 : Hid H2 (Dl :: As.flatten) := Hid.cons hacc ro.cells
    have rd' : Rep X.K (mask H3 (Dl :: As.flatten)) x (h z) := rd _ fun a ha => ⟨fr1 a ha, fun e => lst2.some ha e⟩
    have s13 : Same H1 H3 := s2.trans s3
    have enM : EnvS X.K (wipe σ (own.map (·.2))) (mask H3 (Dl :: As.flatten)) (wipeD ρ (own.map (·.2))) := ((en.mono s1).mono (mask_same_of s13 fr1)).wipe _
    intro s H0 C cl fp
    refine (hg z hz s H0 C cl fp).run (wipe σ (own.map (·.2))) H3 _ x mask_same rd' _ fun ws rws => ?_
    refine ⟨wipe_setAll his, ?_⟩
    have en2 : EnvS X.K (setAll (wipe σ (own.map (·.2))) is ws) (mask H3 (Dl :: As.flatten)) (setD (wipeD ρ (own.map (·.2))) is (bs z)) := enM.setAll' rws
    intro s' H0' C' cl' fp'
    refine (ht z hz s' H0' C' cl' fp').run _ H3 (en2.mono mask_same) _ fun H5 s5 => ?_
    have s25 : Same H2 H5 := s3.trans s5
    have s15 : Same H1 H5 := s2.trans s25
    have tk : (L.take (i + 1)).filter f = (L.take i).filter f ++ (if f z = true then [z] else []) := by
      rw [List.take_add_one, List.filter_append, List.getElem?_eq_getElem hlt', hx]
      by_cases hf : f z = true <;> simp [hf]
    have ro5 : RepOs X.K H5 (mask H5 (Dl :: As.flatten)) acc (((L.take i).filter f).map g) As :=
      ro.keep (fun a ha u e => s25 a u e) fun b u e => by
        obtain ⟨e1, e2⟩ := mask_some e
        rw [mask_out e2]
        exact s25 b u e1
    by_cases hf : f z = true
    · rw [hf]
      refine iteT ?_
      intro s6 H06 C6 cl6 fp6
      have lst5 : Hid H5 (Dl :: As.flatten) := lst2.up fun a _ u e => s25 a u e
      have en5 : EnvS X.K (setAll (wipe σ (own.map (·.2))) is ws) (mask H5 (Dl :: As.flatten)) (setD (wipeD ρ (own.map (·.2))) is (bs z)) := en2.mono fun b u e => by
        obtain ⟨e1, e2⟩ := mask_some e
        rw [mask_out e2]
        exact s5 b u e1
      refine (WE.frame lst5 ((he z hz hf s6 H06 C6 cl6 fp6).run _ (mask H5 (Dl :: As.flatten)) en5 (fun v M => ∃ A, Same (mask H5 (Dl :: As.flatten)) M ∧ (∀ a ∈ A, mask H5 (Dl :: As.flatten) a = none) ∧ A.Nodup ∧ RepO X.K M (mask M A) v (g z) A) fun v M A q1 q2 q3 q4 => ⟨A, q1, q2, q3, q4⟩)).mono ?_
      rintro v H6 ⟨M, ⟨A, q1, q2, q3, q4⟩, rfl, q5, q6⟩
      have hD6 : join M H5 (Dl :: As.flatten) Dl = some (.lst acc) := by
        rw [join_in (List.mem_cons_self ..)]
        exact s25 _ _ hacc
      have nA : ∀ a ∈ A, a ∉ Dl :: As.flatten := fun a ha z => by
        exact q4.cells.some ha (q5 a z)
      have hlen : acc.length < sizeLine := by
        rw [ro.1, List.length_map]
        have h1 := List.length_filter_le f (L.take i)
        have h2 : (L.take i).length ≤ L.length := by rw [List.length_take]; omega
        omega
      refine ⟨acc, hD6, hlen, acc ++ [v], As ++ [A], upd_same, ?_, ?_, ?_, ?_⟩
      · intro b u e
        have hb : b ∉ Dl :: As.flatten := fun z => by rw [fr1 b z] at e; cases e
        rw [upd_ne (fun z => hb (by simp [z])), join_out hb]
        refine q1 b u ?_
        rw [mask_out hb]
        exact s15 b u e
      · rw [List.flatten_append, List.flatten_singleton]
        rw [← List.cons_append]
        refine List.nodup_append.mpr ⟨nd, q3, fun a ha b hb e => nA b hb (e ▸ ha)⟩
      · intro a ha
        rw [List.flatten_append, List.flatten_singleton] at ha
        rcases List.mem_append.mp ha with ha | ha
        · exact fr a ha
        · have hb := nA a ha
          have e := q2 a ha
          rw [mask_out hb] at e
          exact s15.free e
      · rw [tk, if_pos hf, List.map_append]
        have upM : ∀ b u, M b = some u → (upd (join M H5 (Dl :: As.flatten)) Dl (.lst (acc ++ [v]))) b = some u := fun b u e => by
          have hb : b ∉ Dl :: As.flatten := fun z => by rw [q5 b z] at e; cases e
          rw [upd_ne (fun z => hb (by simp [z])), join_out hb]
          exact e
        refine RepOs.snoc (ro5.keep (fun a ha u e => ?_) fun b u e => ?_) (q4.keep (fun a ha u e => upM a u e) fun b u e => ?_)
        · rw [upd_ne (fun z : a = Dl => (List.nodup_cons.mp nd).1 (by rw [← z]; exact ha)), join_in (List.mem_cons_of_mem _ ha)]
          exact e
        · obtain ⟨e1, e2⟩ := mask_some e
          have hbA : b ∉ A := fun z => by have := q2 b z; rw [this] at e; cases e
          rw [mask_out (by rw [List.flatten_append, List.flatten_singleton, ← List.cons_append]; exact fun z => (List.mem_append.mp z).elim e2 hbA)]
          exact upM b u (q1 b u e)
        · obtain ⟨e1, e2⟩ := mask_some e
          have hb : b ∉ Dl :: As.flatten := fun z => by rw [q5 b z] at e1; cases e1
          rw [mask_out (by rw [List.flatten_append, List.flatten_singleton, ← List.cons_append]; exact fun z => (List.mem_append.mp z).elim hb e2)]
          exact upM b u e1
    · have hf' : f z = false := by simpa using hf
      rw [hf']
      refine iteF ⟨acc, As, s25 _ _ hacc, s15, nd, fr, ?_⟩
      rw [tk, if_neg hf, List.append_nil]
      exact ro5
  · rintro H' ⟨acc, As, hacc, s2, nd, fr, ro⟩
    rw [List.take_length] at ro
    refine q _ _ _ (s1.trans s2) (fun a ha => ?_) nd (.ls hacc ro.1 ro.2.1 ro.2.2)
    rcases List.mem_cons.mp ha with rfl | ha
    · exact s1.free hD
    · exact s1.free (fr a ha)
theorem EvO.compF {α : Type} {elt tg iter : Expr} {ifs : List Expr} {scope : Scope} {own : List (Str × Nat)} (L : List α) (h : α → D) (f : α → Bool) (g : α → O) (is : List Nat) (bs : α → List D)
    (hc : X.calm = true) (hN : X.N.Nodup) (hi : EvI X ρ tg iter (L.map h)) (ok : BlkOk X.N X.env.scope scope own) (his : ∀ i ∈ is, i ∈ own.map (·.2))
    (hg : ∀ x ∈ L, ∀ (s : Shared) (H : Hp) (C : Addr) (cl : List (Str × Addr)) (fp : List Addr), EvG (X.blk s H scope (compEnvC scope cl C X.env) fp) tg (h x) is (bs x))
    (ht : ∀ x ∈ L, ∀ (s : Shared) (H : Hp) (C : Addr) (cl : List (Str × Addr)) (fp : List Addr), EvTs (X.blk s H scope (compEnvC scope cl C X.env) fp) (setD (wipeD ρ (own.map (·.2))) is (bs x)) ifs (f x))
    (he : ∀ x ∈ L, f x = true → ∀ (s : Shared) (H : Hp) (C : Addr) (cl : List (Str × Addr)) (fp : List Addr), EvO (X.blk s H scope (compEnvC scope cl C X.env) fp) (setD (wipeD ρ (own.map (·.2))) is (bs x)) elt (g x))
    (hl : L.length < sizeLine) (hs : ∀ x, foldedSetIterable iter X.env x = pure x := by intro _; rfl) : EvO X ρ (.ListComp elt [⟨tg, iter, ifs, 0⟩] scope pos) (.ls ((L.filter f).map g)) :=
  ⟨fun σ H en Q q => we_of (pe_lc (g := blkG X scope tg) (tt := blkT X scope ifs) (te := blkE X scope elt)
    hc hN pi_wi ok (fun s H0 C cl fp => ⟨fun pins s' σ' H' v u Q' I r w => w s H0 C cl fp pins s' u I r⟩) (fun s H0 C cl fp => ⟨fun pins s' σ' H' Q' I w => w s H0 C cl fp pins s' I⟩) (fun s H0 C cl fp => ⟨fun pins s' σ' H' Q' I w => w s H0 C cl fp pins s' I⟩) hs)
    (compF_read L h f g is bs hi his hg ht he hl σ H en Q q)⟩
/-- no tests -/
theorem EvO.comp {α : Type} {elt tg iter : Expr} {scope : Scope} {own : List (Str × Nat)} (L : List α) (h : α → D) (g : α → O) (is : List Nat) (bs : α → List D)
    (hc : X.calm = true) (hN : X.N.Nodup) (hi : EvI X ρ tg iter (L.map h)) (ok : BlkOk X.N X.env.scope scope own) (his : ∀ i ∈ is, i ∈ own.map (·.2))
    (hg : ∀ x ∈ L, ∀ (s : Shared) (H : Hp) (C : Addr) (cl : List (Str × Addr)) (fp : List Addr), EvG (X.blk s H scope (compEnvC scope cl C X.env) fp) tg (h x) is (bs x))
    (he : ∀ x ∈ L, ∀ (s : Shared) (H : Hp) (C : Addr) (cl : List (Str × Addr)) (fp : List Addr), EvO (X.blk s H scope (compEnvC scope cl C X.env) fp) (setD (wipeD ρ (own.map (·.2))) is (bs x)) elt (g x))
    (hl : L.length < sizeLine) (hs : ∀ x, foldedSetIterable iter X.env x = pure x := by intro _; rfl) : EvO X ρ (.ListComp elt [⟨tg, iter, [], 0⟩] scope pos) (.ls (L.map g)) := by
  have := EvO.compF (pos := pos) L h (fun _ => true) g is bs hc hN hi ok his hg (fun x _ s H C cl fp => EvTs.nil) (fun x hx _ => he x hx) hl hs
  rw [List.filter_eq_self.mpr (fun _ _ => rfl)] at this
  exact this
end

/-! ### defs: what a call of x with the data ds is worth -/
def spV (K : PySem.W.Frag) (ds : List D) (post : O → Prop) : Sp := fun vs H Q _ => Reps K H vs ds ∧
  ∀ o v H' A, post o → Same H H' → (∀ a ∈ A, H a = none) → A.Nodup → RepO K H' (mask H' A) v o A → Q v H'
structure VF (P : Program) (w : World) (K : PySem.W.Frag) (mg : Str → Option Value) (base : Heap) (k : Nat) (x : Str) (ds : List D) (post : O → Prop) : Prop where
  ex : ∃ (f : Addr) (fd : FuncData) (ps : List Str), mg x = some (.ref f) ∧ PySem.W.keepIn K (.ref f) = true ∧ Binds K fd ps [] ∧ FnOk P w K mg base CX0 k f fd ps (spV K ds post)
theorem VF.mono {P : Program} {w : World} {K : PySem.W.Frag} {mg : Str → Option Value} {base : Heap} {j k : Nat} {x : Str} {ds : List D} {post post' : O → Prop} (F : VF P w K mg base j x ds post) (h : j ≤ k) (hp : ∀ o, post o → post' o) : VF P w K mg base k x ds post' := by
  obtain ⟨f, fd, ps, h1, h2, h3, h4⟩ := F.ex
  exact ⟨f, fd, ps, h1, h2, h3, (h4.mono h).imp fun vs H Q E q => ⟨q.1, fun o v H' A p => q.2 o v H' A (hp o p)⟩⟩
section
variable {X : Cx} {ρ : Rho} {pos p : Pos} {e : Expr} {es : List Expr} {ds : List D} {k : Nat} {x : Str} {post : O → Prop} {o : O} {d : D}
theorem EvO.call (F : VF X.prog X.w X.K X.mg X.base k x ds post) (hr : Room k X.A) (ha : EvA X ρ (e :: es) ds) (hp : ∀ o', post o' → o' = o) (hg : Gl X x := by rfl) (hdb : (x == ("__debug__" : Str)) = false := by decide)
    (he : starEach (e :: es) X.env = (false, eval e X.env) :: starEach es X.env := by rfl) (hpl : (backTo pos (starEach es X.env)).any (·.1) = false := by rfl) : EvO X ρ (.Call (.Name x p) (e :: es) [] pos) o := by
  obtain ⟨f, fd, ps, h1, h2, h3, h4⟩ := F.ex
  refine ⟨fun σ H en Q q => we_of (pe_call (E := E0) h4 hr hg h1 h2 h3 .nil pass0 pa_wa hdb he hpl) (ha.run σ H en _ fun vs H1 s1 r1 => ?_)⟩
  rw [List.append_nil]
  exact ⟨r1, fun o' v H' A po s2 fr nd ro => q v H' A (s1.trans s2) (fun a ha => s1.free (fr a ha)) nd (hp o' po ▸ ro)⟩
theorem Ev.call (F : VF X.prog X.w X.K X.mg X.base k x ds post) (hr : Room k X.A) (ha : EvA X ρ (e :: es) ds) (hp : ∀ o', post o' → o'.data = d) (hg : Gl X x := by rfl) (hdb : (x == ("__debug__" : Str)) = false := by decide)
    (he : starEach (e :: es) X.env = (false, eval e X.env) :: starEach es X.env := by rfl) (hpl : (backTo pos (starEach es X.env)).any (·.1) = false := by rfl) : Ev X ρ (.Call (.Name x p) (e :: es) [] pos) d := by
  obtain ⟨f, fd, ps, h1, h2, h3, h4⟩ := F.ex
  refine ⟨fun σ H en Q q => we_of (pe_call (E := E0) h4 hr hg h1 h2 h3 .nil pass0 pa_wa hdb he hpl) (ha.run σ H en _ fun vs H1 s1 r1 => ?_)⟩
  rw [List.append_nil]
  exact ⟨r1, fun o' v H' A po s2 fr nd ro => q v H' (s1.trans s2) (by rw [← hp o' po]; exact ro.rep mask_same)⟩
/-- some value of the promise -/
structure EvN (X : Cx) (ρ : Rho) (e : Expr) (post : O → Prop) : Prop where
  run : ∀ (σ : L2.St) (H : Hp), EnvS X.K σ H ρ → ∀ Q : VK, (∀ o v H' A, post o → Same H H' → (∀ a ∈ A, H a = none) → A.Nodup → RepO X.K H' (mask H' A) v o A → Q v H') → WE X e σ H Q
theorem EvN.call (F : VF X.prog X.w X.K X.mg X.base k x ds post) (hr : Room k X.A) (ha : EvA X ρ (e :: es) ds) (hg : Gl X x := by rfl) (hdb : (x == ("__debug__" : Str)) = false := by decide)
    (he : starEach (e :: es) X.env = (false, eval e X.env) :: starEach es X.env := by rfl) (hpl : (backTo pos (starEach es X.env)).any (·.1) = false := by rfl) : EvN X ρ (.Call (.Name x p) (e :: es) [] pos) post := by
  obtain ⟨f, fd, ps, h1, h2, h3, h4⟩ := F.ex
  refine ⟨fun σ H en Q q => we_of (pe_call (E := E0) h4 hr hg h1 h2 h3 .nil pass0 pa_wa hdb he hpl) (ha.run σ H en _ fun vs H1 s1 r1 => ?_)⟩
  rw [List.append_nil]
  exact ⟨r1, fun o' v H' A po s2 fr nd ro => q o' v H' A po (s1.trans s2) (fun a ha => s1.free (fr a ha)) nd ro⟩
theorem EvO.evN (h : EvO X ρ e o) (hp : post o) : EvN X ρ e post := ⟨fun σ H en Q q => h.run σ H en Q fun v H' A s f n r => q o v H' A hp s f n r⟩
end
end VL
set_option Elab.async false
set_option linter.all false
set_option maxRecDepth 100000
set_option maxHeartbeats 1000000
/-! value layer, part 5: slots that own their lists -/
namespace VL
open PySem L2

inductive W where
  | sh (d : D) | ow (o : O) (d : D)
abbrev RhoW := List (Option W)
def W.toO : W → O
  | .sh d => .sh d
  | .ow o _ => o
def RepW (K : PySem.W.Frag) (H S : Hp) (v : V) : W → List Addr → Prop
  | .sh d, A => Rep K S v d ∧ A = []
  | .ow o d, A => o.data = d ∧ RepO K H S v o A
def hideW : Option W → Option D
  | some (.sh d) => some d
  | _ => none
def borW : Option W → Option D
  | some (.sh d) => some d
  | some (.ow _ d) => some d
  | none => none
def hide (ρ : RhoW) : Rho := ρ.map hideW
def bor (ρ : RhoW) : Rho := ρ.map borW
mutual
def O.free : O → Bool
  | .sh d => d.free
  | .ls xs => freeO xs
  | .tu xs => freeO xs
  | .ob _ _ xs => freeO xs
  | .dd _ xs => freeO xs
  | .pin _ o => o.free
def freeO : List O → Bool
  | [] => true
  | x :: xs => x.free && freeO xs
end
theorem freeO_get : ∀ {xs : List O} {i : Nat} {o : O}, freeO xs = true → xs[i]? = some o → o.free = true
  | [], i, d, _, h => by simp at h
  | x :: xs, 0, d, f, h => by
    simp at h; subst h
    unfold freeO at f
    exact (Bool.and_eq_true_iff.mp f).1
  | x :: xs, i + 1, d, f, h => by
    unfold freeO at f
    exact freeO_get (Bool.and_eq_true_iff.mp f).2 (by simpa using h)
section
variable {K : PySem.W.Frag} {H0 H H' S S' M : Hp} {v : V} {w : W} {o : O} {d : D} {A B as bs : List Addr} {σ σ' : L2.St} {ρ ρ' : RhoW}
theorem RepO.maskF (r : RepO K H (mask H as) v o A) (f : o.free = true) (hl : Hid H bs) (hs : ∀ a ∈ as, a ∈ bs) : RepO K H (mask H bs) v o A := by
  generalize hS : mask H as = S at r
  induction r with
  | sh q =>
    unfold O.free at f
    subst hS
    exact .sh ((q.mono mask_same).maskF f fun a ha => hl.notup ha)
  | ls h1 h2 h3 h4 ih =>
    unfold O.free at f
    exact .ls h1 h2 h3 fun i v o A q1 q2 q3 => ih i v o A q1 q2 q3 (freeO_get f q2)
  | tu h1 h2 h3 h4 ih =>
    unfold O.free at f
    subst hS
    have h1' := (mask_some h1).1
    refine .tu ?_ h2 h3 fun i v o A q1 q2 q3 => ih i v o A q1 q2 q3 (freeO_get f q2)
    rw [mask_out (fun z => hl.notup z _ h1')]
    exact h1'
  | ob h1 h2 hz h3 h4 h5 h6 h7 h8 ih =>
    unfold O.free at f
    exact .ob h1 h2 hz h3 h4 h5 h6 h7 fun i v o A q1 q2 q3 => ih i v o A q1 q2 q3 (freeO_get f q2)
  | dd h1 h2 h3 h4 h5 h6 ih =>
    unfold O.free at f
    subst hS
    have h1' := (mask_some h1).1
    refine .dd ?_ h2 h3 h4 h5 fun i v o A q1 q2 q3 => ih i v o A q1 q2 q3 (freeO_get f q2)
    rw [mask_out (fun z => ?_)]
    · exact h1'
    · obtain ⟨o, e, c⟩ := hl.cell z
      rw [h1'] at e
      obtain rfl := Option.some.inj e
      cases c
  | pin h ih =>
    unfold O.free at f
    exact .pin (ih f)
theorem RepO.sh_inv (r : RepO K H S v (.sh d) A) : A = [] ∧ Rep K S v d := by
  cases r with
  | sh q => exact ⟨rfl, q⟩
theorem RepW.keep (r : RepW K H S v w A) (h : ∀ a ∈ A, ∀ u, H a = some u → H' a = some u) (s : Same S S') : RepW K H' S' v w A := by
  cases w with
  | sh d => exact ⟨r.1.mono s, r.2⟩
  | ow o d => exact ⟨r.1, RepO.keep r.2 h s⟩
theorem RepW.toO (r : RepW K H S v w A) : RepO K H S v w.toO A := by
  cases w with
  | sh d =>
    obtain ⟨r1, rfl⟩ := r
    exact .sh r1
  | ow o d => exact r.2
theorem RepW.cells (r : RepW K H S v w A) : Hid H A := r.toO.cells
theorem RepO.into (r : RepO K H S v o A) (h : ∀ a ∈ A, ∀ u, H a = some u → M a = some u) (s : Same S M) : Rep K M v o.data := (r.keep (H' := M) (S' := M) h s).rep (Same.refl M)

def allOf (A : Nat → List Addr) (n : Nat) : List Addr := (List.range n).flatMap A
theorem mem_allOf {A : Nat → List Addr} {n : Nat} {a : Addr} : a ∈ allOf A n ↔ ∃ i, i < n ∧ a ∈ A i := by
  unfold allOf
  simp [List.mem_flatMap]
structure EnvA (K : PySem.W.Frag) (H0 : Hp) (σ : L2.St) (H : Hp) (ρ : RhoW) (A : Nat → List Addr) : Prop where
  len : σ.length = ρ.length
  nd : ∀ i, (A i).Nodup
  dj : ∀ i j a, a ∈ A i → a ∈ A j → i = j
  fresh : ∀ a ∈ allOf A ρ.length, H0 a = none
  same : Same H0 H
  get : ∀ (i : Nat) (w : W), ρ[i]? = some (some w) → ∃ v, σ[i]? = some (some v) ∧ RepW K H (mask H (allOf A ρ.length)) v w (A i)
  off : ∀ i, (∀ w, ρ[i]? ≠ some (some w)) → A i = []
def EnvW (K : PySem.W.Frag) (H0 : Hp) (σ : L2.St) (H : Hp) (ρ : RhoW) : Prop := ∃ A, EnvA K H0 σ H ρ A
variable {F : Nat → List Addr}
theorem EnvA.mem (E : EnvA K H0 σ H ρ F) {a : Addr} {i : Nat} (h : a ∈ F i) : a ∈ allOf F ρ.length := by
  refine mem_allOf.mpr ⟨i, ?_, h⟩
  by_cases hi : i < ρ.length
  · exact hi
  · rw [E.off i (fun w e => by rw [List.getElem?_eq_none (by omega)] at e; cases e)] at h
    cases h
theorem EnvA.cells (E : EnvA K H0 σ H ρ F) : Hid H (allOf F ρ.length) := by
  have each : ∀ i, Hid H (F i) := fun i => by
    cases e : ρ[i]? with
    | none => rw [E.off i (fun w z => by rw [e] at z; cases z)]; exact Hid.nil
    | some q =>
      cases q with
      | none => rw [E.off i (fun w z => by rw [e] at z; cases z)]; exact Hid.nil
      | some w =>
        obtain ⟨v, _, r⟩ := E.get i w e
        exact r.cells
  intro a ha
  obtain ⟨i, hi, h⟩ := mem_allOf.mp ha
  rcases each i a h with q | ⟨C, dx, fs, e, d⟩ | ⟨y, C, fs, e, d, e2⟩
  · exact .inl q
  · exact .inr (.inl ⟨C, dx, fs, e, E.mem d⟩)
  · exact .inr (.inr ⟨y, C, fs, e, E.mem d, e2⟩)
theorem EnvA.notup (E : EnvA K H0 σ H ρ F) : ∀ a ∈ allOf F ρ.length, ∀ xs, H a ≠ some (.tup xs) := fun a ha xs => E.cells.notup ha xs
theorem EnvA.envH (E : EnvA K H0 σ H ρ F) : EnvS K σ (mask H (allOf F ρ.length)) (hide ρ) := ⟨by unfold hide; rw [List.length_map]; exact E.len, fun i d h => by
  unfold hide at h
  rw [List.getElem?_map] at h
  obtain ⟨q, e, hq⟩ := Option.map_eq_some_iff.mp h
  cases q with
  | none => cases hq
  | some w =>
    cases w with
    | sh d' =>
      have : d' = d := Option.some.inj hq
      subst this
      obtain ⟨v, h1, r⟩ := E.get i _ e
      exact ⟨v, h1, r.1⟩
    | ow o d' => cases hq⟩
theorem EnvA.envB (E : EnvA K H0 σ H ρ F) : EnvS K σ H (bor ρ) := ⟨by unfold bor; rw [List.length_map]; exact E.len, fun i d h => by
  unfold bor at h
  rw [List.getElem?_map] at h
  obtain ⟨q, e, hq⟩ := Option.map_eq_some_iff.mp h
  cases q with
  | none => cases hq
  | some w =>
    obtain ⟨v, h1, r⟩ := E.get i _ e
    refine ⟨v, h1, ?_⟩
    cases w with
    | sh d' =>
      have : d' = d := Option.some.inj hq
      subst this
      exact r.1.mono mask_same
    | ow o d' =>
      have : d' = d := Option.some.inj hq
      subst this
      rw [← r.1]
      exact RepO.rep r.2 mask_same⟩
/-- one more slot at the end -/
theorem EnvA.push (E : EnvA K H0 σ H ρ F) (keep : ∀ a ∈ allOf F ρ.length, ∀ u, H a = some u → H' a = some u) (sm : Same (mask H (allOf F ρ.length)) (mask H' (allOf F ρ.length ++ B)))
    (fr : ∀ b ∈ B, H b = none) (nd : B.Nodup) (r : RepW K H' (mask H' (allOf F ρ.length ++ B)) v w B) : EnvA K H0 (σ ++ [some v]) H' (ρ ++ [some w]) (fun j => if j = ρ.length then B else F j) := by
  have offn : F ρ.length = [] := E.off _ fun w e => by rw [List.getElem?_eq_none (Nat.le_refl _)] at e; cases e
  have hall : ∀ a, a ∈ allOf (fun j => if j = ρ.length then B else F j) (ρ ++ [some w]).length ↔ a ∈ allOf F ρ.length ++ B := fun a => by
    rw [mem_allOf, List.mem_append, mem_allOf]
    constructor
    · rintro ⟨i, hi, h⟩
      simp only [List.length_append, List.length_singleton] at hi
      by_cases e : i = ρ.length
      · rw [if_pos e] at h; exact .inr h
      · rw [if_neg e] at h; exact .inl ⟨i, by omega, h⟩
    · rintro (⟨i, hi, h⟩ | h)
      · exact ⟨i, by simp; omega, by rw [if_neg (by omega)]; exact h⟩
      · exact ⟨ρ.length, by simp, by rw [if_pos rfl]; exact h⟩
  have hmask : mask H' (allOf (fun j => if j = ρ.length then B else F j) (ρ ++ [some w]).length) = mask H' (allOf F ρ.length ++ B) := by
    funext b
    unfold mask
    by_cases hb : b ∈ allOf F ρ.length ++ B
    · rw [if_pos hb, if_pos ((hall b).mpr hb)]
    · rw [if_neg hb, if_neg (fun z => hb ((hall b).mp z))]
  have apart : ∀ a i, a ∈ B → a ∈ F i → False := fun a i h1 h2 => by
    exact E.cells.some (E.mem h2) (fr a h1)
  refine ⟨by simp [E.len], fun i => ?_, fun i j a h1 h2 => ?_, fun a ha => ?_, fun b u e => ?_, fun i x h => ?_, fun i h => ?_⟩
  · try dsimp only
    split
    · exact nd
    · exact E.nd i
  · try dsimp only at h1 h2
    split at h1 <;> split at h2
    · omega
    · exact (apart a j h1 h2).elim
    · exact (apart a i h2 h1).elim
    · exact E.dj i j a h1 h2
  · rcases List.mem_append.mp ((hall a).mp ha) with h | h
    · exact E.fresh a h
    · exact E.same.free (fr a h)
  · have hb : b ∉ allOf F ρ.length := fun z => by rw [E.fresh b z] at e; cases e
    exact (mask_some (sm b u (by rw [mask_out hb]; exact E.same b u e))).1
  · rw [hmask]
    by_cases hi : i < ρ.length
    · rw [List.getElem?_append_left hi] at h
      obtain ⟨v', e, r'⟩ := E.get i x h
      refine ⟨v', by rw [List.getElem?_append_left (by rw [E.len]; exact hi)]; exact e, ?_⟩
      try dsimp only
      rw [if_neg (by omega)]
      exact r'.keep (fun a ha u q => keep a (E.mem ha) u q) sm
    · have hi2 := (List.getElem?_eq_some_iff.mp h).1
      simp at hi2
      have e : i = ρ.length := by omega
      subst e
      rw [List.getElem?_append_right (Nat.le_refl _)] at h
      simp at h
      subst h
      refine ⟨v, by rw [← E.len]; simp, ?_⟩
      try dsimp only
      rw [if_pos rfl]
      exact r
  · try dsimp only
    split
    · rename_i e
      subst e
      exact absurd (by simp) (h w)
    · refine E.off i fun x e => h x ?_
      have hi2 := (List.getElem?_eq_some_iff.mp e).1
      rw [List.getElem?_append_left hi2]
      exact e
/-- slots taken elsewhere, or dropped -/
theorem EnvW.remap (m : Nat → Option Nat) (E : EnvW K H0 σ H ρ) (hlen : σ'.length = ρ'.length) (h : ∀ j w, ρ'[j]? = some (some w) → ∃ i, m j = some i ∧ ρ[i]? = some (some w) ∧ σ'[j]? = σ[i]?)
    (inj : ∀ j j' i, m j = some i → m j' = some i → j = j') : EnvW K H0 σ' H ρ' := by
  obtain ⟨F, E⟩ := E
  let G : Nat → List Addr := fun j => match ρ'[j]? with
    | some (some _) => (match m j with | some i => F i | none => [])
    | _ => []
  have hG : ∀ j a, a ∈ G j → ∃ i w, m j = some i ∧ ρ'[j]? = some (some w) ∧ a ∈ F i := fun j a ha => by
    dsimp only [G] at ha
    split at ha
    · split at ha
      · exact ⟨_, _, by assumption, by assumption, ha⟩
      · cases ha
    · cases ha
  have hG2 : ∀ j i w, m j = some i → ρ'[j]? = some (some w) → G j = F i := fun j i w h1 h2 => by
    dsimp only [G]
    rw [h2, h1]
  have sub : ∀ a ∈ allOf G ρ'.length, a ∈ allOf F ρ.length := fun a ha => by
    obtain ⟨j, _, h1⟩ := mem_allOf.mp ha
    obtain ⟨i, w, _, _, h2⟩ := hG j a h1
    exact E.mem h2
  refine ⟨G, hlen, fun j => ?_, fun j j' a h1 h2 => ?_, fun a ha => E.fresh a (sub a ha), E.same, fun j w hw => ?_, fun j hj => ?_⟩
  · dsimp only [G]
    split
    · split
      · exact E.nd _
      · exact List.nodup_nil
    · exact List.nodup_nil
  · obtain ⟨i, w, e1, _, q1⟩ := hG j a h1
    obtain ⟨i', w', e2, _, q2⟩ := hG j' a h2
    have e := E.dj i i' a q1 q2
    subst e
    exact inj j j' i e1 e2
  · obtain ⟨i, e1, e2, e3⟩ := h j w hw
    obtain ⟨v, e4, r⟩ := E.get i w e2
    refine ⟨v, by rw [e3]; exact e4, ?_⟩
    rw [hG2 j i w e1 hw]
    exact r.keep (fun _ _ _ z => z) (mask_sub sub)
  · dsimp only [G]
    split
    · rename_i w e
      exact absurd e (hj w)
    · rfl
theorem EnvW.len (E : EnvW K H0 σ H ρ) : σ.length = ρ.length := let ⟨_, E⟩ := E; E.len
/-- the last slot goes to i -/
theorem EnvW.into (E : EnvW K H0 (σ ++ [some v]) H (ρ ++ [some w])) (i : Nat) : EnvW K H0 (σ.set i (some v)) H (ρ.set i (some w)) := by
  have hl : σ.length = ρ.length := by have := E.len; simpa using this
  refine E.remap (fun j => if j = i then some ρ.length else if j < ρ.length then some j else none) (by simp [hl]) (fun j x h => ?_) fun j j' k h1 h2 => ?_
  · rw [List.getElem?_set] at h
    by_cases e : i = j
    · subst e
      rw [if_pos rfl] at h
      split at h
      · rename_i hi
        refine ⟨ρ.length, by simp, by simp; exact Option.some.inj (Option.some.inj h), ?_⟩
        rw [List.getElem?_set, if_pos rfl, if_pos (by omega), ← hl]
        simp
      · cases h
    · rw [if_neg e] at h
      have hj := (List.getElem?_eq_some_iff.mp h).1
      refine ⟨j, by simp [Ne.symm e, hj], by rw [List.getElem?_append_left hj]; exact h, ?_⟩
      rw [List.getElem?_set_ne e, List.getElem?_append_left (by omega)]
  · try dsimp only at h1 h2
    split at h1 <;> split at h2
    · omega
    · split at h2
      · cases h1; cases h2; omega
      · cases h2
    · split at h1
      · cases h1; cases h2; omega
      · cases h1
    · split at h1 <;> split at h2 <;> first | (cases h1; cases h2; rfl) | (cases h2; done) | (cases h1; done)
/-- the last slot is dropped -/
theorem EnvW.pop (E : EnvW K H0 (σ ++ [some v]) H (ρ ++ [some w])) : EnvW K H0 σ H ρ := by
  have hl : σ.length = ρ.length := by have := E.len; simpa using this
  refine E.remap (fun j => if j < ρ.length then some j else none) hl (fun j x h => ?_) fun j j' k h1 h2 => ?_
  · have hj := (List.getElem?_eq_some_iff.mp h).1
    exact ⟨j, by simp [hj], by rw [List.getElem?_append_left hj]; exact h, by rw [List.getElem?_append_left (by omega)]⟩
  · try dsimp only at h1 h2
    split at h1 <;> split at h2 <;> first | (cases h1; cases h2; rfl) | (cases h2; done) | (cases h1; done)
/-- slot i's value at the end, slot i empty -/
theorem EnvW.moved (E : EnvW K H0 σ H ρ) {i : Nat} (hi : ρ[i]? = some (some w)) (hv : σ[i]? = some (some v)) : EnvW K H0 (σ ++ [some v]) H (ρ.set i none ++ [some w]) := by
  have hl := E.len
  have hi' := (List.getElem?_eq_some_iff.mp hi).1
  refine E.remap (fun j => if j = ρ.length then some i else if j = i then none else some j) (by simp [hl]) (fun j x h => ?_) fun j j' k h1 h2 => ?_
  · by_cases hj : j < ρ.length
    · rw [List.getElem?_append_left (by simpa using hj), List.getElem?_set] at h
      by_cases e : i = j
      · subst e
        rw [if_pos rfl, if_pos hj] at h
        cases h
      · rw [if_neg e] at h
        exact ⟨j, by simp [Ne.symm e]; omega, h, by rw [List.getElem?_append_left (by omega)]⟩
    · have hj2 := (List.getElem?_eq_some_iff.mp h).1
      simp at hj2
      have e : j = ρ.length := by omega
      subst e
      rw [List.getElem?_append_right (by simp)] at h
      simp at h
      subst h
      refine ⟨i, by simp, hi, ?_⟩
      rw [hv, ← hl]
      simp
  · try dsimp only at h1 h2
    split at h1 <;> split at h2
    · omega
    · split at h2
      · cases h2
      · cases h1; cases h2; contradiction
    · split at h1
      · cases h1
      · cases h1; cases h2; contradiction
    · split at h1 <;> split at h2 <;> first | (cases h1; cases h2; rfl) | (cases h2; done) | (cases h1; done)
/-- the heap has grown -/
theorem EnvW.grow (E : EnvW K H0 σ H ρ) (s : Same H H') : EnvW K H0 σ H' ρ := by
  obtain ⟨F, E⟩ := E
  have sm : Same (mask H (allOf F ρ.length)) (mask H' (allOf F ρ.length)) := fun b u e => by
    obtain ⟨e1, e2⟩ := mask_some e
    rw [mask_out e2]
    exact s b u e1
  exact ⟨F, E.len, E.nd, E.dj, E.fresh, E.same.trans s, fun i w h => let ⟨v, h1, r⟩ := E.get i w h; ⟨v, h1, r.keep (fun a _ u e => s a u e) sm⟩, E.off⟩
/-- an owned slot is shared from now on -/
theorem EnvW.share (E : EnvW K H0 σ H ρ) {i : Nat} (hi : ρ[i]? = some (some (.ow o d))) : EnvW K H0 σ H (ρ.set i (some (.sh d))) := by
  obtain ⟨F, E⟩ := E
  have hi' := (List.getElem?_eq_some_iff.mp hi).1
  let G : Nat → List Addr := fun j => if j = i then [] else F j
  have sub : ∀ a ∈ allOf G (ρ.set i (some (.sh d))).length, a ∈ allOf F ρ.length ∧ a ∉ F i := fun a ha => by
    obtain ⟨j, hj, h1⟩ := mem_allOf.mp ha
    dsimp only [G] at h1
    split at h1
    · cases h1
    · exact ⟨E.mem h1, fun z => by have := E.dj _ _ _ h1 z; contradiction⟩
  refine ⟨G, by simp [E.len], fun j => ?_, fun j j' a h1 h2 => ?_, fun a ha => E.fresh a (sub a ha).1, E.same, fun j w hw => ?_, fun j hj => ?_⟩
  · dsimp only [G]
    split
    · exact List.nodup_nil
    · exact E.nd j
  · dsimp only [G] at h1 h2
    split at h1
    · cases h1
    · split at h2
      · cases h2
      · exact E.dj j j' a h1 h2
  · rw [List.getElem?_set] at hw
    by_cases e : i = j
    · subst e
      rw [if_pos rfl, if_pos hi'] at hw
      obtain rfl := Option.some.inj (Option.some.inj hw)
      obtain ⟨v, h1, r⟩ := E.get i _ hi
      have rr := RepO.into (M := mask H (allOf G (ρ.set i (some (.sh d))).length)) r.2 (fun a ha u e => by rw [mask_out (fun z => (sub a z).2 ha)]; exact e) (mask_sub fun a ha => (sub a ha).1)
      rw [r.1] at rr
      exact ⟨v, h1, rr, by dsimp only [G]; rw [if_pos rfl]⟩
    · rw [if_neg e] at hw
      obtain ⟨v, h1, r⟩ := E.get j w hw
      refine ⟨v, h1, ?_⟩
      dsimp only [G]
      rw [if_neg (Ne.symm e)]
      exact r.keep (fun _ _ _ z => z) (mask_sub fun a ha => (sub a ha).1)
  · dsimp only [G]
    split
    · rfl
    · rename_i e
      refine E.off j fun w z => hj w ?_
      rw [List.getElem?_set_ne (Ne.symm e)]
      exact z
/-- a flat list of one's own -/
theorem EnvA.flat (E : EnvA K H0 σ H ρ F) {i : Nat} {ds : List D} {d1 : D} (hi : ρ[i]? = some (some (.ow (oL ds) d1))) : ∃ a vs, σ[i]? = some (some (.ref a)) ∧ H a = some (.lst vs) ∧ F i = [a] ∧ Reps K (mask H (allOf F ρ.length)) vs ds := by
  obtain ⟨v, h1, r⟩ := E.get i _ hi
  have r' : RepO K H (mask H (allOf F ρ.length)) v (.ls (ds.map O.sh)) (F i) := r.2
  generalize hFi : F i = Fi at r'
  cases r' with
  | @ls a vs _ As q1 q2 q3 q4 =>
    have hnil : ∀ B ∈ As, B = [] := fun B hB => by
      obtain ⟨k, hk⟩ := List.getElem?_of_mem hB
      have l := (List.getElem?_eq_some_iff.mp hk).1
      simp at q2 q3
      have e1 : vs[k]? = some vs[k] := List.getElem?_eq_getElem (by omega)
      have e2 : (ds.map O.sh)[k]? = some (O.sh (ds[k]'(by omega))) := by simp [show k < ds.length by omega]
      exact (q4 k _ _ B e1 e2 hk).sh_inv.1
    have hflat : As.flatten = [] := by
      rw [List.flatten_eq_nil_iff]
      exact hnil
    rw [hflat] at hFi ⊢
    refine ⟨a, vs, h1, q1, rfl, by simpa using q2, fun k v d e1 e2 => ?_⟩
    have l := (List.getElem?_eq_some_iff.mp e2).1
    simp at q2 q3
    exact (q4 k v (.sh d) As[k] e1 (by simp [e2]) (List.getElem?_eq_getElem (by omega))).sh_inv.2
/-- .. is changed -/
theorem EnvA.mutF (E : EnvA K H0 σ H ρ F) {i : Nat} {ds : List D} {d1 : D} {a : Addr} (hi : ρ[i]? = some (some (.ow (oL ds) d1))) (h1 : σ[i]? = some (some (.ref a))) (hFi : F i = [a]) {vs' : List V} {ds' : List D} (rs : Reps K (mask H (allOf F ρ.length)) vs' ds') :
    EnvA K H0 σ (upd H a (.lst vs')) (ρ.set i (some (.ow (oL ds') (.lst ds')))) F ∧ mask (upd H a (.lst vs')) (allOf F (ρ.set i (some (.ow (oL ds') (.lst ds')))).length) = mask H (allOf F ρ.length) := by
  have hi' := (List.getElem?_eq_some_iff.mp hi).1
  have ha : a ∈ allOf F ρ.length := E.mem (i := i) (by rw [hFi]; simp)
  have hm : mask (upd H a (.lst vs')) (allOf F ρ.length) = mask H (allOf F ρ.length) := mask_upd_in ha
  refine ⟨⟨by simp [E.len], E.nd, E.dj, by rw [List.length_set]; exact E.fresh, fun b u e => ?_, fun j w hw => ?_, fun j hj => ?_⟩, by rw [List.length_set]; exact hm⟩
  · rw [upd_ne (fun z => by subst z; rw [E.fresh _ ha] at e; cases e)]
    exact E.same b u e
  · rw [List.length_set, hm]
    rw [List.getElem?_set] at hw
    by_cases e : i = j
    · subst e
      rw [if_pos rfl, if_pos hi'] at hw
      obtain rfl := Option.some.inj (Option.some.inj hw)
      refine ⟨_, h1, ?_⟩
      have rr := repOs_sh (K := K) (H := upd H a (.lst vs')) rs
      have := RepO.ls (K := K) (S := mask H (allOf F ρ.length)) (upd_same (H := H) (a := a) (o := .lst vs')) rr.1 rr.2.1 rr.2.2
      rw [flat_nil] at this
      refine ⟨oL_data ds', ?_⟩
      rw [hFi]
      exact this
    · rw [if_neg e] at hw
      obtain ⟨v, e1, r⟩ := E.get j w hw
      refine ⟨v, e1, r.keep (fun b hb u z => ?_) (Same.refl _)⟩
      rw [upd_ne (fun y => by subst y; exact e (E.dj i j _ (by rw [hFi]; simp) hb))]
      exact z
  · refine E.off j fun w z => ?_
    by_cases e : i = j
    · subst e
      exact hj (.ow (oL ds') (.lst ds')) (by rw [List.getElem?_set, if_pos rfl, if_pos hi'])
    · exact hj w (by rw [List.getElem?_set_ne e]; exact z)
theorem EnvA.pushS (E : EnvA K H0 σ H ρ F) (r : Rep K (mask H (allOf F ρ.length)) v d) : EnvA K H0 (σ ++ [some v]) H (ρ ++ [some (.sh d)]) (fun j => if j = ρ.length then [] else F j) :=
  E.push (B := []) (fun _ _ _ e => e) (by rw [List.append_nil]; exact Same.refl _) (by simp) (by simp) ⟨by rw [List.append_nil]; exact r, rfl⟩
end
end VL
set_option Elab.async false
set_option linter.all false
set_option maxRecDepth 100000
set_option maxHeartbeats 1000000
/-! value layer, part 6: statements -/
namespace VL
open PySem L2

section
variable {X : Cx} {ρ ρ' : RhoW} {e e1 e2 c : Expr} {d : D} {o : O} {pos p : Pos} {Ψ : W → RhoW → Prop}
/-- under owned slots: the value comes as one more slot -/
structure EvW (X : Cx) (ρ : RhoW) (e : Expr) (Ψ : W → RhoW → Prop) : Prop where
  run : ∀ (H0 : Hp) (σ : L2.St) (H : Hp), EnvW X.K H0 σ H ρ → ∀ Q : VK, (∀ v H' w ρ', Ψ w ρ' → ρ'.length = ρ.length → EnvW X.K H0 (σ ++ [some v]) H' (ρ' ++ [some w]) → Q v H') → WE X e σ H Q
theorem EvW.sh (h : Ev X (hide ρ) e d) (k : Ψ (.sh d) ρ) : EvW X ρ e Ψ := ⟨fun H0 σ H ⟨F, E⟩ Q q => by
  refine (WE.frame E.cells (h.run σ (mask H (allOf F ρ.length)) E.envH (fun v M => Same (mask H (allOf F ρ.length)) M ∧ Rep X.K M v d) fun v M s r => ⟨s, r⟩)).mono ?_
  rintro v H' ⟨M, ⟨s, r⟩, rfl, n, up⟩
  refine q v _ (.sh d) ρ k rfl ⟨_, E.push (B := []) (fun a ha u e => by rw [join_in ha]; exact e) ?_ (by simp) (by simp) ⟨?_, rfl⟩⟩
  · rw [List.append_nil, mask_join, mask_of_none n]; exact s
  · rw [List.append_nil, mask_join, mask_of_none n]; exact r⟩
theorem EnvA.pushO {K : PySem.W.Frag} {H0 H M : Hp} {σ : L2.St} {F : Nat → List Addr} {v : V} {A : List Addr} (E : EnvA K H0 σ H ρ F) (s : Same (mask H (allOf F ρ.length)) M) (n : ∀ a ∈ allOf F ρ.length, M a = none) (f : ∀ a ∈ A, mask H (allOf F ρ.length) a = none) (nd : A.Nodup)
    (r : RepO K M (mask M A) v o A) (hd : o.data = d) : EnvW K H0 (σ ++ [some v]) (join M H (allOf F ρ.length)) (ρ ++ [some (.ow o d)]) := by
  have nA : ∀ a ∈ A, a ∉ allOf F ρ.length := fun a ha z => by
    exact r.cells.some ha (n a z)
  have hm : ∀ b u, M b = some u → b ∉ A → mask (join M H (allOf F ρ.length)) (allOf F ρ.length ++ A) b = some u := fun b u e hb => by
    have hb2 : b ∉ allOf F ρ.length := fun z => by rw [n b z] at e; cases e
    rw [mask_out (fun z => (List.mem_append.mp z).elim hb2 hb), join_out hb2]
    exact e
  refine ⟨_, E.push (B := A) (fun a ha u e => by rw [join_in ha]; exact e) (fun b u e => ?_) (fun a ha => ?_) nd ?_⟩
  · have hbA : b ∉ A := fun z => by rw [f b z] at e; cases e
    exact hm b u (s b u e) hbA
  · have := f a ha
    rw [mask_out (nA a ha)] at this
    exact this
  · exact ⟨hd, RepO.keep r (fun a ha u e => by rw [join_out (nA a ha)]; exact e) fun b u e => let ⟨e1, e2⟩ := mask_some e; hm b u e1 e2⟩
theorem EvW.evN {post : O → Prop} (f' : O → D) (h : EvN X (hide ρ) e post) (hd : ∀ o, post o → o.data = f' o) (k : ∀ o, post o → Ψ (.ow o (f' o)) ρ) : EvW X ρ e Ψ := ⟨fun H0 σ H ⟨F, E⟩ Q q => by
  refine (WE.frame E.cells (h.run σ (mask H (allOf F ρ.length)) E.envH (fun v M => ∃ o A, post o ∧ Same (mask H (allOf F ρ.length)) M ∧ (∀ a ∈ A, mask H (allOf F ρ.length) a = none) ∧ A.Nodup ∧ RepO X.K M (mask M A) v o A) fun o v M A po s f n r => ⟨o, A, po, s, f, n, r⟩)).mono ?_
  rintro v H' ⟨M, ⟨o, A, po, s, f, nd, r⟩, rfl, n, up⟩
  exact q v _ (.ow o (f' o)) ρ (k o po) rfl (E.pushO s n f nd r (hd o po))⟩
theorem EvW.own (h : EvO X (hide ρ) e o) (hd : o.data = d) (k : Ψ (.ow o d) ρ) : EvW X ρ e Ψ := .evN (fun _ => d) (h.evN (post := fun o' => o' = o) rfl) (fun o' e => e ▸ hd) fun o' e => e ▸ k
theorem EvW.bor (h : Ev X (VL.bor ρ) e d) (f : d.free = true) (k : Ψ (.sh d) ρ) : EvW X ρ e Ψ := ⟨fun H0 σ H ⟨F, E⟩ Q q => by
  refine h.run σ H E.envB _ fun v H' s r => q v H' (.sh d) ρ k rfl ⟨_, E.push (B := []) (fun a ha u e => s a u e) ?_ (by simp) (by simp) ⟨?_, rfl⟩⟩
  · rw [List.append_nil]
    intro b u e
    obtain ⟨e1, e2⟩ := mask_some e
    rw [mask_out e2]
    exact s b u e1
  · rw [List.append_nil]
    refine r.maskF f fun a ha xs e => ?_
    exact (E.cells.up fun a _ u e => s a u e).notup ha xs e⟩
theorem EvW.borN {post : O → Prop} (f' : O → D) (h : EvN X (VL.bor ρ) e post) (hf : ∀ o, post o → o.free = true) (hd : ∀ o, post o → o.data = f' o) (k : ∀ o, post o → Ψ (.ow o (f' o)) ρ) : EvW X ρ e Ψ := ⟨fun H0 σ H ⟨F, E⟩ Q q => by
  refine h.run σ H E.envB _ fun o v H' A po s f nd r => ?_
  have nA : ∀ a ∈ A, a ∉ allOf F ρ.length := fun a ha z => by
    exact E.cells.some z (f a ha)
  refine q v H' (.ow o (f' o)) ρ (k o po) rfl ⟨_, E.push (B := A) (fun a ha u e => s a u e) (fun b u e => ?_) f nd ?_⟩
  · obtain ⟨e1, e2⟩ := mask_some e
    have hbA : b ∉ A := fun z => by rw [f b z] at e1; cases e1
    rw [mask_out (fun z => (List.mem_append.mp z).elim e2 hbA)]
    exact s b u e1
  · exact ⟨hd o po, RepO.maskF r (hf o po) ((E.cells.up fun a _ u e => s a u e).app r.cells) fun a ha => List.mem_append_right _ ha⟩⟩
theorem EvW.borO (h : EvO X (VL.bor ρ) e o) (hf : o.free = true) (hd : o.data = d) (k : Ψ (.ow o d) ρ) : EvW X ρ e Ψ := .borN (fun _ => d) (h.evN (post := fun o' => o' = o) rfl) (fun o' e => e ▸ hf) (fun o' e => e ▸ hd) fun o' e => e ▸ k
/-- an owned slot is handed over -/
theorem EvW.move {x : Str} (i : Nat) {o : O} (hN : X.N[i]? = some x := by rfl) (hρ : ρ[i]? = some (some (.ow o d)) := by rfl) (k : Ψ (.ow o d) (ρ.set i none)) (hv : Vis X.env.scope x := by first | exact Or.inl rfl | exact Or.inr (Or.inl rfl) | exact Or.inr (Or.inr rfl))
    (hd : (x == ("__debug__" : Str)) = false := by decide) (hcd : (x == ("__classdict__" : Str)) = false := by decide) : EvW X ρ (.Name x pos) Ψ :=
  ⟨fun H0 σ H E Q q => by
    obtain ⟨F, E'⟩ := id E
    obtain ⟨v, hv', r⟩ := E'.get i _ hρ
    exact we_of (pe_var hN hv hd hcd) ⟨v, hv', q v H (.ow o d) (ρ.set i none) k (by simp) (E.moved hρ hv')⟩⟩
theorem EnvW.pair {K : PySem.W.Frag} {H0 H : Hp} {σ : L2.St} {v1 v2 : V} {w1 w2 : W} {q : Addr} {d1 d2 : D} (E : EnvW K H0 (σ ++ [some v1] ++ [some v2]) H (ρ ++ [some w1] ++ [some w2])) (hq : H q = none) (h1 : w1.toO.data = d1) (h2 : w2.toO.data = d2) :
    EnvW K H0 (σ ++ [some (.ref q)]) (upd H q (.tup [v1, v2])) (ρ ++ [some (.ow (.tu [w1.toO, w2.toO]) (.tup [d1, d2]))]) := by
  obtain ⟨F, E⟩ := E
  have hl : σ.length = ρ.length := by have := E.len; simpa using this
  let G : Nat → List Addr := fun k => if k = ρ.length then F ρ.length ++ F (ρ.length + 1) else if k = ρ.length + 1 then [] else F k
  have hall : ∀ a, a ∈ allOf G (ρ ++ [some (W.ow (.tu [w1.toO, w2.toO]) (.tup [d1, d2]))]).length ↔ a ∈ allOf F (ρ ++ [some w1] ++ [some w2]).length := fun a => by
    rw [mem_allOf, mem_allOf]
    constructor
    · rintro ⟨i, hi, h⟩
      dsimp only [G] at h
      simp at hi
      split at h
      · rcases List.mem_append.mp h with h | h
        · exact ⟨ρ.length, by simp, h⟩
        · exact ⟨ρ.length + 1, by simp, h⟩
      · rw [if_neg (by omega)] at h
        exact ⟨i, by simp; omega, h⟩
    · rintro ⟨i, hi, h⟩
      simp at hi
      by_cases e1 : i = ρ.length
      · subst e1
        exact ⟨ρ.length, by simp, by dsimp only [G]; rw [if_pos rfl]; exact List.mem_append_left _ h⟩
      · by_cases e2 : i = ρ.length + 1
        · subst e2
          exact ⟨ρ.length, by simp, by dsimp only [G]; rw [if_pos rfl]; exact List.mem_append_right _ h⟩
        · exact ⟨i, by simp; omega, by dsimp only [G]; rw [if_neg e1, if_neg e2]; exact h⟩
  have hmask : ∀ J : Hp, mask J (allOf G (ρ ++ [some (W.ow (.tu [w1.toO, w2.toO]) (.tup [d1, d2]))]).length) = mask J (allOf F (ρ ++ [some w1] ++ [some w2]).length) := fun J => by
    funext b
    unfold mask
    by_cases hb : b ∈ allOf F (ρ ++ [some w1] ++ [some w2]).length
    · rw [if_pos hb, if_pos ((hall b).mpr hb)]
    · rw [if_neg hb, if_neg (fun z => hb ((hall b).mp z))]
  have hqa : q ∉ allOf F (ρ ++ [some w1] ++ [some w2]).length := fun z => by
    exact E.cells.some z hq
  have sn : Same H (upd H q (.tup [v1, v2])) := Same.new hq
  have sm : Same (mask H (allOf F (ρ ++ [some w1] ++ [some w2]).length)) (mask (upd H q (.tup [v1, v2])) (allOf F (ρ ++ [some w1] ++ [some w2]).length)) := fun b u e => by
    obtain ⟨e1, e2⟩ := mask_some e
    rw [mask_out e2]
    exact sn b u e1
  obtain ⟨u1, g1, r1⟩ := E.get ρ.length w1 (by simp)
  obtain ⟨u2, g2, r2⟩ := E.get (ρ.length + 1) w2 (by simp)
  have eu1 : u1 = v1 := by rw [← hl] at g1; simp at g1; exact g1.symm
  have eu2 : u2 = v2 := by rw [← hl] at g2; simp at g2; exact g2.symm
  subst eu1 eu2
  refine ⟨G, by simp [hl], fun k => ?_, fun j k a h1 h2 => ?_, fun a ha => E.fresh a ((hall a).mp ha), E.same.trans sn, fun i w h => ?_, fun i h => ?_⟩
  · dsimp only [G]
    split
    · refine List.nodup_append.mpr ⟨E.nd _, E.nd _, fun a ha b hb e => ?_⟩
      subst e
      have := E.dj _ _ _ ha hb
      omega
    · split
      · exact List.nodup_nil
      · exact E.nd k
  · dsimp only [G] at h1 h2
    split at h1
    · split at h2
      · omega
      · split at h2
        · cases h2
        · rcases List.mem_append.mp h1 with z | z
          · have := E.dj _ _ _ z h2; omega
          · have := E.dj _ _ _ z h2; omega
    · split at h1
      · cases h1
      · split at h2
        · rcases List.mem_append.mp h2 with z | z
          · have := E.dj _ _ _ h1 z; omega
          · have := E.dj _ _ _ h1 z; omega
        · split at h2
          · cases h2
          · exact E.dj _ _ _ h1 h2
  · rw [hmask]
    by_cases hi : i < ρ.length
    · rw [List.getElem?_append_left hi] at h
      obtain ⟨v', e, r'⟩ := E.get i w (by rw [List.append_assoc, List.getElem?_append_left hi]; exact h)
      rw [List.append_assoc, List.getElem?_append_left (by omega)] at e
      refine ⟨v', by rw [List.getElem?_append_left (by omega)]; exact e, ?_⟩
      dsimp only [G]
      rw [if_neg (by omega), if_neg (by omega)]
      exact r'.keep (fun a _ u e => sn a u e) sm
    · have hi2 := (List.getElem?_eq_some_iff.mp h).1
      simp at hi2
      have e : i = ρ.length := by omega
      subst e
      rw [List.getElem?_append_right (Nat.le_refl _)] at h
      simp at h
      subst h
      refine ⟨.ref q, by rw [← hl]; simp, by rw [O.data, dataAll, dataAll, dataAll, h1, h2], ?_⟩
      dsimp only [G]
      rw [if_pos rfl]
      have t := RepO.tu (K := K) (H := upd H q (.tup [u1, u2])) (S := mask (upd H q (.tup [u1, u2])) (allOf F (ρ ++ [some w1] ++ [some w2]).length)) (a := q) (vs := [u1, u2]) (os := [w1.toO, w2.toO]) (As := [F ρ.length, F (ρ.length + 1)]) (by rw [mask_out hqa]; exact upd_same) rfl rfl
        (((RepOs.nil.cons ((r2.keep (fun a _ u e => sn a u e) sm).toO)).cons ((r1.keep (fun a _ u e => sn a u e) sm).toO)).2.2)
      simpa using t
  · dsimp only [G]
    split
    · rename_i e
      subst e
      exact absurd (by simp) (h (.ow (.tu [w1.toO, w2.toO]) (.tup [d1, d2])))
    · split
      · rfl
      · refine E.off i fun x e => ?_
        have hi2 := (List.getElem?_eq_some_iff.mp e).1
        simp at hi2
        refine h x ?_
        rw [List.append_assoc, List.getElem?_append_left (by omega)] at e
        rw [List.getElem?_append_left (by omega)]
        exact e
/-- (x, y), two owned slots handed over -/
theorem EvW.tup2 {x y : Str} (i j : Nat) {o1 o2 : O} {d1 d2 : D} {k1 : Nat} {p1 p2 : Pos} (hij : i ≠ j) (k : Ψ (.ow (.tu [o1, o2]) (.tup [d1, d2])) ((ρ.set i none).set j none)) (hd1 : o1.data = d1) (hd2 : o2.data = d2)
    (hρi : ρ[i]? = some (some (.ow o1 d1)) := by rfl) (hρj : ρ[j]? = some (some (.ow o2 d2)) := by rfl)
    (hpe : PE X (.Tuple [.Name x p1, .Name y p2] k1 pos) (tTup (tCons (tVar i) (tCons (tVar j) tNil))) := by exact pe_tup (pa_cons (pv _) (pa_cons (pv _) pa_nil))) : EvW X ρ (.Tuple [.Name x p1, .Name y p2] k1 pos) Ψ :=
  ⟨fun H0 σ H E Q q => we_of hpe (by
    obtain ⟨F, E'⟩ := id E
    obtain ⟨v1, h1, _⟩ := E'.get i _ hρi
    obtain ⟨v2, h2, _⟩ := E'.get j _ hρj
    refine ⟨v1, h1, v2, h2, by show 2 ≤ sizeLine; decide, fun t ht => ?_⟩
    have hj : j < ρ.length := (List.getElem?_eq_some_iff.mp hρj).1
    have E1 := E.moved hρi h1
    have E2 := E1.moved (i := j) (w := .ow o2 d2) (v := v2) (by rw [List.getElem?_append_left (by simpa using hj), List.getElem?_set_ne hij]; exact hρj) (by rw [List.getElem?_append_left (by rw [E.len]; exact hj)]; exact h2)
    rw [List.set_append_left _ _ (by simpa using hj)] at E2
    exact q (.ref t) _ (.ow (.tu [o1, o2]) (.tup [d1, d2])) _ k (by simp) (E2.pair ht hd1 hd2))⟩
theorem EvW.mono {Ψ' : W → RhoW → Prop} (h : EvW X ρ e Ψ) (m : ∀ w ρ', Ψ w ρ' → Ψ' w ρ') : EvW X ρ e Ψ' := ⟨fun H0 σ H E Q q => h.run H0 σ H E Q fun v H' w ρ' p => q v H' w ρ' (m w ρ' p)⟩

/-! ### statements over the heap -/
def WS (X : Cx) (st : Stmt) (σ : L2.St) (H : Hp) (D : Ends) : Prop :=
  ∀ (pins : List (Addr × Obj)) (s : Shared), Inv X pins σ H s → wpAny (model X.prog X.w) X.A (exec st X.env) (SP X pins D) X.xe s
def WSs (X : Cx) (st : List Stmt) (σ : L2.St) (H : Hp) (D : Ends) : Prop :=
  ∀ (pins : List (Addr × Obj)) (s : Shared), Inv X pins σ H s → wpAny (model X.prog X.w) X.A (execs st X.env) (SP X pins D) X.xe s
variable {st : Stmt} {rest body orelse : List Stmt}
theorem ps_ws : PS X st (fun D σ H => WS X st σ H D) := ⟨fun pins s σ H D I h => h pins s I⟩
theorem pss_wss {sts : List Stmt} : PSs X sts (fun D σ H => WSs X sts σ H D) := ⟨fun pins s σ H D I h => h pins s I⟩
theorem ws_of {t : TS} {σ : L2.St} {H : Hp} {D : Ends} (h : PS X st t) (q : t D σ H) : WS X st σ H D := fun pins s I => h.run pins s σ H D I q
theorem wss_of {sts : List Stmt} {t : TS} {σ : L2.St} {H : Hp} {D : Ends} (h : PSs X sts t) (q : t D σ H) : WSs X sts σ H D := fun pins s I => h.run pins s σ H D I q
theorem WSs.cons {σ : L2.St} {H : Hp} {D : Ends} (h : WS X st σ H { D with nx := fun σ' H' => WSs X rest σ' H' D }) : WSs X (st :: rest) σ H D := wss_of (pss_cons ps_ws pss_wss) h
/-- a statement that only goes on, with lists put aside -/
theorem WS.frame {σ : L2.St} {H : Hp} {as : List Addr} {N : L2.St → Hp → Prop} {D : Ends} (hl : Hid H as) (h : WS X st σ (mask H as) { nx := N, rt := fun _ _ => False })
    (k : ∀ σ' M, N σ' M → (∀ a ∈ as, M a = none) → Same M (join M H as) → D.nx σ' (join M H as)) : WS X st σ H D := fun pins s I => by
  obtain ⟨own, h1, h2, J⟩ := Inv.hide I hl
  refine thn (h _ s J) fun f s' q => ?_
  cases f with
  | next =>
    obtain ⟨σ', M, J', n⟩ := q
    obtain ⟨I', hn, up⟩ := Inv.show' I hl h1 J'
    exact ⟨σ', _, I', k σ' M n hn up⟩
  | brk => obtain ⟨_, _, _, q⟩ := q; exact q.elim
  | cont => obtain ⟨_, _, _, q⟩ := q; exact q.elim
  | ret u => obtain ⟨_, _, _, _, _, q⟩ := q; exact q.elim

/-! ### what a block is to reach -/
structure Post where
  nx : RhoW → Prop
  rt : O → Prop
  bk : RhoW → Prop := fun _ => False
  ct : RhoW → Prop := fun _ => False
  rs : RhoW → W → Prop := fun _ _ => False
  /-- the classes that may be raised, and what is wished of a raised thing -/
  xs : Value → Prop := fun _ => False
  xw : WX := fun _ _ _ _ => False
structure EndsOk (K : PySem.W.Frag) (H0 : Hp) (n : Nat) (Φ : Post) (D : Ends) : Prop where
  nx : ∀ σ H ρ, Φ.nx ρ → ρ.length = n → EnvW K H0 σ H ρ → D.nx σ H
  bk : ∀ σ H ρ, Φ.bk ρ → ρ.length = n → EnvW K H0 σ H ρ → D.bk σ H
  ct : ∀ σ H ρ, Φ.ct ρ → ρ.length = n → EnvW K H0 σ H ρ → D.ct σ H
  rt : ∀ o v H A, Φ.rt o → Same H0 H → (∀ a ∈ A, H0 a = none) → A.Nodup → RepO K H (mask H A) v o A → D.rt v H
  rs : ∀ σ v w H ρ, Φ.rs ρ w → ρ.length = n → EnvW K H0 (σ ++ [some v]) H (ρ ++ [some w]) → D.rt v H := by intro _ _ _ _ _ h; exact h.elim
  ex : ∀ c σ H, Φ.xs c → σ.length = n → Same H0 H → Φ.xw c none σ H := by intro _ _ _ h; exact h.elim
structure Ws (X : Cx) (ρ : RhoW) (sts : List Stmt) (Φ : Post) : Prop where
  run : ∀ (H0 : Hp) (σ : L2.St) (H : Hp) (D : Ends), EnvW X.K H0 σ H ρ → EndsOk X.K H0 ρ.length Φ D → WSs X sts σ H D
variable {Φ : Post}
theorem Ws.nil (h : Φ.nx ρ) : Ws X ρ [] Φ := ⟨fun H0 σ H D E k => wss_of pss_nil (k.nx σ H ρ h rfl E)⟩
theorem Ws.mono {Φ' : Post} (h : Ws X ρ body Φ) (h1 : ∀ ρ, Φ.nx ρ → Φ'.nx ρ) (h2 : ∀ o, Φ.rt o → Φ'.rt o) (h3 : ∀ ρ, Φ.bk ρ → Φ'.bk ρ) (h4 : ∀ ρ, Φ.ct ρ → Φ'.ct ρ) (h5 : ∀ ρ w, Φ.rs ρ w → Φ'.rs ρ w := by intro _ _ h; exact h) (h6 : ∀ c, Φ.xs c → Φ'.xs c := by intro _ h; exact h) (h7 : Φ'.xw = Φ.xw := by rfl) : Ws X ρ body Φ' :=
  ⟨fun H0 σ H D E k => h.run H0 σ H D E ⟨fun σ H ρ q => k.nx σ H ρ (h1 ρ q), fun σ H ρ q => k.bk σ H ρ (h3 ρ q), fun σ H ρ q => k.ct σ H ρ (h4 ρ q), fun o v H A q => k.rt o v H A (h2 o q), fun σ v w H ρ q => k.rs σ v w H ρ (h5 ρ w q), fun c σ H q l s => h7 ▸ k.ex c σ H (h6 c q) l s⟩⟩
/-- the rest of a block as a wish -/
abbrev Post.then (Φ : Post) (X : Cx) (rest : List Stmt) : Post := { Φ with nx := fun ρ => Ws X ρ rest Φ }
theorem EndsOk.then {K : PySem.W.Frag} {H0 : Hp} {n : Nat} {D : Ends} (hK : X.K = K) (k : EndsOk K H0 n Φ D) : EndsOk K H0 n (Φ.then X rest) { D with nx := fun σ' H' => WSs X rest σ' H' D } :=
  ⟨fun σ H ρ q l E => q.run H0 σ H D (hK ▸ E) (by rw [l, hK]; exact k), k.bk, k.ct, k.rt, k.rs, k.ex⟩
theorem EndsOk.cast {K : PySem.W.Frag} {H0 : Hp} {n m : Nat} {D : Ends} (k : EndsOk K H0 n Φ D) (e : n = m) : EndsOk K H0 m Φ D := e ▸ k

/-- a statement that binds slot i -/
structure Bind (X : Cx) (ρ : RhoW) (st : Stmt) (i : Nat) (Ψ : W → RhoW → Prop) : Prop where
  run : ∀ (H0 : Hp) (σ : L2.St) (H : Hp), EnvW X.K H0 σ H ρ → ∀ D : Ends, (∀ v H' w ρ', Ψ w ρ' → ρ'.length = ρ.length → EnvW X.K H0 (σ ++ [some v]) H' (ρ' ++ [some w]) → D.nx (σ.set i (some v)) H') → WS X st σ H D
theorem Ws.bind {i : Nat} (h : Bind X ρ st i fun w ρ' => Ws X (ρ'.set i (some w)) rest Φ) : Ws X ρ (st :: rest) Φ := ⟨fun H0 σ H D E k =>
  WSs.cons (h.run H0 σ H E _ fun v H' w ρ' q l E' => q.run H0 _ H' D (E'.into i) (k.cast (by simp [l])))⟩
theorem Bind.asg {x : Str} (i : Nat) {pos' : Pos} (hN : X.N.Nodup) (h : EvW X ρ e Ψ) (hi : X.N[i]? = some x := by rfl) (hx : Loc X.env.scope x := by first | exact Or.inl rfl | exact Or.inr rfl)
    (hs : swapsWith e (some (.Name x pos')) pos.line X.env = pure false := by rfl) (hf : X.fn x = true ∨ X.env.scope.names.lookup x = some .local := by first | exact .inl rfl | exact .inr rfl) : Bind X ρ (.Assign [.Name x pos'] e pos) i Ψ :=
  ⟨fun H0 σ H E D k => ws_of (ps_set hN hi hx pe_we hs hf) (h.run H0 σ H E _ fun v H' w ρ' q l E' => k v H' w ρ' q l E')⟩
theorem Ws.asg {x : Str} (i : Nat) {pos' : Pos} (hN : X.N.Nodup) (h : EvW X ρ e fun w ρ' => Ws X (ρ'.set i (some w)) rest Φ) (hi : X.N[i]? = some x := by rfl) (hx : Loc X.env.scope x := by first | exact Or.inl rfl | exact Or.inr rfl)
    (hs : swapsWith e (some (.Name x pos')) pos.line X.env = pure false := by rfl) (hf : X.fn x = true ∨ X.env.scope.names.lookup x = some .local := by first | exact .inl rfl | exact .inr rfl) : Ws X ρ (.Assign [.Name x pos'] e pos :: rest) Φ :=
  .bind (i := i) (.asg i hN h hi hx hs hf)
theorem Ws.if {b : Bool} (h : EvT X (bor ρ) c b) (h1 : b = true → Ws X ρ body (Φ.then X rest)) (h2 : b = false → Ws X ρ orelse (Φ.then X rest)) : Ws X ρ (.If c body orelse pos :: rest) Φ := ⟨fun H0 σ H D E k =>
  WSs.cons (ws_of (ps_if pt_wt pss_wss pss_wss) (by
    obtain ⟨F, E'⟩ := id E
    refine h.run σ H E'.envB _ fun H' s => ?_
    cases b with
    | true => exact iteT ((h1 rfl).run H0 σ H' _ (E.grow s) (k.then rfl))
    | false => exact iteF ((h2 rfl).run H0 σ H' _ (E.grow s) (k.then rfl))))⟩
theorem rt_of {K : PySem.W.Frag} {H0 H : Hp} {σ : L2.St} {v : V} {w : W} {R : VK} (k : ∀ o v H A, Φ.rt o → Same H0 H → (∀ a ∈ A, H0 a = none) → A.Nodup → RepO K H (mask H A) v o A → R v H) (h : Φ.rt w.toO) (E : EnvW K H0 (σ ++ [some v]) H (ρ ++ [some w])) : R v H := by
  obtain ⟨F, E⟩ := E
  have hl : σ.length = ρ.length := by have := E.len; simpa using this
  obtain ⟨v', e, r⟩ := E.get ρ.length w (by simp)
  have ev : v' = v := by rw [← hl] at e; simp at e; exact e.symm
  subst ev
  exact k _ _ _ _ h E.same (fun a ha => E.fresh a (E.mem ha)) (E.nd _) (r.toO.keep (fun _ _ _ z => z) (mask_sub fun a ha => E.mem ha))
theorem Ws.ret (h : EvW X ρ e fun w _ => Φ.rt w.toO) : Ws X ρ (.Return (some e) pos :: rest) Φ := ⟨fun H0 σ H D E k =>
  WSs.cons (ws_of (ps_ret pe_we) (h.run H0 σ H E _ fun v H' w ρ' q l E' => rt_of k.rt q E'))⟩
/-- .. and what stands in the slots is told -/
theorem Ws.retS (h : EvW X ρ e fun w ρ' => Φ.rs ρ' w) : Ws X ρ (.Return (some e) pos :: rest) Φ := ⟨fun H0 σ H D E k =>
  WSs.cons (ws_of (ps_ret pe_we) (h.run H0 σ H E _ fun v H' w ρ' q l E' => k.rs σ v w H' ρ' q l E'))⟩
theorem Ws.retN (h : Φ.rt (.sh .non)) : Ws X ρ (.Return none pos :: rest) Φ := ⟨fun H0 σ H D E k =>
  WSs.cons (ws_of ps_retN (by
    obtain ⟨F, E⟩ := E
    exact k.rt _ _ _ [] h E.same (by simp) (by simp) (.sh .non)))⟩
theorem Ws.expr (h : EvW X ρ e fun _ ρ' => Ws X ρ' rest Φ) (hs : swapsWith e none pos.line X.env = pure false := by rfl) : Ws X ρ (.Expr e pos :: rest) Φ := ⟨fun H0 σ H D E k =>
  WSs.cons (ws_of (ps_expr pe_we hs) (h.run H0 σ H E _ fun v H' w ρ' q l E' => q.run H0 σ H' D E'.pop (k.cast l.symm)))⟩
theorem Ws.pass (h : Ws X ρ rest Φ) : Ws X ρ (.Pass pos :: rest) Φ := ⟨fun H0 σ H D E k => WSs.cons (ws_of ps_pass (h.run H0 σ H D E k))⟩
theorem Ws.break (h : Φ.bk ρ) : Ws X ρ (.Break pos :: rest) Φ := ⟨fun H0 σ H D E k => WSs.cons (ws_of ps_break (k.bk σ H ρ h rfl E))⟩
theorem Ws.continue (h : Φ.ct ρ) : Ws X ρ (.Continue pos :: rest) Φ := ⟨fun H0 σ H D E k => WSs.cons (ws_of ps_continue (k.ct σ H ρ h rfl E))⟩
/-- shared from now on -/
theorem Ws.share {i : Nat} (hi : ρ[i]? = some (some (.ow o d))) (h : Ws X (ρ.set i (some (.sh d))) body Φ) : Ws X ρ body Φ := ⟨fun H0 σ H D E k => h.run H0 σ H D (E.share hi) (k.cast (by simp))⟩

/-- y = [elt for ..] -/
theorem Ws.asgCF {α : Type} {y : Str} {py spos : Pos} {elt tg iter : Expr} {ifs : List Expr} {scope : Scope} {own : List (Str × Nat)} (i : Nat) (L : List α) (h : α → D) (f : α → Bool) (g : α → O) (is : List Nat) (bs : α → List D) (d : D)
    (hc : X.calm = true) (hN : X.N.Nodup) (hi : EvI X (hide ρ) tg iter (L.map h)) (ok : BlkOk X.N X.env.scope scope own) (his : ∀ i ∈ is, i ∈ own.map (·.2))
    (hg : ∀ x ∈ L, ∀ (s : Shared) (H : Hp) (C : Addr) (cl : List (Str × Addr)) (fp : List Addr), EvG (X.blk s H scope (compEnvC scope cl C X.env) fp) tg (h x) is (bs x))
    (ht : ∀ x ∈ L, ∀ (s : Shared) (H : Hp) (C : Addr) (cl : List (Str × Addr)) (fp : List Addr), EvTs (X.blk s H scope (compEnvC scope cl C X.env) fp) (setD (wipeD (hide ρ) (own.map (·.2))) is (bs x)) ifs (f x))
    (he : ∀ x ∈ L, f x = true → ∀ (s : Shared) (H : Hp) (C : Addr) (cl : List (Str × Addr)) (fp : List Addr), EvO (X.blk s H scope (compEnvC scope cl C X.env) fp) (setD (wipeD (hide ρ) (own.map (·.2))) is (bs x)) elt (g x))
    (hl : L.length < sizeLine) (hd : (O.ls ((L.filter f).map g)).data = d) (k : Ws X (ρ.set i (some (.ow (.ls ((L.filter f).map g)) d))) rest Φ)
    (hy : X.N[i]? = some y := by rfl) (hyl : X.env.scope.names.lookup y = some .local := by rfl) (hsw : swapsWith (.ListComp elt [⟨tg, iter, ifs, 0⟩] scope pos) (some (.Name y py)) spos.line X.env = pure true := by exact sw_true rfl rfl rfl (by decide +kernel))
    (hs : ∀ x, foldedSetIterable iter X.env x = pure x := by intro _; rfl) : Ws X ρ (.Assign [.Name y py] (.ListComp elt [⟨tg, iter, ifs, 0⟩] scope pos) spos :: rest) Φ := ⟨fun H0 σ H D ⟨F, E⟩ kk =>
  WSs.cons (WS.frame E.cells (N := fun σ' M => ∃ v A, σ' = σ.set i (some v) ∧ Same (mask H (allOf F ρ.length)) M ∧ (∀ a ∈ A, mask H (allOf F ρ.length) a = none) ∧ A.Nodup ∧ RepO X.K M (mask M A) v (.ls ((L.filter f).map g)) A)
    (ws_of (ps_setLc (g := blkG X scope tg) (tt := blkT X scope ifs) (te := blkE X scope elt) hc hN hy hyl hsw pi_wi ok (fun s H0 C cl fp => ⟨fun pins s' σ' H' v u Q' I r w => w s H0 C cl fp pins s' u I r⟩) (fun s H0 C cl fp => ⟨fun pins s' σ' H' Q' I w => w s H0 C cl fp pins s' I⟩) (fun s H0 C cl fp => ⟨fun pins s' σ' H' Q' I w => w s H0 C cl fp pins s' I⟩) hs)
      (compF_read L h f g is bs hi his hg ht he hl σ (mask H (allOf F ρ.length)) E.envH _ fun v M A s fr nd r => ⟨v, A, rfl, s, fr, nd, r⟩))
    (by
      rintro σ' M ⟨v, A, rfl, s, fr, nd, r⟩ n up
      exact k.run H0 _ _ D ((E.pushO s n fr nd r hd).into i) (kk.cast (by simp))))⟩
theorem Ws.asgC {α : Type} {y : Str} {py spos : Pos} {elt tg iter : Expr} {scope : Scope} {own : List (Str × Nat)} (i : Nat) (L : List α) (h : α → D) (g : α → O) (is : List Nat) (bs : α → List D) (d : D)
    (hc : X.calm = true) (hN : X.N.Nodup) (hi : EvI X (hide ρ) tg iter (L.map h)) (ok : BlkOk X.N X.env.scope scope own) (his : ∀ i ∈ is, i ∈ own.map (·.2))
    (hg : ∀ x ∈ L, ∀ (s : Shared) (H : Hp) (C : Addr) (cl : List (Str × Addr)) (fp : List Addr), EvG (X.blk s H scope (compEnvC scope cl C X.env) fp) tg (h x) is (bs x))
    (he : ∀ x ∈ L, ∀ (s : Shared) (H : Hp) (C : Addr) (cl : List (Str × Addr)) (fp : List Addr), EvO (X.blk s H scope (compEnvC scope cl C X.env) fp) (setD (wipeD (hide ρ) (own.map (·.2))) is (bs x)) elt (g x))
    (hl : L.length < sizeLine) (hd : (O.ls (L.map g)).data = d) (k : Ws X (ρ.set i (some (.ow (.ls (L.map g)) d))) rest Φ)
    (hy : X.N[i]? = some y := by rfl) (hyl : X.env.scope.names.lookup y = some .local := by rfl) (hsw : swapsWith (.ListComp elt [⟨tg, iter, [], 0⟩] scope pos) (some (.Name y py)) spos.line X.env = pure true := by exact sw_true rfl rfl rfl (by decide +kernel))
    (hs : ∀ x, foldedSetIterable iter X.env x = pure x := by intro _; rfl) : Ws X ρ (.Assign [.Name y py] (.ListComp elt [⟨tg, iter, [], 0⟩] scope pos) spos :: rest) Φ := by
  have e : (L.filter fun _ => true) = L := List.filter_eq_self.mpr fun _ _ => rfl
  exact Ws.asgCF i L h (fun _ => true) g is bs d hc hN hi ok his hg (fun _ _ _ _ _ _ _ => .nil) (fun x hx _ => he x hx) hl (by rw [e]; exact hd) (by rw [e]; exact k) hy hyl hsw hs
theorem EnvW.unpair {K : PySem.W.Frag} {H0 H : Hp} {σ : L2.St} {v : V} {o1 o2 : O} (E : EnvW K H0 (σ ++ [some v]) H (ρ ++ [some (.ow (.tu [o1, o2]) d)])) :
    ∃ q v1 v2, v = .ref q ∧ H q = some (.tup [v1, v2]) ∧ EnvW K H0 (σ ++ [some v1] ++ [some v2]) H (ρ ++ [some (.ow o1 o1.data)] ++ [some (.ow o2 o2.data)]) := by
  obtain ⟨F, E⟩ := E
  have hl : σ.length = ρ.length := by have := E.len; simpa using this
  obtain ⟨u, g, r⟩ := E.get ρ.length (.ow (.tu [o1, o2]) d) (by simp)
  have eu : u = v := by rw [← hl] at g; simp at g; exact g.symm
  subst eu
  have r' : RepO K H (mask H (allOf F (ρ ++ [some (W.ow (.tu [o1, o2]) d)]).length)) u (.tu [o1, o2]) (F ρ.length) := r.2
  generalize hS : mask H (allOf F (ρ ++ [some (W.ow (.tu [o1, o2]) d)]).length) = S at r'
  generalize hFn : F ρ.length = Fn at r'
  cases r' with
  | @tu q vs _ As q1 q2 q3 q4 =>
    obtain ⟨v1, v2, rfl⟩ : ∃ v1 v2, vs = [v1, v2] := by
      match vs, q2 with
      | [v1, v2], _ => exact ⟨v1, v2, rfl⟩
    obtain ⟨A1, A2, rfl⟩ : ∃ A1 A2, As = [A1, A2] := by
      match As, q3 with
      | [A1, A2], _ => exact ⟨A1, A2, rfl⟩
    have r1 := q4 0 v1 o1 A1 rfl rfl rfl
    have r2 := q4 1 v2 o2 A2 rfl rfl rfl
    simp at hFn
    have hq : H q = some (.tup [v1, v2]) := by rw [← hS] at q1; exact (mask_some q1).1
    let G : Nat → List Addr := fun k => if k = ρ.length then A1 else if k = ρ.length + 1 then A2 else F k
    have offn : F (ρ.length + 1) = [] := E.off _ fun w e => by rw [List.getElem?_eq_none (by simp)] at e; cases e
    have hall : ∀ a, a ∈ allOf G (ρ ++ [some (W.ow o1 o1.data)] ++ [some (W.ow o2 o2.data)]).length ↔ a ∈ allOf F (ρ ++ [some (W.ow (.tu [o1, o2]) d)]).length := fun a => by
      rw [mem_allOf, mem_allOf]
      constructor
      · rintro ⟨i, hi, h⟩
        dsimp only [G] at h
        simp at hi
        split at h
        · exact ⟨ρ.length, by simp, by rw [hFn]; exact List.mem_append_left _ h⟩
        · split at h
          · exact ⟨ρ.length, by simp, by rw [hFn]; exact List.mem_append_right _ h⟩
          · exact ⟨i, by simp; omega, h⟩
      · rintro ⟨i, hi, h⟩
        simp at hi
        by_cases e1 : i = ρ.length
        · subst e1
          rw [hFn] at h
          rcases List.mem_append.mp h with h | h
          · exact ⟨ρ.length, by simp, by dsimp only [G]; rw [if_pos rfl]; exact h⟩
          · exact ⟨ρ.length + 1, by simp, by dsimp only [G]; rw [if_neg (by omega), if_pos rfl]; exact h⟩
        · exact ⟨i, by simp; omega, by dsimp only [G]; rw [if_neg e1, if_neg (by omega)]; exact h⟩
    have hmask : mask H (allOf G (ρ ++ [some (W.ow o1 o1.data)] ++ [some (W.ow o2 o2.data)]).length) = S := by
      rw [← hS]
      funext b
      unfold mask
      by_cases hb : b ∈ allOf F (ρ ++ [some (W.ow (.tu [o1, o2]) d)]).length
      · rw [if_pos hb, if_pos ((hall b).mpr hb)]
      · rw [if_neg hb, if_neg (fun z => hb ((hall b).mp z))]
    have nd := E.nd ρ.length
    rw [hFn] at nd
    obtain ⟨nd1, nd2, nd3⟩ := List.nodup_append.mp nd
    have inn : ∀ a, a ∈ A1 ∨ a ∈ A2 → a ∈ F ρ.length := fun a h => by rw [hFn]; exact List.mem_append.mpr h
    refine ⟨q, v1, v2, rfl, hq, G, by simp [hl], fun k => ?_, fun j k a h1 h2 => ?_, fun a ha => E.fresh a ((hall a).mp ha), E.same, fun i w h => ?_, fun i h => ?_⟩
    · dsimp only [G]
      split
      · exact nd1
      · split
        · exact nd2
        · exact E.nd k
    · dsimp only [G] at h1 h2
      split at h1
      · split at h2
        · omega
        · split at h2
          · exact absurd rfl (nd3 a h1 a h2)
          · have := E.dj _ _ _ (inn a (.inl h1)) h2; omega
      · split at h1
        · split at h2
          · exact absurd rfl (nd3 a h2 a h1)
          · split at h2
            · omega
            · have := E.dj _ _ _ (inn a (.inr h1)) h2; omega
        · split at h2
          · have := E.dj _ _ _ (inn a (.inl h2)) h1; omega
          · split at h2
            · have := E.dj _ _ _ (inn a (.inr h2)) h1; omega
            · exact E.dj _ _ _ h1 h2
    · rw [hmask]
      by_cases hi : i < ρ.length
      · rw [List.append_assoc, List.getElem?_append_left hi] at h
        obtain ⟨v', e, r'⟩ := E.get i w (by rw [List.getElem?_append_left hi]; exact h)
        rw [List.getElem?_append_left (by omega)] at e
        refine ⟨v', by rw [List.append_assoc, List.getElem?_append_left (by omega)]; exact e, ?_⟩
        dsimp only [G]
        rw [if_neg (by omega), if_neg (by omega), ← hS]
        exact r'
      · have hi2 := (List.getElem?_eq_some_iff.mp h).1
        simp at hi2
        by_cases e : i = ρ.length
        · subst e
          simp at h
          subst h
          refine ⟨v1, by rw [← hl]; simp, rfl, ?_⟩
          dsimp only [G]
          rw [if_pos rfl]
          exact r1
        · have e2 : i = ρ.length + 1 := by omega
          subst e2
          simp at h
          subst h
          refine ⟨v2, by rw [← hl]; simp, rfl, ?_⟩
          dsimp only [G]
          rw [if_neg (by omega), if_pos rfl]
          exact r2
    · dsimp only [G]
      split
      · rename_i e
        subst e
        exact absurd (by simp) (h (.ow o1 o1.data))
      · split
        · rename_i e
          subst e
          exact absurd (by simp) (h (.ow o2 o2.data))
        · refine E.off i fun x e => ?_
          have hi2 := (List.getElem?_eq_some_iff.mp e).1
          simp at hi2
          refine h x ?_
          rw [List.getElem?_append_left (by omega)] at e
          rw [List.append_assoc, List.getElem?_append_left (by omega)]
          exact e
/-- x, y = e, e two own things -/
theorem Ws.unpack2 {x y : Str} (i j : Nat) {k1 : Nat} {p1 p2 tp : Pos} (hc : X.calm = true) (hN : X.N.Nodup) (h : EvW X ρ e fun w ρ' => ∃ o1 o2 d, w = .ow (.tu [o1, o2]) d ∧ Ws X ((ρ'.set i (some (.ow o1 o1.data))).set j (some (.ow o2 o2.data))) rest Φ) (hij : i ≠ j) (hjd : decide (j < ρ.length) = true := by rfl)
    (hps : ∀ {te}, X.N.Nodup → PE X e te → PS X (.Assign [.Tuple [.Name x p1, .Name y p2] k1 tp] e pos) (tAsg te (gTup X.K 2 (gCons (gName i) (gCons (gName j) gNil)))) := by
      intro te hN ht; exact ps_asg ht (pg_tup rfl (pgs_cons (pg_name hN rfl (by first | exact Or.inl rfl | exact Or.inr rfl)) (pgs_cons (pg_name hN rfl (by first | exact Or.inl rfl | exact Or.inr rfl)) pgs_nil)))) :
    Ws X ρ (.Assign [.Tuple [.Name x p1, .Name y p2] k1 tp] e pos :: rest) Φ := ⟨fun H0 σ H D E kk =>
  WSs.cons (ws_of (hps hN pe_we) (h.run H0 σ H E _ fun v H' w ρ' q l E' => by
    have hj : j < ρ.length := of_decide_eq_true hjd
    obtain ⟨o1, o2, d, rfl, q⟩ := q
    obtain ⟨a, v1, v2, rfl, ha, E2⟩ := E'.unpair
    refine ⟨a, [v1, v2], rfl, SqT.of ha, rfl, v1, [v2], rfl, v2, [], rfl, rfl, ?_⟩
    have E3 := E2.into j
    have hl : σ.length = ρ'.length := by have := E'.len; simpa using this
    rw [List.set_append_left _ _ (by omega), List.set_append_left _ _ (by omega)] at E3
    have E4 := E3.into i
    rw [List.set_comm _ _ hij.symm, List.set_comm _ _ hij.symm] at E4
    exact q.run H0 _ H' D E4 (kk.cast (by simp [l]))))⟩

/-! ### lists changed in place -/
/-- the value is shared data -/
def shD (d : D) (ρ : RhoW) : W → RhoW → Prop := fun w ρ' => w = .sh d ∧ ρ' = ρ
/-- x.append(e) -/
theorem Ws.append {x : Str} (i : Nat) {ds : List D} (ds' : List D) {d1 : D} {q1 q2 : Pos} (h : EvW X ρ e (shD d ρ)) (hL : ds ++ [d] = ds') (k : Ws X (ρ.set i (some (.ow (oL ds') (.lst ds')))) rest Φ) (hN : X.N[i]? = some x := by rfl) (hρ : ρ[i]? = some (some (.ow (oL ds) d1)) := by rfl)
    (hz : ds.length < 100000 := by first | omega | (simp; done) | (simp; omega)) (hpe : ∀ {t}, PE X e t → PE X (.Call (.Attribute (.Name x q1) "append" q2) [e] [] p) (tBM X.K "list" rAppend (tVar i) (tCons t tNil)) := by
      intro t ht; exact pe_bm PySem.F.plainAttrs_list PySem.F.slot_list_append PySem.F.type_list_append mt_append (pv _) (pa_cons ht pa_nil))
    (hs : swapsWith (.Call (.Attribute (.Name x q1) "append" q2) [e] [] p) none pos.line X.env = pure false := by rfl) : Ws X ρ (.Expr (.Call (.Attribute (.Name x q1) "append" q2) [e] [] p) pos :: rest) Φ := ⟨fun H0 σ H D E kk =>
  WSs.cons (ws_of (ps_expr (hpe pe_we) hs) (by
    obtain ⟨F, E1⟩ := id E
    obtain ⟨a, vs, hσ, ha, _, _⟩ := E1.flat hρ
    refine ⟨.ref a, hσ, .inl ⟨rfl, vs, SqL.of ha⟩, h.run H0 σ H E _ fun v H' w ρ' q l E' => ?_⟩
    obtain ⟨rfl, rfl⟩ := q
    have hi := (List.getElem?_eq_some_iff.mp hρ).1
    have hl := E.len
    obtain ⟨F', E2⟩ := E'
    have hρ' : (ρ' ++ [some (W.sh d)])[i]? = some (some (.ow (oL ds) d1)) := by rw [List.getElem?_append_left hi]; exact hρ
    obtain ⟨a', vs', hσ', ha', hF, rs'⟩ := E2.flat hρ'
    have eav : a' = a := by
      rw [List.getElem?_append_left (by omega), hσ] at hσ'
      simpa using hσ'.symm
    subst eav
    obtain ⟨v', hv', rv⟩ := E2.get ρ'.length (.sh d) (by simp)
    have ev : v' = v := by rw [← hl] at hv'; simp at hv'; exact hv'.symm
    subst ev
    refine ⟨a', vs', v', rfl, rfl, ha', by rw [rs'.1]; exact Nat.lt_of_lt_of_le hz (by decide), ?_⟩
    have En := (E2.mutF hρ' hσ' hF (rs'.append (.cons rv.1 .nil))).1
    rw [List.set_append_left _ _ hi, hL] at En
    exact k.run H0 σ _ D (EnvW.pop ⟨_, En⟩) (kk.cast (by simp))))⟩
/-- x.name(e, ..), x an owned flat list: any method -/
theorem EvW.meth {name x : Str} {es : List Expr} {q1 q2 : Pos} {ds args : List D} {dr d1 : D} (i : Nat) (ds' : List D) {r : V → List V → Hp → VK → Prop} (hρ : ρ[i]? = some (some (.ow (oL ds) d1))) (ha : EvA X (VL.bor ρ) es args) (hf : freeAll args = true)
    (hpe : ∀ {t : TA}, PA X es t → PE X (.Call (.Attribute (.Name x q1) name q2) es [] p) (tBM X.K "list" r (tVar i) t))
    (hr : ∀ (K : PySem.W.Frag) (a : Addr) (vs ws : List V) (H M : Hp) (Q : VK), H a = some (.lst vs) → Reps K M vs ds → Reps K M ws args → (∀ v vs', Rep K M v dr → Reps K M vs' ds' → Q v (upd H a (.lst vs'))) → r (.ref a) ws H Q)
    (k : Ψ (.sh dr) (ρ.set i (some (.ow (oL ds') (.lst ds'))))) : EvW X ρ (.Call (.Attribute (.Name x q1) name q2) es [] p) Ψ := ⟨fun H0 σ H E Q q => we_of (hpe pa_wa) (by
  obtain ⟨F, E'⟩ := id E
  obtain ⟨a, vs, hσ, hv, _, _⟩ := E'.flat hρ
  refine ⟨.ref a, hσ, .inl ⟨rfl, vs, SqL.of hv⟩, ha.run σ H E'.envB _ fun ws H1 s1 rw => ?_⟩
  obtain ⟨F1, E1⟩ := E.grow s1
  obtain ⟨a', vs', hσ', hv', hF, rs'⟩ := E1.flat hρ
  have ea : a' = a := by rw [hσ] at hσ'; simpa using hσ'.symm
  subst ea
  have rwM : Reps X.K (mask H1 (allOf F1 ρ.length)) ws args := ⟨rw.1, fun k v d e1 e2 => (rw.2 k v d e1 e2).maskF (freeAll_get hf e2) E1.notup⟩
  refine hr X.K a' vs' ws H1 _ Q hv' rs' rwM fun v vs2 rv r2 => ?_
  obtain ⟨E2, hm⟩ := E1.mutF hρ hσ' hF r2
  exact q v _ (.sh dr) _ k (by simp) ⟨_, E2.pushS (by rw [hm]; exact rv)⟩)⟩
/-- x.name() -/
theorem EvW.meth0 {name x : Str} {q1 q2 : Pos} {ds : List D} {dr d1 : D} (i : Nat) (ds' : List D) {r : V → List V → Hp → VK → Prop} (hρ : ρ[i]? = some (some (.ow (oL ds) d1)))
    (hpe : PE X (.Call (.Attribute (.Name x q1) name q2) [] [] p) (tBM0 X.K "list" r (tVar i)))
    (hr : ∀ (K : PySem.W.Frag) (a : Addr) (vs : List V) (H M : Hp) (Q : VK), H a = some (.lst vs) → Reps K M vs ds → (∀ v vs', Rep K M v dr → Reps K M vs' ds' → Q v (upd H a (.lst vs'))) → r (.ref a) [] H Q)
    (k : Ψ (.sh dr) (ρ.set i (some (.ow (oL ds') (.lst ds'))))) : EvW X ρ (.Call (.Attribute (.Name x q1) name q2) [] [] p) Ψ := ⟨fun H0 σ H E Q q => we_of hpe (by
  obtain ⟨F, E1⟩ := id E
  obtain ⟨a', vs', hσ', hv', hF, rs'⟩ := E1.flat hρ
  refine ⟨.ref a', hσ', .inl ⟨rfl, vs', SqL.of hv'⟩, ?_⟩
  refine hr X.K a' vs' H _ Q hv' rs' fun v vs2 rv r2 => ?_
  obtain ⟨E2, hm⟩ := E1.mutF hρ hσ' hF r2
  exact q v _ (.sh dr) _ k (by simp) ⟨_, E2.pushS (by rw [hm]; exact rv)⟩)⟩
/-- x[i] = e -/
theorem Ws.setItem {x : Str} (i : Nat) {ds : List D} {z : Int} {j : Nat} (ds' : List D) {d1 : D} {q1 q2 : Pos} {ei : Expr} (he : Ev X (VL.bor ρ) e d) (hf : d.free = true) (hz : Ev X (VL.bor ρ) ei (.int z)) (hj : ixN ds.length z = some j) (hL : ds.set j d = ds')
    (k : Ws X (ρ.set i (some (.ow (oL ds') (.lst ds')))) rest Φ) (hN : X.N[i]? = some x := by rfl) (hρ : ρ[i]? = some (some (.ow (oL ds) d1)) := by rfl)
    (hps : ∀ {te ti}, PE X e te → PE X ei ti → PS X (.Assign [.Subscript (.Name x q1) ei q2] e pos) (tAsg te (gSub (tVar i) ti rSetL)) := by intro te ti h1 h2; exact ps_asg h1 (pg_sub (pv _) h2 set_list)) :
    Ws X ρ (.Assign [.Subscript (.Name x q1) ei q2] e pos :: rest) Φ := ⟨fun H0 σ H D E kk =>
  WSs.cons (ws_of (hps pe_we pe_we) (by
    obtain ⟨F, E1⟩ := id E
    refine he.run σ H E1.envB _ fun v H1 s1 rv => ?_
    obtain ⟨F1, E2⟩ := E.grow s1
    obtain ⟨a, vs, hσ, hv, _, _⟩ := E2.flat hρ
    refine ⟨.ref a, hσ, hz.run σ H1 E2.envB _ fun u H2 s2 ru => ?_⟩
    obtain rfl := ru.int_inv
    obtain ⟨F3, E3⟩ := (E.grow s1).grow s2
    obtain ⟨a', vs', hσ', hv', hF, rs'⟩ := E3.flat hρ
    have ea : a' = a := by rw [hσ] at hσ'; simpa using hσ'.symm
    subst ea
    refine ⟨a', vs', z, j, rfl, rfl, hv', by rw [rs'.1]; exact hj, ?_⟩
    have En := (E3.mutF hρ hσ' hF (rs'.set j ((rv.mono s2).maskF hf E3.notup))).1
    rw [hL] at En
    exact k.run H0 σ _ D ⟨_, En⟩ (kk.cast (by simp))))⟩

/-! ### loops -/
theorem WI.frame {tg iter : Expr} {σ : L2.St} {H : Hp} {as : List Addr} {R : It → Hp → Prop} (hl : Hid H as) (h : WI X tg iter σ (mask H as) R) :
    WI X tg iter σ H (fun J H' => ∃ M, R J M ∧ H' = join M H as ∧ (∀ a ∈ as, M a = none) ∧ Same M H') := fun pins s I => by
  obtain ⟨own, h1, h2, J⟩ := Inv.hide I hl
  refine thn (h _ s J) fun u s' q => thn q fun itv s2 ⟨it, fp, tn, J', M, e, I2, T, st, f, r⟩ => ?_
  obtain ⟨I', n, up⟩ := Inv.show' I hl h1 I2
  refine ⟨it, fp, tn, J', _, e, I', T, st, fun b hb => ?_, M, r, rfl, n, up⟩
  obtain ⟨f0, f1, f2, f3, f4, f5⟩ := f b hb
  have nb : b ∉ as := fun z => by
    obtain ⟨o, q1, _⟩ := h1 b z
    exact f5 (b, o) (List.mem_append_right _ (List.mem_append_right _ q1)) rfl
  exact ⟨by rw [join_out nb]; exact f0, f1, f2, f3, f4, fun p hp => f5 p (by
    rcases List.mem_append.mp hp with z | z
    · exact List.mem_append_left _ z
    · exact List.mem_append_right _ (List.mem_append_left _ z))⟩
def setW (ρ : RhoW) : List Nat → List D → RhoW
  | i :: is, d :: ds => setW (ρ.set i (some (.sh d))) is ds
  | _, _ => ρ
theorem setW_length : ∀ {is : List Nat} {ds : List D} {ρ : RhoW}, (setW ρ is ds).length = ρ.length
  | [], ds, ρ => by unfold setW; rfl
  | i :: is, [], ρ => by unfold setW; rfl
  | i :: is, d :: ds, ρ => by unfold setW; rw [setW_length]; simp
/-- shared values are stored -/
theorem EnvW.store {K : PySem.W.Frag} {H0 H M : Hp} : ∀ {is : List Nat} {vs : List V} {ds : List D} {σ : L2.St} {ρ : RhoW} {F : Nat → List Addr}, EnvA K H0 σ H ρ F → Same M (mask H (allOf F ρ.length)) → Reps K M vs ds → EnvW K H0 (setAll σ is vs) H (setW ρ is ds)
  | [], vs, ds, σ, ρ, F, E, s, r => by unfold setAll setW; exact ⟨F, E⟩
  | i :: is, [], [], σ, ρ, F, E, s, r => by unfold setAll setW; exact ⟨F, E⟩
  | i :: is, [], d :: ds, σ, ρ, F, E, s, r => by have := r.1; simp at this
  | i :: is, v :: vs, [], σ, ρ, F, E, s, r => by have := r.1; simp at this
  | i :: is, v :: vs, d :: ds, σ, ρ, F, E, s, r => by
    unfold setAll setW
    let G : Nat → List Addr := fun j => if j = i then [] else F j
    have sub : ∀ a ∈ allOf G (ρ.set i (some (.sh d))).length, a ∈ allOf F ρ.length := fun a ha => by
      obtain ⟨j, hj, h1⟩ := mem_allOf.mp ha
      dsimp only [G] at h1
      split at h1
      · cases h1
      · exact E.mem h1
    have E' : EnvA K H0 (σ.set i (some v)) H (ρ.set i (some (.sh d))) G := by
      refine ⟨by simp [E.len], fun j => ?_, fun j j' a h1 h2 => ?_, fun a ha => E.fresh a (sub a ha), E.same, fun j w hw => ?_, fun j hj => ?_⟩
      · dsimp only [G]
        split
        · exact List.nodup_nil
        · exact E.nd j
      · dsimp only [G] at h1 h2
        split at h1
        · cases h1
        · split at h2
          · cases h2
          · exact E.dj j j' a h1 h2
      · rw [List.getElem?_set] at hw
        by_cases e : i = j
        · subst e
          rw [if_pos rfl] at hw
          split at hw
          · rename_i hi
            obtain rfl := Option.some.inj (Option.some.inj hw)
            refine ⟨v, by rw [List.getElem?_set, if_pos rfl, if_pos (by rw [E.len]; exact hi)], ⟨r.cons_inv.1.mono (s.trans (mask_sub sub)), by dsimp only [G]; rw [if_pos rfl]⟩⟩
          · cases hw
        · rw [if_neg e] at hw
          obtain ⟨v', h1, r'⟩ := E.get j w hw
          refine ⟨v', by rw [List.getElem?_set_ne e]; exact h1, ?_⟩
          dsimp only [G]
          rw [if_neg (Ne.symm e)]
          exact r'.keep (fun _ _ _ z => z) (mask_sub sub)
      · dsimp only [G]
        split
        · rfl
        · rename_i e
          refine E.off j fun w z => hj w ?_
          rw [List.getElem?_set_ne (Ne.symm e)]
          exact z
    exact EnvW.store E' (s.trans (mask_sub sub)) r.cons_inv.2
/-- the heap ahead taken as what was there -/
theorem EnvA.rebase {K : PySem.W.Frag} {H0 H : Hp} {σ : L2.St} {F : Nat → List Addr} (E : EnvA K H0 σ H ρ F) : EnvA K (mask H (allOf F ρ.length)) σ H ρ F :=
  ⟨E.len, E.nd, E.dj, fun a ha => mask_in ha, mask_same, E.get, E.off⟩
theorem EnvW.unbase {K : PySem.W.Frag} {H0 H1 H : Hp} {σ : L2.St} (E : EnvW K H1 σ H ρ) (s : Same H0 H1) : EnvW K H0 σ H ρ :=
  let ⟨F, E⟩ := E; ⟨F, E.len, E.nd, E.dj, fun a ha => s.free (E.fresh a ha), s.trans E.same, E.get, E.off⟩
theorem Ws.for {tg iter : Expr} {items : List D} (Iv : Nat → RhoW → Prop) (is : List Nat) (bs : Nat → List D) (hp : PassesOwn (model X.prog X.w) X.A X.env X.xe) (hc : X.calm = true) (hi : EvI X (hide ρ) tg iter items)
    (hg : ∀ i d, items[i]? = some d → EvG X tg d is (bs i)) (h0 : Iv 0 ρ)
    (hb : ∀ i d ρ', items[i]? = some d → Iv i ρ' → ρ'.length = ρ.length → Ws X (setW ρ' is (bs i)) body { nx := Iv (i + 1), rt := Φ.rt, bk := fun ρ => Ws X ρ rest Φ, ct := Iv (i + 1), rs := Φ.rs, xs := Φ.xs, xw := Φ.xw })
    (hd : ∀ ρ', Iv items.length ρ' → ρ'.length = ρ.length → Ws X ρ' rest Φ) (hs : ∀ x, foldedSetIterable iter X.env x = pure x := by intro _; rfl) : Ws X ρ (.For tg iter body [] pos :: rest) Φ := ⟨fun H0 σ H D ⟨F, E⟩ k => by
  refine WSs.cons (ws_of (ps_for hp hc pi_wi pg_wg pss_wss hs) ?_)
  refine (show WI X tg iter σ H _ from ?_)
  have fr := WI.frame E.cells (hi.run σ (mask H (allOf F ρ.length)) E.envH (fun J M => Same (mask H (allOf F ρ.length)) M ∧ Src X.K M J items) fun J M s r => ⟨s, r⟩)
  intro pins s I
  refine thn (fr pins s I) fun u s' q => thn q fun itv s2 ⟨it, fp, tn, J, H1, e, I2, T, st, f, M, ⟨s1, src⟩, e2, n, up⟩ => ⟨it, fp, tn, J, H1, e, I2, T, st, f, ?_⟩
  subst e2
  obtain ⟨G, Y, wk, hG, hY⟩ := src.go
  -- the state at the loop's start
  have keep : ∀ a ∈ allOf F ρ.length, ∀ u, H a = some u → (join M H (allOf F ρ.length)) a = some u := fun a ha u e => by rw [join_in ha]; exact e
  have mM : mask (join M H (allOf F ρ.length)) (allOf F ρ.length) = M := by rw [mask_join, mask_of_none n]
  have E1 : EnvA X.K H0 σ (join M H (allOf F ρ.length)) ρ F :=
    ⟨E.len, E.nd, E.dj, E.fresh, fun b u e => by
      have hb : b ∉ allOf F ρ.length := fun z => by rw [E.fresh b z] at e; cases e
      rw [join_out hb]
      exact s1 b u (by rw [mask_out hb]; exact E.same b u e), fun i w h => let ⟨v, h1, r⟩ := E.get i w h; ⟨v, h1, r.keep (fun a ha u q => keep a (E.mem ha) u q) (by rw [mM]; exact s1)⟩, E.off⟩
  have E2 : EnvA X.K M σ (join M H (allOf F ρ.length)) ρ F := by have := E1.rebase; rw [mM] at this; exact this
  have s0 : Same H0 M := fun b u e => by
    have hb : b ∉ allOf F ρ.length := fun z => by rw [E.fresh b z] at e; cases e
    exact s1 b u (by rw [mask_out hb]; exact E.same b u e)
  refine for_it (g := WG X tg) (tb := fun D σ H => WSs X body σ H D) (D := { D with nx := fun σ' H' => WSs X rest σ' H' D }) wk (fun i σ' H' => ∃ ρ', Iv i ρ' ∧ ρ'.length = ρ.length ∧ EnvW X.K M σ' H' ρ') ⟨ρ, h0, rfl, F, E2⟩ (fun i σ' H' _ ⟨ρ', _, _, E'⟩ => ?_) (fun i x σ' H' H2 hlt ⟨ρ', iv, lr, E'⟩ y => ?_) (fun σ' H' ⟨ρ', iv, lr, E'⟩ => ?_)
  · obtain ⟨F', E'⟩ := E'
    exact hG H' E'.same
  · obtain ⟨F', E'⟩ := E'
    obtain ⟨s2, d, hd', rd⟩ := hY i H' x H2 hlt E'.same y
    have rd' := rd (allOf F' ρ'.length) fun a ha => ⟨E'.fresh a ha, fun z => E'.cells.some ha z⟩
    have E3 : EnvA X.K M σ' H2 ρ' F' := ⟨E'.len, E'.nd, E'.dj, E'.fresh, E'.same.trans s2, fun j w h => let ⟨v, h1, r⟩ := E'.get j w h; ⟨v, h1, r.keep (fun a _ u e => s2 a u e) fun b u e => by
      obtain ⟨e1, e2⟩ := mask_some e
      rw [mask_out e2]
      exact s2 b u e1⟩, E'.off⟩
    show WG X tg x σ' H2 _
    refine (hg i d hd').run σ' H2 _ x mask_same rd' _ fun vs rs => ?_
    have E4 : EnvW X.K M (setAll σ' is vs) H2 (setW ρ' is (bs i)) := EnvW.store E3 (Same.refl _) rs
    refine (hb i d ρ' hd' iv lr).run M _ H2 _ E4 ⟨fun σ H ρ'' q l E => ⟨ρ'', q, by rw [l, setW_length, lr], E⟩, fun σ H ρ'' q l E => ?_, fun σ H ρ'' q l E => ⟨ρ'', q, by rw [l, setW_length, lr], E⟩, fun o v H A q s f nd r => ?_, fun σ v w H ρ'' q l E => ?_, fun c σ H q l s => k.ex c σ H q (by rw [l, setW_length, lr]) (s0.trans s)⟩
    · exact q.run H0 σ H D (E.unbase s0) (k.cast (by rw [l, setW_length, lr]))
    · exact k.rt o v H A q (s0.trans s) (fun a ha => s0.free (f a ha)) nd r
    · exact k.rs σ v w H ρ'' q (by rw [l, setW_length, lr]) (E.unbase s0)
  · exact (hd ρ' iv lr).run H0 σ' H' D (E'.unbase s0) (k.cast lr.symm)⟩
theorem Ws.while {c : Expr} (Iv : Nat → RhoW → Prop) (hp : PassesOwn (model X.prog X.w) X.A X.env X.xe) (m : Nat) (h0 : Iv m ρ)
    (hb : ∀ m ρ', Iv m ρ' → ρ'.length = ρ.length → ∃ b, EvT X (bor ρ') c b ∧ (b = true → Ws X ρ' body { nx := fun ρ'' => ∃ m', m' < m ∧ Iv m' ρ'', rt := Φ.rt, bk := fun ρ => Ws X ρ rest Φ, ct := fun ρ'' => ∃ m', m' < m ∧ Iv m' ρ'', rs := Φ.rs, xs := Φ.xs, xw := Φ.xw }) ∧ (b = false → Ws X ρ' rest Φ)) :
    Ws X ρ (.While c body [] pos :: rest) Φ := ⟨fun H0 σ H D E k => by
  refine WSs.cons (ws_of (ps_while hp pt_wt pss_wss) ?_)
  refine ⟨fun m σ' H' => ∃ ρ', Iv m ρ' ∧ ρ'.length = ρ.length ∧ EnvW X.K H0 σ' H' ρ', ⟨m, ρ, h0, rfl, E⟩, ?_⟩
  rintro m σ' H' ⟨ρ', iv, lr, E'⟩
  obtain ⟨b, ht, hT, hF⟩ := hb m ρ' iv lr
  obtain ⟨F, E2⟩ := id E'
  refine ht.run σ' H' E2.envB _ fun H2 s => ?_
  cases b with
  | true =>
    refine iteT ⟨fun σ H => ∃ m', m' < m ∧ ∃ ρ', Iv m' ρ' ∧ ρ'.length = ρ.length ∧ EnvW X.K H0 σ H ρ', fun σ H h => h, ?_⟩
    refine (hT rfl).run H0 σ' H2 _ (E'.grow s) ⟨fun σ H ρ'' q l E => ?_, fun σ H ρ'' q l E => ?_, fun σ H ρ'' q l E => ?_, fun o v H A q s f nd r => k.rt o v H A q s f nd r, fun σ v w H ρ'' q l E => k.rs σ v w H ρ'' q (by rw [l, lr]) E, fun c σ H q l s => k.ex c σ H q (by rw [l, lr]) s⟩
    · obtain ⟨m', hm, q⟩ := q
      exact ⟨m', hm, ρ'', q, by rw [l, lr], E⟩
    · exact q.run H0 σ H D E (k.cast (by rw [l, lr]))
    · obtain ⟨m', hm, q⟩ := q
      exact ⟨m', hm, ρ'', q, by rw [l, lr], E⟩
  | false => exact iteF ((hF rfl).run H0 σ' H2 D (E'.grow s) (k.cast lr.symm))⟩
end
end VL
set_option Elab.async false
set_option linter.all false
set_option maxRecDepth 100000
set_option maxHeartbeats 1000000
/-! value layer, part 7: a def by its body, the law -/
namespace VL
open PySem L2 PySem.Spec
/-- a def of the text as the top leaves it -/
structure Df (K : PySem.W.Frag) (mg : Str → Option Value) (x : Str) (st : Stmt) (ps : List Str) : Prop where
  ex : ∃ (f : Addr) (fd : FuncData), mg x = some (.ref f) ∧ Fun K x x st f fd ∧ Binds K fd ps []
def startW (n : Nat) (ds : List D) : RhoW := ds.map (fun d => some (W.sh d)) ++ List.replicate (n - ds.length) none
section
variable {P : Program} {w : World} {K : PySem.W.Frag} {mg : Str → Option Value} {base : Heap}
theorem start_env {H : Hp} {N : List Str} {vs : List V} {ds : List D} (r : Reps K H vs ds) : EnvW K H (L2.start N vs) H (startW N.length ds) := by
  have hall : allOf (fun _ => []) (startW N.length ds).length = [] := by unfold allOf; simp
  refine ⟨fun _ => [], ?_, fun _ => List.nodup_nil, fun i j a h => (by cases h), fun a ha => (by rw [hall] at ha; cases ha), Same.refl H, fun i x h => ?_, fun _ _ => rfl⟩
  · unfold L2.start startW; simp [r.1]
  · rw [hall, mask_nil]
    unfold startW at h
    have hi : i < ds.length := by
      by_cases hi : i < ds.length
      · exact hi
      · rw [List.getElem?_append_right (by simpa using hi), List.getElem?_replicate] at h
        split at h <;> cases h
    rw [List.getElem?_append_left (by simpa using hi), List.getElem?_map, List.getElem?_eq_getElem hi] at h
    obtain rfl := Option.some.inj (Option.some.inj h)
    obtain ⟨v, e, rv⟩ := r.get (List.getElem?_eq_getElem hi)
    refine ⟨v, ?_, rv, rfl⟩
    unfold L2.start
    have hv := (List.getElem?_eq_some_iff.mp e).1
    rw [List.getElem?_append_left (by simpa using hv), List.getElem?_map, e]
    rfl
theorem fnOk_of {x qual : Str} {st : Stmt} {f : Addr} {fd : FuncData} {N ps : List Str} {k : Nat} {ds : List D} {post : O → Prop} {ρ : RhoW} (F : Fun K x qual st f fd) (S : FnScope N ps (defScope st)) (hl : ps.length = ds.length) (hρ : startW N.length ds = ρ)
    (h : ∀ (cdv : Value) (A : Around) (outer : List Env) (s : Shared) (H : Hp) (E : XK), Room k (cxOf CX0 P w K mg base N qual (defScope st) f cdv A outer s H E).A →
      Ws (cxOf CX0 P w K mg base N qual (defScope st) f cdv A outer s H E).nox ρ (defBody st) { nx := fun _ => post (.sh .non), rt := post }) : FnOk P w K mg base CX0 (k + 1) f fd ps (spV K ds post) := by
  refine F.ok S (fun vs H Q E q => by rw [hl]; exact q.1.1) fun cdv A outer s H vs Q E hr q => ?_
  obtain ⟨r, q⟩ := q
  refine ⟨_, pss_wss, ?_⟩
  refine (h cdv A outer s H E hr).run H (L2.start N vs) H _ (hρ ▸ start_env r) ⟨fun σ H' ρ' p l E' => ?_, fun σ H' ρ' p l E' => p.elim, fun σ H' ρ' p l E' => p.elim, fun o v H' A p s f nd r => q o v H' A p s f nd r, fun _ _ _ _ _ p => p.elim, fun _ _ _ p => p.elim⟩
  obtain ⟨F', E'⟩ := E'
  exact q (.sh .non) .non H' [] p E'.same (by simp) (by simp) (.sh .non)
theorem VF.of {x : Str} {st : Stmt} {N ps : List Str} {k : Nat} {ds : List D} {post : O → Prop} {ρ : RhoW} (F : Df K mg x st ps) (S : FnScope N ps (defScope st)) (hρ : startW N.length ds = ρ)
    (h : ∀ (f : Addr) (cdv : Value) (A : Around) (outer : List Env) (s : Shared) (H : Hp) (E : XK), Room k (cxOf CX0 P w K mg base N x (defScope st) f cdv A outer s H E).A →
      Ws (cxOf CX0 P w K mg base N x (defScope st) f cdv A outer s H E).nox ρ (defBody st) { nx := fun _ => post (.sh .non), rt := post }) (hl : ps.length = ds.length := by rfl) : VF P w K mg base (k + 1) x ds post := by
  obtain ⟨f, fd, h1, h2, h3⟩ := F.ex
  exact ⟨f, fd, ps, h1, h2.kp, h3, fnOk_of h2 S hl hρ (h f)⟩

/-! ### the law -/
def spLaw (K : PySem.W.Frag) : Sp := fun vs H Q _ => ∃ (a : Addr) (ns : List Int), vs = [.ref a] ∧ SqL K H a (ns.map V.int) ∧ ns.length ≤ 63 ∧ ∀ H', Q (.bl true) H'
theorem law_of {f : Addr} {fd : FuncData} {ps : List Str} {k : Nat} (hl : ps.length = 1) (h : ∀ ns : List Int, ns.length ≤ 63 → FnOk P w K mg base CX0 k f fd ps (spV K [.ro (ns.map D.int)] fun o => o = .sh (.bl true))) : FnOk P w K mg base CX0 k f fd ps (spLaw K) := by
  refine ⟨fun vs H Q E q => ?_, fun A outer s H args us vs Q E hr he hb hv q => ?_⟩
  · obtain ⟨a, ns, rfl, _⟩ := q
    rw [hl]; rfl
  · obtain ⟨a, ns, rfl, hS, hn, q⟩ := q
    refine (h ns hn).run A outer s H args us [.ref a] Q E hr he hb hv ⟨.cons (.ro hS (by simp) (fun i v d h1 h2 => (reps_ints ns).2 i v d h1 h2)) .nil, ?_⟩
    intro o v H' A' ho s' f' nd r
    subst ho
    cases r with
    | sh r => rw [r.bl_inv]; exact q H'
end
end VL
set_option Elab.async false
set_option linter.all false
set_option maxRecDepth 100000
set_option maxHeartbeats 1000000
/-! value layer, part 8: typed lists -/
namespace VL
open PySem L2
def dI (L : List Int) : D := .lst (L.map D.int)
def oI (L : List Int) : O := oL (L.map D.int)
def mkD (b : Bool) : D := .str (if b then "valley" else "hill")
def dM (M : List Bool) : D := .lst (M.map mkD)
def oM (M : List Bool) : O := oL (M.map mkD)
/-- Python's xs[z] -/
def pyget {α : Type} [Inhabited α] (L : List α) (z : Int) : α := L.getD (if 0 ≤ z then z else L.length + z).toNat default
theorem pyget_nat {α : Type} [Inhabited α] (L : List α) (k : Nat) : pyget L (k : Int) = L.getD k default := by unfold pyget; rw [if_pos (by omega)]; simp
theorem atI_map {α β : Type} [Inhabited α] (L : List α) (h : α → β) {z : Int} (hz : -(L.length : Int) ≤ z ∧ z < L.length) : atI (L.map h) z = some (h (pyget L z)) := by
  unfold atI ixN pyget
  rw [List.length_map]
  by_cases h0 : 0 ≤ z
  · rw [if_pos h0, if_pos hz.2, if_pos h0]
    show (L.map h)[z.toNat]? = _
    rw [List.getElem?_map, List.getElem?_eq_getElem (by omega : z.toNat < L.length), List.getD_eq_getElem?_getD, List.getElem?_eq_getElem (by omega : z.toNat < L.length)]
    rfl
  · rw [if_neg h0, if_pos hz.1, if_neg h0]
    have e : (z + (L.length : Int)).toNat = ((L.length : Int) + z).toNat := by omega
    show (L.map h)[(z + (L.length : Int)).toNat]? = _
    rw [e, List.getElem?_map, List.getElem?_eq_getElem (by omega : ((L.length : Int) + z).toNat < L.length), List.getD_eq_getElem?_getD, List.getElem?_eq_getElem (by omega : ((L.length : Int) + z).toNat < L.length)]
    rfl
section
variable {X : Cx} {ρ : Rho} {a b e tg iter : Expr} {pos p : Pos} {z i j : Int} {L : List Int} {M : List Bool} {x y : D}
theorem Ev.ixMap {α : Type} [Inhabited α] {L : List α} {h : α → D} (ha : Ev X ρ a (.lst (L.map h))) (hb : Ev X ρ b (.int z)) (hz : -(L.length : Int) ≤ z ∧ z < L.length) (hs : PlainIx b := by exact fun _ _ => rfl) : Ev X ρ (.Subscript a b pos) (h (pyget L z)) :=
  .ixL ha hb (atI_map L h hz) hs
theorem Ev.ixI (ha : Ev X ρ a (dI L)) (hb : Ev X ρ b (.int z)) (hz : -(L.length : Int) ≤ z ∧ z < L.length) (hs : PlainIx b := by exact fun _ _ => rfl) : Ev X ρ (.Subscript a b pos) (.int (pyget L z)) := .ixMap ha hb hz hs
theorem Ev.ixM (ha : Ev X ρ a (dM M)) (hb : Ev X ρ b (.int z)) (hz : -(M.length : Int) ≤ z ∧ z < M.length) (hs : PlainIx b := by exact fun _ _ => rfl) : Ev X ρ (.Subscript a b pos) (mkD (pyget M z)) := .ixMap ha hb hz hs
theorem Ev.ixRoI (ha : Ev X ρ a (.ro (L.map D.int))) (hb : Ev X ρ b (.int z)) (hz : -(L.length : Int) ≤ z ∧ z < L.length) (hs : PlainIx b := by exact fun _ _ => rfl) : Ev X ρ (.Subscript a b pos) (.int (pyget L z)) := .ixRo ha hb (atI_map L _ hz) hs
/-- [x, y][z], z one of 0, 1 -/
theorem Ev.ix2 (ha : Ev X ρ a (.lst [x, y])) (hb : Ev X ρ b (.int z)) (hz : 0 ≤ z ∧ z < 2) (hs : PlainIx b := by exact fun _ _ => rfl) : Ev X ρ (.Subscript a b pos) (if z = 0 then x else y) :=
  .ixL ha hb (by
    have : z = 0 ∨ z = 1 := by omega
    rcases this with rfl | rfl <;> rfl) hs
/-- t[0], t[1] of a tuple -/
theorem Ev.ixT0 {xs : List D} (ha : Ev X ρ a (.tup (x :: xs))) {k : Nat} {q : Pos} (hs : PlainIx (.Constant (.int 0) k q) := by exact fun _ _ => rfl) : Ev X ρ (.Subscript a (.Constant (.int 0) k q) pos) x :=
  .ixT ha .int (by unfold atI ixN; rw [if_pos (by omega), if_pos (by simp <;> omega)]; rfl) hs
theorem Ev.ixT1 {xs : List D} (ha : Ev X ρ a (.tup (x :: y :: xs))) {k : Nat} {q : Pos} (hs : PlainIx (.Constant (.int 1) k q) := by exact fun _ _ => rfl) : Ev X ρ (.Subscript a (.Constant (.int 1) k q) pos) y :=
  .ixT ha .int (by unfold atI ixN; rw [if_pos (by omega), if_pos (by simp <;> omega)]; rfl) hs
theorem Ev.lenMap {α : Type} {L : List α} {h : α → D} (hm : X.mg "len" = none) (ha : Ev X ρ e (.lst (L.map h))) (hg : Gl X "len" := by rfl) (hs : starEach [e] X.env = (false, eval e X.env) :: starEach [] X.env := by rfl) (hpl : (backTo pos (starEach [] X.env)).any (·.1) = false := by rfl) :
    Ev X ρ (.Call (.Name "len" p) [e] [] pos) (.int L.length) := by
  have := Ev.lenL (p := p) (pos := pos) hm ha hg hs hpl
  rwa [List.length_map] at this
theorem Ev.lenI (hm : X.mg "len" = none) (ha : Ev X ρ e (dI L)) (hg : Gl X "len" := by rfl) (hs : starEach [e] X.env = (false, eval e X.env) :: starEach [] X.env := by rfl) (hpl : (backTo pos (starEach [] X.env)).any (·.1) = false := by rfl) : Ev X ρ (.Call (.Name "len" p) [e] [] pos) (.int L.length) := .lenMap hm ha hg hs hpl
theorem Ev.lenM (hm : X.mg "len" = none) (ha : Ev X ρ e (dM M)) (hg : Gl X "len" := by rfl) (hs : starEach [e] X.env = (false, eval e X.env) :: starEach [] X.env := by rfl) (hpl : (backTo pos (starEach [] X.env)).any (·.1) = false := by rfl) : Ev X ρ (.Call (.Name "len" p) [e] [] pos) (.int M.length) := .lenMap hm ha hg hs hpl
theorem Ev.lenRoI (hm : X.mg "len" = none) (ha : Ev X ρ e (.ro (L.map D.int))) (hg : Gl X "len" := by rfl) (hs : starEach [e] X.env = (false, eval e X.env) :: starEach [] X.env := by rfl) (hpl : (backTo pos (starEach [] X.env)).any (·.1) = false := by rfl) : Ev X ρ (.Call (.Name "len" p) [e] [] pos) (.int L.length) := by
  have := Ev.lenRo (p := p) (pos := pos) hm ha hg hs hpl
  rwa [List.length_map] at this
theorem enumD_map {α : Type} [Inhabited α] {L : List α} {h : α → D} {k : Nat} {d : D} (e : (enumD (L.map h))[k]? = some d) : k < L.length ∧ d = .tup [.int (k : Int), h (L.getD k default)] := by
  rw [enumD_get, List.getElem?_map] at e
  by_cases hk : k < L.length
  · rw [List.getElem?_eq_getElem hk] at e
    refine ⟨hk, ?_⟩
    rw [List.getD_eq_getElem?_getD, List.getElem?_eq_getElem hk]
    exact (Option.some.inj e).symm
  · rw [List.getElem?_eq_none (by omega)] at e; cases e
theorem enumD_length (ds : List D) : (enumD ds).length = ds.length := by unfold enumD; simp
theorem rangeD_get {lo : Int} {n k : Nat} {d : D} (e : (rangeD lo n)[k]? = some d) : k < n ∧ d = .int (lo + k) := by
  unfold rangeD at e
  rw [List.getElem?_map] at e
  by_cases hk : k < n
  · rw [List.getElem?_range hk] at e
    exact ⟨hk, (Option.some.inj e).symm⟩
  · rw [List.getElem?_eq_none (by simpa using hk)] at e; cases e
theorem rangeD_length (lo : Int) (n : Nat) : (rangeD lo n).length = n := by unfold rangeD; simp
theorem map_get {α : Type} [Inhabited α] {L : List α} {h : α → D} {k : Nat} {d : D} (e : (L.map h)[k]? = some d) : k < L.length ∧ d = h (L.getD k default) := by
  rw [List.getElem?_map] at e
  by_cases hk : k < L.length
  · rw [List.getElem?_eq_getElem hk] at e
    refine ⟨hk, ?_⟩
    rw [List.getD_eq_getElem?_getD, List.getElem?_eq_getElem hk]
    exact (Option.some.inj e).symm
  · rw [List.getElem?_eq_none (by omega)] at e; cases e
theorem oI_data (L : List Int) : (oI L).data = dI L := oL_data _
theorem oM_data (M : List Bool) : (oM M).data = dM M := oL_data _
/-- an owned flat list -/
abbrev W.ol (ds : List D) : W := .ow (oL ds) (.lst ds)
abbrev W.oi (L : List Int) : W := .ow (oI L) (dI L)
abbrev W.om (M : List Bool) : W := .ow (oM M) (dM M)
end
end VL
set_option Elab.async false
set_option linter.all false
set_option maxRecDepth 100000
set_option maxHeartbeats 1000000
/-! value layer, part 9: lists changed by their methods -/
namespace VL
open PySem L2
section
variable {X : Cx} {ρ : RhoW} {e a b : Expr} {es : List Expr} {p q1 q2 pos : Pos} {x : Str} {Ψ : W → RhoW → Prop} {rest : List Stmt} {Φ : Post} {d d1 : D} {ds : List D}
def rInsert : V → List V → Hp → VK → Prop := fun x vs H Q => ∃ (l : Addr) (xs : List V) (i : Int) (y : V), x = .ref l ∧ vs = [.int i, y] ∧ H l = some (.lst xs) ∧ xs.length < sizeLine ∧ 0 ≤ i ∧ i < 2 ^ 63 ∧ Q .non (upd H l (.lst (xs.take i.toNat ++ [y] ++ xs.drop i.toNat)))
theorem mt_ins : MtR X "list.insert" rInsert := mt_insert
theorem Reps.insert {K : PySem.W.Frag} {H : Hp} {vs : List V} {v : V} (r : Reps K H vs ds) (h : Rep K H v d) (n : Nat) : Reps K H (vs.take n ++ [v] ++ vs.drop n) (ds.take n ++ [d] ++ ds.drop n) := ((r.take n).append (.cons h .nil)).append (r.drop n)
theorem Ws.insert (i : Nat) {z : Int} (ds' : List D) {ei : Expr} (hi : Ev X (VL.bor ρ) ei (.int z)) (he : Ev X (VL.bor ρ) e d) (hf : d.free = true) (hz : 0 ≤ z ∧ z < 2 ^ 62) (hl : ds.length < 100000) (hL : ds.take z.toNat ++ [d] ++ ds.drop z.toNat = ds')
    (k : Ws X (ρ.set i (some (.ow (oL ds') (.lst ds')))) rest Φ) (hN : X.N[i]? = some x := by rfl) (hρ : ρ[i]? = some (some (.ow (oL ds) d1)) := by rfl)
    (ha : ∀ {ρ' : Rho} {d1 d2}, Ev X ρ' ei d1 → Ev X ρ' e d2 → EvA X ρ' [ei, e] [d1, d2] := by intro ρ' d1 d2 h1 h2; exact EvA.two h1 h2)
    (hpe : ∀ {t : TA}, PA X [ei, e] t → PE X (.Call (.Attribute (.Name x q1) "insert" q2) [ei, e] [] p) (tBM X.K "list" rInsert (tVar i) t) := by
      intro t ht; exact pe_bm PySem.F.plainAttrs_list PySem.F.slot_list_insert PySem.F.type_list_insert mt_ins (pv _) ht)
    (hs : swapsWith (.Call (.Attribute (.Name x q1) "insert" q2) [ei, e] [] p) none pos.line X.env = pure false := by rfl) : Ws X ρ (.Expr (.Call (.Attribute (.Name x q1) "insert" q2) [ei, e] [] p) pos :: rest) Φ :=
  .expr (.meth i ds' (dr := .non) hρ (ha hi he) (by simp [freeAll, D.free, hf]) hpe (fun K a vs ws H M Q hv rs rw q => by
    obtain ⟨v, w, rfl, r1, r2⟩ := rw.two
    obtain rfl := r1.int_inv
    refine ⟨a, vs, z, w, rfl, rfl, hv, by rw [rs.1]; exact Nat.lt_of_lt_of_le hl (by decide), hz.1, by have := hz.2; omega, ?_⟩
    exact q .non _ .non (hL ▸ rs.insert r2 _)) k) hs
theorem EvW.popAt (i : Nat) {z : Int} {j : Nat} (ds' : List D) (hz : Ev X (VL.bor ρ) e (.int z)) (hj : seqIndex? z ds.length = some j) (hd : ds[j]? = some d) (hb : -(2 ^ 63) ≤ z ∧ z < 2 ^ 63) (hL : ds.eraseIdx j = ds') (k : Ψ (.sh d) (ρ.set i (some (.ow (oL ds') (.lst ds')))))
    (hN : X.N[i]? = some x := by rfl) (hρ : ρ[i]? = some (some (.ow (oL ds) d1)) := by rfl)
    (ha : ∀ {ρ' : Rho} {d1}, Ev X ρ' e d1 → EvA X ρ' [e] [d1] := by intro ρ' d1 h1; exact EvA.one h1)
    (hpe : ∀ {t : TA}, PA X [e] t → PE X (.Call (.Attribute (.Name x q1) "pop" q2) [e] [] p) (tBM X.K "list" rPopAt (tVar i) t) := by
      intro t ht; exact pe_bm PySem.F.plainAttrs_list PySem.F.slot_list_pop PySem.F.type_list_pop mt_popAt (pv _) ht) : EvW X ρ (.Call (.Attribute (.Name x q1) "pop" q2) [e] [] p) Ψ :=
  .meth i ds' (dr := d) hρ (ha hz) (by simp [freeAll, D.free]) hpe (fun K a vs ws H M Q hv rs rw q => by
    obtain ⟨v, rfl, r1⟩ := rw.one
    obtain rfl := r1.int_inv
    obtain ⟨u, hu, ru⟩ := rs.get hd
    refine ⟨a, vs, z, j, u, rfl, rfl, hv, hb.1, hb.2, by rw [rs.1]; exact hj, hu, q u _ ru ?_⟩
    subst hL
    refine ⟨by rw [List.length_eraseIdx, List.length_eraseIdx, rs.1], fun k v d e1 e2 => ?_⟩
    rw [List.getElem?_eraseIdx] at e1 e2
    split at e1
    · rename_i hk
      rw [if_pos hk] at e2
      exact rs.2 _ v d e1 e2
    · rename_i hk
      rw [if_neg hk] at e2
      exact rs.2 _ v d e1 e2) k
theorem Ws.reverse (i : Nat) (ds' : List D) (hL : ds.reverse = ds') (k : Ws X (ρ.set i (some (.ow (oL ds') (.lst ds')))) rest Φ)
    (hN : X.N[i]? = some x := by rfl) (hρ : ρ[i]? = some (some (.ow (oL ds) d1)) := by rfl)
    (hpe : PE X (.Call (.Attribute (.Name x q1) "reverse" q2) [] [] p) (tBM0 X.K "list" rReverse (tVar i)) := by
      exact pe_bm0 PySem.F.plainAttrs_list PySem.F.slot_list_reverse PySem.F.type_list_reverse mt_reverse (pv _))
    (hs : swapsWith (.Call (.Attribute (.Name x q1) "reverse" q2) [] [] p) none pos.line X.env = pure false := by rfl) : Ws X ρ (.Expr (.Call (.Attribute (.Name x q1) "reverse" q2) [] [] p) pos :: rest) Φ :=
  .expr (.meth0 i ds' (dr := .non) hρ hpe (fun K a vs H M Q hv rs q => ⟨a, vs, rfl, rfl, hv, q .non _ .non (hL ▸ rs.reverse)⟩) k) hs
theorem Ws.clear (i : Nat) (k : Ws X (ρ.set i (some (.ow (oL []) (.lst [])))) rest Φ)
    (hN : X.N[i]? = some x := by rfl) (hρ : ρ[i]? = some (some (.ow (oL ds) d1)) := by rfl)
    (hpe : PE X (.Call (.Attribute (.Name x q1) "clear" q2) [] [] p) (tBM0 X.K "list" rClear (tVar i)) := by
      exact pe_bm0 PySem.F.plainAttrs_list PySem.F.slot_list_clear PySem.F.type_list_clear mt_clear (pv _))
    (hs : swapsWith (.Call (.Attribute (.Name x q1) "clear" q2) [] [] p) none pos.line X.env = pure false := by rfl) : Ws X ρ (.Expr (.Call (.Attribute (.Name x q1) "clear" q2) [] [] p) pos :: rest) Φ :=
  .expr (.meth0 i [] (dr := .non) hρ hpe (fun K a vs H M Q hv rs q => ⟨a, vs, rfl, rfl, hv, q .non _ .non .nil⟩) k) hs
end
/-! ### slices of typed lists -/
def cutL {α : Type} (xs : List α) (lo hi : Option Int) : List α := (xs.drop (HT.sIx xs.length 0 lo)).take (HT.sIx xs.length xs.length hi - HT.sIx xs.length 0 lo)
theorem cutD_map {α : Type} (xs : List α) (h : α → D) (lo hi : Option Int) : cutD (xs.map h) lo hi = (cutL xs lo hi).map h := by
  unfold cutD cutL
  rw [List.length_map, List.map_take, List.map_drop]
theorem cutL_to {α : Type} (xs : List α) (k : Nat) : cutL xs none (some (k : Int)) = xs.take k := by
  unfold cutL
  rw [HT.sIx_none, HT.sIx_nat, List.drop_zero, Nat.sub_zero]
  by_cases h : k ≤ xs.length
  · rw [Nat.min_eq_left h]
  · rw [Nat.min_eq_right (by omega), List.take_length, List.take_of_length_le (by omega)]
theorem cutL_from {α : Type} (xs : List α) (k : Nat) : cutL xs (some (k : Int)) none = xs.drop k := by
  unfold cutL
  rw [HT.sIx_none, HT.sIx_nat]
  by_cases h : k ≤ xs.length
  · rw [Nat.min_eq_left h, List.take_of_length_le (by simp)]
  · rw [Nat.min_eq_right (by omega), Nat.sub_self, List.take_zero, List.drop_eq_nil_of_le (by omega)]
theorem cutL_mid {α : Type} (xs : List α) (k j : Nat) : cutL xs (some (k : Int)) (some (j : Int)) = (xs.drop k).take (j - k) := by
  unfold cutL
  rw [HT.sIx_nat, HT.sIx_nat]
  by_cases h : k ≤ xs.length
  · rw [Nat.min_eq_left h]
    by_cases h2 : j ≤ xs.length
    · rw [Nat.min_eq_left h2]
    · rw [Nat.min_eq_right (by omega), List.take_of_length_le (by simp), List.take_of_length_le (by simp; omega)]
  · rw [Nat.min_eq_right (show xs.length ≤ k by omega), List.drop_length, List.take_nil, List.drop_eq_nil_of_le (by omega), List.take_nil]
theorem sIx_neg {n d k : Nat} (hk : 0 < k) : HT.sIx n d (some (-(k : Int))) = n - k := by
  unfold HT.sIx
  simp [hk]
  omega
theorem cutL_to_neg {α : Type} (xs : List α) (k : Nat) (hk : 0 < k) : cutL xs none (some (-(k : Int))) = xs.take (xs.length - k) := by
  unfold cutL
  rw [HT.sIx_none, sIx_neg hk, List.drop_zero, Nat.sub_zero]

section
variable {X : Cx} {ρ : Rho} {a b e : Expr} {pos p2 : Pos} {el eh : Option Expr} {lo hi : Option Int} {xs ys : List D} {L L' : List Int} {M M' : List Bool}
theorem Ev.slice (ha : Ev X ρ a (.lst xs)) (hl : EvP X ρ el lo) (hh : EvP X ρ eh hi) : Ev X ρ (.Subscript a (.Slice el eh Option.none p2) pos) (.lst (cutD xs lo hi)) := (EvO.slice ha hl hh).ev' (oL_data _)
theorem Ev.cat (ha : Ev X ρ a (.lst xs)) (hb : Ev X ρ b (.lst ys)) (hl : xs.length + ys.length ≤ 100000) : Ev X ρ (.BinOp a .Add b pos) (.lst (xs ++ ys)) := (EvO.cat ha hb (Nat.le_trans hl (by decide))).ev' (oL_data _)
theorem Ev.sliceI (ha : Ev X ρ a (dI L)) (hl : EvP X ρ el lo) (hh : EvP X ρ eh hi) : Ev X ρ (.Subscript a (.Slice el eh Option.none p2) pos) (dI (cutL L lo hi)) := (Ev.slice ha hl hh).is (by rw [cutD_map]; rfl)
theorem Ev.sliceM (ha : Ev X ρ a (dM M)) (hl : EvP X ρ el lo) (hh : EvP X ρ eh hi) : Ev X ρ (.Subscript a (.Slice el eh Option.none p2) pos) (dM (cutL M lo hi)) := (Ev.slice ha hl hh).is (by rw [cutD_map]; rfl)
theorem Ev.catI (ha : Ev X ρ a (dI L)) (hb : Ev X ρ b (dI L')) (hl : L.length + L'.length ≤ 100000) : Ev X ρ (.BinOp a .Add b pos) (dI (L ++ L')) := (Ev.cat ha hb (by simpa using hl)).is (by rw [← List.map_append]; rfl)
theorem Ev.catM (ha : Ev X ρ a (dM M)) (hb : Ev X ρ b (dM M')) (hl : M.length + M'.length ≤ 100000) : Ev X ρ (.BinOp a .Add b pos) (dM (M ++ M')) := (Ev.cat ha hb (by simpa using hl)).is (by rw [← List.map_append]; rfl)
theorem EvO.sliceI (ha : Ev X ρ a (dI L)) (hl : EvP X ρ el lo) (hh : EvP X ρ eh hi) : EvO X ρ (.Subscript a (.Slice el eh Option.none p2) pos) (oI (cutL L lo hi)) := (EvO.slice ha hl hh).is (by rw [cutD_map]; rfl)
theorem EvO.sliceM (ha : Ev X ρ a (dM M)) (hl : EvP X ρ el lo) (hh : EvP X ρ eh hi) : EvO X ρ (.Subscript a (.Slice el eh Option.none p2) pos) (oM (cutL M lo hi)) := (EvO.slice ha hl hh).is (by rw [cutD_map]; rfl)
theorem EvO.catI (ha : Ev X ρ a (dI L)) (hb : Ev X ρ b (dI L')) (hl : L.length + L'.length ≤ 100000) : EvO X ρ (.BinOp a .Add b pos) (oI (L ++ L')) := (EvO.cat ha hb (Nat.le_trans (by simpa using hl) (show 100000 ≤ sizeLine by decide))).is (by rw [← List.map_append]; rfl)
theorem EvO.catM (ha : Ev X ρ a (dM M)) (hb : Ev X ρ b (dM M')) (hl : M.length + M'.length ≤ 100000) : EvO X ρ (.BinOp a .Add b pos) (oM (M ++ M')) := (EvO.cat ha hb (Nat.le_trans (by simpa using hl) (show 100000 ≤ sizeLine by decide))).is (by rw [← List.map_append]; rfl)
end
theorem freeO_sh : ∀ ds : List D, freeO (ds.map O.sh) = freeAll ds
  | [] => by simp [freeO, freeAll]
  | d :: ds => by simp [freeO, freeAll, O.free, freeO_sh ds]
theorem oL_free {ds : List D} (h : freeAll ds = true) : (oL ds).free = true := by unfold oL; rw [O.free, freeO_sh]; exact h
theorem freeAll_map {α : Type} {h : α → D} (hh : ∀ x, (h x).free = true) : ∀ L : List α, freeAll (L.map h) = true
  | [] => by simp [freeAll]
  | x :: L => by simp [freeAll, hh x, freeAll_map hh L]
theorem oI_free (L : List Int) : (oI L).free = true := oL_free (freeAll_map (fun x => by simp [D.free]) L)
theorem oM_free (M : List Bool) : (oM M).free = true := oL_free (freeAll_map (fun x => by simp [mkD, D.free]) M)
theorem cutL_length {α : Type} (xs : List α) (lo hi : Option Int) : (cutL xs lo hi).length ≤ xs.length := by
  unfold cutL
  rw [List.length_take, List.length_drop]
  omega

/-! ### == of typed lists -/
theorem strOk_hill : PyData.strOk "hill" = true := by decide +kernel
theorem strOk_valley : PyData.strOk "valley" = true := by decide +kernel
theorem pyAll_map : ∀ xs : List D, pyAll xs = xs.map D.py
  | [] => by simp [pyAll]
  | x :: xs => by simp [pyAll, pyAll_map xs]
/-! data that may be compared, to a depth -/
mutual
def D.good : D → Bool
  | .str s => PyData.strOk s
  | .lst xs => goodAll xs
  | .tup xs => goodAll xs
  | .ro _ => false
  | .dk _ => false
  | .ob _ _ _ => false
  | .dd _ _ => false
  | .raw _ => false
  | _ => true
def goodAll : List D → Bool
  | [] => true
  | x :: xs => x.good && goodAll xs
end
mutual
def D.deep : D → Nat
  | .lst xs => deepAll xs + 1
  | .tup xs => deepAll xs + 1
  | _ => 0
def deepAll : List D → Nat
  | [] => 0
  | x :: xs => max x.deep (deepAll xs)
end
mutual
theorem good_plain : ∀ d : D, d.good = true → d.plain = true ∧ d.py.canLay0 = true ∧ d.py.depth = d.deep
  | .non, _ => by simp [D.plain, D.py, PyData.canLay0, PyData.depth, D.deep]
  | .bl _, _ => by simp [D.plain, D.py, PyData.canLay0, PyData.depth, D.deep]
  | .int _, _ => by simp [D.plain, D.py, PyData.canLay0, PyData.depth, D.deep]
  | .str s, h => by simp [D.good] at h; simp [D.plain, D.py, PyData.canLay0, PyData.depth, D.deep, h]
  | .lst xs, h => by
    simp [D.good] at h
    obtain ⟨h1, h2, h3⟩ := goodAll_plain xs h
    simp [D.plain, D.py, PyData.canLay0, PyData.depth, D.deep, h1, h2, h3]
  | .tup xs, h => by
    simp [D.good] at h
    obtain ⟨h1, h2, h3⟩ := goodAll_plain xs h
    simp [D.plain, D.py, PyData.canLay0, PyData.depth, D.deep, h1, h2, h3]
  | .ro _, h => by simp [D.good] at h
  | .dk _, h => by simp [D.good] at h
  | .ob _ _ _, h => by simp [D.good] at h
  | .dd _ _, h => by simp [D.good] at h
  | .raw _, h => by simp [D.good] at h
theorem goodAll_plain : ∀ xs : List D, goodAll xs = true → plainAll xs = true ∧ PyData.canLayAll0 (pyAll xs) = true ∧ PyData.depthAll (pyAll xs) = deepAll xs
  | [], _ => by simp [plainAll, pyAll, PyData.canLayAll0, PyData.depthAll, deepAll]
  | x :: xs, h => by
    simp [goodAll] at h
    obtain ⟨h1, h2, h3⟩ := good_plain x h.1
    obtain ⟨q1, q2, q3⟩ := goodAll_plain xs h.2
    simp [plainAll, pyAll, PyData.canLayAll0, PyData.depthAll, deepAll, h1, h2, h3, q1, q2, q3]
end
theorem shp_of {d : D} (h : d.good = true) (hd : d.deep ≤ 64) : Shp d := by
  obtain ⟨h1, h2, h3⟩ := good_plain d h
  exact ⟨h1, by unfold SeqAt.shaped; rw [h2, h3, decide_eq_true hd]; rfl⟩
theorem goodAll_map {α : Type} {h : α → D} (hh : ∀ x, (h x).good = true) : ∀ L : List α, goodAll (L.map h) = true
  | [] => by simp [goodAll]
  | x :: L => by simp [goodAll, hh x, goodAll_map hh L]
theorem deepAll_map {α : Type} {h : α → D} {n : Nat} (hh : ∀ x, (h x).deep ≤ n) : ∀ L : List α, deepAll (L.map h) ≤ n
  | [] => by simp [deepAll]
  | x :: L => by
    have h1 := hh x
    have h2 := deepAll_map hh L
    simp [deepAll]
    omega
theorem good_dI (L : List Int) : (dI L).good = true := by unfold dI; rw [D.good]; exact goodAll_map (fun x => by simp [D.good]) L
theorem deep_dI (L : List Int) : (dI L).deep ≤ 1 := by
  unfold dI
  rw [D.deep]
  have := deepAll_map (h := D.int) (n := 0) (fun x => by simp [D.deep]) L
  omega
theorem good_mkD (b : Bool) : (mkD b).good = true := by
  unfold mkD
  rw [D.good]
  cases b
  · exact strOk_hill
  · exact strOk_valley
theorem good_dM (M : List Bool) : (dM M).good = true := by unfold dM; rw [D.good]; exact goodAll_map good_mkD M
theorem deep_dM (M : List Bool) : (dM M).deep ≤ 1 := by
  unfold dM
  rw [D.deep]
  have := deepAll_map (h := mkD) (n := 0) (fun x => by simp [mkD, D.deep]) M
  omega
theorem shp_dI (L : List Int) : Shp (dI L) := shp_of (good_dI L) (by have := deep_dI L; omega)
theorem shp_dM (M : List Bool) : Shp (dM M) := shp_of (good_dM M) (by have := deep_dM M; omega)
theorem shp_nil : Shp (.lst []) := shp_of (by simp [D.good, goodAll]) (by simp [D.deep, deepAll])
theorem eqvD_nil (xs : List D) : eqvD (.lst xs) (.lst []) = xs.isEmpty := by
  unfold eqvD
  rw [D.py, D.py, PyData.eqv]
  cases xs <;> simp [pyAll, PyData.eqvAll]
theorem eqv_mkD (a b : Bool) : eqvD (mkD a) (mkD b) = decide (a = b) := by
  unfold eqvD mkD
  rw [D.py, D.py, PyData.eqv]
  cases a <;> cases b <;> decide +kernel
theorem CmpD.eqM {X : Cx} {a b : Bool} : CmpD X .Eq (mkD a) (mkD b) (decide (a = b)) := by
  have h : CmpD X .Eq (mkD a) (mkD b) _ := CmpD.eqS
  have e : decide ((if a then ("valley" : Str) else "hill") = (if b then ("valley" : Str) else "hill")) = decide (a = b) := by cases a <;> cases b <;> decide +kernel
  rw [e] at h
  exact h
theorem CmpD.neM {X : Cx} {a b : Bool} : CmpD X .NotEq (mkD a) (mkD b) (!decide (a = b)) := by
  have h : CmpD X .NotEq (mkD a) (mkD b) _ := CmpD.neS
  have e : decide ((if a then ("valley" : Str) else "hill") = (if b then ("valley" : Str) else "hill")) = decide (a = b) := by cases a <;> cases b <;> decide +kernel
  rw [e] at h
  exact h
theorem CmpD.eqMh {X : Cx} {a : Bool} : CmpD X .Eq (mkD a) (.str "hill") (!a) := by have h : CmpD X .Eq (mkD a) (mkD false) _ := CmpD.eqM; cases a <;> exact h
theorem CmpD.eqMv {X : Cx} {a : Bool} : CmpD X .Eq (mkD a) (.str "valley") a := by have h : CmpD X .Eq (mkD a) (mkD true) _ := CmpD.eqM; cases a <;> exact h
theorem CmpD.neNil {X : Cx} {xs : List D} (hu : X.A.units + 64 < cLine) (h : Shp (.lst xs)) : CmpD X .NotEq (.lst xs) (.lst []) (!xs.isEmpty) := by
  have := CmpD.neD hu h shp_nil
  rwa [eqvD_nil] at this
theorem CmpD.eqNil {X : Cx} {xs : List D} (hu : X.A.units + 64 < cLine) (h : Shp (.lst xs)) : CmpD X .Eq (.lst xs) (.lst []) xs.isEmpty := by
  have := CmpD.eqD hu h shp_nil
  rwa [eqvD_nil] at this
theorem ixN_of {n : Nat} {z : Int} (h : 0 ≤ z ∧ z < n) : ixN n z = some z.toNat := by unfold ixN; rw [if_pos h.1, if_pos h.2]

/-! ### comprehensions that make typed lists -/
theorem rangeD0 (n : Nat) : rangeD 0 n = (List.range n).map fun (k : Nat) => D.int (k : Int) := by
  unfold rangeD
  exact List.map_congr_left fun k _ => by rw [Int.zero_add]
theorem oI_of {α : Type} (L : List α) (gi : α → Int) : O.ls (L.map fun x => O.sh (.int (gi x))) = oI (L.map gi) := by unfold oI oL; rw [List.map_map, List.map_map]; rfl
theorem oM_of {α : Type} (L : List α) (gi : α → Bool) : O.ls (L.map fun x => O.sh (mkD (gi x))) = oM (L.map gi) := by unfold oM oL; rw [List.map_map, List.map_map]; rfl
theorem oL_of {α : Type} (L : List α) (gi : α → D) : O.ls (L.map fun x => O.sh (gi x)) = oL (L.map gi) := by unfold oL; rw [List.map_map]; rfl
section
variable {X : Cx} {ρ : Rho} {ρw : RhoW} {Φ : Post} {rest : List Stmt} {tg iter a : Expr} {p pos : Pos} {j : Int}
theorem EvI.rangeN (hm : X.mg "range" = none) (h : Ev X ρ a (.int j)) (hj : -(2 ^ 62) ≤ j ∧ j < 2 ^ 62) (hg : Gl X "range" := by rfl) (hs : starEach [a] X.env = [(false, eval a X.env)] := by rfl) : EvI X ρ tg (.Call (.Name "range" p) [a] [] pos) ((List.range j.toNat).map fun (k : Nat) => D.int (k : Int)) :=
  (EvI.range1 hm h hj hg hs).is (rangeD0 _)
/-- y = [an int for x in ..], one name -/
theorem Ws.asgCI {α : Type} {y n : Str} {py spos np : Pos} {elt : Expr} {scope : Scope} (Nl : List Str) (sc : Scope) (i t : Nat) (L : List α) (h : α → D) (g : α → Int)
    (hc : X.calm = true) (hN : X.N.Nodup) (hi : EvI X (hide ρw) (.Name n np) iter (L.map h)) (hl : L.length < 100000)
    (he : ∀ x ∈ L, ∀ (s : Shared) (H : Hp) (C : Addr) (cl : List (Str × Addr)) (fp : List Addr), Ev (X.blk s H scope (compEnvC scope cl C X.env) fp) ((wipeD (hide ρw) [t]).set t (some (h x))) elt (.int (g x)))
    (k : Ws X (ρw.set i (some (.oi (L.map g)))) rest Φ)
    (ok : blkC Nl sc scope [(n, t)] = true := by decide +kernel) (hNl : Nl = X.N := by rfl) (hsc : sc = X.env.scope := by rfl)
    (hg : ∀ d, ∀ (s : Shared) (H : Hp) (C : Addr) (cl : List (Str × Addr)) (fp : List Addr), X.N.Nodup → EvG (X.blk s H scope (compEnvC scope cl C X.env) fp) (.Name n np) d [t] [d] := by intro d s H C cl fp hN; exact EvG.name _ hN)
    (hy : X.N[i]? = some y := by rfl) (hyl : X.env.scope.names.lookup y = some .local := by rfl) (hsw : swapsWith (.ListComp elt [⟨.Name n np, iter, [], 0⟩] scope pos) (some (.Name y py)) spos.line X.env = pure true := by exact sw_true rfl rfl rfl (by decide +kernel))
    (hs : ∀ x, foldedSetIterable iter X.env x = pure x := by intro _; rfl) : Ws X ρw (.Assign [.Name y py] (.ListComp elt [⟨.Name n np, iter, [], 0⟩] scope pos) spos :: rest) Φ :=
  .asgC (own := [(n, t)]) i L h (fun x => .sh (.int (g x))) [t] (fun x => [h x]) (dI (L.map g)) hc hN hi (by subst hNl hsc; exact blkOk_by ok) (by simp) (fun x _ s H C cl fp => hg _ s H C cl fp hN) (fun x hx s H C cl fp => (he x hx s H C cl fp).evO) (Nat.lt_of_lt_of_le hl (by decide)) (by rw [oI_of]; exact oI_data _) (by rw [oI_of]; exact k) hy hyl hsw hs
theorem Ws.asgCM {α : Type} {y n : Str} {py spos np : Pos} {elt : Expr} {scope : Scope} (Nl : List Str) (sc : Scope) (i t : Nat) (L : List α) (h : α → D) (g : α → Bool)
    (hc : X.calm = true) (hN : X.N.Nodup) (hi : EvI X (hide ρw) (.Name n np) iter (L.map h)) (hl : L.length < 100000)
    (he : ∀ x ∈ L, ∀ (s : Shared) (H : Hp) (C : Addr) (cl : List (Str × Addr)) (fp : List Addr), Ev (X.blk s H scope (compEnvC scope cl C X.env) fp) ((wipeD (hide ρw) [t]).set t (some (h x))) elt (mkD (g x)))
    (k : Ws X (ρw.set i (some (.om (L.map g)))) rest Φ)
    (ok : blkC Nl sc scope [(n, t)] = true := by decide +kernel) (hNl : Nl = X.N := by rfl) (hsc : sc = X.env.scope := by rfl)
    (hg : ∀ d, ∀ (s : Shared) (H : Hp) (C : Addr) (cl : List (Str × Addr)) (fp : List Addr), X.N.Nodup → EvG (X.blk s H scope (compEnvC scope cl C X.env) fp) (.Name n np) d [t] [d] := by intro d s H C cl fp hN; exact EvG.name _ hN)
    (hy : X.N[i]? = some y := by rfl) (hyl : X.env.scope.names.lookup y = some .local := by rfl) (hsw : swapsWith (.ListComp elt [⟨.Name n np, iter, [], 0⟩] scope pos) (some (.Name y py)) spos.line X.env = pure true := by exact sw_true rfl rfl rfl (by decide +kernel))
    (hs : ∀ x, foldedSetIterable iter X.env x = pure x := by intro _; rfl) : Ws X ρw (.Assign [.Name y py] (.ListComp elt [⟨.Name n np, iter, [], 0⟩] scope pos) spos :: rest) Φ :=
  .asgC (own := [(n, t)]) i L h (fun x => .sh (mkD (g x))) [t] (fun x => [h x]) (dM (L.map g)) hc hN hi (by subst hNl hsc; exact blkOk_by ok) (by simp) (fun x _ s H C cl fp => hg _ s H C cl fp hN) (fun x hx s H C cl fp => (he x hx s H C cl fp).evO) (Nat.lt_of_lt_of_le hl (by decide)) (by rw [oM_of]; exact oM_data _) (by rw [oM_of]; exact k) hy hyl hsw hs
end

/-! ### a loop that only tests -/
def wipeW (ρ : RhoW) : List Nat → RhoW
  | [] => ρ
  | i :: is => (wipeW ρ is).set i none
theorem wipeW_length (ρ : RhoW) : ∀ is : List Nat, (wipeW ρ is).length = ρ.length
  | [] => rfl
  | i :: is => by unfold wipeW; rw [List.length_set, wipeW_length ρ is]
theorem wipeW_get {ρ : RhoW} {w : W} : ∀ {is : List Nat} {j : Nat}, (wipeW ρ is)[j]? = some (some w) → ρ[j]? = some (some w) ∧ j ∉ is
  | [], j, h => ⟨h, by simp⟩
  | i :: is, j, h => by
    unfold wipeW at h
    rw [List.getElem?_set] at h
    split at h
    · split at h <;> cases h
    · rename_i e
      obtain ⟨h1, h2⟩ := wipeW_get h
      exact ⟨h1, by simp only [List.mem_cons, not_or]; exact ⟨fun z => e z.symm, h2⟩⟩
theorem EnvW.wiped {K : PySem.W.Frag} {H0 H : Hp} {σ : L2.St} {ρ : RhoW} (E : EnvW K H0 σ H ρ) (is : List Nat) {σ' : L2.St} (hl : σ'.length = σ.length) (h : ∀ j, j ∉ is → σ'[j]? = σ[j]?) : EnvW K H0 σ' H (wipeW ρ is) :=
  E.remap (fun j => some j) (by rw [hl, wipeW_length, E.len]) (fun j w hw => let ⟨h1, h2⟩ := wipeW_get hw; ⟨j, rfl, h1, h j h2⟩) (fun j j' k h1 h2 => by cases h1; cases h2; rfl)
theorem wipeD_length (ρ : Rho) : ∀ is : List Nat, (wipeD ρ is).length = ρ.length
  | [] => rfl
  | i :: is => by unfold wipeD; rw [List.length_set, wipeD_length ρ is]
theorem wipeD_get {ρ : Rho} {d : D} : ∀ {is : List Nat} {j : Nat}, (wipeD ρ is)[j]? = some (some d) → ρ[j]? = some (some d) ∧ j ∉ is
  | [], j, h => ⟨h, by simp⟩
  | i :: is, j, h => by
    unfold wipeD at h
    rw [List.getElem?_set] at h
    split at h
    · split at h <;> cases h
    · rename_i e
      obtain ⟨h1, h2⟩ := wipeD_get h
      exact ⟨h1, by simp only [List.mem_cons, not_or]; exact ⟨fun z => e z.symm, h2⟩⟩
section
variable {X : Cx} {ρ : RhoW} {Φ : Post} {rest th : List Stmt} {tg iter c : Expr} {pos p : Pos} {items : List D}
theorem Ws.forTest (is : List Nat) (bs : Nat → List D) (hp : PassesOwn (model X.prog X.w) X.A X.env X.xe) (hc : X.calm = true) (hi : EvI X (bor ρ) tg iter items)
    (hg : ∀ i d, items[i]? = some d → EvG X tg d is (bs i))
    (hb : ∀ i d, items[i]? = some d → EvT X (setD (wipeD (bor ρ) is) is (bs i)) c false)
    (hd : Ws X (wipeW ρ is) rest Φ) (hs : ∀ x, foldedSetIterable iter X.env x = pure x := by intro _; rfl) : Ws X ρ (.For tg iter [.If c th [] p] [] pos :: rest) Φ := ⟨fun H0 σ H D E k => by
  obtain ⟨F, E1⟩ := id E
  refine WSs.cons (ws_of (ps_for hp hc pi_wi pg_wg pss_wss hs) ?_)
  refine hi.run σ H E1.envB _ fun J H1 s1 src => ?_
  obtain ⟨G, Y, wk, hG, hY⟩ := src.go
  have en1 : EnvS X.K σ H1 (bor ρ) := E1.envB.mono s1
  refine for_it (g := WG X tg) (tb := fun D σ H => WSs X [.If c th [] p] σ H D) (D := { D with nx := fun σ' H' => WSs X rest σ' H' D }) wk (fun i σ' H' => Same H1 H' ∧ σ'.length = σ.length ∧ ∀ j, j ∉ is → σ'[j]? = σ[j]?) ⟨Same.refl _, rfl, fun _ _ => rfl⟩ (fun i σ' H' _ ⟨s, _⟩ => hG H' s) (fun i x σ' H' H2 hlt ⟨s, hl, hj⟩ y => ?_) (fun σ' H' ⟨s, hl, hj⟩ => ?_)
  · obtain ⟨s2, d, hd', rd⟩ := hY i H' x H2 hlt s y
    have rd' : Rep X.K H2 x d := by have := rd [] (fun a ha => by cases ha); rwa [mask_nil] at this
    show WG X tg x σ' H2 _
    refine (hg i d hd').run σ' H2 H2 x (Same.refl _) rd' _ fun vs rs => ?_
    have en : EnvS X.K (setAll σ' is vs) H2 (setD (wipeD (bor ρ) is) is (bs i)) := by
      have e0 : EnvS X.K σ' H2 (wipeD (bor ρ) is) := by
        refine ⟨by rw [hl, en1.len, wipeD_length], fun j d hjd => ?_⟩
        obtain ⟨h1, h2⟩ := wipeD_get hjd
        obtain ⟨v, e, r⟩ := en1.get j d h1
        exact ⟨v, by rw [hj j h2]; exact e, r.mono (s.trans s2)⟩
      exact e0.setAll' rs
    refine wss_of (pss_one (ps_if pt_wt pss_wss pss_nil)) ?_
    refine (hb i d hd').run _ H2 en _ fun H3 s3 => iteF ?_
    exact ⟨(s.trans s2).trans s3, by rw [setAll_length, hl], fun j h => by rw [setAll_out h, hj j h]⟩
  · have E2 := (E.grow (s1.trans s)).wiped is hl hj
    exact hd.run H0 σ' H' D E2 (k.cast (wipeW_length ρ is).symm)⟩
end
theorem eqvD_refl {d : D} (h : d.good = true) : eqvD d d = true := SeqAt.eqv_refl _ (good_plain d h).2.1
end VL
set_option Elab.async false
set_option linter.all false
set_option maxRecDepth 100000
set_option maxHeartbeats 1000000
/-! value layer, part 10: lists of ints, ranges, unpacking lists, extend, index -/
namespace VL
open PySem L2

/-! ### least and greatest -/
def loI : List Int → Int
  | [] => 0
  | x :: xs => xs.foldl min x
def hiI : List Int → Int
  | [] => 0
  | x :: xs => xs.foldl max x
theorem foldl_min : ∀ (xs : List Int) (x : Int), (xs.foldl min x = x ∨ xs.foldl min x ∈ xs) ∧ xs.foldl min x ≤ x ∧ ∀ y ∈ xs, xs.foldl min x ≤ y
  | [], x => ⟨.inl rfl, Int.le_refl _, fun y h => by cases h⟩
  | z :: xs, x => by
    obtain ⟨h1, h2, h3⟩ := foldl_min xs (min x z)
    simp only [List.foldl_cons]
    refine ⟨?_, by omega, fun y hy => ?_⟩
    · rcases h1 with h1 | h1
      · rw [h1]
        by_cases h : x ≤ z
        · exact .inl (by omega)
        · exact .inr (by simp; omega)
      · exact .inr (List.mem_cons_of_mem _ h1)
    · rcases List.mem_cons.mp hy with rfl | hy
      · omega
      · exact h3 y hy
theorem foldl_max : ∀ (xs : List Int) (x : Int), (xs.foldl max x = x ∨ xs.foldl max x ∈ xs) ∧ x ≤ xs.foldl max x ∧ ∀ y ∈ xs, y ≤ xs.foldl max x
  | [], x => ⟨.inl rfl, Int.le_refl _, fun y h => by cases h⟩
  | z :: xs, x => by
    obtain ⟨h1, h2, h3⟩ := foldl_max xs (max x z)
    simp only [List.foldl_cons]
    refine ⟨?_, by omega, fun y hy => ?_⟩
    · rcases h1 with h1 | h1
      · rw [h1]
        by_cases h : z ≤ x
        · exact .inl (by omega)
        · exact .inr (by simp; omega)
      · exact .inr (List.mem_cons_of_mem _ h1)
    · rcases List.mem_cons.mp hy with rfl | hy
      · omega
      · exact h3 y hy
theorem loI_mem {L : List Int} (h : L ≠ []) : loI L ∈ L := by
  cases L with
  | nil => exact absurd rfl h
  | cons x xs => rcases (foldl_min xs x).1 with e | e <;> simp [loI, e]
theorem hiI_mem {L : List Int} (h : L ≠ []) : hiI L ∈ L := by
  cases L with
  | nil => exact absurd rfl h
  | cons x xs => rcases (foldl_max xs x).1 with e | e <;> simp [hiI, e]
theorem loI_le {L : List Int} {y : Int} (h : y ∈ L) : loI L ≤ y := by
  cases L with
  | nil => cases h
  | cons x xs =>
    rcases List.mem_cons.mp h with rfl | h
    · exact (foldl_min xs y).2.1
    · exact (foldl_min xs x).2.2 y h
theorem hiI_le {L : List Int} {y : Int} (h : y ∈ L) : y ≤ hiI L := by
  cases L with
  | nil => cases h
  | cons x xs =>
    rcases List.mem_cons.mp h with rfl | h
    · exact (foldl_max xs y).2.1
    · exact (foldl_max xs x).2.2 y h
section
variable {X : Cx} {ρ : Rho} {e e1 e2 a b o : Expr} {p p2 pos pos2 q1 : Pos} {L : List Int} {i j : Int}
theorem Ev.minL (hc : X.calm = true) (hm : X.mg "min" = none) (h : Ev X ρ e (dI L)) (hL : L ≠ []) (hg : Gl X "min" := by rfl) (hs : starEach [e] X.env = (false, eval e X.env) :: starEach [] X.env := by rfl) (hpl : (backTo pos (starEach [] X.env)).any (·.1) = false := by rfl) : Ev X ρ (.Call (.Name "min" p) [e] [] pos) (.int (loI L)) :=
  Ev.callB (cr_min hc) hg hm (by decide +kernel) (.one h hs) (fun vs H r0 Q q => by
    obtain ⟨v, rfl, r⟩ := r0.one
    obtain ⟨a, ws, rfl, h, rs⟩ := r.lst_inv
    obtain rfl := rs.ints
    refine ⟨a, L, rfl, SqL.of h, List.length_pos_iff.mpr hL, fun m hm hle => ?_⟩
    have := hle _ (loI_mem hL)
    have := loI_le hm
    obtain rfl : m = loI L := by omega
    exact q _ H (Same.refl H) (.int _)) (by decide) (by decide) hs hpl
theorem Ev.maxL (hc : X.calm = true) (hm : X.mg "max" = none) (h : Ev X ρ e (dI L)) (hL : L ≠ []) (hg : Gl X "max" := by rfl) (hs : starEach [e] X.env = (false, eval e X.env) :: starEach [] X.env := by rfl) (hpl : (backTo pos (starEach [] X.env)).any (·.1) = false := by rfl) : Ev X ρ (.Call (.Name "max" p) [e] [] pos) (.int (hiI L)) :=
  Ev.callB (cr_max hc) hg hm (by decide +kernel) (.one h hs) (fun vs H r0 Q q => by
    obtain ⟨v, rfl, r⟩ := r0.one
    obtain ⟨a, ws, rfl, h, rs⟩ := r.lst_inv
    obtain rfl := rs.ints
    refine ⟨a, L, rfl, SqL.of h, List.length_pos_iff.mpr hL, fun m hm hle => ?_⟩
    have := hle _ (hiI_mem hL)
    have := hiI_le hm
    obtain rfl : m = hiI L := by omega
    exact q _ H (Same.refl H) (.int _)) (by decide) (by decide) hs hpl
/-- list(range(..)) -/
theorem rgV_ints (i j : Int) : rgV i j = (((List.range (j - i).toNat).map fun (k : Nat) => i + (k : Int)).map V.int) := by unfold rgV; rw [List.map_map]; rfl
theorem EvO.listRg1 (hc : X.calm = true) (hm : X.mg "list" = none) (hm2 : X.mg "range" = none) (h : Ev X ρ a (.int j)) (hj : 0 ≤ j ∧ j ≤ 100000) (hg : Gl X "list" := by rfl) (hg2 : Gl X "range" := by rfl)
    (hs2 : starEach [a] X.env = (false, eval a X.env) :: starEach [] X.env := by rfl)
    (hs : starEach [.Call (.Name "range" p2) [a] [] pos2] X.env = (false, eval (.Call (.Name "range" p2) [a] [] pos2) X.env) :: starEach [] X.env := by rfl) :
    EvO X ρ (.Call (.Name "list" p) [.Call (.Name "range" p2) [a] [] pos2] [] pos) (oI ((List.range j.toNat).map fun (k : Nat) => (k : Int))) := by
  have e : oI ((List.range j.toNat).map fun (k : Nat) => (k : Int)) = oL (((List.range (j - 0).toNat).map fun (k : Nat) => 0 + (k : Int)).map D.int) := by
    unfold oI; rw [Int.sub_zero]; simp
  rw [e]
  exact .newl fun σ H en Q q => we_of (pe_listRg hc hg hm (prg_1 hg2 hm2 pe_we hs2) hs) (h.run σ H en _ fun x H1 s1 r1 => by
    obtain rfl := r1.int_inv
    exact ⟨j, rfl, RgOk.of_le (by omega) (by omega) (by omega) (by omega), fun pp hp => by rw [rgV_ints]; exact q pp _ H1 s1 hp (reps_ints _)⟩)
theorem EvO.listRg2 (hc : X.calm = true) (hm : X.mg "list" = none) (hm2 : X.mg "range" = none) (h : Ev X ρ a (.int i)) (h2 : Ev X ρ b (.int j)) (hi : 0 ≤ i ∧ i ≤ 100000) (hj : 0 ≤ j ∧ j ≤ 100000) (hg : Gl X "list" := by rfl) (hg2 : Gl X "range" := by rfl)
    (hs2 : starEach [a, b] X.env = (false, eval a X.env) :: starEach [b] X.env := by rfl) (hs3 : starEach [b] X.env = (false, eval b X.env) :: starEach [] X.env := by rfl) (hp2 : (backTo pos2 (starEach [b] X.env)).any (·.1) = false := by rfl)
    (hs : starEach [.Call (.Name "range" p2) [a, b] [] pos2] X.env = (false, eval (.Call (.Name "range" p2) [a, b] [] pos2) X.env) :: starEach [] X.env := by rfl) :
    EvO X ρ (.Call (.Name "list" p) [.Call (.Name "range" p2) [a, b] [] pos2] [] pos) (oI ((List.range (j - i).toNat).map fun (k : Nat) => i + (k : Int))) := by
  exact .newl fun σ H en Q q => we_of (pe_listRg hc hg hm (prg_2 hg2 hm2 pe_we pe_we hs2 hs3 hp2) hs) (h.run σ H en _ fun x H1 s1 r1 => h2.run σ H1 (en.mono s1) _ fun y H2 s2 r2 => by
    obtain rfl := r1.int_inv
    obtain rfl := r2.int_inv
    exact ⟨i, j, rfl, rfl, RgOk.of_le (by omega) (by omega) (by omega) (by omega), fun pp hp => by rw [rgV_ints]; exact q pp _ H2 (s1.trans s2) hp (reps_ints _)⟩)
/-- xs.index(k) -/
theorem flat_ints (ns : List Int) : (ns.map V.int).all flatV = true := by rw [List.all_map]; exact List.all_eq_true.mpr fun x _ => rfl
theorem Ev.indexI {z : Int} {k : Nat} (ha : Ev X ρ o (dI L)) (hb : Ev X ρ e (.int z)) (hk : L[k]? = some z) (hno : ∀ m, m < k → L[m]? ≠ some z)
    (hpe : ∀ {t t2}, PE X o t → PE X e t2 → PE X (.Call (.Attribute o "index" q1) [e] [] pos) (tBM X.K "list" (rIndex X.K) t (tCons t2 tNil)) := by
      intro t t2 h1 h2; exact pe_bm PySem.F.plainAttrs_list PySem.F.slot_list_index PySem.F.type_list_index mt_index h1 (pa_cons h2 pa_nil)) : Ev X ρ (.Call (.Attribute o "index" q1) [e] [] pos) (.int (k : Int)) :=
  ⟨fun σ H en Q q => we_of (hpe pe_we pe_we) (ha.run σ H en _ fun x H1 s1 r1 => by
    obtain ⟨a, vs, rfl, h1, rs⟩ := id r1.lst_inv
    refine ⟨.inl ⟨rfl, vs, SqL.of h1⟩, hb.run σ H1 (en.mono s1) _ fun y H2 s2 r2 => ?_⟩
    obtain rfl := r2.int_inv
    obtain rfl := rs.ints
    refine ⟨a, L.map V.int, .int z, k, .int z, rfl, rfl, (s2.seq (SqL.of h1)), rfl, flat_ints L, by rw [List.getElem?_map, hk]; rfl, by simp [eqV], fun m z' hm hz' => ?_, q _ H2 (s1.trans s2) (.int _)⟩
    rw [List.getElem?_map] at hz'
    obtain ⟨w, e1, rfl⟩ := Option.map_eq_some_iff.mp hz'
    have hw : w ≠ z := fun e => hno m hm (by rw [e1, e])
    simp [eqV, hw])⟩
end
section
variable {X : Cx} {ρ : RhoW} {Φ : Post} {rest : List Stmt} {e : Expr} {p pos : Pos} {d d2 : D}
/-- x, y = e, e a new list of two shared things -/
theorem Ws.unpackL2 {x y : Str} (i j : Nat) {k1 : Nat} {p1 p2 tp : Pos} (hc : X.calm = true) (hN : X.N.Nodup) (h : EvW X ρ e fun w ρ' => (∃ d', w = .ow (oL [d, d2]) d') ∧ Ws X (setW ρ' [i, j] [d, d2]) rest Φ)
    (hps : ∀ {te}, X.N.Nodup → PE X e te → PS X (.Assign [.Tuple [.Name x p1, .Name y p2] k1 tp] e pos) (tAsg te (gLst X.K 2 (gCons (gName i) (gCons (gName j) gNil)))) := by
      intro te hN ht; exact ps_asg ht (pg_lst rfl (pgs_cons (pg_name hN rfl (by first | exact Or.inl rfl | exact Or.inr rfl)) (pgs_cons (pg_name hN rfl (by first | exact Or.inl rfl | exact Or.inr rfl)) pgs_nil)))) 
    (hij : (decide (i < ρ.length) && decide (j < ρ.length)) = true := by rfl) :
    Ws X ρ (.Assign [.Tuple [.Name x p1, .Name y p2] k1 tp] e pos :: rest) Φ := ⟨fun H0 σ H D E kk =>
  WSs.cons (ws_of (hps hN pe_we) (h.run H0 σ H E _ fun v H' w ρ' q l E' => by
    have hij := Bool.and_eq_true_iff.mp hij
    have hi : i < ρ.length := of_decide_eq_true hij.1
    have hj : j < ρ.length := of_decide_eq_true hij.2
    obtain ⟨⟨d', rfl⟩, q⟩ := q
    have hl : σ.length = ρ'.length := by have := E'.len; simpa using this
    have E2 := E'.share (i := ρ'.length) (o := oL [d, d2]) (d := d') (by simp)
    rw [List.set_append_right _ _ (Nat.le_refl _), Nat.sub_self, List.set_cons_zero] at E2
    obtain ⟨F, E3⟩ := id E'
    have hd : d' = .lst [d, d2] := by
      obtain ⟨v', _, r⟩ := E3.get ρ'.length (.ow (oL [d, d2]) d') (by simp)
      rw [← r.1, oL_data]
    subst hd
    obtain ⟨F, E3⟩ := E2
    obtain ⟨v', hv', r⟩ := E3.get ρ'.length (.sh (.lst [d, d2])) (by simp)
    obtain rfl : v' = v := by rw [← hl] at hv'; simp at hv'; exact hv'.symm
    obtain ⟨a, vs, rfl, ha, rs⟩ := r.1.lst_inv
    obtain ⟨v1, t1, rfl, r1, rs1⟩ := id rs.cons_split
    obtain ⟨v2, t2, rfl, r2, rs2⟩ := id rs1.cons_split
    obtain rfl := rs2.nil_inv
    refine ⟨a, [v1, v2], rfl, SqL.of (mask_some ha).1, rfl, v1, [v2], rfl, v2, [], rfl, rfl, ?_⟩
    have E4 := EnvW.store (is := [i, j]) E3 (Same.refl _) rs
    simp only [setAll, setW] at E4
    rw [List.set_append_left _ _ (by omega), List.set_append_left _ _ (by simp; omega), List.set_append_left _ _ (by omega), List.set_append_left _ _ (by simp; omega)] at E4
    refine q.run H0 _ H' D ?_ (kk.cast (by simp [setW, l]))
    exact EnvW.pop E4))⟩
/-- x.extend(e), e shared -/
theorem Ws.extend {x : Str} (i : Nat) {ds es : List D} (ds' : List D) {d1 : D} {q1 q2 : Pos} (h : EvW X ρ e (shD (.lst es) ρ)) (hL : ds ++ es = ds') (k : Ws X (ρ.set i (some (.ow (oL ds') (.lst ds')))) rest Φ) (hz : ds.length + es.length ≤ 100000) (hN : X.N[i]? = some x := by rfl) (hρ : ρ[i]? = some (some (.ow (oL ds) d1)) := by rfl)
    (hpe : ∀ {t}, PE X e t → PE X (.Call (.Attribute (.Name x q1) "extend" q2) [e] [] p) (tBM X.K "list" rExtend (tVar i) (tCons t tNil)) := by
      intro t ht; exact pe_bm PySem.F.plainAttrs_list PySem.F.slot_list_extend PySem.F.type_list_extend mt_extend (pv _) (pa_cons ht pa_nil))
    (hs : swapsWith (.Call (.Attribute (.Name x q1) "extend" q2) [e] [] p) none pos.line X.env = pure false := by rfl) : Ws X ρ (.Expr (.Call (.Attribute (.Name x q1) "extend" q2) [e] [] p) pos :: rest) Φ := ⟨fun H0 σ H D E kk =>
  WSs.cons (ws_of (ps_expr (hpe pe_we) hs) (by
    obtain ⟨F, E1⟩ := id E
    obtain ⟨a, vs, hσ, ha, _, _⟩ := E1.flat hρ
    refine ⟨.ref a, hσ, .inl ⟨rfl, vs, SqL.of ha⟩, h.run H0 σ H E _ fun v H' w ρ' q l E' => ?_⟩
    obtain ⟨rfl, rfl⟩ := q
    have hi := (List.getElem?_eq_some_iff.mp hρ).1
    have hl := E.len
    obtain ⟨F', E2⟩ := E'
    have hρ' : (ρ' ++ [some (W.sh (.lst es))])[i]? = some (some (.ow (oL ds) d1)) := by rw [List.getElem?_append_left hi]; exact hρ
    obtain ⟨a', vs', hσ', ha', hF, rs'⟩ := E2.flat hρ'
    have eav : a' = a := by
      rw [List.getElem?_append_left (by omega), hσ] at hσ'
      simpa using hσ'.symm
    subst eav
    obtain ⟨v', hv', rv⟩ := E2.get ρ'.length (.sh (.lst es)) (by simp)
    have ev : v' = v := by rw [← hl] at hv'; simp at hv'; exact hv'.symm
    subst ev
    obtain ⟨b, ws, rfl, hb, rb⟩ := rv.1.lst_inv
    refine ⟨a', b, vs', ws, rfl, rfl, ha', (mask_some hb).1, by rw [rs'.1, rb.1]; exact Nat.le_trans hz (by decide), ?_⟩
    have En := (E2.mutF hρ' hσ' hF (rs'.append rb)).1
    rw [List.set_append_left _ _ hi, hL] at En
    exact k.run H0 σ _ D (EnvW.pop ⟨_, En⟩) (kk.cast (by simp))))⟩
end
end VL
set_option Elab.async false
set_option linter.all false
set_option maxRecDepth 100000
set_option maxHeartbeats 1000000
/-! value layer, part 11: own things within own things -/
namespace VL
open PySem L2

/-! ### displays of own things -/
section
variable {X : Cx} {ρ : Rho} {e : Expr} {es : List Expr} {o : O} {os : List O} {pos : Pos} {σ : L2.St} {H : Hp} {d : D}
theorem WA.mono {Q Q' : List V → Hp → Prop} (h : WA X es σ H Q) (m : ∀ v H', Q v H' → Q' v H') : WA X es σ H Q' := fun pos pins s I =>
  thn (h pos pins s I) fun u s' ⟨v, H', I', r, q⟩ => ⟨v, H', I', r, m v H' q⟩
theorem WA.frame {as : List Addr} {Q : List V → Hp → Prop} (hl : Hid H as) (h : WA X es σ (mask H as) Q) :
    WA X es σ H (fun v H' => ∃ M, Q v M ∧ H' = join M H as ∧ (∀ a ∈ as, M a = none) ∧ Same M H') := fun pos pins s I => by
  obtain ⟨own, h1, h2, J⟩ := Inv.hide I hl
  refine thn (h pos _ s J) fun u s' ⟨v, M, J', r, q⟩ => ?_
  obtain ⟨I', n, up⟩ := Inv.show' I hl h1 J'
  exact ⟨v, _, I', r, M, q, rfl, n, up⟩
theorem EvAO.nil : EvAO X ρ [] [] := ⟨fun σ H en Q q => wa_of pa_nil (q [] H [] (Same.refl H) (by simp) (by simp) .nil)⟩
theorem EvAO.cons (h : EvO X ρ e o) (t : EvAO X ρ es os) (hs : starEach (e :: es) X.env = (false, eval e X.env) :: starEach es X.env := by rfl) : EvAO X ρ (e :: es) (o :: os) :=
  ⟨fun σ H en Q q => wa_of (pa_cons pe_we pa_wa hs) (h.run σ H en _ fun v H1 A s1 f1 nd1 r1 => by
    refine (WA.frame r1.cells (t.run σ (mask H1 A) (en.mono (mask_same_of s1 f1)) (fun vs M => ∃ As : List (List Addr), Same (mask H1 A) M ∧ (∀ a ∈ As.flatten, mask H1 A a = none) ∧ As.flatten.Nodup ∧ RepOs X.K M (mask M As.flatten) vs os As) fun vs M As s f n r => ⟨As, s, f, n, r⟩)).mono ?_
    rintro vs H2 ⟨M, ⟨As, s, f, nd, r⟩, rfl, n, up⟩
    have hdis : ∀ a, a ∈ A → a ∈ As.flatten → False := fun a h1 h2 => by
      exact r.cells.some h2 (n a h1)
    refine q (v :: vs) _ (A :: As) (fun b u z => ?_) (fun a ha => ?_) ?_ (.cons (r1.keep (fun a ha u z => ?_) fun b u z => ?_) (r.keep (fun a ha u z => ?_) fun b u z => ?_))
    · have hb : b ∉ A := fun y => by rw [f1 b y] at z; cases z
      exact up _ _ (s _ _ (by rw [mask_out hb]; exact s1 _ _ z))
    · rw [List.flatten_cons] at ha
      rcases List.mem_append.mp ha with ha | ha
      · exact f1 a ha
      · have hA : a ∉ A := fun y => hdis a y ha
        have := f a ha
        rw [mask_out hA] at this
        cases hh : H a with
        | none => rfl
        | some u => rw [s1 _ _ hh] at this; cases this
    · rw [List.flatten_cons]
      exact List.nodup_append.mpr ⟨nd1, nd, fun a h1 b h2 e => hdis a h1 (e ▸ h2)⟩
    · rw [join_in ha]; exact z
    · obtain ⟨z1, z2⟩ := mask_some z
      have hM := s _ _ z
      have hf : b ∉ As.flatten := fun y => by rw [f b y] at z; cases z
      rw [List.flatten_cons, mask_out (fun y => (List.mem_append.mp y).elim z2 hf)]
      exact up _ _ hM
    · rw [join_out (fun y => hdis a y ha)]; exact z
    · obtain ⟨z1, z2⟩ := mask_some z
      have hA : b ∉ A := fun y => by rw [n b y] at z1; cases z1
      rw [List.flatten_cons, mask_out (fun y => (List.mem_append.mp y).elim hA z2)]
      exact up _ _ z1)⟩
theorem EvO.tupO (h : EvAO X ρ es os) {x1} (hl : os.length ≤ 1000 := by simp) : EvO X ρ (.Tuple es x1 pos) (.tu os) :=
  ⟨fun σ H en Q q => we_of (pe_tup pa_wa) (h.run σ H en _ fun vs H1 As s1 f1 nd r1 => ⟨by rw [r1.1]; exact Nat.le_trans hl (by decide), fun p hp => by
    have hpA : p ∉ As.flatten := fun y => r1.cells.some y hp
    have s2 : Same (mask H1 As.flatten) (mask (upd H1 p (.tup vs)) As.flatten) := fun b u z => by
      obtain ⟨z1, z2⟩ := mask_some z
      rw [mask_out z2, upd_ne (ne_of_none z1 hp)]
      exact z1
    have r2 := r1.keep (H' := upd H1 p (.tup vs)) (fun a ha u z => by rw [upd_ne (ne_of_none z hp)]; exact z) s2
    exact q _ _ As.flatten (s1.trans (Same.new hp)) f1 nd (.tu (by rw [mask_out hpA]; exact upd_same) r2.1 r2.2.1 r2.2.2)⟩)⟩
theorem EvO.pairO {e1 e2 : Expr} {o1 o2 : O} {x1} (h : EvO X ρ e1 o1) (h2 : EvO X ρ e2 o2) (hs : starEach [e1, e2] X.env = (false, eval e1 X.env) :: starEach [e2] X.env := by rfl) (hs2 : starEach [e2] X.env = (false, eval e2 X.env) :: starEach [] X.env := by rfl) : EvO X ρ (.Tuple [e1, e2] x1 pos) (.tu [o1, o2]) :=
  .tupO (.cons h (.cons h2 .nil hs2) hs)
end

/-! ### paths -/
inductive Pe where
  | ix (k : Nat) | fld (C : Addr) (k : Nat) (f : Str) | key (k : Nat) (x : Key) | pin
def Pe.n : Pe → Nat
  | .ix k => k
  | .fld _ k _ => k
  | .key k _ => k
  | .pin => 0
def stepV (H : Hp) (v : V) (w : V) : Pe → Prop
  | .ix k => ∃ b vs, v = .ref b ∧ (H b = some (.lst vs) ∨ H b = some (.tup vs)) ∧ vs[k]? = some w
  | .fld C _ f => ∃ b dx fs, v = .ref b ∧ H b = some (.ins C dx fs) ∧ fs.lookup f = some w
  | .key _ x => ∃ b kvs, v = .ref b ∧ H b = some (.dK kvs) ∧ valV kvs x = some w
  | .pin => w = v
theorem stepV.det {H H' : Hp} {v w w' : V} {q : Pe} (s : Same H H') (h : stepV H v w q) (h' : stepV H' v w' q) : w' = w := by
  cases q with
  | ix k =>
    obtain ⟨b, vs, rfl, h1, h2⟩ := h
    obtain ⟨b', vs', e, h1', h2'⟩ := h'
    obtain rfl : b = b' := by simpa using e
    have : vs' = vs := by
      rcases h1 with h1 | h1 <;> rcases h1' with h1' | h1' <;> rw [s _ _ h1] at h1' <;> simp at h1' <;> exact h1'.symm
    subst this
    rw [h2] at h2'
    exact (Option.some.inj h2').symm
  | fld C k f =>
    obtain ⟨b, dx, fs, rfl, h1, h2⟩ := h
    obtain ⟨b', dx', fs', e, h1', h2'⟩ := h'
    obtain rfl : b = b' := by simpa using e
    rw [s _ _ h1] at h1'
    cases h1'
    rw [h2] at h2'
    exact (Option.some.inj h2').symm
  | key k x =>
    obtain ⟨b, kvs, rfl, h1, h2⟩ := h
    obtain ⟨b', kvs', e, h1', h2'⟩ := h'
    obtain rfl : b = b' := by simpa using e
    rw [s _ _ h1] at h1'
    cases h1'
    rw [h2] at h2'
    exact (Option.some.inj h2').symm
  | pin => rw [show w = v from h]; exact h'
def At (H : Hp) (u : V) : List Pe → V → Prop
  | [], v => v = u
  | q :: p, v => ∃ w, stepV H v w q ∧ At H u p w
theorem At.snoc {H : Hp} {u : V} {q : Pe} : ∀ {p : List Pe} {v : V}, At H u (p ++ [q]) v → ∃ w, At H w p v ∧ stepV H w u q
  | [], v, h => by
    obtain ⟨w, h1, h2⟩ := h
    have h2 : w = u := h2
    subst h2
    exact ⟨v, rfl, h1⟩
  | j :: p, v, h => by
    obtain ⟨w, h1, h2⟩ := h
    obtain ⟨x, q1, q2⟩ := At.snoc h2
    exact ⟨x, ⟨w, h1, q1⟩, q2⟩
theorem At.det {H H' : Hp} {u u' : V} (s : Same H H') : ∀ {p : List Pe} {v : V}, At H u p v → At H' u' p v → u' = u
  | [], v, h, h' => by rw [show v = u from h] at h'; exact (show u = u' from h').symm
  | q :: p, v, ⟨w, h1, h2⟩, ⟨w', h1', h2'⟩ => by
    obtain rfl := h1.det s h1'
    exact At.det s h2 h2'
def O.kid : O → Nat → Option O
  | .ls xs, k => xs[k]?
  | .tu xs, k => xs[k]?
  | .ob _ _ xs, k => xs[k]?
  | .dd _ xs, k => xs[k]?
  | .pin _ o, 0 => some o
  | _, _ => none
def O.sub (o : O) : List Pe → Option O
  | [] => some o
  | q :: p => (o.kid q.n).bind fun x => x.sub p
def O.setKid : O → Nat → O → O
  | .ls xs, k, x => .ls (xs.set k x)
  | .tu xs, k, x => .tu (xs.set k x)
  | .ob C ks xs, k, x => .ob C ks (xs.set k x)
  | .dd ks xs, k, x => .dd ks (xs.set k x)
  | .pin a _, _, x => .pin a x
  | o, _, _ => o
def O.put (o n : O) : List Pe → O
  | [] => n
  | q :: p => match o.kid q.n with
    | some x => o.setKid q.n (x.put n p)
    | none => o
/-- the path's words are the thing's -/
def O.okK : O → Pe → Prop
  | .ls _, .ix _ => True
  | .tu _, .ix _ => True
  | .ob C ks _, .fld C' k f => C' = C ∧ ks[k]? = some f
  | .dd ks _, .key k x => ks[k]? = some x
  | .pin _ _, .pin => True
  | _, _ => False
def O.okP (o : O) : List Pe → Prop
  | [] => True
  | q :: p => o.okK q ∧ ∀ x, o.kid q.n = some x → x.okP p
/-- where a reference to the own list at a place of slot i comes from -/
structure Rcv (X : Cx) (e : Expr) (i : Nat) (p : List Pe) : Prop where
  run : ∀ (σ : L2.St) (H : Hp) (v u : V) (Q : VK), σ[i]? = some (some v) → At H u p v → Q u H → WE X e σ H Q
section
variable {X : Cx} {e : Expr} {i : Nat} {p : List Pe} {pos : Pos}
theorem Rcv.name (i : Nat) {x : Str} (hN : X.N[i]? = some x := by rfl) (hv : Vis X.env.scope x := by first | exact Or.inl rfl | exact Or.inr (Or.inl rfl) | exact Or.inr (Or.inr rfl)) (hd : (x == ("__debug__" : Str)) = false := by decide)
    (hcd : (x == ("__classdict__" : Str)) = false := by decide) : Rcv X (.Name x pos) i [] :=
  ⟨fun σ H v u Q h1 h2 q => we_of (pv i hN hv hd hcd) ⟨v, h1, by obtain rfl := h2; exact q⟩⟩
theorem Rcv.ix (h : Rcv X e i p) (k : Nat) {n : Nat} {q : Pos} {z : Int} (hz : z = (k : Int) := by rfl) (hs : PlainIx (.Constant (.int z) n q) := by exact fun _ _ => rfl) : Rcv X (.Subscript e (.Constant (.int z) n q) pos) i (p ++ [.ix k]) :=
  ⟨fun σ H v u Q h1 h2 q => by
    subst hz
    obtain ⟨w, q1, b, vs, rfl, q2, q3⟩ := h2.snoc
    have hk := (List.getElem?_eq_some_iff.mp q3).1
    have hat : atI vs (k : Int) = some u := by
      unfold atI ixN
      rw [if_pos (by omega), if_pos (by omega)]
      exact q3
    rcases q2 with q2 | q2
    · exact we_of (pe_ix ix_list pe_we pe_int hs) (h.run σ H v (.ref b) _ h1 q1 ⟨b, vs, _, u, rfl, rfl, SqL.of q2, hat, q⟩)
    · exact we_of (pe_ix ix_tup pe_we pe_int hs) (h.run σ H v (.ref b) _ h1 q1 ⟨b, vs, _, u, rfl, rfl, SqT.of q2, hat, q⟩)⟩
theorem Rcv.fld (h : Rcv X e i p) (C : Addr) (k : Nat) {f : Str} (hc : Cls X.K C) (hn : NoAttr X.K C f) (hb : attributeBase e f X.env (eval e X.env) = eval e X.env := by rfl) : Rcv X (.Attribute e f pos) i (p ++ [.fld C k f]) :=
  ⟨fun σ H v u Q h1 h2 q => by
    obtain ⟨w, q1, b, dx, fs, rfl, q2, q3⟩ := h2.snoc
    exact we_of (pe_fld pe_we hb) (h.run σ H v (.ref b) _ h1 q1 ⟨b, C, dx, fs, u, rfl, q2, hc, hn, q3, q⟩)⟩
theorem Rcv.pin (h : Rcv X e i p) : Rcv X e i (p ++ [.pin]) :=
  ⟨fun σ H v u Q h1 h2 q => by
    obtain ⟨w, q1, q2⟩ := h2.snoc
    have q2 : u = w := q2
    subst q2
    exact h.run σ H v u Q h1 q1 q⟩
theorem Rcv.key (h : Rcv X e i p) (k : Nat) {x : Str} {n : Nat} {q : Pos} (hu : X.A.units + 1 < cLine) (hs : NoSl (.Constant (.str x) n q) := by exact fun _ _ => rfl) : Rcv X (.Subscript e (.Constant (.str x) n q) pos) i (p ++ [.key k (.inr x)]) :=
  ⟨fun σ H v u Q h1 h2 q => by
    obtain ⟨w, q1, b, kvs, rfl, q2, q3⟩ := h2.snoc
    exact we_of (pe_dget hu pe_we pe_str hs) (h.run σ H v (.ref b) _ h1 q1 ⟨b, u, rfl, q3 ▸ DGet.k (k := .inr x) q2, q⟩)⟩
end
section
variable {K : PySem.W.Frag} {H0 H S : Hp} {v : V} {o : O} {d : D} {A : List Addr} {ds : List D}
theorem RepO.flat (r : RepO K H S v (oL ds) A) : ∃ a vs, v = .ref a ∧ H a = some (.lst vs) ∧ A = [a] ∧ Reps K S vs ds := by
  unfold oL at r
  cases r with
  | @ls a vs _ As q1 q2 q3 q4 =>
    have hnil : ∀ B ∈ As, B = [] := fun B hB => by
      obtain ⟨k, hk⟩ := List.getElem?_of_mem hB
      have l := (List.getElem?_eq_some_iff.mp hk).1
      simp at q2 q3
      have e1 : vs[k]? = some vs[k] := List.getElem?_eq_getElem (by omega)
      have e2 : (ds.map O.sh)[k]? = some (O.sh (ds[k]'(by omega))) := by simp [show k < ds.length by omega]
      exact (q4 k _ _ B e1 e2 hk).sh_inv.1
    have hflat : As.flatten = [] := List.flatten_eq_nil_iff.mpr hnil
    rw [hflat]
    refine ⟨a, vs, rfl, q1, rfl, by simpa using q2, fun k v d e1 e2 => ?_⟩
    have l := (List.getElem?_eq_some_iff.mp e2).1
    simp at q2 q3
    exact (q4 k v (.sh d) As[k] e1 (by simp [e2]) (List.getElem?_eq_getElem (by omega))).sh_inv.2
theorem repO_flat {a : Addr} {vs : List V} (h : H a = some (.lst vs)) (r : Reps K S vs ds) : RepO K H S (.ref a) (oL ds) [a] := by
  have rr := repOs_sh (K := K) (H := H) r
  have := RepO.ls (K := K) (S := S) h rr.1 rr.2.1 rr.2.2
  rw [flat_nil] at this
  exact this
theorem flat_split {As : List (List Addr)} {k : Nat} {B : List Addr} (h : As[k]? = some B) : As.flatten = (As.take k).flatten ++ (B ++ (As.drop (k + 1)).flatten) := by
  have hk := (List.getElem?_eq_some_iff.mp h)
  obtain ⟨hk, rfl⟩ := hk
  have e : (As.take k ++ (As[k] :: As.drop (k + 1))).flatten = As.flatten := by rw [← List.drop_eq_getElem_cons hk, List.take_append_drop]
  rw [← e, List.flatten_append, List.flatten_cons]
theorem flat_other {As : List (List Addr)} (nd : As.flatten.Nodup) {j k : Nat} {B C : List Addr} (h : As[k]? = some B) (h2 : As[j]? = some C) (hjk : j ≠ k) {a : Addr} (ha : a ∈ B) : a ∉ C := fun hc => by
  rw [flat_split h] at nd
  obtain ⟨_, n2, n3⟩ := List.nodup_append.mp nd
  obtain ⟨_, _, n4⟩ := List.nodup_append.mp n2
  by_cases hlt : j < k
  · have : C ∈ As.take k := by
      refine List.mem_of_getElem? (i := j) ?_
      rw [List.getElem?_take, if_pos hlt]; exact h2
    exact n3 a (List.mem_flatten.mpr ⟨C, this, hc⟩) a (List.mem_append_left _ ha) rfl
  · have : C ∈ As.drop (k + 1) := by
      refine List.mem_of_getElem? (i := j - (k + 1)) ?_
      rw [List.getElem?_drop, show k + 1 + (j - (k + 1)) = j by omega]; exact h2
    exact n4 a ha a (List.mem_flatten.mpr ⟨C, this, hc⟩) rfl
theorem RepO.at : ∀ {p : List Pe} {v : V} {o : O} {A : List Addr}, RepO K H S v o A → Same S H → A.Nodup → o.okP p → o.sub p = some (oL ds) →
    ∃ a vs, At H (.ref a) p v ∧ H a = some (.lst vs) ∧ Reps K S vs ds ∧ a ∈ A ∧ ∀ vs' ds', Reps K S vs' ds' → RepO K (upd H a (.lst vs')) S v (o.put (oL ds') p) A
  | [], v, o, A, r, s, nd, _, h => by
    obtain rfl := Option.some.inj h
    obtain ⟨a, vs, rfl, h1, rfl, h2⟩ := r.flat
    exact ⟨a, vs, rfl, h1, h2, by simp, fun vs' ds' r' => repO_flat upd_same r'⟩
  | q :: p, v, o, A, r, s, nd, ok, h => by
    unfold O.sub at h
    obtain ⟨x, hx, h⟩ := Option.bind_eq_some_iff.mp h
    obtain ⟨ok1, ok2⟩ := ok
    have ok2 := ok2 x hx
    have key : ∀ (vs : List V) (xs : List O) (As : List (List Addr)), vs.length = xs.length → As.length = xs.length →
        (∀ (i : Nat) v o A, vs[i]? = some v → xs[i]? = some o → As[i]? = some A → RepO K H S v o A) → xs[q.n]? = some x → As.flatten.Nodup →
        ∃ a ws w, vs[q.n]? = some w ∧ At H (.ref a) p w ∧ H a = some (.lst ws) ∧ Reps K S ws ds ∧ a ∈ As.flatten ∧
          ∀ vs' ds', Reps K S vs' ds' → ∀ (i : Nat) v o A, vs[i]? = some v → (xs.set q.n (x.put (oL ds') p))[i]? = some o → As[i]? = some A → RepO K (upd H a (.lst vs')) S v o A := by
      intro vs xs As l1 l2 hr hxk hnd
      have hk := (List.getElem?_eq_some_iff.mp hxk).1
      have hw : vs[q.n]? = some vs[q.n] := List.getElem?_eq_getElem (by omega)
      have hB : As[q.n]? = some As[q.n] := List.getElem?_eq_getElem (by omega)
      have ndB : As[q.n].Nodup := by
        rw [flat_split hB] at hnd
        exact (List.nodup_append.mp (List.nodup_append.mp hnd).2.1).1
      obtain ⟨a, ws, q1, q2, q3, q4, q5⟩ := RepO.at (hr q.n _ _ _ hw hxk hB) s ndB ok2 h
      refine ⟨a, ws, _, hw, q1, q2, q3, List.mem_flatten.mpr ⟨_, List.mem_of_getElem? hB, q4⟩, fun vs' ds' r' i v o A e1 e2 e3 => ?_⟩
      by_cases hik : i = q.n
      · subst hik
        rw [hw] at e1
        rw [hB] at e3
        obtain rfl := Option.some.inj e1
        obtain rfl := Option.some.inj e3
        rw [List.getElem?_set_self (by omega)] at e2
        obtain rfl := Option.some.inj e2
        exact q5 vs' ds' r'
      · rw [List.getElem?_set_ne (Ne.symm hik)] at e2
        refine (hr i v o A e1 e2 e3).keep (fun c hc u z => ?_) (Same.refl S)
        rw [upd_ne (fun y => by subst y; exact flat_other hnd hB e3 hik q4 hc)]
        exact z
    cases r with
    | sh q => cases hx
    | @ls b vs xs As h1 h2 h3 h4 =>
      cases q with
      | ix k =>
        obtain ⟨nb, nd'⟩ := List.nodup_cons.mp nd
        obtain ⟨a, ws, w, q0, q1, q2, q3, q4, q5⟩ := key vs xs As h2 h3 h4 hx nd'
        refine ⟨a, ws, ⟨w, ⟨b, vs, rfl, .inl h1, q0⟩, q1⟩, q2, q3, List.mem_cons_of_mem _ q4, fun vs' ds' r' => ?_⟩
        unfold O.put
        rw [hx]
        refine .ls (vs := vs) ?_ (by simp [h2]) (by simp [h3]) (q5 vs' ds' r')
        rw [upd_ne (fun y => by subst y; exact nb q4)]
        exact h1
      | fld C k f => exact ok1.elim
      | key k y => exact ok1.elim
      | pin => exact ok1.elim
    | @tu b vs xs As h1 h2 h3 h4 =>
      cases q with
      | ix k =>
        obtain ⟨a, ws, w, q0, q1, q2, q3, q4, q5⟩ := key vs xs As h2 h3 h4 hx nd
        refine ⟨a, ws, ⟨w, ⟨b, vs, rfl, .inr (s _ _ h1), q0⟩, q1⟩, q2, q3, q4, fun vs' ds' r' => ?_⟩
        unfold O.put
        rw [hx]
        exact .tu (vs := vs) h1 (by simp [h2]) (by simp [h3]) (q5 vs' ds' r')
      | fld C k f => exact ok1.elim
      | key k y => exact ok1.elim
      | pin => exact ok1.elim
    | @pin a o A h1 =>
      cases q with
      | ix k => exact ok1.elim
      | fld C k f => exact ok1.elim
      | key k y => exact ok1.elim
      | pin =>
        obtain rfl : x = o := (Option.some.inj hx).symm
        obtain ⟨c, ws, q1, q2, q3, q4, q5⟩ := RepO.at h1 s nd (ok2 x rfl) h
        refine ⟨c, ws, ⟨_, rfl, q1⟩, q2, q3, q4, fun vs' ds' r' => ?_⟩
        unfold O.put
        rw [hx]
        exact .pin (q5 vs' ds' r')
    | @ob b C dx fs ks vs xs As h1 h2 hz h3 h4 h5 h6 h7 h8 =>
      cases q with
      | ix k => exact ok1.elim
      | key k y => exact ok1.elim
      | pin => exact ok1.elim
      | fld C' k f =>
        obtain ⟨rfl, hf⟩ := ok1
        obtain ⟨nb, nd1⟩ := List.nodup_cons.mp nd
        obtain ⟨nb2, nd'⟩ := List.nodup_cons.mp nd1
        obtain ⟨a, ws, w, q0, q1, q2, q3, q4, q5⟩ := key vs xs As h6 h7 h8 hx nd'
        refine ⟨a, ws, ⟨w, ⟨b, dx, fs, rfl, h1, h4 k f w hf q0⟩, q1⟩, q2, q3, List.mem_cons_of_mem _ (List.mem_cons_of_mem _ q4), fun vs' ds' r' => ?_⟩
        unfold O.put
        rw [hx]
        refine .ob (vs := vs) ?_ ?_ hz h3 h4 h5 (by simp [h6]) (by simp [h7]) (q5 vs' ds' r')
        · rw [upd_ne (fun y => by subst y; exact nb (List.mem_cons_of_mem _ q4))]
          exact h1
        · rw [upd_ne (fun y => by subst y; exact nb2 q4)]
          exact h2
    | @dd b kvs vs ks xs As h1 h2 h3 h4 h5 h6 =>
      cases q with
      | ix k => exact ok1.elim
      | fld C k f => exact ok1.elim
      | pin => exact ok1.elim
      | key k y =>
        obtain ⟨a, ws, w, q0, q1, q2, q3, q4, q5⟩ := key vs xs As h4 h5 h6 hx nd
        refine ⟨a, ws, ⟨w, ⟨b, kvs, rfl, s _ _ h1, h3 k y w ok1 q0⟩, q1⟩, q2, q3, q4, fun vs' ds' r' => ?_⟩
        unfold O.put
        rw [hx]
        exact .dd (vs := vs) h1 h2 h3 (by simp [h4]) (by simp [h5]) (q5 vs' ds' r')
/-- a list within an own thing is changed -/
theorem EnvA.mutP {σ : L2.St} {ρ : RhoW} {F : Nat → List Addr} (E : EnvA K H0 σ H ρ F) {i : Nat} {p : List Pe} {d1 d' : D} (hi : ρ[i]? = some (some (.ow o d1))) (hp : o.okP p) (hs : o.sub p = some (oL ds)) :
    ∃ v a vs, σ[i]? = some (some v) ∧ At H (.ref a) p v ∧ H a = some (.lst vs) ∧ Reps K (mask H (allOf F ρ.length)) vs ds ∧
      ∀ vs' ds', Reps K (mask H (allOf F ρ.length)) vs' ds' → (o.put (oL ds') p).data = d' →
        EnvA K H0 σ (upd H a (.lst vs')) (ρ.set i (some (.ow (o.put (oL ds') p) d'))) F ∧ mask (upd H a (.lst vs')) (allOf F (ρ.set i (some (.ow (o.put (oL ds') p) d'))).length) = mask H (allOf F ρ.length) := by
  have hi' := (List.getElem?_eq_some_iff.mp hi).1
  obtain ⟨v, h1, r⟩ := E.get i _ hi
  obtain ⟨a, vs, q1, q2, q3, q4, q5⟩ := RepO.at r.2 mask_same (E.nd i) hp hs
  refine ⟨v, a, vs, h1, q1, q2, q3, fun vs' ds' rs hd => ?_⟩
  have ha : a ∈ allOf F ρ.length := E.mem q4
  have hm : mask (upd H a (.lst vs')) (allOf F ρ.length) = mask H (allOf F ρ.length) := mask_upd_in ha
  refine ⟨⟨by simp [E.len], E.nd, E.dj, by rw [List.length_set]; exact E.fresh, fun b u e => ?_, fun j w hw => ?_, fun j hj => ?_⟩, by rw [List.length_set]; exact hm⟩
  · rw [upd_ne (fun z => by subst z; rw [E.fresh _ ha] at e; cases e)]
    exact E.same b u e
  · rw [List.length_set, hm]
    rw [List.getElem?_set] at hw
    by_cases e : i = j
    · subst e
      rw [if_pos rfl, if_pos hi'] at hw
      obtain rfl := Option.some.inj (Option.some.inj hw)
      exact ⟨v, h1, hd, q5 vs' ds' rs⟩
    · rw [if_neg e] at hw
      obtain ⟨v, e1, r⟩ := E.get j w hw
      refine ⟨v, e1, r.keep (fun b hb u z => ?_) (Same.refl _)⟩
      rw [upd_ne (fun y => by subst y; exact e (E.dj i j _ q4 hb))]
      exact z
  · refine E.off j fun w z => ?_
    by_cases e : i = j
    · subst e
      exact hj _ (by rw [List.getElem?_set, if_pos rfl, if_pos hi'])
    · exact hj w (by rw [List.getElem?_set_ne e]; exact z)
end
section
variable {X : Cx} {ρ : RhoW} {Φ : Post} {rest : List Stmt} {r e : Expr} {pos cpos apos : Pos} {d d' d1 : D} {o : O} {ds : List D} {p : List Pe}
/-- r.append(e), r at a place of slot i -/
theorem Ws.appendP (i : Nat) (p : List Pe) (hr : Rcv X r i p) (he : Ev X (VL.bor ρ) e d) (hf : d.free = true) (hs : o.sub p = some (oL ds)) (hd : (o.put (oL (ds ++ [d])) p).data = d') (k : Ws X (ρ.set i (some (.ow (o.put (oL (ds ++ [d])) p) d'))) rest Φ)
    (hz : ds.length < 100000) (hρ : ρ[i]? = some (some (.ow o d1)) := by rfl) (hp : o.okP p := by walk_at "okp")
    (hpe : ∀ {t t2}, PE X r t → PE X e t2 → PE X (.Call (.Attribute r "append" apos) [e] [] cpos) (tBM X.K "list" rAppend t (tCons t2 tNil)) := by
      intro t t2 h1 h2; exact pe_bm PySem.F.plainAttrs_list PySem.F.slot_list_append PySem.F.type_list_append mt_append h1 (pa_cons h2 pa_nil))
    (hsw : swapsWith (.Call (.Attribute r "append" apos) [e] [] cpos) none pos.line X.env = pure false := by rfl) : Ws X ρ (.Expr (.Call (.Attribute r "append" apos) [e] [] cpos) pos :: rest) Φ := ⟨fun H0 σ H D E kk =>
  WSs.cons (ws_of (ps_expr (hpe pe_we pe_we) hsw) (by
    obtain ⟨F, E1⟩ := id E
    obtain ⟨v, a, vs, hσ, hat, ha, _⟩ := E1.mutP (d' := d') hρ hp hs
    refine hr.run σ H v (.ref a) _ hσ hat ⟨.inl ⟨rfl, vs, SqL.of ha⟩, he.run σ H E1.envB _ fun u H2 s2 ru => ?_⟩
    obtain ⟨F2, E2⟩ := E.grow s2
    obtain ⟨v', a', vs', hσ', hat', ha', rs', K'⟩ := E2.mutP (d' := d') hρ hp hs
    obtain rfl : v' = v := by rw [hσ] at hσ'; simpa using hσ'.symm
    have ea : a' = a := by have := hat.det s2 hat'; simpa using this
    subst ea
    refine ⟨a', vs', u, rfl, rfl, ha', by rw [rs'.1]; exact Nat.lt_of_lt_of_le hz (by decide), ?_⟩
    have En := (K' _ _ (rs'.append (.cons (ru.maskF hf E2.notup) .nil)) hd).1
    exact k.run H0 σ _ D ⟨_, En⟩ (kk.cast (by simp))))⟩
/-- r.clear() -/
theorem Ws.clearP (i : Nat) (p : List Pe) (hr : Rcv X r i p) (hs : o.sub p = some (oL ds)) (hd : (o.put (oL []) p).data = d') (k : Ws X (ρ.set i (some (.ow (o.put (oL []) p) d'))) rest Φ) (hρ : ρ[i]? = some (some (.ow o d1)) := by rfl) (hp : o.okP p := by walk_at "okp")
    (hpe : ∀ {t}, PE X r t → PE X (.Call (.Attribute r "clear" apos) [] [] cpos) (tBM0 X.K "list" rClear t) := by
      intro t h1; exact pe_bm0 PySem.F.plainAttrs_list PySem.F.slot_list_clear PySem.F.type_list_clear mt_clear h1)
    (hsw : swapsWith (.Call (.Attribute r "clear" apos) [] [] cpos) none pos.line X.env = pure false := by rfl) : Ws X ρ (.Expr (.Call (.Attribute r "clear" apos) [] [] cpos) pos :: rest) Φ := ⟨fun H0 σ H D E kk =>
  WSs.cons (ws_of (ps_expr (hpe pe_we) hsw) (by
    obtain ⟨F, E1⟩ := id E
    obtain ⟨v, a, vs, hσ, hat, ha, _, K'⟩ := E1.mutP (d' := d') hρ hp hs
    refine hr.run σ H v (.ref a) _ hσ hat ⟨.inl ⟨rfl, vs, SqL.of ha⟩, a, vs, rfl, rfl, ha, ?_⟩
    exact k.run H0 σ _ D ⟨_, (K' _ _ .nil hd).1⟩ (kk.cast (by simp))))⟩
end
end VL
set_option Elab.async false
set_option linter.all false
set_option maxRecDepth 100000
set_option maxHeartbeats 1000000
/-! value layer, part 12: dicts of numbers, ranges with a step -/
namespace VL
open PySem L2

/-! ### range(i, j, k) -/
section
variable {X : Cx} {ρ : Rho} {tg a b c o e : Expr} {p pos : Pos} {i j k : Int} {d : D}
theorem src_rangeC {K : PySem.W.Frag} {H : Hp} {lo c : Int} {n : Nat} : Src K H (Itc lo c n) ((List.range n).map fun (t : Nat) => D.int (lo + (t : Int) * c)) :=
  ⟨fun _ => True, YFn fun i => .int (lo + (i : Nat) * c), by rw [List.length_map, List.length_range]; exact walk_rangeC, fun _ _ => trivial, fun i H1 x H2 hi s y => by
    obtain ⟨rfl, rfl⟩ := y
    rw [List.length_map, List.length_range] at hi
    exact ⟨Same.refl _, _, by rw [List.getElem?_map, List.getElem?_range hi]; rfl, fun as _ => .int _⟩⟩
theorem rgC2 {n : Nat} (hn : (n : Int) * 2 = j - i ∨ (n : Int) * 2 = j - i + 1 ∨ (n = 0 ∧ j ≤ i)) (hi : (-(2 ^ 61) ≤ i ∧ i < 2 ^ 61) ∧ -(2 ^ 61) ≤ j ∧ j < 2 ^ 61) : RgC i j 2 n := by
  have hz : Builtin.Range.rangeSize i j 2 = n := by
    unfold Builtin.Range.rangeSize
    rw [if_pos (by decide)]
    split <;> omega
  refine ⟨by decide, by decide, ?_, hz⟩
  unfold Builtin.Range.small
  rw [hz]
  unfold Builtin.Range.rangeFitsLong
  simp
  omega
/-- range(i, j, 2) -/
theorem EvI.rangeS (hm : X.mg "range" = none) (h : Ev X ρ a (.int i)) (h2 : Ev X ρ b (.int j)) (h3 : Ev X ρ c (.int 2)) (n : Nat) (hn : (n : Int) * 2 = j - i ∨ (n : Int) * 2 = j - i + 1 ∨ (n = 0 ∧ j ≤ i)) (hi : (-(2 ^ 61) ≤ i ∧ i < 2 ^ 61) ∧ -(2 ^ 61) ≤ j ∧ j < 2 ^ 61) (hg : Gl X "range" := by rfl)
    (hs : starEach [a, b, c] X.env = (false, eval a X.env) :: starEach [b, c] X.env := by rfl) (hs2 : starEach [b, c] X.env = (false, eval b X.env) :: starEach [c] X.env := by rfl) (hs3 : starEach [c] X.env = (false, eval c X.env) :: starEach [] X.env := by rfl) (hpl : (backTo pos (starEach [b, c] X.env)).any (·.1) = false := by rfl) :
    EvI X ρ tg (.Call (.Name "range" p) [a, b, c] [] pos) ((List.range n).map fun (t : Nat) => D.int (i + (t : Int) * 2)) :=
  ⟨fun σ H en R q => wi_of (pi_range3 hg hm pa_wa hs hpl) ((EvA.cons h (.cons h2 (.cons h3 .nil hs3) hs2) hs).run σ H en _ fun vs H1 s1 r1 => by
    obtain ⟨v1, t1, rfl, ra, q1⟩ := id r1.cons_split
    obtain ⟨v2, t2, rfl, r2, q2⟩ := id q1.cons_split
    obtain ⟨v3, t3, rfl, r3, q3⟩ := id q2.cons_split
    obtain rfl := q3.nil_inv
    obtain rfl := ra.int_inv
    obtain rfl := r2.int_inv
    obtain rfl := r3.int_inv
    exact ⟨i, j, 2, n, rfl, rgC2 hn hi, q _ H1 s1 src_rangeC⟩)⟩
/-! ### dicts of numbers -/
theorem Ev.ixDk {kvs : List (Key × V)} {z r : Int} (hu : X.A.units + 1 < cLine) (ha : Ev X ρ a (.dk kvs)) (hb : Ev X ρ b (.int z)) (hv : valV kvs (.inl z) = some (.int r)) (hs : NoSl b := by exact fun _ _ => rfl) : Ev X ρ (.Subscript a b pos) (.int r) :=
  ⟨fun σ H en Q q => we_of (pe_dget hu pe_we pe_we hs) (ha.run σ H en _ fun x H1 s1 r1 => hb.run σ H1 (en.mono s1) _ fun y H2 s2 r2 => by
    obtain rfl := r2.int_inv
    cases r1.mono s2 with
    | dk h1 h2 => exact ⟨_, .int r, rfl, hv ▸ DGet.k (k := .inl z) h1, q _ H2 (s1.trans s2) (.int r)⟩)⟩
end
/-- the ranks of the first n of L -/
def rkN (L : List Int) : Nat → List (Key × V)
  | 0 => []
  | n + 1 => putK (rkN L n) (.inl (L.getD n 0)) (.int (n : Int))
theorem putK_len {kvs : List (Key × V)} {k : Key} {v : V} : (putK kvs k v).length ≤ kvs.length + 1 := by
  unfold putK
  split
  · simp
  · simp
theorem rkN_len (L : List Int) : ∀ n, (rkN L n).length ≤ n
  | 0 => Nat.le_refl _
  | n + 1 => by unfold rkN; have := putK_len (kvs := rkN L n) (k := .inl (L.getD n 0)) (v := .int (n : Int)); have := rkN_len L n; omega
theorem putK_scl {kvs : List (Key × V)} {k : Key} {v : V} (h : ∀ p ∈ kvs, sclV p.2 = true) (hv : sclV v = true) : ∀ p ∈ putK kvs k v, sclV p.2 = true := by
  intro p hp
  unfold putK at hp
  split at hp
  · obtain ⟨q, hq, rfl⟩ := List.mem_map.mp hp
    split
    · exact hv
    · exact h q hq
  · rcases List.mem_append.mp hp with hp | hp
    · exact h p hp
    · simp at hp; subst hp; exact hv
theorem rkN_scl (L : List Int) : ∀ n, ∀ p ∈ rkN L n, sclV p.2 = true
  | 0 => fun p hp => by cases hp
  | n + 1 => putK_scl (rkN_scl L n) rfl
theorem rkN_get (L : List Int) (nd : L.Nodup) : ∀ (n k : Nat), k < n → n ≤ L.length → valV (rkN L n) (.inl (L.getD k 0)) = some (.int (k : Int))
  | 0, k, h, _ => by omega
  | n + 1, k, h, hn => by
    unfold rkN
    rw [valV_put]
    by_cases hk : k = n
    · subst hk; rw [if_pos rfl]
    · have hne : (Sum.inl (L.getD k 0) : Key) ≠ Sum.inl (L.getD n 0) := fun e => by
        have e := Sum.inl.inj e
        rw [List.getD_eq_getElem?_getD, List.getD_eq_getElem?_getD, List.getElem?_eq_getElem (by omega), List.getElem?_eq_getElem (by omega)] at e
        exact List.pairwise_iff_getElem.mp nd k n (by omega) (by omega) (by omega) (by simpa using e)
      rw [if_neg hne]
      exact rkN_get L nd n k (by omega) (by omega)
section
variable {X : Cx} {ρ : RhoW} {Φ : Post} {rest : List Stmt} {pos pos2 pos3 p1 p2 p3 p4 p5 p6 p7 p8 tp : Pos} {L : List Int}
/-- x = {}; for r, k in enumerate(y): x[k] = r -/
theorem Ws.ranks {x y r k : Str} (i j ir ik : Nat) {k1 : Nat} (hp : PassesOwn (model X.prog X.w) X.A X.env X.xe) (hc : X.calm = true) (hN : X.N.Nodup) (hm : X.mg "enumerate" = none) (hu : X.A.units + 1 < cLine) (hL : L.length ≤ 1000)
    (kt : Ws X ((wipeW ρ [i, ir, ik]).set i (some (.sh (.dk (rkN L L.length))))) rest Φ) (hd : (decide (i < ρ.length) && decide (ir < ρ.length) && decide (ik < ρ.length) && decide (i ≠ j) && decide (ir ≠ j) && decide (ik ≠ j) && decide (i ≠ ir) && decide (i ≠ ik) && decide (ir ≠ ik)) = true := by rfl)
    (hρ : ρ[j]? = some (some (.sh (dI L))) := by rfl) (hi : X.N[i]? = some x := by rfl) (hx : Loc X.env.scope x := by first | exact Or.inl rfl | exact Or.inr rfl) (hf : X.fn x = true ∨ X.env.scope.names.lookup x = some .local := by first | exact .inl rfl | exact .inr rfl)
    (hs : swapsWith (.Dict [] [] p2) (some (.Name x p1)) pos.line X.env = pure false := by rfl)
    (hg : Gl X "enumerate" := by rfl)
    (hpi : PI X (.Tuple [.Name r p3, .Name k p4] k1 tp) (.Call (.Name "enumerate" p5) [.Name y p6] [] p7) (iEnum X.K (tCons (tVar j) tNil)) := by exact pi_enum rfl (by assumption) (pa_cons (pv _) pa_nil))
    (hpg : X.N.Nodup → PG X (.Tuple [.Name r p3, .Name k p4] k1 tp) (gTup X.K 2 (gCons (gName ir) (gCons (gName ik) gNil))) := by
      intro hN; exact pg_tup rfl (pgs_cons (pg_name hN rfl (by first | exact Or.inl rfl | exact Or.inr rfl)) (pgs_cons (pg_name hN rfl (by first | exact Or.inl rfl | exact Or.inr rfl)) pgs_nil)))
    {p9 p10 p11 p12 : Pos} (hpb : X.A.units + 1 < cLine → PS X (.Assign [.Subscript (.Name x p9) (.Name k p10) p11] (.Name r p12) pos3) (sDPut (tVar i) (tVar ik) (tVar ir)) := by
      intro hu; exact ps_dput hu (pv _) (pv _) (pv _) rfl)
    (hfs : ∀ z, foldedSetIterable (.Call (.Name "enumerate" p5) [.Name y p6] [] p7) X.env z = pure z := by intro _; rfl) :
    Ws X ρ (.Assign [.Name x p1] (.Dict [] [] p2) pos :: .For (.Tuple [.Name r p3, .Name k p4] k1 tp) (.Call (.Name "enumerate" p5) [.Name y p6] [] p7) [.Assign [.Subscript (.Name x p9) (.Name k p10) p11] (.Name r p12) pos3] [] pos2 :: rest) Φ := ⟨fun H0 σ H D E kk => by
  simp only [Bool.and_eq_true, decide_eq_true_eq] at hd
  obtain ⟨⟨⟨⟨⟨⟨⟨⟨d1, d2⟩, d3⟩, d4⟩, d5⟩, d6⟩, d7⟩, d8⟩, d9⟩ := hd
  obtain ⟨F, E1⟩ := id E
  have hl := E1.len
  obtain ⟨v, hσ, rv⟩ := E1.get j _ hρ
  obtain ⟨l, vs, rfl, hl0, rs⟩ := rv.1.lst_inv
  obtain rfl := rs.ints
  have hl1 : H l = some (.lst (L.map V.int)) := (mask_some hl0).1
  refine WSs.cons (ws_of (ps_set hN hi hx pe_dnewK hs hf) fun a ha => ?_)
  have hal : l ≠ a := fun e => by subst e; rw [hl1] at ha; cases ha
  refine WSs.cons (ws_of (ps_for hp hc hpi (hpg hN) (pss_one (hpb hu)) hfs) ?_)
  refine ⟨.ref l, by rw [List.getElem?_set_ne d4]; exact hσ, l, L.map V.int, rfl, SqL.of (by rw [upd_ne hal]; exact hl1), ?_⟩
  refine for_it (D := { D with nx := fun σ' H' => WSs X rest σ' H' D }) (walk_enum (K := X.K) (a := l) (xs := L.map V.int)) (fun n σ' H' => H' a = some (.dK (rkN L n)) ∧ (∀ b o, b ≠ a → H b = some o → H' b = some o) ∧ σ'.length = σ.length ∧ σ'[i]? = some (some (.ref a)) ∧ ∀ q, q ≠ i → q ≠ ir → q ≠ ik → σ'[q]? = σ[q]?)
    ⟨upd_same, fun b o hb e => by rw [upd_ne hb]; exact e, by simp, by rw [List.getElem?_set_self (by omega)], fun q q1 _ _ => by rw [List.getElem?_set_ne (Ne.symm q1)]⟩ (fun n σ' H' _ ⟨_, h2, _⟩ => SqL.of (h2 l _ hal hl1)) (fun n v σ' H' H2 hlt ⟨h1, h2, h3, h4, h5⟩ y => ?_) (fun σ' H' ⟨h1, h2, h3, h4, h5⟩ => ?_)
  · obtain ⟨Tt, x1, y1, rfl, hT, rfl, e1, e2⟩ := y
    obtain rfl := Option.some.inj e1
    rw [List.length_map] at hlt
    have e2 : (L.map V.int)[n]? = some y1 := e2
    rw [List.getElem?_map, List.getElem?_eq_getElem hlt] at e2
    obtain rfl := Option.some.inj e2
    have hTa : Tt ≠ a := fun e => by subst e; rw [h1] at hT; cases hT
    refine ⟨Tt, [.int (n : Int), .int L[n]], rfl, SqT.of upd_same, rfl, _, _, rfl, _, _, rfl, rfl, ?_⟩
    refine ⟨.int (n : Int), by rw [List.getElem?_set_ne d9.symm, List.getElem?_set_self (by omega)], .ref a, by rw [List.getElem?_set_ne d8.symm, List.getElem?_set_ne d7.symm]; exact h4, .int L[n], by rw [List.getElem?_set_self (by simp; omega)], a, _, rfl, DPut.k (k := .inl L[n]) (by rw [upd_ne (Ne.symm hTa)]; exact h1) (Nat.lt_of_le_of_lt (rkN_len L n) (Nat.lt_of_lt_of_le (m := 100000) (by omega) (by decide))), ?_⟩
    refine ⟨?_, fun b o hb e => ?_, by simp [h3], by rw [List.getElem?_set_ne d8.symm, List.getElem?_set_ne d7.symm]; exact h4, fun q q1 q2 q3 => by rw [List.getElem?_set_ne (Ne.symm q3), List.getElem?_set_ne (Ne.symm q2)]; exact h5 q q1 q2 q3⟩
    · rw [upd_same]
      show some (HO.dK (putK (rkN L n) (.inl L[n]) (.int (n : Int)))) = some (HO.dK (putK (rkN L n) (.inl (L.getD n 0)) (.int (n : Int))))
      rw [List.getD_eq_getElem?_getD, List.getElem?_eq_getElem hlt]; rfl
    · have := h2 b o hb e
      rw [upd_ne hb, upd_ne (ne_of_none this hT)]
      exact this
  · rw [List.length_map] at h1
    have sH : Same H H' := fun b o e => h2 b o (fun z => by subst z; rw [ha] at e; cases e) e
    have E2 := (E.grow sH).wiped [i, ir, ik] h3 fun q hq => by
      simp only [List.mem_cons, List.not_mem_nil, or_false, not_or] at hq
      exact h5 q hq.1 hq.2.1 hq.2.2
    obtain ⟨F2, E3⟩ := E2
    have haF : a ∉ allOf F2 (wipeW ρ [i, ir, ik]).length := fun z => by
      obtain ⟨o, e, c⟩ := E3.cells.cell z
      rw [h1] at e
      obtain rfl := Option.some.inj e
      cases c
    have rk : Rep X.K (mask H' (allOf F2 (wipeW ρ [i, ir, ik]).length)) (.ref a) (.dk (rkN L L.length)) := .dk (by rw [mask_out haF]; exact h1) (rkN_scl L _)
    have E4 := EnvW.into ⟨_, E3.pushS rk⟩ i
    have e5 : σ'.set i (some (.ref a)) = σ' := by
      obtain ⟨hh, e⟩ := List.getElem?_eq_some_iff.mp h4
      have := List.set_getElem_self hh
      rwa [e] at this
    rw [e5] at E4
    exact kt.run H0 σ' H' D E4 (kk.cast (by simp [wipeW_length]))⟩
end
end VL
set_option Elab.async false
set_option linter.all false
set_option maxRecDepth 100000
set_option maxHeartbeats 1000000
/-! value layer, part 13: list(reversed(xs)) -/
namespace RT
open PySem Spec PyProof.Rows
section
variable {prog : Program} {w : World} {A : Around} {E : Value → Shared → Prop} {s : Shared} {src rit : Addr} {xs : Array Value}
/-- what a new list at S takes over of the items, last first -/
theorem vl_extend {R : Result → Shared → Prop} (quiet : A.handled = none) (hr : s.heap.IsRevIter rit src ((xs.size : Int) - 1)) (hxs : s.heap.IsList src xs) (apart : src ≠ rit) (few : xs.size ≤ sizeLine) {S : Addr} {cap : Nat}
    (new : s.heap.get? S = some { cls := .type "list", data := .seq #[] cap }) (nr : S ≠ rit) (ns : S ≠ src)
    (hR : ∀ hp tk acc cap', (∀ b o, b ≠ S → b ≠ rit → s.heap.get? b = some o → hp.get? b = some o) → hp.get? S = some { cls := .type "list", dict := none, data := .seq acc cap', slots := #[] } →
      ItemsOf (fun i v => xs[xs.size - 1 - i]? = some v) acc xs.size → R (.ok (.ret .none)) { s with heap := hp, toks := tk }) :
    wpAny (model prog w) A.in1 (Builtin.List.listExtendWith (.ref S) (.ref rit) .none) (fun fin s' => match fin with
      | .done f => R (.ok f) s'
      | .again c' => c'.quiet = true ∧ codeAny (model prog w) A c' R s') (fun e s' => R (.error e) s') s := by
  have ty : s.TypeIs (.ref rit) "list_reverseiterator" := hr.typeIs
  have other : Builtin.List.listSameRef (.ref S) (.ref rit) = false := by simp [Builtin.List.listSameRef, nr]
  have off : S ∉ [rit, src] := by simp [nr, ns]
  have Wk := (Walks.listRev (prog := prog) (w := w) (A := A.in1) quiet rit src apart xs).toS
  unfold Builtin.List.listExtendWith; refine wpAny_bind (wpAny_typeOf ty ?_)
  rw [if_neg (by rw [other]; decide)]
  refine wpAny_bind (wpAny_pyIter_revIter hr ?_)
  refine wpAny_bind (wpAny_holding ?_); unfold Builtin.List.listLengthHint
  refine wpAny_bind (wpAny_specialOf ty nolen_lri ?_)
  show wpAny _ A.in1 (specialOf (.ref rit) _ >>= _) _ _ _
  refine wpAny_bind (wpAny_specialOf ty hint_lri ?_)
  generalize hq : ("list_reverseiterator.__length_hint__" : String) = nm
  wp_delta
  rw [show splitId nm = some ("list_reverseiterator", "__length_hint__") from by
    subst hq; decide +kernel]
  subst hq
  refine wpAny_bind (wpAny_isInstance (b := true) ty (by
    rw [isSubtype_type]; kernel_rfl) ?_)
  refine wpAny_pure ?_
  rw [if_neg (by decide)]
  have z : ((xs.size : Nat) : Int) - 1 - ((0 : Nat) : Int) = (xs.size : Int) - 1 := by omega
  refine wpAny_pure ⟨plainId_quiet F.plain_extend_loop _, codeAny_extend_loopS Wk few _ off _ xs.size 0 _ _ _ rfl (Nat.zero_le _) ⟨Nat.zero_le _, by
    rw [z]; exact hr, hxs⟩ new (ItemsOf.nil _) fun s' acc cap' mv at' got => ?_⟩
  rw [Moved.eq_with mv]
  refine hR s'.heap s'.toks acc cap' (fun b o b1 b2 e => mv.heap b o (fun m => ?_) e) at' got
  rcases List.mem_cons.mp m with e' | m
  · exact b1 e'
  · exact b2 (List.mem_singleton.mp m)
/-- list(the walker) -/
theorem vl_call {Q : Value → Shared → Prop} (quiet : A.handled = none) (hr : s.heap.IsRevIter rit src ((xs.size : Int) - 1)) (hxs : s.heap.IsList src xs) (apart : src ≠ rit) (few : xs.size ≤ sizeLine)
    (hQ : ∀ hp tk acc cap', (∀ b o, b ≠ rit → s.heap.get? b = some o → hp.get? b = some o) → hp.get? s.heap.objs.size = some { cls := .type "list", dict := none, data := .seq acc cap', slots := #[] } →
      ItemsOf (fun i v => xs[xs.size - 1 - i]? = some v) acc xs.size → Q (.ref s.heap.objs.size) { s with heap := hp, toks := tk }) : wpAny (model prog w) A (call (.type "list") [.ref rit]) Q E s := by
  obtain ⟨o1, g1, _⟩ := id hr
  obtain ⟨o2, g2, _⟩ := id hxs
  have n1 : s.heap.objs.size ≠ rit := Nat.ne_of_gt (Heap.lt_size g1)
  have n2 : s.heap.objs.size ≠ src := Nat.ne_of_gt (Heap.lt_size g2)
  refine callType_codes (Q₁ := fun v s₁ => v = .ref s.heap.objs.size ∧ s₁ = { s with heap := s.heap.push { cls := .type "list", data := .seq #[] } }) F.called_list (F.typeCall_list_1 _) F.entry_list_init
    (code_list_new _ ⟨rfl, rfl⟩) fun v s₁ e₁ => ?_
  obtain ⟨rfl, rfl⟩ := e₁
  have fresh : (s.heap.push { cls := .type "list", data := .seq #[] }).get? s.heap.objs.size = some { cls := .type "list", data := .seq #[] } :=
    Heap.get?_push_size _ rfl
  refine ⟨⟨_, fresh, rfl⟩, F.args_list_init_2 _ _, ?_⟩
  show wpAny _ _ (Builtin.List.listItems _ >>= fun old => Builtin.List.listUpdate _ (fun _ => #[]) >>= fun _ => letGo old.toList.reverse >>= fun _ => Builtin.List.listExtendWith _ (.ref rit) .none) _ _ _
  refine wpAny_bind ?_
  unfold Builtin.List.listItems
  refine wpAny_bind (wpAny_seqItems fresh rfl (wpAny_pure ?_))
  show wpAny _ _ (updateSeq _ (fun _ => #[]) >>= fun _ => letGo _ >>= fun _ => Builtin.List.listExtendWith _ (.ref rit) .none) _ _ _
  refine wpAny_bind (wpAny_updateSeq fresh rfl ?_)
  have empty := Heap.get?_update_self (Obj.mapSeq (fun _ => (#[] : Array Value))) fresh rfl
  have rest : ∀ b o, b ≠ s.heap.objs.size → s.heap.get? b = some o → ((s.heap.push { cls := .type "list", data := .seq #[] }).update s.heap.objs.size (Obj.mapSeq (fun _ => (#[] : Array Value)))).get? b = some o :=
    fun b o hb e => (Heap.get?_update_other _ _ (Ne.symm hb)).trans (Heap.get?_push_of_some _ e)
  refine wpAny_bind (wpAny_letGo ?_); refine vl_extend (s := { s with heap := (s.heap.push { cls := .type "list", data := .seq #[] }).update s.heap.objs.size (Obj.mapSeq (fun _ => (#[] : Array Value))) }) (A := A.in1) quiet (hr.at fun o e => rest _ _ (Ne.symm n1) e) (let ⟨o, e, c, d⟩ := hxs; ⟨o, rest _ _ (Ne.symm n2) e, c, d⟩) apart few empty n1 n2 fun hp tk acc cap' k a' got => ?_
  exact ⟨rfl, hQ hp tk acc cap' (fun b o hb e => k b o (Nat.ne_of_lt (Heap.lt_size e)) hb (rest b o (Nat.ne_of_lt (Heap.lt_size e)) e)) a' got⟩
end
end RT
namespace VL
open PySem Spec PyProof.Rows L2
/-- list(reversed(e)) of a list -/
def tLstRev (K : PySem.W.Frag) (te : TE) : TE := fun σ H Q => te σ H fun v H1 => ∃ (a : Addr) (xs : List V), v = .ref a ∧ SqL K H1 a xs ∧ ∀ q, H1 q = none → Q (.ref q) (upd H1 q (.lst xs.reverse))
section
variable {X : Cx} {e : Expr} {te : TE} {p p2 pos pos2 : Pos} {ρ : Rho} {ds : List D} {L : List Int}
theorem pe_lstRev (hc : X.calm = true) (hg : Gl X "list") (hm : X.mg "list" = none) (hg2 : Gl X "reversed") (hm2 : X.mg "reversed" = none) (he : PE X e te)
    (hs : starEach [e] X.env = (false, eval e X.env) :: starEach [] X.env := by rfl) (hs2 : starEach [.Call (.Name "reversed" p2) [e] [] pos2] X.env = (false, eval (.Call (.Name "reversed" p2) [e] [] pos2) X.env) :: starEach [] X.env := by rfl) :
    PE X (.Call (.Name "list" p) [.Call (.Name "reversed" p2) [e] [] pos2] [] pos) (tLstRev X.K te) := by
  refine ⟨fun pins s σ H R I h => ?_⟩
  refine Call_ (ld_blt I hg hm PyProof.Rows.boot_list (PyProof.Rows.callWith_type1 (args_cons (Call_ (ld_blt I hg2 hm2 PyProof.Rows.boot_reversed
    (PyProof.Rows.callWith_type1 (args_cons (thn (he.run pins s σ H _ I h) fun u s1 ⟨v, H1, I1, rr, q1⟩ => args_nil ?_) hs) hs rfl))) hs2) hs2 rfl))
  obtain ⟨a, xs, rfl, hq, q⟩ := q1
  obtain rfl : u = Value.ref a := rr
  obtain ⟨its, rv, pl, hz⟩ := I1.list hq
  refine call_reversed_list pl.isList (args_nil ?_)
  have hl := pl.isList
  obtain ⟨ol, hol, _⟩ := id hl
  have few : its.toArray.size ≤ sizeLine := by rw [List.size_toArray, ← rv.length]; exact hz
  refine RT.vl_call (s := { s1 with heap := s1.heap.push (revObj a ((its.toArray.size : Int) - 1)) }) (I1.ok.hd hc) ⟨_, Heap.get?_push_size _ rfl, rfl, rfl⟩ (hl.push _) (Nat.ne_of_lt (Heap.lt_size hol)) few fun hp tk acc cap' k at' got => ?_
  have hsz : s1.heap.objs.size < (s1.heap.push (revObj a ((its.toArray.size : Int) - 1))).objs.size := Heap.lt_size (Heap.get?_push_size _ rfl)
  have hf : H1 (s1.heap.push (revObj a ((its.toArray.size : Int) - 1))).objs.size = none := I1.hok.fresh (Nat.le_of_lt hsz)
  refine ⟨.ref _, upd H1 _ (.lst xs.reverse), I1.laid (t' := tk) (fun b u e => k b u (Nat.ne_of_lt (Heap.lt_size e)) (Heap.get?_push_of_some _ e)) (Nat.le_of_lt hsz) ?_, rfl, q _ hf⟩
  exact ⟨by rw [List.length_reverse]; exact hz, acc.toList, cap', RT.vals_rev rv got, by rw [Array.toArray_toList]; exact at'⟩
theorem EvO.listRev (hc : X.calm = true) (hm : X.mg "list" = none) (hm2 : X.mg "reversed" = none) (h : Ev X ρ e (.lst ds)) (hg : Gl X "list" := by rfl) (hg2 : Gl X "reversed" := by rfl)
    (hs : starEach [e] X.env = (false, eval e X.env) :: starEach [] X.env := by rfl) (hs2 : starEach [.Call (.Name "reversed" p2) [e] [] pos2] X.env = (false, eval (.Call (.Name "reversed" p2) [e] [] pos2) X.env) :: starEach [] X.env := by rfl) :
    EvO X ρ (.Call (.Name "list" p) [.Call (.Name "reversed" p2) [e] [] pos2] [] pos) (oL ds.reverse) :=
  .newl fun σ H en Q q => we_of (pe_lstRev hc hg hm hg2 hm2 pe_we hs hs2) (h.run σ H en _ fun x H1 s1 r1 => by
    obtain ⟨a, vs, rfl, h1, rs⟩ := r1.lst_inv
    exact ⟨a, vs, rfl, SqL.of h1, fun pp hp => q pp _ H1 s1 hp rs.reverse⟩)
end
end VL
set_option Elab.async false
set_option linter.all false
set_option maxRecDepth 100000
set_option maxHeartbeats 1000000
/-! value layer, part 14: dicts of texts -/
namespace VL
open PySem L2
section
variable {X : Cx} {ρ : Rho} {e a b : Expr} {p pos : Pos} {kvs : List (Key × V)} {z y : Str}
/-- D[e], D a dict of the module -/
theorem Ev.ixG {x : Str} {c : Addr} (hm : X.mg x = some (.ref c)) (h : Ev X ρ e (.str z)) (hd : KDct X.K X.w c z (.str y)) (hg : Gl X x := by rfl) (hdb : (x == ("__debug__" : Str)) = false := by decide) (hs : PlainIx e := by exact fun _ _ => rfl) : Ev X ρ (.Subscript (.Name x p) e pos) (.str y) :=
  ⟨fun σ H en Q q => we_of (pe_ix ix_kdict (pe_glob (v := .ref c) hg hm rfl hdb) pe_we hs) (h.run σ H en _ fun v H1 s1 r1 => by
    obtain rfl := r1.str_inv
    exact ⟨c, z, .str y, rfl, rfl, hd, q _ H1 s1 (.str y)⟩)⟩
/-- {'..': '..', '..': '..'} -/
theorem Ev.dict2 {k1 v1 k2 v2 : Str} {j1 j2 j3 j4 : Nat} {p1 p2 p3 p4 : Pos} (hne : k1 ≠ k2) : Ev X ρ (.Dict [some (.Constant (.str k1) j1 p1), some (.Constant (.str k2) j2 p2)] [.Constant (.str v1) j3 p3, .Constant (.str v2) j4 p4] pos) (.dk [(.inr k1, .str v1), (.inr k2, .str v2)]) :=
  ⟨fun σ H en Q q => we_of (pe_disp (pps_cons pe_str pe_str (pps_cons pe_str pe_str pps_nil)) rfl rfl (by simp) (by simp)) fun c hc => ⟨upd_same, [(.inr k1, .str v1), (.inr k2, .str v2)], rfl, by simp, by
    have e : mergeK [] [((.inr k1 : Key), V.str v1), (.inr k2, .str v2)] = [(.inr k1, .str v1), (.inr k2, .str v2)] := by
      have hk : ¬ (Sum.inr k1 : Key) = Sum.inr k2 := fun z => hne (Sum.inr.inj z)
      simp [mergeK, putK, hk]
    rw [e]
    refine q _ _ (fun d o z => ?_) (.dk upd_same (by simp [sclV]))
    rw [upd_ne (ne_of_none z hc), upd_ne (ne_of_none z hc)]
    exact z⟩⟩
theorem Ev.ixDkS (hu : X.A.units + 1 < cLine) (ha : Ev X ρ a (.dk kvs)) (hb : Ev X ρ b (.str z)) (hv : valV kvs (.inr z) = some (.str y)) (hs : NoSl b := by exact fun _ _ => rfl) : Ev X ρ (.Subscript a b pos) (.str y) :=
  ⟨fun σ H en Q q => we_of (pe_dget hu pe_we pe_we hs) (ha.run σ H en _ fun x H1 s1 r1 => hb.run σ H1 (en.mono s1) _ fun w H2 s2 r2 => by
    obtain rfl := r2.str_inv
    cases r1.mono s2 with
    | dk h1 h2 => exact ⟨_, .str y, rfl, hv ▸ DGet.k (k := .inr z) h1, q _ H2 (s1.trans s2) (.str y)⟩)⟩
end
end VL
set_option Elab.async false
set_option linter.all false
set_option maxRecDepth 100000
set_option maxHeartbeats 1000000
/-! value layer, part 15: a walk over own things -/
namespace VL
open PySem L2
section
variable {X : Cx} {sts : List Stmt}
/-- a block that only goes on, with lists put aside -/
theorem WSs.frame {σ : L2.St} {H : Hp} {as : List Addr} {N : L2.St → Hp → Prop} {D : Ends} (hl : Hid H as) (h : WSs X sts σ (mask H as) { nx := N, rt := fun _ _ => False })
    (k : ∀ σ' M, N σ' M → (∀ a ∈ as, M a = none) → Same M (join M H as) → D.nx σ' (join M H as)) : WSs X sts σ H D := fun pins s I => by
  obtain ⟨own, h1, h2, J⟩ := Inv.hide I hl
  refine thn (h _ s J) fun f s' q => ?_
  cases f with
  | next =>
    obtain ⟨σ', M, J', n⟩ := q
    obtain ⟨I', hn, up⟩ := Inv.show' I hl h1 J'
    exact ⟨σ', _, I', k σ' M n hn up⟩
  | brk => obtain ⟨_, _, _, q⟩ := q; exact q.elim
  | cont => obtain ⟨_, _, _, q⟩ := q; exact q.elim
  | ret u => obtain ⟨_, _, _, _, _, q⟩ := q; exact q.elim
end
section
variable {K : PySem.W.Frag} {H0 H : Hp} {σ : L2.St} {ρ : RhoW} {F : Nat → List Addr} {v : V} {o : O} {d : D}
/-- a slot's own list taken apart: the list stays, the things within are put aside -/
theorem EnvA.unlist (E : EnvA K H0 σ H ρ F) {i : Nat} {a : Addr} {As : List (List Addr)} (hF : F i = a :: As.flatten) :
    EnvA K (mask (mask H As.flatten) (allOf (fun j => if j = i then [] else F j) (ρ.set i none).length)) σ (mask H As.flatten) (ρ.set i none) (fun j => if j = i then [] else F j) := by
  have off : ∀ j u, u ∈ (if j = i then [] else F j) → j ≠ i ∧ u ∈ F j := fun j u h => by
    split at h
    · cases h
    · exact ⟨by assumption, h⟩
  have ing : ∀ u ∈ As.flatten, u ∈ F i := fun u h => by rw [hF]; exact List.mem_cons_of_mem _ h
  have sub : ∀ u, u ∈ allOf (fun j => if j = i then [] else F j) (ρ.set i none).length → u ∈ allOf F ρ.length := fun u h => by
    obtain ⟨j, hj, hu⟩ := mem_allOf.mp h
    exact mem_allOf.mpr ⟨j, by simpa using hj, (off j u hu).2⟩
  have S : Same (mask H (allOf F ρ.length)) (mask (mask H As.flatten) (allOf (fun j => if j = i then [] else F j) (ρ.set i none).length)) := fun b u e => by
    obtain ⟨e1, e2⟩ := mask_some e
    rw [mask_out (fun z => e2 (sub b z)), mask_out (fun z => e2 (E.mem (ing b z)))]
    exact e1
  refine ⟨by simp [E.len], fun j => ?_, fun j k u h1 h2 => E.dj j k u (off j u h1).2 (off k u h2).2, fun u h => mask_in h, mask_same, fun j w h => ?_, fun j h => ?_⟩
  · split
    · exact List.nodup_nil
    · exact E.nd j
  · have hji : j ≠ i := fun z => by
      subst z
      rw [List.getElem?_set] at h
      split at h
      · split at h <;> cases h
      · rename_i q; exact q rfl
    rw [List.getElem?_set_ne (Ne.symm hji)] at h
    obtain ⟨v, e, r⟩ := E.get j w h
    refine ⟨v, e, ?_⟩
    rw [if_neg hji]
    exact r.keep (fun u hu x z => by rw [mask_out (fun q => hji (E.dj j i u hu (ing u q)))]; exact z) S
  · split
    · rfl
    · rename_i hji
      exact E.off j fun w z => h w (by rw [List.getElem?_set_ne (Ne.symm hji)]; exact z)
end
section
variable {X : Cx} {ρ : RhoW} {Φ : Post} {rest body : List Stmt} {pos p1 p2 p3 p4 p5 p6 tp : Pos} {os : List O} {es : List D} {d1 : D}
/-- for x, y in zip(f, g), f an own list of own things, g shared: x owns the thing of its turn -/
theorem Ws.forZipOwn {nx ny nf ng : Str} (i j x y : Nat) {k1 : Nat} (Iv : Nat → RhoW → Prop) (hp : PassesOwn (model X.prog X.w) X.A X.env X.xe) (hc : X.calm = true) (hN : X.N.Nodup) (hm : X.mg "zip" = none) (hlen : es.length = os.length) (h0 : Iv 0 (ρ.set i none))
    (hb : ∀ k o e ρ', os[k]? = some o → es[k]? = some e → Iv k ρ' → ρ'.length = ρ.length → Ws X ((ρ'.set x (some (.ow o o.data))).set y (some (.sh e))) body { nx := Iv (k + 1), rt := fun _ => False })
    (hd : ∀ ρ', Iv os.length ρ' → ρ'.length = ρ.length → Ws X ρ' rest Φ) (hxy : (decide (x < ρ.length) && decide (y < ρ.length) && decide (x ≠ y)) = true := by rfl)
    (hρ : ρ[i]? = some (some (.ow (.ls os) d1)) := by rfl) (hρj : ρ[j]? = some (some (.sh (.lst es))) := by rfl)
    (hpi : PI X (.Tuple [.Name nx p1, .Name ny p2] k1 tp) (.Call (.Name "zip" p3) [.Name nf p4, .Name ng p5] [] p6) (iZip X.K (tCons (tVar i) (tCons (tVar j) tNil))) := by exact pi_zip rfl (by assumption) (pa_cons (pv _) (pa_cons (pv _) pa_nil)))
    (hpg : X.N.Nodup → PG X (.Tuple [.Name nx p1, .Name ny p2] k1 tp) (gTup X.K 2 (gCons (gName x) (gCons (gName y) gNil))) := by
      intro hN; exact pg_tup rfl (pgs_cons (pg_name hN rfl (by first | exact Or.inl rfl | exact Or.inr rfl)) (pgs_cons (pg_name hN rfl (by first | exact Or.inl rfl | exact Or.inr rfl)) pgs_nil)))
    (hs : ∀ z, foldedSetIterable (.Call (.Name "zip" p3) [.Name nf p4, .Name ng p5] [] p6) X.env z = pure z := by intro _; rfl) :
    Ws X ρ (.For (.Tuple [.Name nx p1, .Name ny p2] k1 tp) (.Call (.Name "zip" p3) [.Name nf p4, .Name ng p5] [] p6) body [] pos :: rest) Φ := ⟨fun H0 σ H D E kk => by
  simp only [Bool.and_eq_true, decide_eq_true_eq] at hxy
  obtain ⟨⟨hx, hy⟩, hxy⟩ := hxy
  obtain ⟨F, E1⟩ := id E
  have hl := E1.len
  obtain ⟨v, hσ, rv⟩ := E1.get i _ hρ
  obtain ⟨v2, hσ2, rv2⟩ := E1.get j _ hρj
  obtain ⟨b, ws, rfl, hb0, rs⟩ := rv2.1.lst_inv
  have rO := rv.2
  have hnd := E1.nd i
  have hmem : ∀ u ∈ F i, u ∈ allOf F ρ.length := fun u h => E1.mem h
  generalize hFi : F i = Fi at rO hnd hmem
  cases rO with
  | @ls a vs _ As q1 q2 q3 q4 =>
  obtain ⟨nda, ndA⟩ := List.nodup_cons.mp hnd
  have E0 := E1.unlist hFi
  generalize hS0 : mask (mask H As.flatten) (allOf (fun j => if j = i then [] else F j) (ρ.set i none).length) = S0 at E0
  have S1 : Same (mask H (allOf F ρ.length)) S0 := by
    subst hS0
    intro c u e
    obtain ⟨e1, e2⟩ := mask_some e
    rw [mask_out (fun z => ?_), mask_out (fun z => e2 (hmem c (List.mem_cons_of_mem _ z)))]
    · exact e1
    · obtain ⟨k, hk, hu⟩ := mem_allOf.mp z
      split at hu
      · cases hu
      · exact e2 (E1.mem hu)
  have Sa : S0 a = some (.lst vs) := by
    subst hS0
    rw [mask_out (fun z => ?_), mask_out nda]
    · exact q1
    · obtain ⟨k, hk, hu⟩ := mem_allOf.mp z
      split at hu
      · cases hu
      · rename_i hki
        exact hki (E1.dj k i a hu (by rw [hFi]; simp))
  have Sb : S0 b = some (.lst ws) := S1 _ _ hb0
  have S00 : Same H0 S0 := fun c u e => S1 c u (by
    rw [mask_out (fun z => by rw [E1.fresh c z] at e; cases e)]
    exact E1.same c u e)
  have S0H : Same S0 H := by
    subst hS0
    exact mask_same.trans mask_same
  refine WSs.cons (ws_of (ps_for hp hc hpi (hpg hN) pss_wss hs) ?_)
  refine ⟨.ref a, hσ, .ref b, hσ2, a, b, vs, ws, rfl, SqL.of q1, SqL.of (mask_some hb0).1, ?_⟩
  refine for_it (g := gTup X.K 2 (gCons (gName x) (gCons (gName y) gNil))) (tb := fun D σ H => WSs X body σ H D) (D := { D with nx := fun σ' H' => WSs X rest σ' H' D }) (walk_zip (K := X.K) (a := a) (b := b) (xs := vs) (ys := ws) (n := os.length) (by rw [q2, rs.1, hlen]; simp))
    (fun k σ' H' => ∃ ρ' M, Iv k ρ' ∧ ρ'.length = ρ.length ∧ Same S0 M ∧ EnvW X.K M σ' (mask H' (As.drop k).flatten) ρ' ∧ ∀ u ∈ (As.drop k).flatten, ∀ z, H u = some z → H' u = some z) ⟨_, S0, h0, by simp, Same.refl _, ⟨_, E0⟩, fun u _ z e => e⟩ (fun k σ' H' _ ⟨ρ', M, _, _, sm, E', _⟩ => ?_) (fun k v σ' H' H2 hlt ⟨ρ', M, iv, lr, sm, E', hk⟩ yl => ?_) (fun σ' H' ⟨ρ', M, iv, lr, sm, E', hk⟩ => ?_)
  · obtain ⟨F', E'⟩ := E'
    have up : Same S0 H' := (sm.trans E'.same).trans mask_same
    exact ⟨SqL.of (up _ _ Sa), SqL.of (up _ _ Sb)⟩
  · obtain ⟨Tt, x1, y1, rfl, hT, rfl, e1, e2⟩ := yl
    have hka : k < As.length := by omega
    have e1 : vs[k]? = some x1 := e1
    have e2 : ws[k]? = some y1 := e2
    have ho : os[k]? = some os[k] := List.getElem?_eq_getElem hlt
    have he : es[k]? = some (es[k]'(by omega)) := List.getElem?_eq_getElem (by omega)
    have hAk : As[k]? = some As[k] := List.getElem?_eq_getElem hka
    have hdrop : (As.drop k).flatten = As[k] ++ (As.drop (k + 1)).flatten := by rw [List.drop_eq_getElem_cons hka, List.flatten_cons]
    have ndd : (As[k] ++ (As.drop (k + 1)).flatten).Nodup := by
      rw [flat_split hAk] at ndA
      exact (List.nodup_append.mp ndA).2.1
    obtain ⟨nd1, nd2, nd3⟩ := List.nodup_append.mp ndd
    have hidB : ∀ n, Hid H (As.drop n).flatten := fun n => Hid.union fun B hB => by
      obtain ⟨t, ht⟩ := List.getElem?_of_mem (List.mem_of_mem_drop hB)
      have l := (List.getElem?_eq_some_iff.mp ht).1
      exact (q4 t _ _ B (List.getElem?_eq_getElem (by omega)) (List.getElem?_eq_getElem (by omega)) ht).cells
    have nT : ∀ u, u ∈ (As.drop k).flatten → u ≠ Tt := fun u hu z => by
      subst z
      obtain ⟨o, q, _⟩ := (hidB k).cell hu
      rw [hk u hu _ q] at hT; cases hT
    have up2 : ∀ c u, H' c = some u → upd H' Tt (.tup [x1, y1]) c = some u := fun c u e => by rw [upd_ne (ne_of_none e hT)]; exact e
    obtain ⟨F', E2⟩ := E'
    have frz : ∀ c u, M c = some u → mask (mask (upd H' Tt (.tup [x1, y1])) (As.drop (k + 1)).flatten) (allOf F' ρ'.length ++ As[k]) c = some u := fun c u e => by
      have c1 := E2.same c u e
      obtain ⟨c2, c3⟩ := mask_some c1
      rw [hdrop] at c3
      rw [mask_out (fun z => (List.mem_append.mp z).elim (fun z => by rw [E2.fresh c z] at e; cases e) fun z => c3 (List.mem_append_left _ z)), mask_out (fun z => c3 (List.mem_append_right _ z))]
      exact up2 c u c2
    have E3 := E2.push (H' := mask (upd H' Tt (.tup [x1, y1])) (As.drop (k + 1)).flatten) (B := As[k]) (v := x1) (w := .ow os[k] os[k].data) (fun c hc u e => by
        obtain ⟨c1, c2⟩ := mask_some e
        rw [mask_out (fun z => c2 (by rw [hdrop]; exact List.mem_append_right _ z))]
        exact up2 c u c1) (fun c u e => by
        obtain ⟨c0, c3⟩ := mask_some e
        obtain ⟨c1, c2⟩ := mask_some c0
        rw [hdrop] at c2
        rw [mask_out (fun z => (List.mem_append.mp z).elim c3 fun z => c2 (List.mem_append_left _ z)), mask_out (fun z => c2 (List.mem_append_right _ z))]
        exact up2 c u c1) (fun c hc => mask_in (by rw [hdrop]; exact List.mem_append_left _ hc)) nd1 ⟨rfl, (q4 k x1 os[k] As[k] e1 ho hAk).keep (fun c hc u e => by
        have hcd : c ∈ (As.drop k).flatten := by rw [hdrop]; exact List.mem_append_left _ hc
        rw [mask_out (fun z => nd3 c hc c z rfl)]
        exact up2 c u (hk c hcd u e)) fun c u e => frz c u (sm c u (S1 c u e))⟩
    have ry : Rep X.K (mask (mask (upd H' Tt (.tup [x1, y1])) (As.drop (k + 1)).flatten) (allOf F' ρ'.length ++ As[k])) y1 (es[k]'(by omega)) := (rs.2 k y1 _ e2 he).mono fun c u e => frz c u (sm c u (S1 c u e))
    have hl' : σ'.length = ρ'.length := E2.len
    have E4 := EnvW.into ⟨_, E3.pushS (v := y1) (d := es[k]'(by omega)) (ry.mono (mask_sub fun c hc => by
      obtain ⟨t, ht, hu⟩ := mem_allOf.mp hc
      split at hu
      · exact List.mem_append_right _ hu
      · exact List.mem_append_left _ (E2.mem hu)))⟩ y
    rw [List.set_append_left _ _ (by omega), List.set_append_left _ _ (by omega)] at E4
    have E5 := E4.into x
    rw [List.set_comm _ _ hxy.symm, List.set_comm _ _ hxy.symm] at E5
    refine ⟨Tt, [x1, y1], rfl, SqT.of upd_same, rfl, x1, [y1], rfl, y1, [], rfl, rfl, ?_⟩
    refine WSs.frame (as := (As.drop (k + 1)).flatten) (N := fun σ3 M3 => ∃ ρ3, Iv (k + 1) ρ3 ∧ ρ3.length = ρ.length ∧ EnvW X.K M σ3 M3 ρ3) ((hidB (k + 1)).up fun u hu z e => up2 u z (hk u (by rw [hdrop]; exact List.mem_append_right _ hu) z e)) ?_ fun σ3 M3 ⟨ρ3, q, l3, E7⟩ hn up => ⟨ρ3, M, q, l3, sm, ?_, fun u hu z e => ?_⟩
    · exact (hb k os[k] (es[k]'(by omega)) ρ' ho he iv lr).run M _ _ _ E5 ⟨fun σ3 H3 ρ3 q l E => ⟨ρ3, q, by simpa [lr] using l, E⟩, fun _ _ _ q => q.elim, fun _ _ _ q => q.elim, fun _ _ _ _ q => q.elim, fun _ _ _ _ _ q => q.elim, fun _ _ _ q => q.elim⟩
    · rw [mask_join, mask_of_none hn]; exact E7
    · rw [join_in hu]
      exact up2 u z (hk u (by rw [hdrop]; exact List.mem_append_right _ hu) z e)
  · rw [List.drop_of_length_le (by omega)] at E'
    simp only [List.flatten_nil, mask_nil] at E'
    exact (hd ρ' iv lr).run H0 σ' H' D (E'.unbase (S00.trans sm)) (kk.cast lr.symm)⟩
end
end VL
set_option Elab.async false
set_option linter.all false
set_option maxRecDepth 100000
set_option maxHeartbeats 1000000
/-! value layer, part 16: a list of own things -/
namespace VL
open PySem L2
section
variable {X : Cx} {ρ : Rho} {es : List Expr} {os : List O} {pos : Pos}
theorem EvO.listO (h : EvAO X ρ es os) (hl : os.length ≤ 1000 := by simp) : EvO X ρ (.List es pos) (.ls os) :=
  ⟨fun σ H en Q q => we_of (pe_lst pa_wa) (h.run σ H en _ fun vs H1 As s1 f1 nd r1 => ⟨by rw [r1.1]; exact Nat.le_trans hl (by decide), fun p hp => by
    have hpA : p ∉ As.flatten := fun y => r1.cells.some y hp
    have s2 : Same (mask H1 As.flatten) (mask (upd H1 p (.lst vs)) (p :: As.flatten)) := fun b u z => by
      obtain ⟨z1, z2⟩ := mask_some z
      have hbp : b ≠ p := ne_of_none z1 hp
      rw [mask_out (fun y => (List.mem_cons.mp y).elim hbp z2), upd_ne hbp]
      exact z1
    have r2 := r1.keep (H' := upd H1 p (.lst vs)) (fun a ha u z => by rw [upd_ne (ne_of_none z hp)]; exact z) s2
    exact q _ _ (p :: As.flatten) (s1.trans (Same.new hp)) (fun a ha => by
      rcases List.mem_cons.mp ha with rfl | ha
      · exact s1.free hp
      · exact f1 a ha) (List.nodup_cons.mpr ⟨hpA, nd⟩) (.ls upd_same r2.1 r2.2.1 r2.2.2)⟩)⟩
end
end VL
set_option Elab.async false
set_option linter.all false
set_option maxRecDepth 100000
set_option maxHeartbeats 1000000
/-! value layer, part 17: objects -/
namespace VL
open PySem L2
/-! ### data without objects -/
mutual
def D.noOb : D → Bool
  | .ob _ _ _ => false
  | .lst xs => noObAll xs
  | .tup xs => noObAll xs
  | .ro xs => noObAll xs
  | .dd _ xs => noObAll xs
  | _ => true
def noObAll : List D → Bool
  | [] => true
  | x :: xs => x.noOb && noObAll xs
end
theorem noObAll_get : ∀ {xs : List D} {i : Nat} {d : D}, noObAll xs = true → xs[i]? = some d → d.noOb = true
  | [], i, d, _, h => by simp at h
  | x :: xs, 0, d, f, h => by
    simp at h; subst h
    unfold noObAll at f
    exact (Bool.and_eq_true_iff.mp f).1
  | x :: xs, i + 1, d, f, h => by
    unfold noObAll at f
    exact noObAll_get (Bool.and_eq_true_iff.mp f).2 (by simpa using h)
theorem noObAll_map {α : Type} {h : α → D} (hh : ∀ x, (h x).noOb = true) : ∀ L : List α, noObAll (L.map h) = true
  | [] => by simp [noObAll]
  | x :: L => by simp [noObAll, hh x, noObAll_map hh L]
mutual
def O.noOb : O → Bool
  | .sh d => d.noOb
  | .ls xs => noObO xs
  | .tu xs => noObO xs
  | .ob _ _ _ => false
  | .dd _ xs => noObO xs
  | .pin _ o => o.noOb
def noObO : List O → Bool
  | [] => true
  | x :: xs => x.noOb && noObO xs
end
theorem noObO_get : ∀ {xs : List O} {i : Nat} {d : O}, noObO xs = true → xs[i]? = some d → d.noOb = true
  | [], i, d, _, h => by simp at h
  | x :: xs, 0, d, f, h => by
    simp at h; subst h
    unfold noObO at f
    exact (Bool.and_eq_true_iff.mp f).1
  | x :: xs, i + 1, d, f, h => by
    unfold noObO at f
    exact noObO_get (Bool.and_eq_true_iff.mp f).2 (by simpa using h)
theorem noObO_sh : ∀ ds : List D, noObO (ds.map O.sh) = noObAll ds
  | [] => by simp [noObO, noObAll]
  | d :: ds => by simp [noObO, noObAll, O.noOb, noObO_sh ds]
theorem oL_noOb {ds : List D} (h : noObAll ds = true) : (oL ds).noOb = true := by unfold oL; rw [O.noOb, noObO_sh]; exact h
def insO : HO → Bool
  | .ins _ _ _ => true
  | .own _ => true
  | _ => false
section
variable {K : PySem.W.Frag} {H0 H S M : Hp} {v : V} {o : O} {d : D} {A as bs : List Addr} {σ : L2.St} {ρ : RhoW} {F : Nat → List Addr}
theorem ins_out (hl : ∀ a ∈ as, ∃ o, H a = some o ∧ insO o = true) {a : Addr} {o : HO} (h : H a = some o) (hn : insO o = false) : a ∉ as := fun z => by
  obtain ⟨o', e, c⟩ := hl a z
  rw [h] at e
  obtain rfl := Option.some.inj e
  rw [hn] at c; cases c
theorem Rep.maskN (r : Rep K H v d) (f : d.noOb = true) (hl : ∀ a ∈ as, ∃ o, H a = some o ∧ insO o = true) : Rep K (mask H as) v d := by
  induction r with
  | non => exact .non
  | bl b => exact .bl b
  | int i => exact .int i
  | str s => exact .str s
  | lst h1 h2 h3 ih =>
    unfold D.noOb at f
    exact .lst (by rw [mask_out (ins_out hl h1 rfl)]; exact h1) h2 fun i v d q1 q2 => ih i v d q1 q2 (noObAll_get f q2)
  | tup h1 h2 h3 ih =>
    unfold D.noOb at f
    exact .tup (by rw [mask_out (ins_out hl h1 rfl)]; exact h1) h2 fun i v d q1 q2 => ih i v d q1 q2 (noObAll_get f q2)
  | ro h1 h2 h3 ih =>
    unfold D.noOb at f
    refine .ro ?_ h2 fun i v d q1 q2 => ih i v d q1 q2 (noObAll_get f q2)
    rcases h1 with (h | ⟨o, h⟩) | h
    · exact .inl (.inl (by rw [mask_out (ins_out hl h rfl)]; exact h))
    · exact .inl (.inr ⟨o, by rw [mask_out (ins_out hl h rfl)]; exact h⟩)
    · exact .inr h
  | dk h1 h2 => exact .dk (by rw [mask_out (ins_out hl h1 rfl)]; exact h1) h2
  | ob h1 h2 h3 h6 h4 h5 ih => simp [D.noOb] at f
  | dd h1 h2 h3 h4 h5 ih =>
    unfold D.noOb at f
    exact .dd (by rw [mask_out (ins_out hl h1 rfl)]; exact h1) h2 h3 h4 fun i v d q1 q2 => ih i v d q1 q2 (noObAll_get f q2)
  | raw a => exact .raw a
theorem RepO.maskN (r : RepO K H S v o A) (f : o.noOb = true) (hl : ∀ a ∈ as, ∃ o, S a = some o ∧ insO o = true) : RepO K H (mask S as) v o A := by
  induction r with
  | sh q => unfold O.noOb at f; exact .sh (q.maskN f hl)
  | ls h1 h2 h3 h4 ih => unfold O.noOb at f; exact .ls h1 h2 h3 fun i v o A q1 q2 q3 => ih i v o A q1 q2 q3 (noObO_get f q2)
  | tu h1 h2 h3 h4 ih => unfold O.noOb at f; exact .tu (by rw [mask_out (ins_out hl h1 rfl)]; exact h1) h2 h3 fun i v o A q1 q2 q3 => ih i v o A q1 q2 q3 (noObO_get f q2)
  | ob h1 h2 hz h3 h4 h5 h6 h7 h8 ih => simp [O.noOb] at f
  | dd h1 h2 h3 h4 h5 h6 ih => unfold O.noOb at f; exact .dd (by rw [mask_out (ins_out hl h1 rfl)]; exact h1) h2 h3 h4 h5 fun i v o A q1 q2 q3 => ih i v o A q1 q2 q3 (noObO_get f q2)
  | pin h ih => unfold O.noOb at f; exact .pin (ih f)

/-! ### an own object's shared fields in sight -/
def shKs : List Str → List O → List Str
  | k :: ks, .sh _ :: xs => k :: shKs ks xs
  | _ :: ks, _ :: xs => shKs ks xs
  | _, _ => []
def shDs : List Str → List O → List D
  | _ :: ks, .sh d :: xs => d :: shDs ks xs
  | _ :: ks, _ :: xs => shDs ks xs
  | _, _ => []
def viewW : Option W → Option D
  | some (.sh d) => some d
  | some (.ow (.ob C ks xs) _) => some (.ob C (shKs ks xs) (shDs ks xs))
  | some (.ow (.pin _ (.ob C ks xs)) _) => some (.ob C (shKs ks xs) (shDs ks xs))
  | _ => none
def view (ρ : RhoW) : Rho := ρ.map viewW
theorem view_ob {fs : List (Str × V)} : ∀ {ks : List Str} {xs : List O} {vs : List V}, vs.length = ks.length → vs.length = xs.length → (∀ (i : Nat) f v, ks[i]? = some f → vs[i]? = some v → fs.lookup f = some v) → (∀ (i : Nat) v d, vs[i]? = some v → xs[i]? = some (.sh d) → Rep K S v d) →
    ∃ ws : List V, ws.length = (shKs ks xs).length ∧ (∀ (i : Nat) f v, (shKs ks xs)[i]? = some f → ws[i]? = some v → fs.lookup f = some v) ∧ ws.length = (shDs ks xs).length ∧ ∀ (i : Nat) v d, ws[i]? = some v → (shDs ks xs)[i]? = some d → Rep K S v d
  | [], xs, vs, h1, h2, h3, h4 => by
    cases xs <;> exact ⟨[], by unfold shKs; rfl, fun i f v e => by unfold shKs at e; simp at e, by unfold shDs; rfl, fun i v d e => by simp at e⟩
  | k :: ks, [], vs, h1, h2, h3, h4 => by rw [h2] at h1; simp at h1
  | k :: ks, x :: xs, [], h1, h2, h3, h4 => by simp at h1
  | k :: ks, x :: xs, v :: vs, h1, h2, h3, h4 => by
    obtain ⟨ws, q1, q2, q3, q4⟩ := view_ob (ks := ks) (xs := xs) (vs := vs) (by simpa using h1) (by simpa using h2) (fun i f u e1 e2 => h3 (i + 1) f u (by simpa using e1) (by simpa using e2)) (fun i u d e1 e2 => h4 (i + 1) u d (by simpa using e1) (by simpa using e2))
    cases x with
    | sh d =>
      refine ⟨v :: ws, by unfold shKs; simp [q1], fun i f u e1 e2 => ?_, by unfold shDs; simp [q3], fun i u d' e1 e2 => ?_⟩
      · unfold shKs at e1
        cases i with
        | zero => simp at e1 e2; subst e1; subst e2; exact h3 0 _ _ rfl rfl
        | succ i => exact q2 i f u (by simpa using e1) (by simpa using e2)
      · unfold shDs at e2
        cases i with
        | zero => simp at e1 e2; subst e1; subst e2; exact h4 0 _ _ rfl rfl
        | succ i => exact q4 i u d' (by simpa using e1) (by simpa using e2)
    | ls _ => exact ⟨ws, by unfold shKs; exact q1, by unfold shKs; exact q2, by unfold shDs; exact q3, by unfold shDs; exact q4⟩
    | tu _ => exact ⟨ws, by unfold shKs; exact q1, by unfold shKs; exact q2, by unfold shDs; exact q3, by unfold shDs; exact q4⟩
    | ob _ _ _ => exact ⟨ws, by unfold shKs; exact q1, by unfold shKs; exact q2, by unfold shDs; exact q3, by unfold shDs; exact q4⟩
    | dd _ _ => exact ⟨ws, by unfold shKs; exact q1, by unfold shKs; exact q2, by unfold shDs; exact q3, by unfold shDs; exact q4⟩
    | pin _ _ => exact ⟨ws, by unfold shKs; exact q1, by unfold shKs; exact q2, by unfold shDs; exact q3, by unfold shDs; exact q4⟩
/-- the lists among the cells, and the rest -/
def isIns (H : Hp) (a : Addr) : Bool := match H a with
  | some o => insO o
  | none => false
def lstAt (H : Hp) (as : List Addr) : List Addr := as.filter fun a => !isIns H a
def insAt (H : Hp) (as : List Addr) : List Addr := as.filter fun a => isIns H a
theorem mem_lstAt {a : Addr} : a ∈ lstAt H as ↔ a ∈ as ∧ isIns H a = false := by unfold lstAt; simp
theorem mem_insAt {a : Addr} : a ∈ insAt H as ↔ a ∈ as ∧ isIns H a = true := by unfold insAt; simp
theorem insAt_ins {a : Addr} (h : a ∈ insAt H as) : ∃ o, H a = some o ∧ insO o = true := by
  obtain ⟨_, h⟩ := mem_insAt.mp h
  unfold isIns at h
  cases e : H a with
  | none => rw [e] at h; cases h
  | some o => rw [e] at h; exact ⟨o, rfl, h⟩
theorem isIns_of {a : Addr} {o : HO} (e : H a = some o) : isIns H a = insO o := by unfold isIns; rw [e]
theorem EnvA.envV (E : EnvA K H0 σ H ρ F) : EnvS K σ (mask H (lstAt H (allOf F ρ.length))) (view ρ) := ⟨by unfold view; rw [List.length_map]; exact E.len, fun i d h => by
  unfold view at h
  rw [List.getElem?_map] at h
  obtain ⟨q, e, hq⟩ := Option.map_eq_some_iff.mp h
  have sub : Same (mask H (allOf F ρ.length)) (mask H (lstAt H (allOf F ρ.length))) := mask_sub fun a ha => (mem_lstAt.mp ha).1
  have main : ∀ (v : V) (C : Addr) (ks : List Str) (xs : List O) (A : List Addr), RepO K H (mask H (allOf F ρ.length)) v (.ob C ks xs) A → Rep K (mask H (lstAt H (allOf F ρ.length))) v (.ob C (shKs ks xs) (shDs ks xs)) := fun v C ks xs A r => by
    cases r with
    | @ob a _ dx fs _ vs _ As h1 h2 hz h3 h4 h5 h6 h7 h8 =>
      obtain ⟨ws, q1, q2, q3, q4⟩ := view_ob (S := mask H (lstAt H (allOf F ρ.length))) (K := K) h3 h6 h4 (fun i v d e1 e2 => by
        have l := (List.getElem?_eq_some_iff.mp e2).1
        have := h8 i v (.sh d) As[i] e1 e2 (List.getElem?_eq_getElem (by omega))
        exact this.sh_inv.2.mono sub)
      exact .ob (by rw [mask_out (fun z => by have := (mem_lstAt.mp z).2; rw [isIns_of h1] at this; cases this)]; exact h1) q1 q2 h5 q3 q4
  cases q with
  | none => cases hq
  | some w =>
    obtain ⟨v, h1, r⟩ := E.get i _ e
    cases w with
    | sh d' =>
      have : d' = d := Option.some.inj hq
      subst this
      exact ⟨v, h1, r.1.mono sub⟩
    | ow o d' =>
      cases o with
      | ob C ks xs =>
        obtain rfl : D.ob C (shKs ks xs) (shDs ks xs) = d := Option.some.inj hq
        exact ⟨v, h1, main v C ks xs _ r.2⟩
      | pin a o =>
        cases o with
        | ob C ks xs =>
          obtain rfl : D.ob C (shKs ks xs) (shDs ks xs) = d := Option.some.inj hq
          have r2 := r.2
          refine ⟨v, h1, main v C ks xs (F i) ?_⟩
          generalize F i = Fi at r2
          cases r2 with
          | pin h => exact h
        | sh _ => cases hq
        | ls _ => cases hq
        | tu _ => cases hq
        | dd _ _ => cases hq
        | pin _ _ => cases hq
      | sh _ => cases hq
      | ls _ => cases hq
      | tu _ => cases hq
      | dd _ _ => cases hq⟩
theorem EnvA.hidL (E : EnvA K H0 σ H ρ F) : Hid H (lstAt H (allOf F ρ.length)) := fun a ha => by
  obtain ⟨h1, h2⟩ := mem_lstAt.mp ha
  rcases E.cells a h1 with q | ⟨C, dx, fs, e, _⟩ | ⟨y, C, fs, e, _⟩
  · exact .inl q
  · rw [isIns_of e] at h2; cases h2
  · rw [isIns_of e] at h2; cases h2
theorem mask_ins (hn : ∀ a ∈ lstAt H as, M a = none) : mask (join M H (lstAt H as)) as = mask M (insAt H as) := by
  funext b
  by_cases hb : b ∈ as
  · rw [mask_in hb]
    by_cases hi : isIns H b = true
    · rw [mask_in (mem_insAt.mpr ⟨hb, hi⟩)]
    · have : b ∈ lstAt H as := mem_lstAt.mpr ⟨hb, by simpa using hi⟩
      rw [mask_out (fun z => hi (mem_insAt.mp z).2), hn b this]
  · rw [mask_out hb, join_out (fun z => hb (mem_lstAt.mp z).1), mask_out (fun z => hb (mem_insAt.mp z).1)]
theorem EnvA.viewO (E : EnvA K H0 σ H ρ F) (s : Same (mask H (lstAt H (allOf F ρ.length))) M) (n : ∀ a ∈ lstAt H (allOf F ρ.length), M a = none) (f : ∀ a ∈ A, mask H (lstAt H (allOf F ρ.length)) a = none) (nd : A.Nodup)
    (r : RepO K M (mask M A) v o A) (ho : o.noOb = true) (hd : o.data = d) : EnvW K H0 (σ ++ [some v]) (join M H (lstAt H (allOf F ρ.length))) (ρ ++ [some (.ow o d)]) := by
  have nL : ∀ a ∈ A, a ∉ lstAt H (allOf F ρ.length) := fun a ha z => r.cells.some ha (n a z)
  have fr : ∀ a ∈ A, H a = none := fun a ha => by have := f a ha; rw [mask_out (nL a ha)] at this; exact this
  have nA : ∀ a ∈ A, a ∉ allOf F ρ.length := fun a ha z => E.cells.some z (fr a ha)
  have insM : ∀ a ∈ insAt H (allOf F ρ.length), ∀ u, H a = some u → M a = some u := fun a ha u e => s a u (by rw [mask_out (fun z => by have h1 := (mem_lstAt.mp z).2; rw [(mem_insAt.mp ha).2] at h1; cases h1)]; exact e)
  have keep : ∀ a ∈ allOf F ρ.length, ∀ u, H a = some u → (join M H (lstAt H (allOf F ρ.length))) a = some u := fun a ha u e => by
    by_cases hi : a ∈ lstAt H (allOf F ρ.length)
    · rw [join_in hi]; exact e
    · rw [join_out hi]
      exact insM a (mem_insAt.mpr ⟨ha, by
        cases q : isIns H a with
        | true => rfl
        | false => exact absurd (mem_lstAt.mpr ⟨ha, q⟩) hi⟩) u e
  refine ⟨_, E.push (B := A) keep (fun b u e => ?_) fr nd ⟨hd, ?_⟩⟩
  · obtain ⟨e1, e2⟩ := mask_some e
    have hL : b ∉ lstAt H (allOf F ρ.length) := fun z => e2 (mem_lstAt.mp z).1
    have hbA : b ∉ A := fun z => by rw [fr b z] at e1; cases e1
    rw [mask_out (fun z => (List.mem_append.mp z).elim e2 hbA), join_out hL]
    exact s b u (by rw [mask_out hL]; exact e1)
  · have hm : mask (mask M A) (insAt H (allOf F ρ.length)) = mask (join M H (lstAt H (allOf F ρ.length))) (allOf F ρ.length ++ A) := by
      have h0 := mask_ins (M := M) (H := H) (as := allOf F ρ.length) n
      funext b
      by_cases hb : b ∈ A
      · rw [mask_in (as := allOf F ρ.length ++ A) (List.mem_append_right _ hb)]
        by_cases hi : b ∈ insAt H (allOf F ρ.length)
        · rw [mask_in hi]
        · rw [mask_out hi, mask_in hb]
      · have h1 := congrFun h0 b
        by_cases hb2 : b ∈ allOf F ρ.length
        · rw [mask_in (List.mem_append_left _ hb2)]
          rw [mask_in hb2] at h1
          by_cases hi : b ∈ insAt H (allOf F ρ.length)
          · rw [mask_in hi]
          · rw [mask_out hi, mask_out hb]
            rw [mask_out hi] at h1
            exact h1.symm
        · rw [mask_out (fun z => (List.mem_append.mp z).elim hb2 hb)]
          rw [mask_out hb2] at h1
          rw [h1]
          have hi : b ∉ insAt H (allOf F ρ.length) := fun z => hb2 (mem_insAt.mp z).1
          rw [mask_out hi, mask_out hi, mask_out hb]
    rw [← hm]
    have r2 : RepO K M (mask (mask M A) (insAt H (allOf F ρ.length))) v o A := r.maskN ho fun a ha => by
      obtain ⟨u, e, c⟩ := insAt_ins ha
      exact ⟨u, by rw [mask_out (fun z => nA a z (mem_insAt.mp ha).1)]; exact insM a ha u e, c⟩
    exact r2.keep (fun a ha u e => by rw [join_out (nL a ha)]; exact e) (Same.refl _)
end
section
variable {X : Cx} {ρ : RhoW} {e : Expr} {d : D} {o : O} {Ψ : W → RhoW → Prop}
theorem EvW.vwO (h : EvO X (view ρ) e o) (ho : o.noOb = true) (hd : o.data = d) (k : Ψ (.ow o d) ρ) : EvW X ρ e Ψ := ⟨fun H0 σ H ⟨F, E⟩ Q q => by
  refine (WE.frame E.hidL (h.run σ (mask H (lstAt H (allOf F ρ.length))) E.envV (fun v M => ∃ A, Same (mask H (lstAt H (allOf F ρ.length))) M ∧ (∀ a ∈ A, mask H (lstAt H (allOf F ρ.length)) a = none) ∧ A.Nodup ∧ RepO X.K M (mask M A) v o A) fun v M A s f n r => ⟨A, s, f, n, r⟩)).mono ?_
  rintro v H' ⟨M, ⟨A, s, f, nd, r⟩, rfl, n, up⟩
  exact q v _ (.ow o d) ρ k rfl (E.viewO s n f nd r ho hd)⟩
theorem EvW.vw (h : Ev X (view ρ) e d) (ho : d.noOb = true) (k : Ψ (.sh d) ρ) : EvW X ρ e Ψ := ⟨fun H0 σ H ⟨F, E⟩ Q q => by
  refine (WE.frame E.hidL (h.run σ (mask H (lstAt H (allOf F ρ.length))) E.envV (fun v M => Same (mask H (lstAt H (allOf F ρ.length))) M ∧ Rep X.K M v d) fun v M s r => ⟨s, r⟩)).mono ?_
  rintro v H' ⟨M, ⟨s, r⟩, rfl, n, up⟩
  have E2 := E.viewO (A := []) (o := .sh d) (d := d) s n (by simp) List.nodup_nil (.sh (by rw [mask_nil]; exact r)) (by unfold O.noOb; exact ho) (by rw [O.data])
  refine q v _ (.sh d) ρ k rfl ?_
  have E3 := E2.share (i := ρ.length) (o := .sh d) (d := d) (by simp)
  rw [List.set_append_right _ _ (Nat.le_refl _), Nat.sub_self, List.set_cons_zero] at E3
  exact E3⟩
end

/-! ### fields and methods of data -/
section
variable {X : Cx} {ρ : Rho} {e : Expr} {es : List Expr} {f m : Str} {pos p apos : Pos} {C : Addr} {ks : List Str} {ds args : List D} {d : D} {k : Nat} {post : O → Prop} {o : O}
theorem Ev.fld (h : Ev X ρ e (.ob C ks ds)) (i : Nat) (hk : ks[i]? = some f) (hd : ds[i]? = some d) (hc : Cls X.K C) (hn : NoAttr X.K C f) (hb : attributeBase e f X.env (eval e X.env) = eval e X.env := by rfl) : Ev X ρ (.Attribute e f pos) d :=
  ⟨fun σ H en Q q => we_of (pe_fld pe_we hb) (h.run σ H en _ fun v H1 s1 r1 => by
    cases r1 with
    | @ob a _ dx fs _ vs _ h1 h2 h3 h6 h4 h5 =>
      have hl := (List.getElem?_eq_some_iff.mp hk).1
      have hv : vs[i]? = some (vs[i]'(by omega)) := List.getElem?_eq_getElem (by omega)
      exact ⟨a, C, dx, fs, _, rfl, h1, hc, hn, h3 i f _ hk hv, q _ H1 s1 (h5 i _ d hv hd)⟩)⟩
/-- a method that changes nothing: what a call is worth -/
structure VM (P : Program) (w : World) (K : PySem.W.Frag) (mg : Str → Option Value) (base : Heap) (k : Nat) (C : Addr) (m : Str) (ds : List D) (post : O → Prop) : Prop where
  ex : ∃ (f : Addr) (fd : FuncData) (ps : List Str), Meth K C m f ∧ Binds K fd ps [] ∧ FnOk P w K mg base CX0 k f fd ps (spV K ds post)
theorem look_none {K : PySem.W.Frag} {C g : Addr} {m : Str} {fs : List (Str × V)} (hm : Meth K C m g) (h : ∀ f, fs.lookup f ≠ none → NoAttr K C f) : fs.lookup m = none := by
  cases e : fs.lookup m with
  | none => rfl
  | some v =>
    have := h m (by rw [e]; simp)
    unfold NoAttr at this
    rw [hm.at_] at this
    cases this
theorem EvN.meth0 {pl : Sem Bool} (F : VM X.prog X.w X.K X.mg X.base k C m [.ob C ks ds] post) (hc : Cls X.K C) (hr : Room k X.A) (h : Ev X ρ e (.ob C ks ds))
    (ht : eval (.Call (.Attribute e m apos) [] [] pos) X.env = (do
      let ov ← eval e X.env
      standAt apos.atName
      let (f, first) ← holding [ov] (getMethod ov m pl)
      callWith pos f first (backTo pos (starEach [] X.env)) (backToKw pos (keywordEach [] X.env))) := by rfl) : EvN X ρ (.Call (.Attribute e m apos) [] [] pos) post := by
  obtain ⟨f, fd, ps, h1, h3, h4⟩ := F.ex
  refine ⟨fun σ H en Q q => we_of (pe_meth0 (pl := pl) (E := E0) pe_we hc h1 h4 hr h3 .nil pass0 ht) (h.run σ H en _ fun v H1 s1 r1 => ?_)⟩
  have r1' := r1
  cases r1 with
  | @ob a _ dx fs _ vs _ g1 g2 g3 g6 g4 g5 =>
    refine ⟨a, dx, fs, rfl, g1, look_none h1 g6, ?_⟩
    show spV X.K _ post ([V.ref a] ++ []) H1 Q E0
    rw [List.append_nil]
    exact ⟨.cons r1' .nil, fun o' v H' A po s2 fr nd ro => q o' v H' A po (s1.trans s2) (fun a ha => s1.free (fr a ha)) nd ro⟩
theorem EvN.evO (h : EvN X ρ e fun o' => o' = o) : EvO X ρ e o := ⟨fun σ H en Q q => h.run σ H en Q fun o' v H' A p s f n r => q v H' A s f n (p ▸ r)⟩
theorem EvN.mono {post' : O → Prop} (h : EvN X ρ e post) (m : ∀ o, post o → post' o) : EvN X ρ e post' := ⟨fun σ H en Q q => h.run σ H en Q fun o' v H' A p => q o' v H' A (m o' p)⟩
end

/-! ### own arguments: what a def does to them -/
def spG (K : PySem.W.Frag) (ws : List W) (post : List W → W → Prop) : Sp := fun vs H Q _ => vs.length = ws.length ∧ ∃ F, EnvA K (mask H (allOf F ws.length)) (vs.map some) H (ws.map some) F ∧
  ∀ ws' w r H', ws'.length = ws.length → post ws' w → EnvW K (mask H (allOf F ws.length)) (vs.map some ++ [some r]) H' (ws'.map some ++ [some w]) → Q r H'
def Shape (w w' : W) : Prop := (∃ d, w = .sh d ∧ w' = .sh d) ∨ ∃ a o d o' d', w = .ow (.pin a o) d ∧ w' = .ow (.pin a o') d'
def startG (n : Nat) (ws : List W) : RhoW := ws.map some ++ List.replicate (n - ws.length) none
/-- at the end of a body the slots of own arguments hold what is told -/
def EndG (ws : List W) (post : List W → W → Prop) (ρ : RhoW) (w : W) : Prop := ∃ ws' : List W, ws'.length = ws.length ∧ (∀ (i : Nat) x y, ws[i]? = some x → ws'[i]? = some y → Shape x y ∧ ∀ o d, y = .ow o d → ρ[i]? = some (some y)) ∧ post ws' w
section
variable {P : Program} {w : World} {K : PySem.W.Frag} {mg : Str → Option Value} {base : Heap}
theorem EnvA.sh_rep {H0 H : Hp} {σ : L2.St} {ρ : RhoW} {F : Nat → List Addr} (E : EnvA K H0 σ H ρ F) (hb : H0 = mask H (allOf F ρ.length)) {i : Nat} {d : D} (h : ρ[i]? = some (some (.sh d))) : ∃ v, σ[i]? = some (some v) ∧ Rep K H0 v d := by
  obtain ⟨v, e, r⟩ := E.get i _ h
  exact ⟨v, e, hb ▸ r.1⟩
/-- the slots' ends: own arguments are where they were, shared ones stand -/
theorem endG {H0 H H' : Hp} {vs : List V} {ws ws' : List W} {F : Nat → List Addr} (E : EnvA K H0 (vs.map some) H (ws.map some) F) (hb : H0 = mask H (allOf F ws.length)) (hl : vs.length = ws.length) {σ : L2.St} {ρ : RhoW} {r : V} {w : W} (hn : ws.length ≤ ρ.length) (E' : EnvW K H0 (σ ++ [some r]) H' (ρ ++ [some w]))
    (hl' : ws'.length = ws.length) (hs : ∀ (i : Nat) x y, ws[i]? = some x → ws'[i]? = some y → Shape x y ∧ ∀ o d, y = .ow o d → ρ[i]? = some (some y)) : EnvW K H0 (vs.map some ++ [some r]) H' (ws'.map some ++ [some w]) := by
  have hσ : σ.length = ρ.length := by have := E'.len; simpa using this
  -- the own ones and the answer
  let own : RhoW := ws'.map fun y => match y with | .ow o d => some (.ow o d) | .sh _ => none
  have ol : own.length = ws.length := by simp [own, hl']
  have E1 : EnvW K H0 (vs.map some ++ [some r]) H' (own ++ [some w]) := by
    refine E'.remap (fun j => if j = ws.length then some ρ.length else if j < ws.length then some j else none) (by simp [ol, hl]) (fun j x h => ?_) fun j j' k h1 h2 => ?_
    · by_cases hj : j < ws.length
      · rw [List.getElem?_append_left (by rw [ol]; exact hj)] at h
        have h : (ws'.map fun y => match y with | W.ow o d => some (W.ow o d) | W.sh _ => none)[j]? = some (some x) := h
        rw [List.getElem?_map, List.getElem?_eq_getElem (by omega : j < ws'.length)] at h
        obtain ⟨sh, so⟩ := hs j ws[j] ws'[j] (List.getElem?_eq_getElem hj) (List.getElem?_eq_getElem (by omega))
        generalize ws'[j] = y at h sh so
        cases y with
        | sh d => cases h
        | ow o d =>
          have hx : W.ow o d = x := Option.some.inj (Option.some.inj h)
          subst hx
          have hρ := so o d rfl
          refine ⟨j, by simp [show ¬ j = ws.length by omega, hj], by rw [List.getElem?_append_left (by omega)]; exact hρ, ?_⟩
          rcases sh with ⟨d0, _, q⟩ | ⟨a, o1, d1, o2, d2, q1, q2⟩
          · cases q
          · obtain ⟨F', E'⟩ := E'
            obtain ⟨v1, e1, r1⟩ := E.get j ws[j] (by rw [List.getElem?_map, List.getElem?_eq_getElem hj]; rfl)
            obtain ⟨v2, e2, r2⟩ := E'.get j (.ow o d) (by rw [List.getElem?_append_left (by omega)]; exact hρ)
            rw [q1] at r1
            cases q2
            have hv1 : v1 = .ref a := by
              have r1 := r1.2
              generalize F j = Fj at r1
              cases r1 with
              | pin _ => rfl
            have hv2 : v2 = .ref a := by
              have r2 := r2.2
              generalize F' j = Fj at r2
              cases r2 with
              | pin _ => rfl
            rw [e2, hv2, List.getElem?_append_left (by simp; omega), e1, hv1]
      · have hj2 := (List.getElem?_eq_some_iff.mp h).1
        simp [ol] at hj2
        have e : j = ws.length := by omega
        subst e
        rw [List.getElem?_append_right (by omega)] at h
        simp [ol] at h
        subst h
        refine ⟨ρ.length, by simp, by simp, ?_⟩
        rw [← hσ, ← hl]
        simp
    · try dsimp only at h1 h2
      split at h1 <;> split at h2
      · omega
      · split at h2
        · cases h1; cases h2; omega
        · cases h2
      · split at h1
        · cases h1; cases h2; omega
        · cases h1
      · split at h1 <;> split at h2 <;> first | (cases h1; cases h2; rfl) | (cases h2; done) | (cases h1; done)
  -- the shared ones
  obtain ⟨F1, E1⟩ := E1
  let G : Nat → List Addr := F1
  have hall : allOf F1 (ws'.map some ++ [some w]).length = allOf F1 (own ++ [some w]).length := by simp [ol, hl']
  refine ⟨F1, by simp [hl, hl'], E1.nd, E1.dj, by rw [hall]; exact E1.fresh, E1.same, fun i x h => ?_, fun i h => ?_⟩
  · rw [hall]
    by_cases hi : i < ws.length
    · rw [List.getElem?_append_left (by simp; omega), List.getElem?_map, List.getElem?_eq_getElem (by omega : i < ws'.length)] at h
      have hx : ws'[i] = x := Option.some.inj (Option.some.inj h)
      obtain ⟨sh, so⟩ := hs i ws[i] ws'[i] (List.getElem?_eq_getElem hi) (List.getElem?_eq_getElem (by omega))
      rw [hx] at sh so
      rcases sh with ⟨d, q1, q2⟩ | ⟨a, o1, d1, o2, d2, q1, q2⟩
      · obtain ⟨v, e, rv⟩ := E.sh_rep (by simpa using hb) (i := i) (d := d) (by rw [List.getElem?_map, List.getElem?_eq_getElem hi, q1]; rfl)
        refine ⟨v, by rw [List.getElem?_append_left (by simp; omega)]; exact e, ?_⟩
        subst q2
        refine ⟨rv.mono (mask_same_of E1.same fun a ha => E1.fresh a ha), E1.off i fun w' z => ?_⟩
        rw [List.getElem?_append_left (by rw [ol]; exact hi)] at z
        have z : (ws'.map fun y => match y with | W.ow o d => some (W.ow o d) | W.sh _ => none)[i]? = some (some w') := z
        rw [List.getElem?_map, List.getElem?_eq_getElem (by omega : i < ws'.length), hx] at z
        cases z
      · subst q2
        refine E1.get i _ ?_
        rw [List.getElem?_append_left (by rw [ol]; exact hi)]
        show (ws'.map fun y => match y with | W.ow o d => some (W.ow o d) | W.sh _ => none)[i]? = _
        rw [List.getElem?_map, List.getElem?_eq_getElem (by omega : i < ws'.length), hx]; rfl
    · refine E1.get i x ?_
      have hi2 := (List.getElem?_eq_some_iff.mp h).1
      simp [hl'] at hi2
      have e : i = ws.length := by omega
      subst e
      rw [List.getElem?_append_right (by simp; omega)] at h
      simp [hl'] at h
      subst h
      rw [List.getElem?_append_right (by omega)]
      simp [ol]
  · refine E1.off i fun x z => ?_
    have hi2 := (List.getElem?_eq_some_iff.mp z).1
    simp [ol] at hi2
    by_cases hi : i < ws.length
    · exact h ws'[i] (by rw [List.getElem?_append_left (by simp; omega), List.getElem?_map, List.getElem?_eq_getElem (by omega : i < ws'.length)]; rfl)
    · have e : i = ws.length := by omega
      subst e
      exact h w (by rw [List.getElem?_append_right (by simp; omega)]; simp [hl'])
theorem fnOk_ofG {x qual : Str} {st : Stmt} {f : Addr} {fd : FuncData} {N ps : List Str} {k : Nat} {ws : List W} {post : List W → W → Prop} {ρ : RhoW} (F : Fun K x qual st f fd) (S : FnScope N ps (defScope st)) (hl : ps.length = ws.length) (hρ : startG N.length ws = ρ)
    (h : ∀ (cdv : Value) (A : Around) (outer : List Env) (s : Shared) (H : Hp) (E : XK), Room k (cxOf CX0 P w K mg base N qual (defScope st) f cdv A outer s H E).A →
      Ws (cxOf CX0 P w K mg base N qual (defScope st) f cdv A outer s H E).nox ρ (defBody st) { nx := fun ρ => EndG ws post ρ (.sh .non), rt := fun _ => False, rs := EndG ws post }) : FnOk P w K mg base CX0 (k + 1) f fd ps (spG K ws post) := by
  have hN : ps.length ≤ N.length := by have := congrArg List.length S.pre; rw [List.length_take] at this; omega
  refine F.ok S (fun vs H Q E q => by rw [hl]; exact q.1) fun cdv A outer s H vs Q E hr q => ?_
  obtain ⟨lv, F0, E0', q⟩ := q
  have hb : mask H (allOf F0 ws.length) = mask H (allOf F0 ws.length) := rfl
  refine ⟨_, pss_wss, ?_⟩
  have En : EnvW K (mask H (allOf F0 ws.length)) (L2.start N vs) H ρ := by
    subst hρ
    refine EnvW.remap (fun j => if j < ws.length then some j else none) ⟨F0, E0'⟩ ?_ (fun j y hj => ?_) fun j j' i h1 h2 => ?_
    · unfold L2.start startG; simp [lv]; try omega
    · unfold startG at hj
      by_cases hjw : j < ws.length
      · rw [List.getElem?_append_left (by simpa using hjw)] at hj
        refine ⟨j, by simp [hjw], hj, ?_⟩
        unfold L2.start
        rw [List.getElem?_append_left (by simp; omega)]
      · rw [List.getElem?_append_right (by simpa using hjw), List.getElem?_replicate] at hj
        split at hj <;> cases hj
    · try dsimp only at h1 h2
      split at h1 <;> split at h2 <;> first | (cases h1; cases h2; rfl) | (cases h2; done) | (cases h1; done)
  have hρl : ws.length ≤ ρ.length := by subst hρ; unfold startG; simp
  refine (h cdv A outer s H E hr).run (mask H (allOf F0 ws.length)) (L2.start N vs) H _ En ⟨fun σ H' ρ' p l E' => ?_, fun σ H' ρ' p l E' => p.elim, fun σ H' ρ' p l E' => p.elim, fun o v H' A p s f nd r => p.elim, fun σ v w' H' ρ' p l E' => ?_, fun _ _ _ p => p.elim⟩
  · obtain ⟨ws', l', hs, pp⟩ := p
    obtain ⟨F', E2⟩ := E'
    exact q ws' (.sh .non) .non H' l' pp (endG E0' (by simp) lv (by omega) ⟨_, E2.pushS .non⟩ l' hs)
  · obtain ⟨ws', l', hs, pp⟩ := p
    exact q ws' w' v H' l' pp (endG E0' (by simp) lv (by omega) E' l' hs)
end
end VL
set_option Elab.async false
set_option linter.all false
set_option maxRecDepth 100000
set_option maxHeartbeats 1000000
/-! value layer, part 18: objects made and changed -/
namespace VL
open PySem L2
section
variable {K : PySem.W.Frag} {H0 H S M : Hp} {v r : V} {w : W} {o o' : O} {d d' d0 : D} {A B as bs : List Addr} {σ : L2.St} {ρ : RhoW} {F : Nat → List Addr}
/-- the cells of all slots but one -/
def othersOf (F : Nat → List Addr) (n i : Nat) : List Addr := (List.range n).flatMap fun j => if j = i then [] else F j
theorem mem_others {n i : Nat} {a : Addr} : a ∈ othersOf F n i ↔ ∃ j, j < n ∧ j ≠ i ∧ a ∈ F j := by
  unfold othersOf
  simp only [List.mem_flatMap, List.mem_range]
  constructor
  · rintro ⟨j, hj, h⟩
    split at h
    · cases h
    · exact ⟨j, hj, by assumption, h⟩
  · rintro ⟨j, hj, hji, h⟩
    exact ⟨j, hj, by rw [if_neg hji]; exact h⟩
theorem EnvA.hid1 (E : EnvA K H0 σ H ρ F) (i : Nat) : Hid H (F i) := by
  cases e : ρ[i]? with
  | none => rw [E.off i (fun w z => by rw [e] at z; cases z)]; exact Hid.nil
  | some q =>
    cases q with
    | none => rw [E.off i (fun w z => by rw [e] at z; cases z)]; exact Hid.nil
    | some w =>
      obtain ⟨v, _, r⟩ := E.get i w e
      exact r.cells
theorem EnvA.hidO (E : EnvA K H0 σ H ρ F) (i : Nat) : Hid H (othersOf F ρ.length i) := fun a ha => by
  obtain ⟨j, hj, hji, h⟩ := mem_others.mp ha
  rcases E.hid1 j a h with q | ⟨C, dx, fs, e, d⟩ | ⟨y, C, fs, e, d, e2⟩
  · exact .inl q
  · exact .inr (.inl ⟨C, dx, fs, e, mem_others.mpr ⟨j, hj, hji, d⟩⟩)
  · exact .inr (.inr ⟨y, C, fs, e, mem_others.mpr ⟨j, hj, hji, d⟩, e2⟩)
theorem EnvA.apart (E : EnvA K H0 σ H ρ F) {i : Nat} {a : Addr} (ha : a ∈ F i) : a ∉ othersOf F ρ.length i := fun z => by
  obtain ⟨j, _, hji, h⟩ := mem_others.mp z
  exact hji (E.dj j i a h ha)
theorem EnvA.mem_all (E : EnvA K H0 σ H ρ F) {i : Nat} {a : Addr} : a ∈ allOf F ρ.length ↔ a ∈ F i ∨ a ∈ othersOf F ρ.length i := by
  constructor
  · intro h
    obtain ⟨j, hj, h⟩ := mem_allOf.mp h
    by_cases e : j = i
    · subst e; exact .inl h
    · exact .inr (mem_others.mpr ⟨j, hj, e, h⟩)
  · rintro (h | h)
    · exact E.mem h
    · obtain ⟨j, hj, _, h⟩ := mem_others.mp h
      exact E.mem h
theorem EnvA.mask2 (E : EnvA K H0 σ H ρ F) (i : Nat) : mask (mask H (othersOf F ρ.length i)) (F i) = mask H (allOf F ρ.length) := by
  funext b
  by_cases h1 : b ∈ F i
  · rw [mask_in h1, mask_in (E.mem h1)]
  · by_cases h2 : b ∈ othersOf F ρ.length i
    · rw [mask_out h1, mask_in h2, mask_in ((E.mem_all (i := i)).mpr (.inr h2))]
    · rw [mask_out h1, mask_out h2, mask_out fun z => ((E.mem_all (i := i)).mp z).elim h1 h2]
theorem EnvA.hidM (E : EnvA K H0 σ H ρ F) (i : Nat) : Hid (mask H (othersOf F ρ.length i)) (F i) := (E.hid1 i).up fun a ha u e => by rw [mask_out (E.apart ha)]; exact e
/-- slot i's thing changed while all else is put aside -/
theorem EnvA.back (E : EnvA K H0 σ H ρ F) {i : Nat} (hi : i < ρ.length) (hv : σ[i]? = some (some v)) (s : Same (mask H (allOf F ρ.length)) M) (n : ∀ a ∈ othersOf F ρ.length i, M a = none) (nd : (A ++ B).Nodup) (fr : ∀ a ∈ A ++ B, mask H (allOf F ρ.length) a = none)
    (r1 : RepO K M (mask M (A ++ B)) v o' A) (hd : o'.data = d') (r2 : RepW K M (mask M (A ++ B)) r w B) : EnvW K H0 (σ ++ [some r]) (join M H (othersOf F ρ.length i)) (ρ.set i (some (.ow o' d')) ++ [some w]) := by
  have hσ := E.len
  have someM : ∀ a, a ∈ A ∨ a ∈ B → M a ≠ none := fun a h => h.elim (fun h => r1.cells.some h) (fun h => r2.cells.some h)
  have nO : ∀ a, a ∈ A ∨ a ∈ B → a ∉ othersOf F ρ.length i := fun a h z => someM a h (n a z)
  have jM : ∀ b u, M b = some u → join M H (othersOf F ρ.length i) b = some u := fun b u e => by rw [join_out (fun z => by rw [n b z] at e; cases e)]; exact e
  have fresh : ∀ a, a ∈ A ∨ a ∈ B → H a = none ∨ a ∈ F i := fun a h => by
    by_cases hF : a ∈ F i
    · exact .inr hF
    · have := fr a (List.mem_append.mpr h)
      rw [mask_out (fun z => ((E.mem_all (i := i)).mp z).elim hF (nO a h))] at this
      exact .inl this
  have fresh0 : ∀ a, a ∈ A ∨ a ∈ B → H0 a = none := fun a h => (fresh a h).elim (fun h => E.same.free h) (fun h => E.fresh a (E.mem h))
  let G : Nat → List Addr := fun j => if j = i then A else if j = ρ.length then B else F j
  have Gother : ∀ j a, j ≠ i → j ≠ ρ.length → a ∈ G j → a ∈ othersOf F ρ.length i := fun j a h1 h2 ha => by
    dsimp only [G] at ha
    rw [if_neg h1, if_neg h2] at ha
    refine mem_others.mpr ⟨j, ?_, h1, ha⟩
    obtain ⟨k, hk, hx⟩ := mem_allOf.mp (E.mem ha)
    rw [E.dj j k a ha hx]; exact hk
  have hall : ∀ a, a ∈ allOf G (ρ.set i (some (.ow o' d')) ++ [some w]).length ↔ a ∈ A ∨ a ∈ B ∨ a ∈ othersOf F ρ.length i := fun a => by
    rw [mem_allOf]
    constructor
    · rintro ⟨j, hj, h⟩
      by_cases e1 : j = i
      · dsimp only [G] at h; rw [if_pos e1] at h; exact .inl h
      · by_cases e2 : j = ρ.length
        · dsimp only [G] at h; rw [if_neg e1, if_pos e2] at h; exact .inr (.inl h)
        · exact .inr (.inr (Gother j a e1 e2 h))
    · rintro (h | h | h)
      · exact ⟨i, by simp; omega, by dsimp only [G]; rw [if_pos rfl]; exact h⟩
      · exact ⟨ρ.length, by simp, by dsimp only [G]; rw [if_neg (by omega), if_pos rfl]; exact h⟩
      · obtain ⟨j, hj, hji, h⟩ := mem_others.mp h
        exact ⟨j, by simp; omega, by dsimp only [G]; rw [if_neg hji, if_neg (by omega)]; exact h⟩
  have hmask : mask (join M H (othersOf F ρ.length i)) (allOf G (ρ.set i (some (.ow o' d')) ++ [some w]).length) = mask M (A ++ B) := by
    funext b
    by_cases hb : b ∈ A ++ B
    · rw [mask_in hb, mask_in ((hall b).mpr ((List.mem_append.mp hb).elim .inl (fun h => .inr (.inl h))))]
    · by_cases ho : b ∈ othersOf F ρ.length i
      · rw [mask_in ((hall b).mpr (.inr (.inr ho))), mask_out hb, n b ho]
      · rw [mask_out (fun z => ((hall b).mp z).elim (fun h => hb (List.mem_append_left _ h)) (fun h => h.elim (fun h => hb (List.mem_append_right _ h)) ho)), join_out ho, mask_out hb]
  have sM : Same (mask H (allOf F ρ.length)) (mask M (A ++ B)) := mask_same_of s fr
  obtain ⟨ndA, ndB, ndAB⟩ := List.nodup_append.mp nd
  refine ⟨G, by simp [hσ], fun j => ?_, fun j k a h1 h2 => ?_, fun a ha => ?_, fun b u e => ?_, fun j x hx => ?_, fun j hj => ?_⟩
  · dsimp only [G]
    split
    · exact ndA
    · split
      · exact ndB
      · exact E.nd j
  · by_cases j1 : j = i <;> by_cases k1 : k = i
    · rw [j1, k1]
    · dsimp only [G] at h1 h2
      rw [if_pos j1] at h1
      by_cases k2 : k = ρ.length
      · rw [if_neg k1, if_pos k2] at h2; exact absurd rfl (ndAB a h1 a h2)
      · exact absurd (Gother k a k1 k2 h2) (nO a (.inl h1))
    · dsimp only [G] at h1 h2
      rw [if_pos k1] at h2
      by_cases j2 : j = ρ.length
      · rw [if_neg j1, if_pos j2] at h1; exact absurd rfl (ndAB a h2 a h1)
      · exact absurd (Gother j a j1 j2 h1) (nO a (.inl h2))
    · by_cases j2 : j = ρ.length <;> by_cases k2 : k = ρ.length
      · rw [j2, k2]
      · dsimp only [G] at h1 h2
        rw [if_neg j1, if_pos j2] at h1
        exact absurd (Gother k a k1 k2 h2) (nO a (.inr h1))
      · dsimp only [G] at h1 h2
        rw [if_neg k1, if_pos k2] at h2
        exact absurd (Gother j a j1 j2 h1) (nO a (.inr h2))
      · dsimp only [G] at h1 h2
        rw [if_neg j1, if_neg j2] at h1
        rw [if_neg k1, if_neg k2] at h2
        exact E.dj j k a h1 h2
  · rcases (hall a).mp ha with h | h | h
    · exact fresh0 a (.inl h)
    · exact fresh0 a (.inr h)
    · obtain ⟨j, hj, _, h⟩ := mem_others.mp h
      exact E.fresh a (E.mem h)
  · have hb : b ∉ allOf F ρ.length := fun z => by rw [E.fresh b z] at e; cases e
    exact jM b u (s b u (by rw [mask_out hb]; exact E.same b u e))
  · rw [hmask]
    by_cases j1 : j = i
    · subst j1
      rw [List.getElem?_append_left (by simpa using hi), List.getElem?_set_self hi] at hx
      obtain rfl := Option.some.inj (Option.some.inj hx)
      refine ⟨v, by rw [List.getElem?_append_left (by omega)]; exact hv, hd, ?_⟩
      dsimp only [G]
      rw [if_pos rfl]
      exact r1.keep (fun a _ u e => jM a u e) (Same.refl _)
    · by_cases j2 : j = ρ.length
      · subst j2
        rw [List.getElem?_append_right (by simp)] at hx
        simp at hx
        subst hx
        refine ⟨r, by rw [← hσ]; simp, ?_⟩
        dsimp only [G]
        rw [if_neg (by omega), if_pos rfl]
        exact r2.keep (fun a _ u e => jM a u e) (Same.refl _)
      · have hj : j < ρ.length := by
          have := (List.getElem?_eq_some_iff.mp hx).1
          simp at this; omega
        rw [List.getElem?_append_left (by simpa using hj), List.getElem?_set_ne (Ne.symm j1)] at hx
        obtain ⟨u, e, ru⟩ := E.get j x hx
        refine ⟨u, by rw [List.getElem?_append_left (by omega)]; exact e, ?_⟩
        dsimp only [G]
        rw [if_neg j1, if_neg j2]
        exact ru.keep (fun a ha z hz => by rw [join_in (mem_others.mpr ⟨j, hj, j1, ha⟩)]; exact hz) sM
  · by_cases j1 : j = i
    · subst j1
      exact absurd (by rw [List.getElem?_append_left (by simpa using hi), List.getElem?_set_self hi]) (hj (.ow o' d'))
    · by_cases j2 : j = ρ.length
      · subst j2
        exact absurd (by rw [List.getElem?_append_right (by simp)]; simp) (hj w)
      · dsimp only [G]
        rw [if_neg j1, if_neg j2]
        refine E.off j fun x e => hj x ?_
        have hj2 := (List.getElem?_eq_some_iff.mp e).1
        rw [List.getElem?_append_left (by simpa using hj2), List.getElem?_set_ne (Ne.symm j1)]
        exact e
end

/-! ### methods that change their object -/
/-- o, d0: the object ahead; ds: the arguments; post: the object behind, the answer -/
structure GM (P : Program) (w : World) (K : PySem.W.Frag) (mg : Str → Option Value) (base : Heap) (k : Nat) (C : Addr) (m : Str) (o : O) (d0 : D) (ds : List D) (post : O → D → W → Prop) : Prop where
  ex : ∃ (f : Addr) (fd : FuncData) (ps : List Str), Meth K C m f ∧ Binds K fd ps [] ∧ ∀ a, FnOk P w K mg base CX0 k f fd ps (spG K (.ow (.pin a o) d0 :: ds.map W.sh) fun ws' w => ∃ o' d', ws' = .ow (.pin a o') d' :: ds.map W.sh ∧ post o' d' w)
section
variable {X : Cx} {ρ : RhoW} {e : Expr} {es : List Expr} {x m : Str} {p q1 apos pos : Pos} {C : Addr} {ks : List Str} {xs : List O} {d0 : D} {ds : List D} {k : Nat} {post : O → D → W → Prop} {Ψ : W → RhoW → Prop}
theorem RepW.shs {K : PySem.W.Frag} {H S : Hp} {vs : List V} (r : Reps K S vs ds) : ∀ (i : Nat) (v : V) (d : D), vs[i]? = some v → ds[i]? = some d → RepW K H S v (.sh d) [] := fun i v d h1 h2 => ⟨r.2 i v d h1 h2, rfl⟩
/-- the arguments of such a call -/
theorem envG {K : PySem.W.Frag} {M1 : Hp} {a : Addr} {vs : List V} {o : O} {A : List Addr} (nd : A.Nodup) (r1 : RepO K M1 (mask M1 A) (.ref a) o A) (hd : o.data = d0) (rs : Reps K (mask M1 A) vs ds) :
    let F : Nat → List Addr := fun j => if j = 0 then A else []
    allOf F (W.ow (.pin a o) d0 :: ds.map W.sh).length = A ∧ EnvA K (mask M1 A) ((V.ref a :: vs).map some) M1 ((W.ow (.pin a o) d0 :: ds.map W.sh).map some) F := by
  intro F
  have hall : ∀ n, allOf F (n + 1) = A := fun n => by
    unfold allOf
    rw [List.range_succ_eq_map, List.flatMap_cons]
    have : (List.map Nat.succ (List.range n)).flatMap F = [] := by
      rw [List.flatMap_eq_nil_iff]
      intro j hj
      obtain ⟨i, _, rfl⟩ := List.mem_map.mp hj
      exact if_neg (by omega)
    rw [this, List.append_nil]
    exact if_pos rfl
  have ha : allOf F (W.ow (.pin a o) d0 :: ds.map W.sh).length = A := hall _
  refine ⟨ha, by simp [rs.1], fun i => ?_, fun i j b h1 h2 => ?_, fun b hb => ?_, mask_same, fun i w h => ?_, fun i h => ?_⟩
  · dsimp only [F]; split
    · exact nd
    · exact List.nodup_nil
  · dsimp only [F] at h1 h2
    split at h1
    · split at h2
      · omega
      · cases h2
    · cases h1
  · rw [show ((W.ow (.pin a o) d0 :: ds.map W.sh).map some).length = (W.ow (.pin a o) d0 :: ds.map W.sh).length by simp, ha] at hb
    exact mask_in hb
  · rw [show ((W.ow (.pin a o) d0 :: ds.map W.sh).map some).length = (W.ow (.pin a o) d0 :: ds.map W.sh).length by simp, ha]
    cases i with
    | zero =>
      simp at h
      subst h
      exact ⟨.ref a, rfl, by rw [O.data]; exact hd, by dsimp only [F]; rw [if_pos rfl]; exact .pin r1⟩
    | succ i =>
      simp only [List.map_cons, List.getElem?_cons_succ, List.getElem?_map] at h
      obtain ⟨y, hy, hw⟩ := Option.map_eq_some_iff.mp h
      obtain ⟨d, hd2, rfl⟩ := Option.map_eq_some_iff.mp hy
      obtain rfl := Option.some.inj hw
      obtain ⟨v, hv, rv⟩ := rs.get hd2
      exact ⟨v, by simp [hv], rv, by dsimp only [F]; rw [if_neg (by omega)]⟩
  · dsimp only [F]
    split
    · rename_i e; subst e
      exact absurd rfl (h _)
    · rfl
/-- what such a call leaves -/
theorem outG {K : PySem.W.Frag} {M1 M : Hp} {a : Addr} {vs : List V} {A : List Addr} {o' : O} {d' : D} {w : W} {r : V} (E : EnvW K (mask M1 A) ((V.ref a :: vs).map some ++ [some r]) M ((W.ow (.pin a o') d' :: ds.map W.sh).map some ++ [some w])) (hl : vs.length = ds.length) :
    ∃ A' B, (A' ++ B).Nodup ∧ (∀ b ∈ A' ++ B, mask M1 A b = none) ∧ Same (mask M1 A) M ∧ RepO K M (mask M (A' ++ B)) (.ref a) o' A' ∧ o'.data = d' ∧ RepW K M (mask M (A' ++ B)) r w B := by
  obtain ⟨F, E⟩ := E
  obtain ⟨v0, e0, r0⟩ := E.get 0 (.ow (.pin a o') d') (by simp)
  have ev : v0 = .ref a := by simp at e0; exact e0.symm
  subst ev
  obtain ⟨v1, e1, r1⟩ := E.get ((W.ow (.pin a o') d' :: ds.map W.sh).map some).length w (by simp)
  have ev : v1 = r := by
    rw [List.getElem?_append_right (by simp [hl])] at e1
    simp [hl] at e1; exact e1.symm
  subst ev
  have hn : 0 ≠ ((W.ow (.pin a o') d' :: ds.map W.sh).map some).length := by simp
  have sub : ∀ b ∈ F 0 ++ F ((W.ow (.pin a o') d' :: ds.map W.sh).map some).length, b ∈ allOf F ((W.ow (.pin a o') d' :: ds.map W.sh).map some ++ [some w]).length := fun b hb => (List.mem_append.mp hb).elim (fun h => E.mem h) (fun h => E.mem h)
  refine ⟨F 0, F ((W.ow (.pin a o') d' :: ds.map W.sh).map some).length, List.nodup_append.mpr ⟨E.nd _, E.nd _, fun b h1 c h2 e => hn (E.dj _ _ b h1 (e ▸ h2))⟩, fun b hb => E.fresh b (sub b hb), E.same, ?_, r0.1, r1.keep (fun _ _ _ z => z) (mask_sub sub)⟩
  have q := r0.2
  generalize F 0 = F0 at q sub
  cases q with
  | pin h => exact h.keep (fun _ _ _ z => z) (mask_sub sub)
theorem EvW.mut {pl : Sem Bool} (i : Nat) (F : GM X.prog X.w X.K X.mg X.base k C m (.ob C ks xs) d0 ds post) (hc : Cls X.K C) (hr : Room k X.A) (ha : EvA X (hide ρ) (e :: es) ds) (hk : ∀ o' d' w, post o' d' w → Ψ w (ρ.set i (some (.ow o' d'))))
    (hN : X.N[i]? = some x := by rfl) (hρ : ρ[i]? = some (some (.ow (.ob C ks xs) d0)) := by rfl) (hpv : PE X (.Name x p) (tVar i) := by exact pv _)
    (hst : starEach (e :: es) X.env = (false, eval e X.env) :: starEach es X.env := by rfl) (hpl : (backTo pos (starEach es X.env)).any (·.1) = false := by rfl)
    (ht : eval (.Call (.Attribute (.Name x p) m apos) (e :: es) [] pos) X.env = (do
      let ov ← eval (.Name x p) X.env
      standAt apos.atName
      let (f, first) ← holding [ov] (getMethod ov m pl)
      callWith pos f first (backTo pos (starEach (e :: es) X.env)) (backToKw pos (keywordEach [] X.env))) := by rfl) : EvW X ρ (.Call (.Attribute (.Name x p) m apos) (e :: es) [] pos) Ψ := ⟨fun H0 σ H ⟨G, E⟩ Q q => by
  obtain ⟨f, fd, ps, h1, h3, h4⟩ := F.ex
  have hi := (List.getElem?_eq_some_iff.mp hρ).1
  obtain ⟨v, hσ, rv⟩ := E.get i _ hρ
  have ro := rv.2
  have hF : ∃ a dx fs, v = .ref a ∧ H a = some (.ins C dx fs) ∧ (∀ f, fs.lookup f ≠ none → NoAttr X.K C f) ∧ a ∈ G i := by
    generalize G i = Gi at ro
    cases ro with
    | @ob a _ dx fs _ vs _ As g1 g2 gz g3 g4 g5 g6 g7 g8 => exact ⟨a, dx, fs, rfl, g1, g5, by simp⟩
  obtain ⟨a, dx, fs, rfl, ga, gn, gm⟩ := hF
  have m2 := E.mask2 i
  refine (WE.frame (E.hidO i) (we_of (pe_meth (pl := pl) (E := E0) hpv hc h1 (h4 a) hr h3 .nil pass0 pa_wa hst hpl ht) ⟨.ref a, hσ, a, dx, fs, rfl, by rw [mask_out (E.apart gm)]; exact ga, look_none h1 gn, ?_⟩ :
    WE X (.Call (.Attribute (.Name x p) m apos) (e :: es) [] pos) σ (mask H (othersOf G ρ.length i)) (fun r M => ∃ o' d' w A B, post o' d' w ∧ (A ++ B).Nodup ∧ (∀ a ∈ A ++ B, mask H (allOf G ρ.length) a = none) ∧ Same (mask H (allOf G ρ.length)) M ∧ RepO X.K M (mask M (A ++ B)) (.ref a) o' A ∧ o'.data = d' ∧ RepW X.K M (mask M (A ++ B)) r w B))).mono ?_
  · refine (WA.frame (E.hidM i) (ha.run σ (mask (mask H (othersOf G ρ.length i)) (G i)) (by rw [m2]; exact E.envH) (fun vs M => Same (mask H (allOf G ρ.length)) M ∧ Reps X.K M vs ds) fun vs M s r => ⟨by rw [← m2]; exact s, r⟩)).mono ?_
    rintro vs M1 ⟨M, ⟨s, rs⟩, rfl, n, up⟩
    -- the heap ahead of the call
    have hmM : mask (join M (mask H (othersOf G ρ.length i)) (G i)) (G i) = M := by rw [mask_join, mask_of_none n]
    have r1 : RepO X.K (join M (mask H (othersOf G ρ.length i)) (G i)) (mask (join M (mask H (othersOf G ρ.length i)) (G i)) (G i)) (.ref a) (.ob C ks xs) (G i) := by
      rw [hmM]
      exact ro.keep (fun b hb u z => by rw [join_in hb, mask_out (E.apart hb)]; exact z) s
    obtain ⟨eA, EG⟩ := envG (ds := ds) (d0 := d0) (vs := vs) (E.nd i) r1 rv.1 (by rw [hmM]; exact rs)
    rw [List.append_nil]
    refine ⟨by simp [rs.1], _, by rw [eA]; exact EG, fun ws' w r M' hl pp Er => ?_⟩
    obtain ⟨o', d', rfl, po⟩ := pp
    rw [eA] at Er
    obtain ⟨A', B, nd, fr, sm, q1, q2, q3⟩ := outG Er (by exact rs.1)
    rw [hmM] at fr sm
    refine ⟨o', d', w, A', B, po, nd, fun b hb => ?_, s.trans sm, q1, q2, q3⟩
    have hn := fr b hb
    cases hh : mask H (allOf G ρ.length) b with
    | none => rfl
    | some u => rw [s b u hh] at hn; cases hn
  · rintro r H' ⟨M, ⟨o', d', w, A, B, po, nd, fr, sm, q1, q2, q3⟩, rfl, n, up⟩
    exact q r _ w _ (hk o' d' w po) (by simp) (E.back hi hσ sm n nd fr q1 q2 q3)⟩
end

/-! ### an object made -/
def spI (K : PySem.W.Frag) (C : Addr) (ds : List D) (post : O → Prop) : Sp := fun vs H Q _ => ∃ (x dx : Addr) (us : List V) (H1 : Hp), vs = .ref x :: us ∧ H = upd (upd H1 dx (.own x)) x (.ins C dx []) ∧ H1 x = none ∧ H1 dx = none ∧ dx ≠ x ∧ Reps K H1 us ds ∧
  ∀ o H' A, post o → Same H1 H' → (∀ a ∈ A, H1 a = none) → A.Nodup → RepO K H' (mask H' A) (.ref x) o A → Q .non H'
structure VI (P : Program) (w : World) (K : PySem.W.Frag) (mg : Str → Option Value) (base : Heap) (k : Nat) (C : Addr) (x : Str) (ds : List D) (post : O → Prop) : Prop where
  ex : ∃ (f : Addr) (fd : FuncData) (ps : List Str), mg x = some (.ref C) ∧ Mk K C f ∧ Binds K fd ps [] ∧ FnOk P w K mg base CX0 k f fd ps (spI K C ds post)
theorem EvN.make {X : Cx} {ρ : Rho} {e : Expr} {es : List Expr} {x : Str} {p pos : Pos} {C : Addr} {ds : List D} {k : Nat} {post : O → Prop} (F : VI X.prog X.w X.K X.mg X.base k C x ds post) (hr : Room (k + 1) X.A) (ha : EvA X ρ (e :: es) ds) (hg : Gl X x := by rfl) (hdb : (x == ("__debug__" : Str)) = false := by decide)
    (he : starEach (e :: es) X.env = (false, eval e X.env) :: starEach es X.env := by rfl) (hpl : (backTo pos (starEach es X.env)).any (·.1) = false := by rfl) : EvN X ρ (.Call (.Name x p) (e :: es) [] pos) post := by
  obtain ⟨f, fd, ps, h1, h2, h3, h4⟩ := F.ex
  refine ⟨fun σ H en Q q => we_of (pe_make (E := E0) h2 h4 hr hg h1 h3 .nil pass0 pa_wa hdb he hpl) (ha.run σ H en _ fun vs H1 s1 r1 => fun y dy ny ndy nedy => ?_)⟩
  rw [List.append_nil]
  exact ⟨y, dy, vs, H1, rfl, rfl, ny, ndy, nedy, r1, fun o H' A po s2 fr nd ro => ⟨rfl, q o (.ref y) H' A po (s1.trans s2) (fun a ha => s1.free (fr a ha)) nd ro⟩⟩
section
variable {P : Program} {w : World} {K : PySem.W.Frag} {mg : Str → Option Value} {base : Heap}
theorem fnOk_ofI {x qual : Str} {st : Stmt} {f C : Addr} {fd : FuncData} {N ps : List Str} {k : Nat} {ds : List D} {post : O → Prop} (F : Fun K x qual st f fd) (S : FnScope N ps (defScope st)) (hl : ps.length = ds.length + 1)
    (h : ∀ (a : Addr) (cdv : Value) (A : Around) (outer : List Env) (s : Shared) (H : Hp) (E : XK), Room k (cxOf CX0 P w K mg base N qual (defScope st) f cdv A outer s H E).A →
      Ws (cxOf CX0 P w K mg base N qual (defScope st) f cdv A outer s H E).nox (startG N.length (.ow (.pin a (.ob C [] [])) (.ob C [] []) :: ds.map W.sh)) (defBody st) { nx := fun ρ => ∃ o d, ρ[0]? = some (some (.ow (.pin a o) d)) ∧ post o, rt := fun _ => False }) : FnOk P w K mg base CX0 (k + 1) f fd ps (spI K C ds post) := by
  have hN : ps.length ≤ N.length := by have := congrArg List.length S.pre; rw [List.length_take] at this; omega
  refine F.ok S (fun vs H Q E q => by obtain ⟨x, dx, us, H1, rfl, _, _, _, _, r, _⟩ := q; rw [hl]; simp [r.1]) fun cdv A outer s H vs Q E hr q => ?_
  obtain ⟨y, dy, us, H1, rfl, rfl, ny, ndy, ne, rs, q⟩ := q
  have mm : mask (upd (upd H1 dy (.own y)) y (.ins C dy [])) [y, dy] = H1 := by
    funext b
    by_cases hb : b ∈ [y, dy]
    · rw [mask_in hb]
      rcases List.mem_cons.mp hb with rfl | hb
      · exact ny.symm
      · obtain rfl : b = dy := by simpa using hb
        exact ndy.symm
    · rw [mask_out hb]
      simp only [List.mem_cons, List.not_mem_nil, or_false, not_or] at hb
      rw [upd_ne hb.1, upd_ne hb.2]
  have r1 : RepO K (upd (upd H1 dy (.own y)) y (.ins C dy [])) (mask (upd (upd H1 dy (.own y)) y (.ins C dy [])) [y, dy]) (.ref y) (.ob C [] []) [y, dy] := by
    have := RepO.ob (K := K) (S := mask (upd (upd H1 dy (.own y)) y (.ins C dy [])) [y, dy]) (a := y) (C := C) (dx := dy) (fs := []) (ks := []) (vs := []) (os := []) (As := []) (H := upd (upd H1 dy (.own y)) y (.ins C dy [])) upd_same (by rw [upd_ne ne]; exact upd_same) (by simp) rfl (by simp) (by simp) rfl rfl (by simp)
    exact this
  obtain ⟨eA, EG⟩ := envG (ds := ds) (d0 := .ob C [] []) (vs := us) (o := .ob C [] []) (A := [y, dy]) (by simp [ne.symm]) r1 (by rw [O.data, dataAll]) (by rw [mm]; exact rs)
  refine ⟨_, pss_wss, ?_⟩
  have En : EnvW K H1 (L2.start N (.ref y :: us)) (upd (upd H1 dy (.own y)) y (.ins C dy [])) (startG N.length (.ow (.pin y (.ob C [] [])) (.ob C [] []) :: ds.map W.sh)) := by
    rw [mm] at EG
    refine EnvW.remap (fun j => if j < (W.ow (.pin y (.ob C [] [])) (.ob C [] []) :: ds.map W.sh).length then some j else none) ⟨_, EG⟩ ?_ (fun j z hj => ?_) fun j j' i h1 h2 => ?_
    · unfold L2.start startG; simp [rs.1]
    · unfold startG at hj
      by_cases hjw : j < (W.ow (.pin y (.ob C [] [])) (.ob C [] []) :: ds.map W.sh).length
      · rw [List.getElem?_append_left (by simpa using hjw)] at hj
        refine ⟨j, by rw [if_pos hjw], hj, ?_⟩
        unfold L2.start
        rw [List.getElem?_append_left (by simp [rs.1] at hjw ⊢; omega)]
      · rw [List.getElem?_append_right (by simpa using hjw), List.getElem?_replicate] at hj
        split at hj <;> cases hj
    · try dsimp only at h1 h2
      split at h1 <;> split at h2 <;> first | (cases h1; cases h2; rfl) | (cases h2; done) | (cases h1; done)
  refine (h y cdv A outer s _ E hr).run H1 (L2.start N (.ref y :: us)) _ _ En ⟨fun σ H' ρ' p l E' => ?_, fun σ H' ρ' p l E' => p.elim, fun σ H' ρ' p l E' => p.elim, fun o v H' A p s f nd r => p.elim, fun σ v w' H' ρ' p l E' => p.elim, fun _ _ _ p => p.elim⟩
  obtain ⟨o, d, ho, po⟩ := p
  obtain ⟨F', E2⟩ := E'
  obtain ⟨v, e, r⟩ := E2.get 0 _ ho
  have r2 := r.2
  have sub : ∀ a ∈ F' 0, a ∈ allOf F' ρ'.length := fun a ha => E2.mem ha
  have nd0 := E2.nd 0
  generalize F' 0 = F0 at r2 sub nd0
  cases r2 with
  | pin h => exact q o H' F0 po E2.same (fun a ha => E2.fresh a (sub a ha)) nd0 (h.keep (fun _ _ _ z => z) (mask_sub sub))
end

/-! ### fields stored -/
theorem putF_len {f : Str} {v u : V} : ∀ {fs : List (Str × V)}, fs.lookup f = some u → (putF f v fs).length = fs.length
  | [], h => by cases h
  | (k, y) :: r, h => by
    rw [show putF f v ((k, y) :: r) = (if k = f then (k, v) :: r else (k, y) :: putF f v r) from rfl]
    by_cases hk : k = f
    · rw [if_pos hk]; rfl
    · rw [if_neg hk, List.length_cons, List.length_cons, putF_len (fs := r) (by
        rw [List.lookup_cons] at h
        have : (f == k) = false := by simpa using fun z => hk z.symm
        rw [this] at h
        exact h)]
section
variable {K : PySem.W.Frag} {H0 H S M : Hp} {v : V} {w : W} {σ : L2.St} {ρ : RhoW} {F : Nat → List Addr} {a C : Addr} {ks : List Str} {xs : List O} {d0 d' : D} {f : Str}
theorem flat_snoc {As : List (List Addr)} {B : List Addr} : (As ++ [B]).flatten = As.flatten ++ B := by simp
/-- a new field -/
theorem EnvA.fldNew (E : EnvA K H0 (σ ++ [some v]) H (ρ ++ [some w]) F) {i : Nat} (hi : ρ[i]? = some (some (.ow (.pin a (.ob C ks xs)) d0))) (hf : f ∉ ks) (hn : NoAttr K C f) (hd : (O.pin a (.ob C (ks ++ [f]) (xs ++ [w.toO]))).data = d') :
    ∃ dx fs, σ[i]? = some (some (.ref a)) ∧ H a = some (.ins C dx fs) ∧ fs.length ≤ ks.length ∧ EnvW K H0 σ (upd H a (.ins C dx (putF f v fs))) (ρ.set i (some (.ow (.pin a (.ob C (ks ++ [f]) (xs ++ [w.toO]))) d'))) := by
  have hl : σ.length = ρ.length := by have := E.len; simpa using this
  have hi' := (List.getElem?_eq_some_iff.mp hi).1
  obtain ⟨v0, e0, r0⟩ := E.get i _ (by rw [List.getElem?_append_left hi']; exact hi)
  rw [List.getElem?_append_left (by omega)] at e0
  obtain ⟨v1, e1, r1⟩ := E.get ρ.length w (by simp)
  have ev : v1 = v := by rw [← hl] at e1; simp at e1; exact e1.symm
  subst ev
  have ro := r0.2
  have rw' := r1.toO
  have nd := E.nd i
  have mem : ∀ b ∈ F i, b ∈ allOf F (ρ ++ [some w]).length := fun b hb => E.mem hb
  have memB : ∀ b ∈ F ρ.length, b ∈ allOf F (ρ ++ [some w]).length := fun b hb => E.mem hb
  have dis : ∀ b, b ∈ F i → b ∈ F ρ.length → False := fun b h1 h2 => by have := E.dj _ _ b h1 h2; omega
  have hFi : ∃ Fi, F i = Fi := ⟨_, rfl⟩
  obtain ⟨Fi, hFi⟩ := hFi
  rw [hFi] at ro nd mem dis
  cases ro with
  | pin ro =>
  cases ro with
  | @ob _ _ dx fs _ vs _ As g1 g2 gz g3 g4 g5 g6 g7 g8 =>
  refine ⟨dx, fs, e0, g1, gz, ?_⟩
  let G : Nat → List Addr := fun j => if j = i then a :: dx :: (As ++ [F ρ.length]).flatten else if j = ρ.length then [] else F j
  have hG : ∀ b j, b ∈ G j → (j = i ∧ (b ∈ F i ∨ b ∈ F ρ.length)) ∨ (j ≠ i ∧ j ≠ ρ.length ∧ b ∈ F j) := fun b j h => by
    dsimp only [G] at h
    by_cases j1 : j = i
    · rw [if_pos j1, flat_snoc] at h
      left
      refine ⟨j1, ?_⟩
      rw [hFi]
      simp only [List.mem_cons, List.mem_append] at h ⊢
      rcases h with h | h | h | h <;> simp [h]
    · rw [if_neg j1] at h
      by_cases j2 : j = ρ.length
      · rw [if_pos j2] at h; cases h
      · rw [if_neg j2] at h; exact .inr ⟨j1, j2, h⟩
  have hall : ∀ b, b ∈ allOf G (ρ.set i (some (.ow (.pin a (.ob C (ks ++ [f]) (xs ++ [w.toO]))) d'))).length ↔ b ∈ allOf F (ρ ++ [some w]).length := fun b => by
    rw [mem_allOf, mem_allOf]
    constructor
    · rintro ⟨j, hj, h⟩
      simp at hj
      rcases hG b j h with ⟨_, h | h⟩ | ⟨_, _, h⟩
      · exact ⟨i, by simp; omega, h⟩
      · exact ⟨ρ.length, by simp, h⟩
      · exact ⟨j, by simp; omega, h⟩
    · rintro ⟨j, hj, h⟩
      simp at hj
      by_cases j1 : j = i
      · subst j1
        refine ⟨j, by simp; omega, ?_⟩
        dsimp only [G]
        rw [if_pos rfl, flat_snoc]
        rw [hFi] at h
        simp only [List.mem_cons, List.mem_append] at h ⊢
        rcases h with h | h | h <;> simp [h]
      · by_cases j2 : j = ρ.length
        · subst j2
          refine ⟨i, by simp; omega, ?_⟩
          dsimp only [G]
          rw [if_pos rfl, flat_snoc]
          simp [h]
        · exact ⟨j, by simp; omega, by dsimp only [G]; rw [if_neg j1, if_neg j2]; exact h⟩
  have aall : a ∈ allOf F (ρ ++ [some w]).length := mem a (by simp)
  have hmask : mask (upd H a (.ins C dx (putF f v1 fs))) (allOf G (ρ.set i (some (.ow (.pin a (.ob C (ks ++ [f]) (xs ++ [w.toO]))) d'))).length) = mask H (allOf F (ρ ++ [some w]).length) := by
    rw [mask_upd_in ((hall a).mpr aall)]
    funext b
    by_cases hb : b ∈ allOf F (ρ ++ [some w]).length
    · rw [mask_in hb, mask_in ((hall b).mpr hb)]
    · rw [mask_out hb, mask_out (fun z => hb ((hall b).mp z))]
  obtain ⟨na, nd1⟩ := List.nodup_cons.mp nd
  obtain ⟨ndx, nd2⟩ := List.nodup_cons.mp nd1
  have lk0 : fs.lookup f = none ∨ True := .inr trivial
  have nek : ∀ (j : Nat) g, ks[j]? = some g → g ≠ f := fun j g hg z => hf (z ▸ List.mem_of_getElem? hg)
  refine ⟨G, by simp [hl], fun j => ?_, fun j k b h1 h2 => ?_, fun b hb => E.fresh b ((hall b).mp hb), fun b u e => ?_, fun j x hx => ?_, fun j hj => ?_⟩
  · dsimp only [G]
    split
    · rw [flat_snoc]
      have : (a :: dx :: (As.flatten ++ F ρ.length)) = (a :: dx :: As.flatten) ++ F ρ.length := by simp
      rw [this]
      exact List.nodup_append.mpr ⟨nd, E.nd _, fun b h1 c h2 e => dis b h1 (e ▸ h2)⟩
    · split
      · exact List.nodup_nil
      · exact E.nd j
  · rcases hG b j h1 with ⟨j1, q1⟩ | ⟨j1, j2, q1⟩ <;> rcases hG b k h2 with ⟨k1, q2⟩ | ⟨k1, k2, q2⟩
    · rw [j1, k1]
    · rcases q1 with q1 | q1
      · exact absurd (E.dj _ _ b q2 q1) k1
      · exact absurd (E.dj _ _ b q2 q1) k2
    · rcases q2 with q2 | q2
      · exact absurd (E.dj _ _ b q1 q2) j1
      · exact absurd (E.dj _ _ b q1 q2) j2
    · exact E.dj j k b q1 q2
  · rw [upd_ne (fun z => by rw [z, E.fresh a aall] at e; cases e)]
    exact E.same b u e
  · rw [hmask]
    by_cases j1 : j = i
    · subst j1
      rw [List.getElem?_set_self hi'] at hx
      obtain rfl := Option.some.inj (Option.some.inj hx)
      refine ⟨.ref a, e0, hd, ?_⟩
      dsimp only [G]
      rw [if_pos rfl]
      have keepAs : ∀ (t : Nat) B, As[t]? = some B → ∀ b ∈ B, ∀ u, H b = some u → upd H a (.ins C dx (putF f v1 fs)) b = some u := fun t B hB b hb u z => by
        rw [upd_ne (fun y => na (by rw [← y]; exact List.mem_cons_of_mem _ (List.mem_flatten.mpr ⟨B, List.mem_of_getElem? hB, hb⟩)))]; exact z
      refine .pin (.ob (vs := vs ++ [v1]) (fs := putF f v1 fs) upd_same ?_ ?_ (by simp [g3]) (fun t g u h1 h2 => ?_) (fun g hg => ?_) (by simp [g6]) (by simp [g7]) (fun t u o B h1 h2 h3 => ?_))
      · rw [upd_ne (fun z => na (by rw [z]; simp))]; exact g2
      · have := length_putF f v1 fs
        simp; omega
      · rw [lookup_putF]
        by_cases ht : t < ks.length
        · rw [List.getElem?_append_left ht] at h1
          rw [List.getElem?_append_left (by omega)] at h2
          rw [if_neg (nek t g h1)]
          exact g4 t g u h1 h2
        · have hl1 := (List.getElem?_eq_some_iff.mp h1).1
          simp at hl1
          have et : t = ks.length := by omega
          subst et
          rw [List.getElem?_append_right (Nat.le_refl _)] at h1
          rw [List.getElem?_append_right (by omega)] at h2
          simp [g3] at h1 h2
          subst h1; subst h2
          rw [if_pos rfl]
      · rw [lookup_putF] at hg
        by_cases e : g = f
        · rw [e]; exact hn
        · rw [if_neg e] at hg; exact g5 g hg
      · by_cases ht : t < xs.length
        · rw [List.getElem?_append_left (by omega)] at h1 h2 h3
          exact (g8 t u o B h1 h2 h3).keep (keepAs t B h3) (Same.refl _)
        · have hl1 := (List.getElem?_eq_some_iff.mp h2).1
          simp at hl1
          have et : t = xs.length := by omega
          subst et
          rw [List.getElem?_append_right (by omega)] at h1 h2 h3
          simp [g6, g7] at h1 h2 h3
          subst h1; subst h2; subst h3
          exact rw'.keep (fun b hb u z => by rw [upd_ne (fun y => dis a (by simp) (by rw [← y]; exact hb))]; exact z) (Same.refl _)
    · rw [List.getElem?_set_ne (Ne.symm j1)] at hx
      have hj := (List.getElem?_eq_some_iff.mp hx).1
      obtain ⟨u, e, ru⟩ := E.get j x (by rw [List.getElem?_append_left hj]; exact hx)
      rw [List.getElem?_append_left (by omega)] at e
      refine ⟨u, e, ?_⟩
      dsimp only [G]
      rw [if_neg j1, if_neg (by omega)]
      refine ru.keep (fun b hb z hz => ?_) (Same.refl _)
      rw [upd_ne (fun y => j1 (E.dj j i b hb (by rw [y, hFi]; simp)))]; exact hz
  · by_cases j1 : j = i
    · subst j1
      exact absurd (by rw [List.getElem?_set_self hi']) (hj (.ow (.pin a (.ob C (ks ++ [f]) (xs ++ [w.toO]))) d'))
    · dsimp only [G]
      rw [if_neg j1]
      split
      · rfl
      · rename_i j2
        refine E.off j fun x e => hj x ?_
        have hj2 := (List.getElem?_eq_some_iff.mp e).1
        simp at hj2
        rw [List.getElem?_append_left (by omega)] at e
        rw [List.getElem?_set_ne (Ne.symm j1)]
        exact e
/-- a field that there is -/
theorem EnvA.fldOld (E : EnvA K H0 (σ ++ [some v]) H (ρ ++ [some w]) F) {i k : Nat} (hi : ρ[i]? = some (some (.ow (.pin a (.ob C ks xs)) d0))) (hf : ks[k]? = some f) (nk : ks.Nodup) (hn : NoAttr K C f) (hd : (O.pin a (.ob C ks (xs.set k w.toO))).data = d') :
    ∃ dx fs, σ[i]? = some (some (.ref a)) ∧ H a = some (.ins C dx fs) ∧ fs.length ≤ ks.length ∧ EnvW K H0 σ (upd H a (.ins C dx (putF f v fs))) (ρ.set i (some (.ow (.pin a (.ob C ks (xs.set k w.toO))) d'))) := by
  have hl : σ.length = ρ.length := by have := E.len; simpa using this
  have hi' := (List.getElem?_eq_some_iff.mp hi).1
  have hk := (List.getElem?_eq_some_iff.mp hf).1
  obtain ⟨v0, e0, r0⟩ := E.get i _ (by rw [List.getElem?_append_left hi']; exact hi)
  rw [List.getElem?_append_left (by omega)] at e0
  obtain ⟨v1, e1, r1⟩ := E.get ρ.length w (by simp)
  have ev : v1 = v := by rw [← hl] at e1; simp at e1; exact e1.symm
  subst ev
  have ro := r0.2
  have rw' := r1.toO
  have nd := E.nd i
  have mem : ∀ b ∈ F i, b ∈ allOf F (ρ ++ [some w]).length := fun b hb => E.mem hb
  have dis : ∀ b, b ∈ F i → b ∈ F ρ.length → False := fun b h1 h2 => by have := E.dj _ _ b h1 h2; omega
  have hFi : ∃ Fi, F i = Fi := ⟨_, rfl⟩
  obtain ⟨Fi, hFi⟩ := hFi
  rw [hFi] at ro nd mem dis
  cases ro with
  | pin ro =>
  cases ro with
  | @ob _ _ dx fs _ vs _ As g1 g2 gz g3 g4 g5 g6 g7 g8 =>
  refine ⟨dx, fs, e0, g1, gz, ?_⟩
  let G : Nat → List Addr := fun j => if j = i then a :: dx :: (As.set k (F ρ.length)).flatten else if j = ρ.length then [] else F j
  have subS : ∀ b, b ∈ (As.set k (F ρ.length)).flatten → b ∈ As.flatten ∨ b ∈ F ρ.length := fun b h => by
    obtain ⟨B, hB, hb⟩ := List.mem_flatten.mp h
    rcases List.mem_or_eq_of_mem_set hB with hB | rfl
    · exact .inl (List.mem_flatten.mpr ⟨B, hB, hb⟩)
    · exact .inr hb
  have hG : ∀ b j, b ∈ G j → (j = i ∧ (b ∈ F i ∨ b ∈ F ρ.length)) ∨ (j ≠ i ∧ j ≠ ρ.length ∧ b ∈ F j) := fun b j h => by
    dsimp only [G] at h
    by_cases j1 : j = i
    · rw [if_pos j1] at h
      left
      refine ⟨j1, ?_⟩
      rw [hFi]
      simp only [List.mem_cons] at h ⊢
      rcases h with h | h | h
      · simp [h]
      · simp [h]
      · rcases subS b h with h | h <;> simp [h]
    · rw [if_neg j1] at h
      by_cases j2 : j = ρ.length
      · rw [if_pos j2] at h; cases h
      · rw [if_neg j2] at h; exact .inr ⟨j1, j2, h⟩
  have hsub : ∀ b, b ∈ allOf G (ρ.set i (some (.ow (.pin a (.ob C ks (xs.set k w.toO))) d'))).length → b ∈ allOf F (ρ ++ [some w]).length := fun b h => by
    obtain ⟨j, hj, h⟩ := mem_allOf.mp h
    rcases hG b j h with ⟨_, h | h⟩ | ⟨_, _, h⟩
    · exact E.mem h
    · exact E.mem h
    · exact E.mem h
  have aG : a ∈ allOf G (ρ.set i (some (.ow (.pin a (.ob C ks (xs.set k w.toO))) d'))).length := mem_allOf.mpr ⟨i, by simp; omega, by dsimp only [G]; rw [if_pos rfl]; simp⟩
  have aall : a ∈ allOf F (ρ ++ [some w]).length := mem a (by simp)
  have sm : Same (mask H (allOf F (ρ ++ [some w]).length)) (mask (upd H a (.ins C dx (putF f v1 fs))) (allOf G (ρ.set i (some (.ow (.pin a (.ob C ks (xs.set k w.toO))) d'))).length)) := by
    rw [mask_upd_in aG]
    exact mask_sub hsub
  obtain ⟨na, nd1⟩ := List.nodup_cons.mp nd
  obtain ⟨ndx, nd2⟩ := List.nodup_cons.mp nd1
  have hvk : vs[k]? = some (vs[k]'(by omega)) := List.getElem?_eq_getElem (by omega)
  have nek : ∀ (j : Nat) g, ks[j]? = some g → j ≠ k → g ≠ f := fun j g hg hjk z => by
    subst z
    have l1 := (List.getElem?_eq_some_iff.mp hg)
    have l2 := (List.getElem?_eq_some_iff.mp hf)
    obtain ⟨a1, b1⟩ := l1
    obtain ⟨a2, b2⟩ := l2
    exact hjk ((List.getElem_inj nk).mp (by rw [b1, b2]))
  have ndset : (As.set k (F ρ.length)).flatten.Nodup := by
    unfold List.Nodup at nd2 ⊢
    rw [List.pairwise_flatten] at nd2 ⊢
    refine ⟨fun B hB => ?_, ?_⟩
    · rcases List.mem_or_eq_of_mem_set hB with hB | rfl
      · exact nd2.1 B hB
      · exact E.nd _
    · have pw := nd2.2
      rw [List.pairwise_iff_getElem] at pw ⊢
      intro s t hs ht hst
      simp only [List.length_set] at hs ht
      rw [List.getElem_set, List.getElem_set]
      have inAs : ∀ t (h : t < As.length), ∀ b ∈ As[t], b ∈ F i := fun t h b hb => by rw [hFi]; exact List.mem_cons_of_mem _ (List.mem_cons_of_mem _ (List.mem_flatten.mpr ⟨_, List.getElem_mem h, hb⟩))
      split
      · split
        · omega
        · intro b h1 c h2 e
          subst e
          exact dis b (by rw [← hFi]; exact inAs t ht b h2) h1
      · split
        · intro b h1 c h2 e
          subst e
          exact dis b (by rw [← hFi]; exact inAs s hs b h1) h2
        · exact pw s t hs ht hst
  refine ⟨G, by simp [hl], fun j => ?_, fun j t b h1 h2 => ?_, fun b hb => E.fresh b (hsub b hb), fun b u e => ?_, fun j x hx => ?_, fun j hj => ?_⟩
  · dsimp only [G]
    split
    · refine List.nodup_cons.mpr ⟨fun z => ?_, List.nodup_cons.mpr ⟨fun z => ?_, ndset⟩⟩
      · rcases List.mem_cons.mp z with z | z
        · exact na (by rw [← z]; simp)
        · rcases subS a z with z | z
          · exact na (List.mem_cons_of_mem _ z)
          · exact dis a (by simp) z
      · rcases subS dx z with z | z
        · exact ndx z
        · exact dis dx (by simp) z
    · split
      · exact List.nodup_nil
      · exact E.nd j
  · rcases hG b j h1 with ⟨j1, q1⟩ | ⟨j1, j2, q1⟩ <;> rcases hG b t h2 with ⟨k1, q2⟩ | ⟨k1, k2, q2⟩
    · rw [j1, k1]
    · rcases q1 with q1 | q1
      · exact absurd (E.dj _ _ b q2 q1) k1
      · exact absurd (E.dj _ _ b q2 q1) k2
    · rcases q2 with q2 | q2
      · exact absurd (E.dj _ _ b q1 q2) j1
      · exact absurd (E.dj _ _ b q1 q2) j2
    · exact E.dj j t b q1 q2
  · rw [upd_ne (fun z => by rw [z, E.fresh a aall] at e; cases e)]
    exact E.same b u e
  · by_cases j1 : j = i
    · subst j1
      rw [List.getElem?_set_self hi'] at hx
      obtain rfl := Option.some.inj (Option.some.inj hx)
      refine ⟨.ref a, e0, hd, ?_⟩
      dsimp only [G]
      rw [if_pos rfl]
      have keepAs : ∀ (t : Nat) B, As[t]? = some B → ∀ b ∈ B, ∀ u, H b = some u → upd H a (.ins C dx (putF f v1 fs)) b = some u := fun t B hB b hb u z => by
        rw [upd_ne (fun y => na (by rw [← y]; exact List.mem_cons_of_mem _ (List.mem_flatten.mpr ⟨B, List.mem_of_getElem? hB, hb⟩)))]; exact z
      refine .pin (.ob (vs := vs.set k v1) (fs := putF f v1 fs) upd_same ?_ ?_ (by simp [g3]) (fun t g u h1 h2 => ?_) (fun g hg => ?_) (by simp [g6]) (by simp [g7]) (fun t u o B h1 h2 h3 => ?_))
      · rw [upd_ne (fun z => na (by rw [z]; simp))]; exact g2
      · rw [putF_len (g4 k f _ hf hvk)]; exact gz
      · rw [lookup_putF]
        by_cases ht : t = k
        · subst ht
          rw [List.getElem?_set_self (by omega)] at h2
          rw [hf] at h1
          obtain rfl := Option.some.inj h1
          obtain rfl := Option.some.inj h2
          rw [if_pos rfl]
        · rw [List.getElem?_set_ne (Ne.symm ht)] at h2
          rw [if_neg (nek t g h1 ht)]
          exact g4 t g u h1 h2
      · rw [lookup_putF] at hg
        by_cases e : g = f
        · rw [e]; exact hn
        · rw [if_neg e] at hg; exact g5 g hg
      · by_cases ht : t = k
        · subst ht
          have lx : t < xs.length := by omega
          rw [List.getElem?_set_self (by omega)] at h1 h2 h3
          obtain rfl := Option.some.inj h1
          obtain rfl := Option.some.inj h2
          obtain rfl := Option.some.inj h3
          exact rw'.keep (fun b hb u z => by rw [upd_ne (fun y => dis a (by simp) (by rw [← y]; exact hb))]; exact z) sm
        · rw [List.getElem?_set_ne (Ne.symm ht)] at h1 h2 h3
          exact (g8 t u o B h1 h2 h3).keep (keepAs t B h3) sm
    · rw [List.getElem?_set_ne (Ne.symm j1)] at hx
      have hj := (List.getElem?_eq_some_iff.mp hx).1
      obtain ⟨u, e, ru⟩ := E.get j x (by rw [List.getElem?_append_left hj]; exact hx)
      rw [List.getElem?_append_left (by omega)] at e
      refine ⟨u, e, ?_⟩
      dsimp only [G]
      rw [if_neg j1, if_neg (by omega)]
      refine ru.keep (fun b hb z hz => ?_) sm
      rw [upd_ne (fun y => j1 (E.dj j i b hb (by rw [y, hFi]; simp)))]; exact hz
  · by_cases j1 : j = i
    · subst j1
      exact absurd (by rw [List.getElem?_set_self hi']) (hj (.ow (.pin a (.ob C ks (xs.set k w.toO))) d'))
    · dsimp only [G]
      rw [if_neg j1]
      split
      · rfl
      · rename_i j2
        refine E.off j fun x e => hj x ?_
        have hj2 := (List.getElem?_eq_some_iff.mp e).1
        simp at hj2
        rw [List.getElem?_append_left (by omega)] at e
        rw [List.getElem?_set_ne (Ne.symm j1)]
        exact e
end
section
variable {X : Cx} {ρ : RhoW} {Φ : Post} {rest : List Stmt} {e : Expr} {x f : Str} {p pos pos' : Pos} {a C : Addr} {ks : List Str} {xs : List O} {d0 : D}
/-- x.f = e, a new field -/
theorem Ws.fldNew (i : Nat) (hc : Cls X.K C) (hn : NoAttr X.K C f) (h : EvW X ρ e fun w ρ' => ρ'[i]? = some (some (.ow (.pin a (.ob C ks xs)) d0)) ∧ Ws X (ρ'.set i (some (.ow (.pin a (.ob C (ks ++ [f]) (xs ++ [w.toO]))) (O.pin a (.ob C (ks ++ [f]) (xs ++ [w.toO]))).data))) rest Φ) (hf : f ∉ ks := by decide +kernel) (hz : ks.length < 1000 := by decide)
    (hpv : PE X (.Name x p) (tVar i) := by exact pv _) (hs : swapsWith e (some (.Attribute (.Name x p) f pos')) pos.line X.env = pure false := by rfl) : Ws X ρ (.Assign [.Attribute (.Name x p) f pos'] e pos :: rest) Φ := ⟨fun H0 σ H D E kk =>
  WSs.cons (ws_of (ps_fld hpv pe_we hs) (h.run H0 σ H E _ fun v H' w ρ' q l E' => by
    obtain ⟨F, E'⟩ := E'
    obtain ⟨dx, fs, e0, ha, hlen, En⟩ := E'.fldNew (f := f) q.1 hf hn rfl
    exact ⟨.ref a, e0, a, C, dx, fs, rfl, ha, hc, hn, by omega, q.2.run H0 σ _ D En (kk.cast (by simp [l]))⟩))⟩
/-- x.f = e, a field that there is -/
theorem Ws.fldOld (i k : Nat) (hc : Cls X.K C) (hn : NoAttr X.K C f) (hf : ks[k]? = some f) (h : EvW X ρ e fun w ρ' => ρ'[i]? = some (some (.ow (.pin a (.ob C ks xs)) d0)) ∧ Ws X (ρ'.set i (some (.ow (.pin a (.ob C ks (xs.set k w.toO))) (O.pin a (.ob C ks (xs.set k w.toO))).data))) rest Φ) (nk : ks.Nodup := by decide +kernel) (hz : ks.length < 1000 := by decide)
    (hpv : PE X (.Name x p) (tVar i) := by exact pv _) (hs : swapsWith e (some (.Attribute (.Name x p) f pos')) pos.line X.env = pure false := by rfl) : Ws X ρ (.Assign [.Attribute (.Name x p) f pos'] e pos :: rest) Φ := ⟨fun H0 σ H D E kk =>
  WSs.cons (ws_of (ps_fld hpv pe_we hs) (h.run H0 σ H E _ fun v H' w ρ' q l E' => by
    obtain ⟨F, E'⟩ := E'
    obtain ⟨dx, fs, e0, ha, hlen, En⟩ := E'.fldOld (f := f) q.1 hf nk hn rfl
    exact ⟨.ref a, e0, a, C, dx, fs, rfl, ha, hc, hn, by omega, q.2.run H0 σ _ D En (kk.cast (by simp [l]))⟩))⟩
/-- r.append(e), r at a place of slot i, e of what is in sight -/
theorem Ws.appendV {r : Expr} {cpos apos : Pos} {d d' d1 : D} {o : O} {ds : List D} (i : Nat) (p : List Pe) (hr : Rcv X r i p) (he : Ev X (view ρ) e d) (hno : d.noOb = true) (hs : o.sub p = some (oL ds)) (hd : (o.put (oL (ds ++ [d])) p).data = d') (k : Ws X (ρ.set i (some (.ow (o.put (oL (ds ++ [d])) p) d'))) rest Φ)
    (hz : ds.length < 100000) (hρ : ρ[i]? = some (some (.ow o d1)) := by rfl) (hp : o.okP p := by walk_at "okp")
    (hpe : ∀ {t t2}, PE X r t → PE X e t2 → PE X (.Call (.Attribute r "append" apos) [e] [] cpos) (tBM X.K "list" rAppend t (tCons t2 tNil)) := by
      intro t t2 h1 h2; exact pe_bm PySem.F.plainAttrs_list PySem.F.slot_list_append PySem.F.type_list_append mt_append h1 (pa_cons h2 pa_nil))
    (hsw : swapsWith (.Call (.Attribute r "append" apos) [e] [] cpos) none pos.line X.env = pure false := by rfl) : Ws X ρ (.Expr (.Call (.Attribute r "append" apos) [e] [] cpos) pos :: rest) Φ := ⟨fun H0 σ H D E kk =>
  WSs.cons (ws_of (ps_expr (hpe pe_we pe_we) hsw) (by
    obtain ⟨F, E1⟩ := id E
    obtain ⟨v, a, vs, hσ, hat, ha, _⟩ := E1.mutP (d' := d') hρ hp hs
    have hi := (List.getElem?_eq_some_iff.mp hρ).1
    have hl := E.len
    refine hr.run σ H v (.ref a) _ hσ hat ⟨.inl ⟨rfl, vs, SqL.of ha⟩, ?_⟩
    refine (WE.frame E1.hidL (he.run σ (mask H (lstAt H (allOf F ρ.length))) E1.envV (fun v M => Same (mask H (lstAt H (allOf F ρ.length))) M ∧ Rep X.K M v d) fun v M s r => ⟨s, r⟩)).mono ?_
    rintro u H' ⟨M, ⟨s, ru⟩, rfl, n, up⟩
    have sH : Same H (join M H (lstAt H (allOf F ρ.length))) := fun b z e => by
      by_cases hb : b ∈ lstAt H (allOf F ρ.length)
      · rw [join_in hb]; exact e
      · rw [join_out hb]; exact s b z (by rw [mask_out hb]; exact e)
    obtain ⟨F', E2⟩ := E1.viewO (A := []) (o := .sh d) (d := d) s n (by simp) List.nodup_nil (.sh (by rw [mask_nil]; exact ru)) (by unfold O.noOb; exact hno) (by rw [O.data])
    have hρ' : (ρ ++ [some (W.ow (.sh d) d)])[i]? = some (some (.ow o d1)) := by rw [List.getElem?_append_left hi]; exact hρ
    obtain ⟨v', a', vs', hσ', hat', ha', rs', K'⟩ := E2.mutP (d' := d') hρ' hp hs
    obtain rfl : v' = v := by rw [List.getElem?_append_left (by omega), hσ] at hσ'; simpa using hσ'.symm
    have ea : a' = a := by have := hat.det sH hat'; simpa using this
    subst ea
    obtain ⟨u', hu', ru'⟩ := E2.get ρ.length (.ow (.sh d) d) (by simp)
    obtain rfl : u' = u := by rw [← hl] at hu'; simp at hu'; exact hu'.symm
    refine ⟨a', vs', u', rfl, rfl, ha', by rw [rs'.1]; exact Nat.lt_of_lt_of_le hz (by decide), ?_⟩
    have En := (K' _ _ (rs'.append (.cons ru'.2.sh_inv.2 .nil)) hd).1
    rw [List.set_append_left _ _ hi] at En
    exact k.run H0 σ _ D (EnvW.pop ⟨_, En⟩) (kk.cast (by simp))))⟩
end
end VL
set_option Elab.async false
set_option linter.all false
set_option maxRecDepth 100000
set_option maxHeartbeats 1000000
/-! value layer, part 19: classes of the text, slices of tuples -/
namespace VL
open PySem L2
/-- a method of the class at C, as the top leaves it -/
structure DfM (K : PySem.W.Frag) (C : Addr) (m qual : Str) (st : Stmt) (ps : List Str) : Prop where
  ex : ∃ (f : Addr) (fd : FuncData), PySem.W.findIn K (.ref C) m = some (some (.ref f)) ∧ PySem.W.isFn K (.ref f) = true ∧ Fun K m qual st f fd ∧ Binds K fd ps []
/-- a class of the text -/
structure ClsF (K : PySem.W.Frag) (mg : Str → Option Value) (C : Addr) (x : Str) (fs : List Str) : Prop where
  cl : Cls K C
  mgC : mg x = some (.ref C)
  made : PySem.W.makesIn K C = true
  kp : PySem.W.keepIn K (.ref C) = true
  no : ∀ f ∈ fs, NoAttr K C f
section
variable {P : Program} {w : World} {K : PySem.W.Frag} {mg : Str → Option Value} {base : Heap} {C : Addr} {m qual x : Str} {st : Stmt} {N ps fs : List Str} {k : Nat} {ds : List D} {ρ : RhoW}
theorem VM.of {post : O → Prop} (F : DfM K C m qual st ps) (S : FnScope N ps (defScope st)) (hρ : startW N.length ds = ρ)
    (h : ∀ (f : Addr) (cdv : Value) (A : Around) (outer : List Env) (s : Shared) (H : Hp) (E : XK), Room k (cxOf CX0 P w K mg base N qual (defScope st) f cdv A outer s H E).A →
      Ws (cxOf CX0 P w K mg base N qual (defScope st) f cdv A outer s H E).nox ρ (defBody st) { nx := fun _ => post (.sh .non), rt := post }) (hl : ps.length = ds.length := by rfl) : VM P w K mg base (k + 1) C m ds post := by
  obtain ⟨f, fd, h1, h2, h3, h4⟩ := F.ex
  exact ⟨f, fd, ps, ⟨h1, h2, h3.kp⟩, h4, fnOk_of h3 S hl hρ (h f)⟩
theorem VI.of {post : O → Prop} (Fc : ClsF K mg C x fs) (F : DfM K C "__init__" qual st ps) (S : FnScope N ps (defScope st))
    (h : ∀ (f a : Addr) (cdv : Value) (A : Around) (outer : List Env) (s : Shared) (H : Hp) (E : XK), Room k (cxOf CX0 P w K mg base N qual (defScope st) f cdv A outer s H E).A →
      Ws (cxOf CX0 P w K mg base N qual (defScope st) f cdv A outer s H E).nox (startG N.length (.ow (.pin a (.ob C [] [])) (.ob C [] []) :: ds.map W.sh)) (defBody st) { nx := fun ρ => ∃ o d, ρ[0]? = some (some (.ow (.pin a o) d)) ∧ post o, rt := fun _ => False }) (hl : ps.length = ds.length + 1 := by rfl) : VI P w K mg base (k + 1) C x ds post := by
  obtain ⟨f, fd, h1, h2, h3, h4⟩ := F.ex
  exact ⟨f, fd, ps, Fc.mgC, ⟨Fc.made, h1, h2, Fc.kp⟩, h4, fnOk_ofI h3 S hl (h f)⟩
theorem endG1 {a : Addr} {o : O} {d0 : D} {ds : List D} {post : O → D → W → Prop} {ρ : RhoW} {w : W} {o' : O} {d' : D} (h : ρ[0]? = some (some (.ow (.pin a o') d'))) (hp : post o' d' w) :
    EndG (.ow (.pin a o) d0 :: ds.map W.sh) (fun ws' w => ∃ o' d', ws' = .ow (.pin a o') d' :: ds.map W.sh ∧ post o' d' w) ρ w := by
  refine ⟨.ow (.pin a o') d' :: ds.map W.sh, rfl, fun i x y h1 h2 => ?_, o', d', rfl, hp⟩
  cases i with
  | zero =>
    simp at h1 h2
    subst h1; subst h2
    exact ⟨.inr ⟨a, o, d0, o', d', rfl, rfl⟩, fun o2 d2 e => by rw [e] at h ⊢; exact h⟩
  | succ i =>
    simp only [List.getElem?_cons_succ, List.getElem?_map] at h1 h2
    obtain ⟨z, hz, rfl⟩ := Option.map_eq_some_iff.mp h1
    rw [hz] at h2
    obtain rfl := Option.some.inj h2
    exact ⟨.inl ⟨z, rfl, rfl⟩, fun o2 d2 e => by cases e⟩
theorem GM.of {o : O} {d0 : D} {post : O → D → W → Prop} (F : DfM K C m qual st ps) (S : FnScope N ps (defScope st))
    (h : ∀ (f a : Addr) (cdv : Value) (A : Around) (outer : List Env) (s : Shared) (H : Hp) (E : XK), Room k (cxOf CX0 P w K mg base N qual (defScope st) f cdv A outer s H E).A →
      Ws (cxOf CX0 P w K mg base N qual (defScope st) f cdv A outer s H E).nox (startG N.length (.ow (.pin a o) d0 :: ds.map W.sh)) (defBody st)
        { nx := fun ρ => ∃ o' d', ρ[0]? = some (some (.ow (.pin a o') d')) ∧ post o' d' (.sh .non), rt := fun _ => False, rs := fun ρ w => ∃ o' d', ρ[0]? = some (some (.ow (.pin a o') d')) ∧ post o' d' w }) (hl : ps.length = ds.length + 1 := by rfl) : GM P w K mg base (k + 1) C m o d0 ds post := by
  obtain ⟨f, fd, h1, h2, h3, h4⟩ := F.ex
  refine ⟨f, fd, ps, ⟨h1, h2, h3.kp⟩, h4, fun a => fnOk_ofG h3 S (by simpa using hl) rfl fun cdv A outer s H E hr => (h f a cdv A outer s H E hr).mono (fun ρ q => ?_) (fun o q => q) (fun ρ q => q) (fun ρ q => q) (fun ρ w q => ?_)⟩
  · obtain ⟨o', d', q1, q2⟩ := q; exact endG1 q1 q2
  · obtain ⟨o', d', q1, q2⟩ := q; exact endG1 q1 q2
end
section
variable {X : Cx} {ρ : Rho} {a e : Expr} {pos p p2 : Pos} {el eh : Option Expr} {lo hi : Option Int} {ds : List D} {d : D}
/-- a slice of a tuple -/
theorem cutV_whole {vs : List V} (h : HT.sIx vs.length 0 lo = 0 ∧ HT.sIx vs.length vs.length hi = vs.length) : cutV vs lo hi = vs := by
  unfold cutV; rw [h.1, h.2]; simp
theorem Ev.sliceT (ha : Ev X ρ a (.tup ds)) (hl : EvP X ρ el lo) (hh : EvP X ρ eh hi) : Ev X ρ (.Subscript a (.Slice el eh Option.none p2) pos) (.tup (cutD ds lo hi)) := by
  obtain ⟨tl, pl, ql⟩ := hl.run
  obtain ⟨th, ph, qh⟩ := hh.run
  exact ⟨fun σ H en Q q => we_of (pe_slice sl_tupA pe_we pl ph) (ha.run σ H en _ fun v H1 s1 r1 => ql σ H1 (en.mono s1) _ fun H2 s2 => qh σ H2 (en.mono (s1.trans s2)) _ fun H3 s3 => by
    have r3 := r1.mono (s2.trans s3)
    obtain ⟨p1, vs, rfl, h1, rs⟩ := r3.tup_inv
    have rc := rs.cut lo hi
    refine ⟨p1, vs, rfl, SqT.of h1, fun hw => ?_, fun hw p hp => ?_⟩
    · rw [cutV_whole hw] at rc
      exact q _ H3 ((s1.trans s2).trans s3) (.tup' h1 rc)
    · exact q _ _ (((s1.trans s2).trans s3).trans (Same.new hp)) (.tup' upd_same (rc.mono (Same.new hp))))⟩
/-- isinstance, any kind of thing but an object -/
theorem Ev.lenDT {xs : List D} (hm : X.mg "len" = none) (h : Ev X ρ e (.tup xs)) (hg : Gl X "len" := by rfl) (hs : starEach [e] X.env = (false, eval e X.env) :: starEach [] X.env := by rfl) (hpl : (backTo pos (starEach [] X.env)).any (·.1) = false := by rfl) : Ev X ρ (.Call (.Name "len" p) [e] [] pos) (.int xs.length) := .lenT hm h hg hs hpl
end
end VL
set_option Elab.async false
set_option linter.all false
set_option maxRecDepth 100000
set_option maxHeartbeats 1000000
/-! value layer, part 20: shared pairs unpacked -/
namespace VL
open PySem L2
theorem units65 {k : Nat} {A : Around} (r : Room k A) : A.units + 65 < cLine := by have := r.un; omega
section
variable {X : Cx} {ρ : RhoW} {Φ : Post} {rest : List Stmt} {e : Expr} {p pos : Pos} {d d2 : D}
/-- x, y = e, e a shared tuple of two things -/
theorem Ws.unpackS2 {x y : Str} (i j : Nat) {k1 : Nat} {p1 p2 tp : Pos} (hc : X.calm = true) (hN : X.N.Nodup) (h : EvW X ρ e fun w ρ' => w = .sh (.tup [d, d2]) ∧ Ws X (setW ρ' [i, j] [d, d2]) rest Φ)
    (hps : ∀ {te}, X.N.Nodup → PE X e te → PS X (.Assign [.Tuple [.Name x p1, .Name y p2] k1 tp] e pos) (tAsg te (gTup X.K 2 (gCons (gName i) (gCons (gName j) gNil)))) := by
      intro te hN ht; exact ps_asg ht (pg_tup rfl (pgs_cons (pg_name hN rfl (by first | exact Or.inl rfl | exact Or.inr rfl)) (pgs_cons (pg_name hN rfl (by first | exact Or.inl rfl | exact Or.inr rfl)) pgs_nil))))
    (hij : (decide (i < ρ.length) && decide (j < ρ.length)) = true := by rfl) :
    Ws X ρ (.Assign [.Tuple [.Name x p1, .Name y p2] k1 tp] e pos :: rest) Φ := ⟨fun H0 σ H D E kk =>
  WSs.cons (ws_of (hps hN pe_we) (h.run H0 σ H E _ fun v H' w ρ' q l E' => by
    have hij := Bool.and_eq_true_iff.mp hij
    have hi : i < ρ.length := of_decide_eq_true hij.1
    have hj : j < ρ.length := of_decide_eq_true hij.2
    obtain ⟨rfl, q⟩ := q
    have hl : σ.length = ρ'.length := by have := E'.len; simpa using this
    obtain ⟨F, E3⟩ := E'
    obtain ⟨v', hv', r⟩ := E3.get ρ'.length (.sh (.tup [d, d2])) (by simp)
    obtain rfl : v' = v := by rw [← hl] at hv'; simp at hv'; exact hv'.symm
    obtain ⟨a, vs, rfl, ha, rs⟩ := r.1.tup_inv
    obtain ⟨v1, t1, rfl, r1, rs1⟩ := id rs.cons_split
    obtain ⟨v2, t2, rfl, r2, rs2⟩ := id rs1.cons_split
    obtain rfl := rs2.nil_inv
    refine ⟨a, [v1, v2], rfl, SqT.of (mask_some ha).1, rfl, v1, [v2], rfl, v2, [], rfl, rfl, ?_⟩
    have E4 := EnvW.store (is := [i, j]) E3 (Same.refl _) rs
    simp only [setAll, setW] at E4
    rw [List.set_append_left _ _ (by omega), List.set_append_left _ _ (by simp; omega), List.set_append_left _ _ (by omega), List.set_append_left _ _ (by simp; omega)] at E4
    refine q.run H0 _ H' D ?_ (kk.cast (by simp [setW, l]))
    exact EnvW.pop E4))⟩
end
end VL
set_option Elab.async false
set_option linter.all false
set_option maxRecDepth 100000
set_option maxHeartbeats 1000000
/-! value layer, part 21: a thing taken out of an own list that goes, things counted -/
namespace VL
open PySem L2
section
variable {K : PySem.W.Frag} {H0 H S : Hp} {σ : L2.St} {ρ : RhoW} {F : Nat → List Addr} {o : O} {d0 : D} {os : List O}
theorem EnvA.kidL (E : EnvA K H0 σ H ρ F) {i k : Nat} (hρ : ρ[i]? = some (some (.ow (.ls os) d0))) (hk : os[k]? = some o) :
    ∃ a vs u, σ[i]? = some (some (.ref a)) ∧ H a = some (.lst vs) ∧ vs[k]? = some u ∧ EnvW K H0 (σ ++ [some u]) H (ρ.set i none ++ [some (.ow o o.data)]) := by
  obtain ⟨v, hv, r⟩ := E.get i _ hρ
  have hi := (List.getElem?_eq_some_iff.mp hρ).1
  have hl := E.len
  have r2 := r.2
  have hFn := E.nd i
  generalize hF : F i = Fi at r2 hFn
  cases r2 with
  | @ls a vs _ As h1 h2 h3 h4 =>
    have hk2 := (List.getElem?_eq_some_iff.mp hk).1
    have hvk : vs[k]? = some (vs[k]'(by omega)) := List.getElem?_eq_getElem (by omega)
    have hAk : As[k]? = some (As[k]'(by omega)) := List.getElem?_eq_getElem (by omega)
    generalize vs[k]'(by omega) = u at hvk
    generalize As[k]'(by omega) = B at hAk
    have hBF : ∀ b ∈ B, b ∈ F i := fun b hb => by
      rw [hF]
      exact List.mem_cons_of_mem _ (List.mem_flatten.mpr ⟨B, List.mem_of_getElem? hAk, hb⟩)
    have hBn : B.Nodup := by
      have n1 := (List.nodup_cons.mp hFn).2
      rw [flat_split hAk] at n1
      exact (List.nodup_append.mp (List.nodup_append.mp n1).2.1).1
    let G : Nat → List Addr := fun j => if j = ρ.length then B else if j = i then [] else F j
    have hG : ∀ j b, b ∈ G j → (j = ρ.length ∧ b ∈ F i) ∨ (j ≠ ρ.length ∧ j ≠ i ∧ b ∈ F j) := fun j b hb => by
      dsimp only [G] at hb
      split at hb
      · exact .inl ⟨by assumption, hBF b hb⟩
      · split at hb
        · cases hb
        · exact .inr ⟨by assumption, by assumption, hb⟩
    have hall : ∀ b, b ∈ allOf G (ρ.set i none ++ [some (W.ow o o.data)]).length → b ∈ allOf F ρ.length := fun b hb => by
      obtain ⟨j, _, h⟩ := mem_allOf.mp hb
      rcases hG j b h with ⟨_, h⟩ | ⟨_, _, h⟩
      · exact E.mem h
      · exact E.mem h
    have sub : Same (mask H (allOf F ρ.length)) (mask H (allOf G (ρ.set i none ++ [some (W.ow o o.data)]).length)) := mask_sub hall
    refine ⟨a, vs, u, hv, h1, hvk, G, by simp [hl], fun j => ?_, fun j j' b hb hb' => ?_, fun b hb => E.fresh b (hall b hb), E.same, fun j x h => ?_, fun j h => ?_⟩
    · dsimp only [G]
      split
      · exact hBn
      · split
        · exact List.nodup_nil
        · exact E.nd j
    · rcases hG j b hb with ⟨e1, h1⟩ | ⟨e1, e2, h1⟩ <;> rcases hG j' b hb' with ⟨e3, h3⟩ | ⟨e3, e4, h3⟩
      · omega
      · exact absurd (E.dj _ _ b h1 h3).symm e4
      · exact absurd (E.dj _ _ b h1 h3) e2
      · exact E.dj _ _ b h1 h3
    · by_cases hj : j < ρ.length
      · rw [List.getElem?_append_left (by simpa using hj), List.getElem?_set] at h
        by_cases e : i = j
        · subst e
          rw [if_pos rfl, if_pos hj] at h
          cases h
        · rw [if_neg e] at h
          obtain ⟨v', hv', r'⟩ := E.get j x h
          refine ⟨v', by rw [List.getElem?_append_left (by omega)]; exact hv', ?_⟩
          dsimp only [G]
          rw [if_neg (by omega), if_neg (Ne.symm e)]
          exact r'.keep (fun _ _ _ z => z) sub
      · have hj2 := (List.getElem?_eq_some_iff.mp h).1
        simp at hj2
        have e : j = ρ.length := by omega
        subst e
        rw [List.getElem?_append_right (by simp)] at h
        simp at h
        subst h
        refine ⟨u, by rw [← hl]; simp, rfl, ?_⟩
        dsimp only [G]
        rw [if_pos rfl]
        exact (h4 k u o B hvk hk hAk).keep (fun _ _ _ z => z) sub
    · dsimp only [G]
      split
      · rename_i e
        subst e
        exact absurd (by simp) (h (.ow o o.data))
      · split
        · rfl
        · rename_i e1 e2
          refine E.off j fun x e => h x ?_
          have := (List.getElem?_eq_some_iff.mp e).1
          rw [List.getElem?_append_left (by simpa using this), List.getElem?_set, if_neg (Ne.symm e2)]
          exact e
end
end VL
namespace L2
open PySem PySem.Spec PyProof.Rows
section
variable {X : Cx}
/-- l.count(x), items of any depth -/
def rCountD (K : PySem.W.Frag) : V → List V → Hp → VK → Prop := fun x xs H Q => ∃ (a : Addr) (y : V) (d : PyData) (ds : List PyData), x = V.ref a ∧ xs = [y] ∧ Dp K H (V.ref a) (.list ds) ∧ Dp K H y d ∧
  SeqAt.shaped (.list ds) = true ∧ SeqAt.shaped d = true ∧ Q (.int (ds.countP fun z => PyData.eqv z d : Nat)) H
theorem mt_countD (hu : X.A.units + 65 < cLine) : MtR X "list.count" (rCountD X.K) := by
  intro pins s σ H x xs v us Q I rx rxs h
  obtain ⟨a, y, d, ds, rfl, rfl, hl, hy, sl, sd, q⟩ := h
  cases rx
  cases rxs with
  | cons ry rt =>
    rename_i uy ut
    cases rt
    obtain ⟨bs, r1⟩ := Dp.reads I d y uy hy ry
    have hxs : PyData.canLayAll0 ds = true := SeqAt.canLay_of_shaped sl
    have hroom : X.A.units + 1 + min (PyData.depthAll ds) d.depth < cLine := room_in_shaped sd hu
    cases hl with
    | lst hs ha =>
      obtain ⟨its, rv, ⟨⟨cls, dd, data, sls⟩, n, ho, hc, hdn, hdt⟩, hlen⟩ := I.list hs
      simp only at hc hdt
      subst hc hdt
      obtain ⟨as, h4⟩ := Dp.readsAll I ds _ its ha rv
      have hmap : its.map (SeqAt.readOf s.heap) = ds := SeqAt.readsAll_map ds its as hxs h4
      refine call_meets PySem.F.slot_list_count ⟨_, ho, rfl⟩ PySem.F.entry_list_count (PySem.F.args_list_count_2 _ _)
        (SeqAt.list_countAt a its.toArray n dd sls uy (fun u => PyData.eqv (SeqAt.readOf s.heap u) d)) ⟨ho, SeqAt.items_eqAt (vs := its.toArray) (show ReadsAll s.heap its.toArray.toList ds as from h4) r1 hxs (SeqAt.canLay_of_shaped sd) hroom, ?_⟩
      have ec : its.toArray.toList.countP (fun u => PyData.eqv (SeqAt.readOf s.heap u) d) = ds.countP fun z => PyData.eqv z d := by
        rw [← hmap, List.countP_map]; rfl
      refine ⟨.int (ds.countP fun z => PyData.eqv z d : Nat), H, I.tok _, ⟨s.toks, ?_⟩, q⟩
      show Value.int _ _ = Value.int _ _
      rw [ec]
end
end L2
namespace VL
open PySem L2
section
variable {X : Cx} {ρ : RhoW} {Ψ : W → RhoW → Prop} {e : Expr} {o : O} {os : List O} {d0 d : D}
/-- x[k], x an own list that is not needed any more -/
theorem EvW.kidL (i k : Nat) (hr : Rcv X e i [.ix k]) (hd : o.data = d) (K : Ψ (.ow o d) (ρ.set i none)) (hk : os[k]? = some o := by rfl) (hρ : ρ[i]? = some (some (.ow (.ls os) d0)) := by rfl) : EvW X ρ e Ψ := ⟨fun H0 σ H ⟨F, E⟩ Q q => by
  subst hd
  obtain ⟨a, vs, u, h1, h2, h3, E'⟩ := E.kidL hρ hk
  exact hr.run σ H (.ref a) u _ h1 ⟨u, ⟨a, vs, rfl, .inl h2, h3⟩, rfl⟩ (q u H (.ow o o.data) (ρ.set i none) K (by simp) E')⟩
end
theorem count_py (d : D) : ∀ ds : List D, (pyAll ds).countP (fun z => PyData.eqv z d.py) = ds.countP fun z => eqvD z d
  | [] => by simp [pyAll]
  | x :: xs => by simp only [pyAll, List.countP_cons]; rw [count_py d xs]; rfl
/-- e.count(a) -/
theorem Ev.count {X : Cx} {ρ : Rho} {e a : Expr} {q p : Pos} {d : D} {ds : List D} (hu : X.A.units + 65 < cLine) (h : Ev X ρ e (.lst ds)) (ha : Ev X ρ a d) (h1 : Shp d) (h2 : Shp (.lst ds))
    (hpe : ∀ {t t2}, PE X e t → PE X a t2 → PE X (.Call (.Attribute e "count" q) [a] [] p) (tBM X.K "list" (rCountD X.K) t (tCons t2 tNil)) := by
      intro t t2 g1 g2; exact pe_bm PySem.F.plainAttrs_list PySem.F.slot_list_count PySem.F.type_list_count (mt_countD (by assumption)) g1 (pa_cons g2 pa_nil)) : Ev X ρ (.Call (.Attribute e "count" q) [a] [] p) (.int (ds.countP fun z => eqvD z d : Nat)) :=
  ⟨fun σ H en Q q => we_of (hpe pe_we pe_we) (h.run σ H en _ fun v H1 s1 r1 => by
    obtain ⟨b, vs, rfl, hb, rs⟩ := r1.lst_inv
    refine ⟨.inl ⟨rfl, vs, SqL.of hb⟩, ha.run σ H1 (en.mono s1) _ fun w H2 s2 r2 => ?_⟩
    refine ⟨b, w, d.py, pyAll ds, rfl, rfl, (r1.mono s2).dpL h2.1, r2.dp h1.1, by have := h2.2; rw [D.py] at this; exact this, h1.2, ?_⟩
    rw [count_py]
    exact q _ H2 (s1.trans s2) (.int _))⟩
end VL
set_option Elab.async false
set_option linter.all false
set_option maxRecDepth 100000
set_option maxHeartbeats 1000000
/-! value layer, part 22: errors -/
namespace VL
open PySem L2 PySem.Spec PyProof.Rows
/-- an own class of errors, under ValueError -/
structure ErrC (K : PySem.W.Frag) (mg : Str → Option Value) (x : Str) (C : Addr) : Prop where
  q : PySem.W.excIn K C [.type "ValueError", .type "Exception", .type "BaseException", .type "object"] "ValueError.__new__" = true
  g : mg x = some (.ref C)
  k : PySem.W.keepIn K (.ref C) = true
  b : PySem.W.subIn K (.ref C) (.type "BaseException") = some true
  t : PySem.W.typeIn K (.ref C) = some (.type "type")
section
variable {X : Cx} {ρ : RhoW} {Φ : Post} {rest : List Stmt} {C : Addr} {x m : Str} {j : Nat} {p p2 p3 pos : Pos}
/-- raise x('m') -/
theorem Ws.raise (E : ErrC X.K X.mg x C) (hc : X.calm = true) (tk : Takes X Φ.xw) (h : Φ.xs (.ref C)) (hg : Gl X x := by rfl) (hdb : (x == ("__debug__" : Str)) = false := by decide) : Ws X ρ (.Raise (some (.Call (.Name x p) [.Constant (.str m) j p2] [] p3)) none pos :: rest) Φ :=
  ⟨fun H0 σ H D En k => WSs.cons (ws_of (ps_raise hc tk (pmk_own PySem.F.excBase_ValueError E.q E.g E.k (raises_own E.b E.t) hg hdb)) (by
    obtain ⟨F, En⟩ := En
    exact k.ex _ σ H h En.len En.same))⟩
end
/-- a call that raises C -/
def spX (K : PySem.W.Frag) (ds : List D) (C : Addr) : Sp := fun vs H _ E => Reps K H vs ds ∧ ∀ H', Same H H' → E (.ref C) none H'
structure VX (P : Program) (w : World) (K : PySem.W.Frag) (mg : Str → Option Value) (base : Heap) (k : Nat) (x : Str) (ds : List D) (C : Addr) : Prop where
  ex : ∃ (f : Addr) (fd : FuncData) (ps : List Str), mg x = some (.ref f) ∧ PySem.W.keepIn K (.ref f) = true ∧ Binds K fd ps [] ∧ FnOk P w K mg base (L2.CX P w) k f fd ps (spX K ds C)
section
variable {P : Program} {w : World} {K : PySem.W.Frag} {mg : Str → Option Value} {base : Heap}
theorem VX.of {x : Str} {st : Stmt} {N ps : List Str} {k : Nat} {ds : List D} {C : Addr} {ρ : RhoW} (F : Df K mg x st ps) (S : FnScope N ps (defScope st)) (hρ : startW N.length ds = ρ)
    (h : ∀ (f : Addr) (cdv : Value) (A : Around) (outer : List Env) (s : Shared) (H : Hp) (E : XK), Room k (cxOf (L2.CX P w) P w K mg base N x (defScope st) f cdv A outer s H E).A →
      Takes (cxOf (L2.CX P w) P w K mg base N x (defScope st) f cdv A outer s H E) (fun c d _ H => E c d H) →
      Ws (cxOf (L2.CX P w) P w K mg base N x (defScope st) f cdv A outer s H E) ρ (defBody st) { nx := fun _ => False, rt := fun _ => False, xs := fun c => c = .ref C, xw := fun c d _ H => E c d H }) (hl : ps.length = ds.length := by rfl) : VX P w K mg base (k + 1) x ds C := by
  obtain ⟨f, fd, h1, h2, h3⟩ := F.ex
  refine ⟨f, fd, ps, h1, h2.kp, h3, h2.okX S (fun vs H Q E q => by rw [hl]; exact q.1.1) fun cdv A outer s H vs Q E hr q => ?_⟩
  obtain ⟨r, q⟩ := q
  refine ⟨_, pss_wss, ?_⟩
  exact (h f cdv A outer s H E hr (takes_of rfl rfl rfl rfl)).run H (L2.start N vs) H _ (hρ ▸ start_env r) ⟨fun _ _ _ p => p.elim, fun _ _ _ p => p.elim, fun _ _ _ p => p.elim, fun _ _ _ _ p => p.elim, fun _ _ _ _ _ p => p.elim, fun c σ H' e _ s => by subst e; exact q H' s⟩
theorem VX.mono {j k : Nat} {x : Str} {ds : List D} {C : Addr} (F : VX P w K mg base j x ds C) (h : j ≤ k) : VX P w K mg base k x ds C := by
  obtain ⟨f, fd, ps, h1, h2, h3, h4⟩ := F.ex
  exact ⟨f, fd, ps, h1, h2, h3, h4.len, fun A outer s H args us vs Q E hr => h4.run A outer s H args us vs Q E (hr.mono h)⟩
end
/-- an expression that raises C -/
structure EvR (X : Cx) (ρ : Rho) (e : Expr) (C : Addr) (xw : WX) : Prop where
  run : ∀ (σ : L2.St) (H : Hp), EnvS X.K σ H ρ → (∀ H', Same H H' → xw (.ref C) none σ H') → ∀ Q : VK, WE X e σ H Q
section
variable {X : Cx} {ρ : Rho} {C : Addr} {xw : WX} {x : Str} {k : Nat} {e a b : Expr} {es : List Expr} {p pos : Pos} {ds : List D}
theorem EvR.call (F : VX X.prog X.w X.K X.mg X.base k x ds C) (hr : Room k X.A) (tk : Takes X xw) (ha : EvA X ρ (e :: es) ds) (hg : Gl X x := by rfl) (hdb : (x == ("__debug__" : Str)) = false := by decide)
    (he : starEach (e :: es) X.env = (false, eval e X.env) :: starEach es X.env := by rfl) (hpl : (backTo pos (starEach es X.env)).any (·.1) = false := by rfl) : EvR X ρ (.Call (.Name x p) (e :: es) [] pos) C xw := by
  obtain ⟨f, fd, ps, h1, h2, h3, h4⟩ := F.ex
  exact ⟨fun σ H en hx Q => we_of (pe_callS h4 hr hg h1 h2 h3 (fun σ => passAt tk σ) pa_wa hdb he hpl) (ha.run σ H en _ fun vs H1 s1 r1 => ⟨r1, fun H' s => hx H' (s1.trans s)⟩)⟩
theorem EvR.cmpL {op : CmpOp} {r : R2} (ho : OpR X (compareOp op) r) (ha : EvR X ρ a C xw) (hm : behindInMarks op b = false) : EvR X ρ (.Compare a [op] [b] pos) C xw :=
  ⟨fun σ H en hx Q => we_of (pe_cmpR ho pe_we (pe_we (e := b)) hm) (ha.run σ H en hx _)⟩
end
section
variable {X : Cx} {ρ : RhoW} {Φ : Post} {rest : List Stmt} {e : Expr} {C : Addr} {pos : Pos}
theorem EvR.own (h : EvR X (hide ρ) e C Φ.xw) (hx : Φ.xs (.ref C)) {H0 H : Hp} {σ : L2.St} {D : Ends} (E : EnvW X.K H0 σ H ρ) (k : EndsOk X.K H0 ρ.length Φ D) (Q : VK) : WE X e σ H Q := by
  obtain ⟨F, E⟩ := E
  refine (WE.frame E.cells (h.run σ (mask H (allOf F ρ.length)) E.envH (fun H' s => k.ex _ σ H' hx E.len ((mask_same_of E.same fun a ha => E.fresh a ha).trans s)) (fun _ _ => False))).mono ?_
  rintro v H' ⟨M, q, _⟩
  exact q.elim
theorem Ws.exprR (h : EvR X (hide ρ) e C Φ.xw) (hx : Φ.xs (.ref C)) (hs : swapsWith e none pos.line X.env = pure false := by rfl) : Ws X ρ (.Expr e pos :: rest) Φ := ⟨fun H0 σ H D E k =>
  WSs.cons (ws_of (ps_expr pe_we hs) (h.own hx E k _))⟩
theorem Ws.retR (h : EvR X (hide ρ) e C Φ.xw) (hx : Φ.xs (.ref C)) : Ws X ρ (.Return (some e) pos :: rest) Φ := ⟨fun H0 σ H D E k =>
  WSs.cons (ws_of (ps_ret pe_we) (h.own hx E k _))⟩
theorem Ws.asgR {x : Str} (i : Nat) {pos' : Pos} (hN : X.N.Nodup) (h : EvR X (hide ρ) e C Φ.xw) (hx : Φ.xs (.ref C)) (hi : X.N[i]? = some x := by rfl) (hl : Loc X.env.scope x := by first | exact Or.inl rfl | exact Or.inr rfl)
    (hs : swapsWith e (some (.Name x pos')) pos.line X.env = pure false := by rfl) (hf : X.fn x = true ∨ X.env.scope.names.lookup x = some .local := by first | exact .inl rfl | exact .inr rfl) : Ws X ρ (.Assign [.Name x pos'] e pos :: rest) Φ := ⟨fun H0 σ H D E k =>
  WSs.cons (ws_of (ps_set hN hi hl pe_we hs hf) (h.own hx E k _))⟩
end
/-! ### try .. except .. as n -/
theorem env_raw {K : PySem.W.Frag} {H0 H : Hp} {σ : L2.St} {n i : Nat} {a : Addr} (hl : σ.length = n) (s : Same H0 H) : EnvW K H0 (σ.set i (some (.ref a))) H ((List.replicate n none).set i (some (.sh (.raw a)))) := by
  have hall : ∀ m, allOf (fun _ => ([] : List Addr)) m = [] := fun m => by unfold allOf; simp
  refine ⟨fun _ => [], by simp [hl], fun _ => List.nodup_nil, fun i j a h => (by cases h), fun a ha => (by rw [hall] at ha; cases ha), s, fun j x h => ?_, fun _ _ => rfl⟩
  rw [hall, mask_nil]
  rw [List.getElem?_set] at h
  split at h
  · rename_i e
    split at h
    · rename_i hlt
      obtain rfl := Option.some.inj (Option.some.inj h)
      subst e
      exact ⟨.ref a, List.getElem?_set_self (by simpa [hl] using hlt), .raw a, rfl⟩
    · cases h
  · rw [List.getElem?_replicate] at h
    split at h <;> cases h
section
variable {X : Cx} {ρ : RhoW} {Φ : Post} {rest body suite : List Stmt} {x n : Str} {b₀ : Stmt} {np pos pos' : Pos} {c : Value}
/-- try: body except x as n: suite; the suite returns -/
theorem Ws.tryAs (i : Nat) (xs : Value → Prop) (hN : X.N.Nodup) (hc : Names X x c) (tk : Takes X Φ.xw)
    (hx : ∀ v, xs v → PySem.W.exmOne X.K v c = some true)
    (hb : ∀ (W : WX) (pn : List (Addr × Obj)) (xe : Value → Shared → Prop), Takes (X.tr pn xe) W → PassesOwn (model X.prog X.w) X.A X.env xe → Ws (X.tr pn xe) ρ body { nx := fun ρ => Ws X ρ rest Φ, rt := Φ.rt, xs := xs, xw := W })
    (hsu : ∀ (v : Value) (a : Addr) (oe : Obj) (pn : List (Addr × Obj)), xs v → Zc v none oe → (∃ vs, oe.data = .fields vs) → Ws (X.suite a ((a, oe) :: pn)) ((List.replicate ρ.length none).set i (some (.sh (.raw a)))) (b₀ :: suite) { nx := fun _ => False, rt := Φ.rt })
    (hs : X.stack = X.env :: X.outer := by rfl) (hf : X.env.frame = some X.env.locals := by rfl) (hi : X.N[i]? = some n := by rfl) (hln : X.env.kindOf n = some .local := by rfl) :
    Ws X ρ (.Try body [.ExceptHandler (some (.Name x np)) (some n) (b₀ :: suite) pos'] [] [] pos :: rest) Φ := ⟨fun H0 σ H D E k =>
  WSs.cons (ws_of (ps_try_as (Wout := Φ.xw) (i := i)
      (tb := fun W D σ H => ∀ (pn : List (Addr × Obj)) (xe : Value → Shared → Prop), Takes (X.tr pn xe) W → PassesOwn (model X.prog X.w) X.A X.env xe → WSs (X.tr pn xe) body σ H D)
      (ts := fun a cls d D σ H => ∀ (oe : Obj) (pn : List (Addr × Obj)), Zc cls d oe → (∃ vs, oe.data = .fields vs) → WSs (X.suite a ((a, oe) :: pn)) (b₀ :: suite) σ H D)
      hs hf hN hi hln hc tk (fun W pn xe t po => ⟨fun pins s σ H D I h => h pn xe t po pins s I⟩) (fun a oe cls d pn hz hd => ⟨fun pins s σ H D I h => h oe pn hz hd pins s I⟩)) (by
    have hl : σ.length = ρ.length := E.len
    intro pn xe t po
    refine (hb _ pn xe t po).run H0 σ H _ E ⟨fun σ' H' ρ' q l E' => q.run H0 σ' H' D E' (k.cast l.symm), fun _ _ _ q => q.elim, fun _ _ _ q => q.elim, k.rt, fun _ _ _ _ _ q => q.elim, fun v σ' H' q l s => ?_⟩
    refine ⟨true, hx v q, fun _ a na oe pn' hz hd => ?_, fun z => by cases z⟩
    refine (hsu v a oe pn' q hz hd).run H0 _ H' _ (env_raw l s) ⟨fun _ _ _ q => q.elim, fun _ _ _ q => q.elim, fun _ _ _ q => q.elim, k.rt, fun _ _ _ _ _ q => q.elim, fun _ _ _ q => q.elim⟩))⟩
end
end VL
set_option Elab.async false
set_option linter.all false
set_option maxRecDepth 100000
set_option maxHeartbeats 2000000
/-! value layer, part 23: defs called within an except suite, isinstance of the caught error -/
namespace VL
open PySem L2 PySem.Spec PyProof.Rows
/-- as L2H.FnH, but for one caught thing, of which nothing is asked -/
structure FnE (P : Program) (w : World) (K : PySem.W.Frag) (mg : Str → Option Value) (base : Heap) (k : Nat) (f : Addr) (fd : FuncData) (ps : List Str) (a : Addr) (oe : Obj) (sp : Sp) : Prop where
  len : ∀ vs H Q E, sp vs H Q E → vs.length = ps.length
  run : ∀ (A : Around) (outer : List Env) (s : Shared) (H : Hp) (args : Args) (us : List Value) (vs : List V) (Q : VK) (E : XK), L2H.RoomH k A → L2H.PinOk outer H s (a, oe) → Env0 P w K mg base A outer s H → BindsTo s fd args (ps.zip us) → Vals vs us → sp vs H Q E →
    codeAny (model P w) A (.call (.ref f) args) (CR CX0 outer P w H s Q E) s
theorem fnE_of {P : Program} {w : World} {K : PySem.W.Frag} {mg : Str → Option Value} {base : Heap} {k : Nat} {x qual : Str} {st : Stmt} {f : Addr} {fd : FuncData} {N ps : List Str} {sp : Sp} {a : Addr} {oe : Obj} (F : Fun K x qual st f fd) (S : FnScope N ps (defScope st))
    (len : ∀ vs H Q E, sp vs H Q E → vs.length = ps.length)
    (hbody : ∀ (cdv : Value) (A : Around) (outer : List Env) (s : Shared) (H : Hp) (vs : List V) (Q : VK) (E : XK), L2H.RoomH k (A.deeper (envOfC qual (defScope st) s.heap.objs.size f cdv)) → sp vs H Q E →
      ∃ t, PSs (L2H.cxH CX0 P w K mg base N qual (defScope st) f cdv A outer s H E (a, oe)).nox (defBody st) t ∧ t { nx := fun _ H' => Q .non H', rt := Q } (L2.start N vs) H) :
    FnE P w K mg base (k + 1) f fd ps a oe sp := by
  obtain ⟨oc, od, kV, doc, pm, an, cdv, ct, osl, rfl, lk, hcd⟩ := F.ex
  refine ⟨len, fun A outer s H args us vs Q E hr hpin e0 hb r hsp => ?_⟩
  have hl := len _ _ _ _ hsp
  have KX : K.In s.heap := e0.mod.kin.keeps fun b o e => (e0.bs b o e).1
  have lim : s.heap.NoLimit := e0.mod.nolimit.keeps fun b o e => (e0.bs b o e).1
  have hkind : ∀ y ∈ ps.zip us, (defScope st).names.lookup y.1 = some .local ∨ ((defScope st).names.lookup y.1 = some .cell ∧ ((cellsFrom (s.heap.objs.size + 1) (defScope st).names []).lookup y.1).isSome = true) := fun ⟨n, v⟩ hy => by
    rcases S.par n (List.of_mem_zip hy).1 with q | q
    · exact .inl q
    · exact .inr ⟨q, PySem.W.cellsFrom_some _ _ _ (.inl q)⟩
  refine codeAny_call_function hr.depth (KX _ _ lk) rfl S.co S.gen rfl (PySem.W.codeRec_of KX hcd) (hb _ _ _ _ ?_)
  refine wpAny_newFunctionEnv_cells S.kind hkind fun env he s1 x => ?_
  subst he
  refine ⟨lim.keeps x.toInCall.keep, codeAny_func ?_⟩
  obtain ⟨t, ht, hq⟩ := hbody cdv A outer s H vs Q E (hr.deeper _) hsp
  have I : Inv (L2H.cxH CX0 P w K mg base N qual (defScope st) f cdv A outer s H E (a, oe)) [] (L2.start N vs) H s1 := L2H.inv_startH S hpin e0 hl r x
  refine wpAny_mono (ht.nox.run [] s1 (L2.start N vs) H _ I hq) (fun fl s' hs => ?_) fun e s' hs => hs
  have fin : ∀ {σ' : L2.St} {H' : Hp} {v : V} {u : Value}, Inv (L2H.cxH CX0 P w K mg base N qual (defScope st) f cdv A outer s H E (a, oe)) [] σ' H' s' → RelV v u → Q v H' → CE outer P w H s Q u s' :=
    fun {σ' H' v u} J rv q => ⟨v, H', J.os, J.bare, J.base, J.hok, rv, q⟩
  cases fl with
  | ret u =>
    obtain ⟨v, σ', H', J, rv, q⟩ := hs
    exact fin J rv q
  | next =>
    obtain ⟨σ', H', J, q⟩ := hs
    exact fin (v := V.non) (u := Value.none) J rfl q
  | brk =>
    obtain ⟨_, _, _, q⟩ := hs
    exact False.elim q
  | cont =>
    obtain ⟨_, _, _, q⟩ := hs
    exact False.elim q
/-- what a call within the suite is worth -/
structure VE (P : Program) (w : World) (K : PySem.W.Frag) (mg : Str → Option Value) (base : Heap) (k : Nat) (x : Str) (a : Addr) (oe : Obj) (ds : List D) (post : O → Prop) : Prop where
  ex : ∃ (f : Addr) (fd : FuncData) (ps : List Str), mg x = some (.ref f) ∧ PySem.W.keepIn K (.ref f) = true ∧ Binds K fd ps [] ∧ FnE P w K mg base k f fd ps a oe (spV K ds post)
section
variable {P : Program} {w : World} {K : PySem.W.Frag} {mg : Str → Option Value} {base : Heap} {a : Addr} {oe : Obj}
theorem VE.of {x : Str} {st : Stmt} {N ps : List Str} {k : Nat} {ds : List D} {post : O → Prop} {ρ : RhoW} (F : Df K mg x st ps) (S : FnScope N ps (defScope st)) (hρ : startW N.length ds = ρ)
    (h : ∀ (f : Addr) (cdv : Value) (A : Around) (outer : List Env) (s : Shared) (H : Hp) (E : XK), L2H.RoomH k (L2H.cxH CX0 P w K mg base N x (defScope st) f cdv A outer s H E (a, oe)).A →
      Ws (L2H.cxH CX0 P w K mg base N x (defScope st) f cdv A outer s H E (a, oe)).nox ρ (defBody st) { nx := fun _ => post (.sh .non), rt := post }) (hl : ps.length = ds.length := by rfl) : VE P w K mg base (k + 1) x a oe ds post := by
  obtain ⟨f, fd, h1, h2, h3⟩ := F.ex
  refine ⟨f, fd, ps, h1, h2.kp, h3, fnE_of h2 S (fun vs H Q E q => by rw [hl]; exact q.1.1) fun cdv A outer s H vs Q E hr q => ?_⟩
  obtain ⟨r, q⟩ := q
  refine ⟨_, pss_wss, ?_⟩
  refine (h f cdv A outer s H E hr).run H (L2.start N vs) H _ (hρ ▸ start_env r) ⟨fun σ H' ρ' p l E' => ?_, fun σ H' ρ' p l E' => p.elim, fun σ H' ρ' p l E' => p.elim, fun o v H' A p s f nd r => q o v H' A p s f nd r, fun _ _ _ _ _ p => p.elim, fun _ _ _ p => p.elim⟩
  obtain ⟨F', E'⟩ := E'
  exact q (.sh .non) .non H' [] p E'.same (by simp) (by simp) (.sh .non)
end
section
variable {X : Cx} {k : Nat} {f : Addr} {fd : FuncData} {ps : List Str} {sp : Sp} {E : L2.St → XK} {x : Str} {q p pos : Pos} {e : Expr} {es : List Expr} {t : TA} {a : Addr} {oe : Obj}
theorem run_fnE {pins : List (Addr × Obj)} {σ : L2.St} {H : Hp} {s : Shared} {Q : VK} {us : List Value} {vs : List V} (F : FnE X.prog X.w X.K X.mg X.base k f fd ps a oe sp) (hr : L2H.RoomH k X.A) (hp : (a, oe) ∈ X.pn) (hb : Binds X.K fd ps []) (hx : PassesAt CX0 X σ (E σ))
    (I : Inv X pins σ H s) (r : Vals vs us) (h : sp vs H Q (E σ)) : wpAny (model X.prog X.w) X.A (call (.ref f) us) (EP X pins σ Q) X.xe s := by
  have hl : us.length = ps.length := by rw [← r.length]; exact F.len _ _ _ _ h
  have b := hb s us I.kIn (by rw [List.append_nil]; exact hl)
  rw [List.append_nil] at b
  have P1 := I.pin (a, oe) (List.mem_append_left _ hp)
  have hpin : L2H.PinOk X.stack H s (a, oe) := ⟨P1.1, P1.2.1, fun hm => (List.mem_cons.mp (I.stkSub a hm)).elim P1.2.2.1 P1.2.2.2.1, P1.2.2.2.2⟩
  refine wpAny_call (codeAny_mono (F.run X.A X.stack s H ⟨us, []⟩ us vs Q (E σ) hr hpin I.env0 b r h) fun r s' hq => ?_)
  cases r with
  | error e => exact hx pins H s e s' I hq
  | ok fl =>
    cases fl with
    | ret u => exact I.after hq
    | next => exact False.elim hq
    | brk => exact False.elim hq
    | cont => exact False.elim hq
theorem pe_callE (F : FnE X.prog X.w X.K X.mg X.base k f fd ps a oe sp) (hr : L2H.RoomH k X.A) (hp : (a, oe) ∈ X.pn) (hg : Gl X x) (hm : X.mg x = some (.ref f)) (hk : PySem.W.keepIn X.K (.ref f) = true) (hb : Binds X.K fd ps []) (hx : ∀ σ, PassesAt CX0 X σ (E σ))
    (ha : PA X (e :: es) t) (hdb : (x == ("__debug__" : Str)) = false := by decide) (he : starEach (e :: es) X.env = (false, eval e X.env) :: starEach es X.env := by rfl) (hpl : (backTo pos (starEach es X.env)).any (·.1) = false := by rfl) :
    PE X (.Call (.Name x q) (e :: es) [] pos) (tCallS sp E t) := by
  refine ⟨fun pins s σ H Q I h => ?_⟩
  refine wpAny_Call_Name_kw (ld_glob I hg hm ?_ hdb)
  refine PySem.W.callWith_K (h₀ := X.base) I.ok.mod.kin hk (thn (ha.run pos pins s σ H _ I h) fun us s1 ⟨vs, H1, I1, r, q⟩ => ⟨I1.kIn, ?_⟩) he hpl
  exact run_fnE F hr hp hb (hx σ) I1 r q
variable {ρ : Rho} {ds : List D} {d : D} {post : O → Prop}
theorem Ev.callE (F : VE X.prog X.w X.K X.mg X.base k x a oe ds post) (hr : L2H.RoomH k X.A) (hp : (a, oe) ∈ X.pn) (ha : EvA X ρ (e :: es) ds) (hpo : ∀ o', post o' → o'.data = d) (hg : Gl X x := by rfl) (hdb : (x == ("__debug__" : Str)) = false := by decide)
    (he : starEach (e :: es) X.env = (false, eval e X.env) :: starEach es X.env := by rfl) (hpl : (backTo pos (starEach es X.env)).any (·.1) = false := by rfl) : Ev X ρ (.Call (.Name x p) (e :: es) [] pos) d := by
  obtain ⟨f, fd, ps, h1, h2, h3, h4⟩ := F.ex
  refine ⟨fun σ H en Q q => we_of (pe_callE (E := fun _ => E0) h4 hr hp hg h1 h2 h3 (fun σ pins H s e s' I c => c.elim) pa_wa hdb he hpl) (ha.run σ H en _ fun vs H1 s1 r1 => ?_)⟩
  exact ⟨r1, fun o' v H' A po s2 fr nd ro => q v H' (s1.trans s2) (by rw [← hpo o' po]; exact ro.rep mask_same)⟩
end
theorem roomM {k : Nat} {A : Around} {v : Option Value} (r : Room k A) : L2H.RoomH k (A.mark v) := ⟨r.dp, r.un⟩
/-! ### isinstance of the caught error -/
section
variable {X : Cx} {a D' : Addr} {oe : Obj}
theorem call_isE' (C : ExcC X.K D') (hz : Zc (.ref D') none oe) (hf : ∃ vs, oe.data = .fields vs) (hp : (a, oe) ∈ X.pn) : CallR X (.builtin "isinstance") (rIsE X.K D' a) := by
  intro pins s σ H xs us Q I r h
  obtain ⟨c, cv, b, rfl, hcv, e, q⟩ := h
  cases r with
  | cons rx rr =>
    cases rr with
    | cons rt rr =>
      cases rr
      cases rx
      have ec := hcv _ rt
      subst ec
      obtain ⟨hget, _⟩ := I.pin (a, oe) (List.mem_append.mpr (.inl hp))
      obtain ⟨vs, hv⟩ := hf
      have J : PySem.W.InstAt s.heap a oe D' none := by
        obtain ⟨oc, od, oda, osl⟩ := oe
        obtain ⟨h1, h2⟩ := hz
        dsimp only at h1 h2 hv
        subst h1 h2 hv
        exact ⟨hget, rfl, rfl, trivial⟩
      exact PySem.W.kia_one (PySem.W.handS_kitx_exc C.hg C.hk C.hs C.hd C.ha C.hn C.ht C.hm) I.kIn J e (fun z => nomatch z) fun tk => ⟨.bl b, H, I.kept (t' := tk) fun _ _ z => z, rfl, q⟩
variable {ρ : Rho} {e : Expr} {T : Str} {T' : String} {c : Bool} {q1 p pos : Pos} {C' : Addr}
theorem Ev.isEC (C : ExcC X.K D') (hz : Zc (.ref D') none oe) (hf : ∃ vs, oe.data = .fields vs) (hp : (a, oe) ∈ X.pn) (hm : X.mg "isinstance" = none) (h : Ev X ρ e (.raw a)) (hT : X.mg T = some (.ref C')) (hk : PySem.W.kitOne X.K (.ref D') (.ref C') = some c)
    (hg : Gl X "isinstance" := by rfl) (hgT : Gl X T := by rfl) (hd : (T == ("__debug__" : Str)) = false := by decide)
    (hs : starEach [e, .Name T q1] X.env = (false, eval e X.env) :: starEach [.Name T q1] X.env := by rfl) (hs2 : starEach [.Name T q1] X.env = (false, eval (.Name T q1) X.env) :: starEach [] X.env := by rfl)
    (hpl : (backTo pos (starEach [.Name T q1] X.env)).any (·.1) = false := by rfl) : Ev X ρ (.Call (.Name "isinstance" p) [e, .Name T q1] [] pos) (.bl c) :=
  ⟨fun σ H en Q q => we_of (pe_callB (call_isE' C hz hf hp) hg hm (by decide +kernel) (pa_cons pe_we (pa_cons (pe_glob (v := .ref C') hgT hT rfl hd) pa_nil hs2) hs) (by decide) (by decide) hs hpl)
    (h.run σ H en _ fun v H1 s1 r1 => by
      cases r1 with
      | raw _ => exact ⟨.ref C', .ref C', c, rfl, fun u r => r, hk, q _ H1 s1 (.bl c)⟩)⟩
theorem Ev.isEB (C : ExcC X.K D') (hz : Zc (.ref D') none oe) (hf : ∃ vs, oe.data = .fields vs) (hp : (a, oe) ∈ X.pn) (hm : X.mg "isinstance" = none) (h : Ev X ρ e (.raw a)) (hT : X.mg T = none) (hk : PySem.W.kitOne X.K (.ref D') (.type T') = some c) (hb : bootBuiltins T = some (.type T') := by decide +kernel)
    (hg : Gl X "isinstance" := by rfl) (hgT : Gl X T := by rfl) (hn : T ≠ "__name__" := by decide) (hd : (T == ("__debug__" : Str)) = false := by decide)
    (hs : starEach [e, .Name T q1] X.env = (false, eval e X.env) :: starEach [.Name T q1] X.env := by rfl) (hs2 : starEach [.Name T q1] X.env = (false, eval (.Name T q1) X.env) :: starEach [] X.env := by rfl)
    (hpl : (backTo pos (starEach [.Name T q1] X.env)).any (·.1) = false := by rfl) : Ev X ρ (.Call (.Name "isinstance" p) [e, .Name T q1] [] pos) (.bl c) :=
  ⟨fun σ H en Q q => we_of (pe_callB (call_isE' C hz hf hp) hg hm (by decide +kernel) (pa_cons pe_we (pa_cons (pe_bltn (v := .ty T') hgT hT hb rfl hn hd) pa_nil hs2) hs) (by decide) (by decide) hs hpl)
    (h.run σ H en _ fun v H1 s1 r1 => by
      cases r1 with
      | raw _ => exact ⟨.ty T', .type T', c, rfl, fun u r => r, hk, q _ H1 s1 (.bl c)⟩)⟩
end
end VL
set_option Elab.async false
set_option linter.all false
set_option maxRecDepth 100000
set_option maxHeartbeats 2000000
/-! value layer, part 24: the place of a thing in a list, the errors of the program -/
namespace VL
open PySem L2 PySem.Spec PyProof.Rows
theorem pyAll_get : ∀ (ds : List D) (j : Nat), (pyAll ds)[j]? = ds[j]?.map D.py
  | [], j => by simp [pyAll]
  | x :: xs, 0 => by simp [pyAll]
  | x :: xs, j + 1 => by simp [pyAll, pyAll_get xs j]
/-- e.index(a), things of any kind -/
theorem Ev.indexD {X : Cx} {ρ : Rho} {e a : Expr} {q p : Pos} {d z : D} {ds : List D} {j : Nat} (hu : X.A.units + 65 < cLine) (h : Ev X ρ e (.lst ds)) (ha : Ev X ρ a d) (h1 : Shp d) (h2 : Shp (.lst ds)) (hj : ds[j]? = some z) (hz : eqvD z d = true) (hno : ∀ m z', m < j → ds[m]? = some z' → eqvD z' d = false)
    (hpe : ∀ {t t2}, PE X e t → PE X a t2 → PE X (.Call (.Attribute e "index" q) [a] [] p) (tBM X.K "list" (rIndexD X.K) t (tCons t2 tNil)) := by
      intro t t2 g1 g2; exact pe_bm PySem.F.plainAttrs_list PySem.F.slot_list_index PySem.F.type_list_index (mt_indexD (by assumption)) g1 (pa_cons g2 pa_nil)) : Ev X ρ (.Call (.Attribute e "index" q) [a] [] p) (.int (j : Int)) :=
  ⟨fun σ H en Q q => we_of (hpe pe_we pe_we) (h.run σ H en _ fun v H1 s1 r1 => by
    obtain ⟨b, vs, rfl, hb, rs⟩ := r1.lst_inv
    refine ⟨.inl ⟨rfl, vs, SqL.of hb⟩, ha.run σ H1 (en.mono s1) _ fun w H2 s2 r2 => ?_⟩
    refine ⟨b, w, d.py, pyAll ds, j, z.py, rfl, rfl, (r1.mono s2).dpL h2.1, r2.dp h1.1, by have := h2.2; rw [D.py] at this; exact this, h1.2, by rw [pyAll_get, hj]; rfl, hz, fun m z' hm hz' => ?_, q _ H2 (s1.trans s2) (.int _)⟩
    rw [pyAll_get] at hz'
    obtain ⟨y, hy, rfl⟩ := Option.map_eq_some_iff.mp hz'
    exact hno m y hm hy)⟩
theorem unitsH {k : Nat} {A : Around} (r : L2H.RoomH k A) : A.units + 65 < cLine := by have := r.un; omega
/-- the names of the refusals -/
abbrev errN : List Str := ["BadStrip", "BadOrder", "NoFold", "NothingDone", "TooMany", "BadText"]
abbrev errT : List Str := ["strip", "order", "fold", "nothing", "many", "text"]
/-- what the text says of the refusal x, the j-th -/
structure ErrW (K : PySem.W.Frag) (mg : Str → Option Value) (j : Nat) (x : Str) (Dx Fx : Addr) : Prop where
  er : ErrC K mg x Dx
  ec : ExcC K Dx
  gF : mg "FoldError" = some (.ref Fx)
  ex : PySem.W.exmOne K (.ref Dx) (.ref Fx) = some true
  kits : ∀ i n, errN[i]? = some n → ∃ C', mg n = some (.ref C') ∧ PySem.W.kitOne K (.ref Dx) (.ref C') = some (decide (i = j))
  kv : PySem.W.kitOne K (.ref Dx) (.type "ValueError") = some true
/-! how the facts of the classes make it -/
section
variable {K : PySem.W.Frag} {Da Ca : Addr}
theorem kit_self : PySem.W.kitOne K (.ref Da) (.ref Da) = some true := by unfold PySem.W.kitOne; rw [if_pos (by simp)]
theorem kit_other (hne : (Value.ref Da == Value.ref Ca) = false) (hd : PySem.W.hasDictIn K Ca = true) (ht : PySem.W.typeIn K (.ref Ca) = some (.type "type")) (hs : PySem.W.subIn K (.ref Da) (.ref Ca) = some false) : PySem.W.kitOne K (.ref Da) (.ref Ca) = some false := by
  obtain ⟨cd, hc, _⟩ := PySem.W.any_some hd
  have e2 : ((PySem.W.clsIn K Ca).isSome && PySem.W.typeIn K (.ref Ca) == some (.type "type")) = true := by rw [hc, ht] <;> rfl
  unfold PySem.W.kitOne
  rw [if_neg (by rw [hne]; simp)]
  show (if ((PySem.W.clsIn K Ca).isSome && PySem.W.typeIn K (.ref Ca) == some (.type "type")) = true then PySem.W.subIn K (.ref Da) (.ref Ca) else none) = _
  rw [if_pos e2]
  exact hs
theorem kit_val (hs : PySem.W.subIn K (.ref Da) (.type "ValueError") = some true) : PySem.W.kitOne K (.ref Da) (.type "ValueError") = some true := by
  unfold PySem.W.kitOne
  rw [if_neg (by simp)]
  show (if PySem.W.kitMeta "ValueError" = true then PySem.W.subIn K (.ref Da) (.type "ValueError") else none) = _
  rw [if_pos (by decide +kernel)]
  exact hs
end
end VL
set_option Elab.async false
set_option linter.all false
set_option maxRecDepth 100000
set_option maxHeartbeats 1000000
/-! value layer, part 25: powers, tuples of lists -/
namespace L2
open PySem PySem.Spec PyProof.Rows
/-- x in t, t a tuple of things of any depth -/
def rInTD (K : PySem.W.Frag) : R2 := fun x y H Q => ∃ d ds, Dp K H x d ∧ Dp K H y (.tuple ds) ∧ SeqAt.shaped d = true ∧ SeqAt.shaped (.tuple ds) = true ∧ Q (.bl (ds.any fun z => PyData.eqv z d)) H
theorem op_inTD {X : Cx} (hu : X.A.units + 65 < cLine) : OpR X (compareOp .In) (rInTD X.K) := by
  intro pins s σ H x y v u Q I rx ry h
  obtain ⟨d, ds, hd, he, sd, se, q⟩ := h
  obtain ⟨as, r1⟩ := Dp.reads I d x v hd rx
  obtain ⟨bs, r2⟩ := Dp.reads I (.tuple ds) y u he ry
  exact SeqAt.in_tuple_reads r2 r1 (SeqAt.canLay_of_shaped se) (SeqAt.canLay_of_shaped sd) (room_in_shaped sd hu) ⟨.bl _, H, I, rfl, q⟩
end L2
namespace VL
open PySem L2
theorem any_py (d : D) : ∀ ds : List D, (pyAll ds).any (fun z => PyData.eqv z d.py) = ds.any fun z => eqvD z d
  | [] => by simp [pyAll]
  | x :: xs => by simp only [pyAll, List.any_cons]; rw [any_py d xs]; rfl
theorem CmpD.inT {X : Cx} {d1 : D} (hu : X.A.units + 65 < cLine) {ds : List D} (h1 : Shp d1) (h2 : Shp (.tup ds)) : CmpD X .In d1 (.tup ds) (ds.any fun z => eqvD z d1) :=
  ⟨_, op_inTD hu, fun v w H rv rw' Q q => ⟨_, _, rv.dp h1.1, by have := rw'.dp h2.1; rw [D.py] at this; exact this, h1.2, by have := h2.2; rw [D.py] at this; exact this, by
    rw [any_py]
    exact q _ H (Same.refl H) (.bl _)⟩⟩
section
variable {X : Cx} {ρ : Rho} {a b e : Expr} {p pos : Pos} {i j : Int} {ds : List D}
theorem Ev.pow (ha : Ev X ρ a (.int i)) (hb : Ev X ρ b (.int j)) (hc : CPow i j) : Ev X ρ (.BinOp a .Pow b pos) (.int (i ^ j.toNat)) := Ev.opI op_pow ha hb hc rfl
/-- tuple(e), e a list -/
theorem Ev.tupleL (hm : X.mg "tuple" = none) (h : Ev X ρ e (.lst ds)) (hg : Gl X "tuple" := by rfl) (hs : starEach [e] X.env = (false, eval e X.env) :: starEach [] X.env := by rfl) (hpl : (backTo pos (starEach [] X.env)).any (·.1) = false := by rfl) : Ev X ρ (.Call (.Name "tuple" p) [e] [] pos) (.tup ds) :=
  Ev.callTy call_tuple_of hg hm (by decide +kernel) (.one h hs) (fun vs H r0 Q q => by
    obtain ⟨v, rfl, r⟩ := r0.one
    obtain ⟨l, us, rfl, hl, rs⟩ := r.lst_inv
    exact ⟨l, us, rfl, .inl ⟨SqL.of hl, fun t ht => q _ _ (Same.new ht) (.tup' upd_same (rs.mono (Same.new ht)))⟩⟩) (by decide) (by decide) hs hpl
/-- a whole number of the module -/
theorem Ev.globI {X : Cx} {ρ : Rho} {x : Str} {z : Int} {t : Tok} {p : Pos} (hm : X.mg x = some (.int z t)) (hg : Gl X x := by rfl) (hd : (x == ("__debug__" : Str)) = false := by decide) : Ev X ρ (.Name x p) (.int z) :=
  ⟨fun σ H en Q q => we_of (pe_glob (v := .int z) hg hm ⟨t, rfl⟩ hd) (q _ H (Same.refl H) (.int z))⟩
end
end VL
set_option Elab.async false
set_option linter.all false
set_option maxRecDepth 100000
set_option maxHeartbeats 2000000
/-! value layer, part 26: lists of lists sorted -/
namespace L2
open PySem PySem.Spec PyProof.Rows PySem.W
/-- sorted(e), things of one kind; b tells which is which -/
def rSortedD (K : PySem.W.Frag) : List V → Hp → VK → Prop := fun vs H Q => ∃ (a : Addr) (β : Type) (bs : List β) (f : β → V) (enc : β → PyData), vs = [V.ref a] ∧ SqL K H a (bs.map f) ∧ (∀ b, b ∈ bs → Dp K H (f b) (enc b)) ∧ AllAlike (bs.map enc) ∧ Sortable (bs.map enc) ∧ (∀ b, b ∈ bs → (enc b).depth ≤ 40) ∧
  ∀ p, H p = none → Q (.ref p) (upd H p (.lst ((bs.mergeSort (dataLe false enc)).map f)))
theorem each_vals {β : Type} {f : β → V} : ∀ {bs : List β} {us : List Value}, Vals (bs.map f) us → EachIs (fun u b => RelV (f b) u) us bs
  | [], _, r => by
    have r' : Vals [] _ := r
    cases r'
    exact .nil
  | b :: bs, _, r => by
    have r' : Vals (f b :: bs.map f) _ := r
    cases r' with
    | cons h t => exact .cons h (each_vals t)
theorem vals_each {β : Type} {f : β → V} : ∀ {bs : List β} {us : List Value}, EachIs (fun u b => RelV (f b) u) us bs → Vals (bs.map f) us
  | _, _, .nil => .nil
  | _, _, .cons h t => .cons h (vals_each t)
theorem each_with {β : Type} {R S : Value → β → Prop} : ∀ {us : List Value} {bs : List β}, EachIs R us bs → (∀ u b, b ∈ bs → R u b → S u b) → EachIs S us bs
  | _, _, .nil, _ => .nil
  | _, _, .cons h t, k => .cons (k _ _ (List.mem_cons_self ..) h) (each_with t fun u b hb => k u b (List.mem_cons_of_mem _ hb))
theorem cr_sortedD {X : Cx} (hu : X.A.units + 64 < cLine) : CallR X (.builtin "sorted") (rSortedD X.K) := by
  intro pins s σ H vs us Q I r h
  obtain ⟨a, β, bs, f, enc, rfl, hs, hd, hal, hk, hdp, q⟩ := h
  obtain ⟨its, rv, hl, hz⟩ := I.list hs
  rw [Vals.ref1 r]
  have ee := each_vals rv
  refine sorted_data (R := fun u b => RelV (f b) u) hl.isList ee (each_with ee fun u b hb hr => Dp.reads I _ _ _ (hd b hb) hr) hal hk (by rw [List.length_map] at hz; exact hz) (fun b hb => by have := hdp b hb; omega) fun out h1 h2 => ?_
  obtain ⟨ep, he'⟩ := PyProof.Rows.sortedAll_at s.heap its out.toArray
  have hlen : ((bs.mergeSort (dataLe false enc)).map f).length ≤ sizeLine := by
    rw [List.length_map, List.length_mergeSort]
    rw [List.length_map] at hz
    exact hz
  exact ⟨.ref _, upd H (s.heap.objs.size + 1) (.lst ((bs.mergeSort (dataLe false enc)).map f)), I.laid (t' := s.toks) (fun _ _ => PyProof.Rows.sortedAll_old) (Nat.le_succ _) ⟨hlen, out, ep, vals_each h2, he'⟩, rfl, q _ (I.hok.fresh (Nat.le_succ _))⟩
end L2
namespace VL
open PySem L2 PySem.W
theorem dI_py (L : List Int) : (dI L).py = .list (L.map .int) := by
  unfold dI
  rw [D.py, pyAll_map, List.map_map]
  exact congrArg PyData.list (List.map_congr_left fun x _ => by simp [D.py])
theorem alike_dI (a b : List Int) : alike (dI a).py (dI b).py = true := by
  rw [dI_py, dI_py, alike]
  exact alike_ints a b
theorem depth_dI (L : List Int) : (dI L).py.depth ≤ 1 := by
  rw [dI_py, PyData.depth, depth_ints]
  exact Nat.le_refl 1
def sortL (rows : List (List Int)) : List (List Int) := rows.mergeSort fun a b => decide (a ≤ b)
theorem sortL_perm (rows : List (List Int)) : (sortL rows).Perm rows := List.mergeSort_perm rows _
theorem plain_dI (L : List Int) : (dI L).plain = true := (good_plain _ (good_dI L)).1
section
variable {X : Cx} {ρ : Rho} {e : Expr} {p pos : Pos} {rows : List (List Int)}
/-- sorted(e), lists of whole numbers -/
theorem EvO.sortedL (hu : X.A.units + 64 < cLine) (hm : X.mg "sorted" = none) (h : Ev X ρ e (.lst (rows.map dI))) (hg : Gl X "sorted" := by rfl) (hs : starEach [e] X.env = (false, eval e X.env) :: starEach [] X.env := by rfl) (hpl : (backTo pos (starEach [] X.env)).any (·.1) = false := by rfl) :
    EvO X ρ (.Call (.Name "sorted" p) [e] [] pos) (oL ((sortL rows).map dI)) :=
  EvO.callB (cr_sortedD hu) hg hm (by decide +kernel) (.one h hs) (fun vs H r0 Q q => by
    obtain ⟨v, rfl, r⟩ := r0.one
    obtain ⟨a, ws, rfl, h, rs⟩ := r.lst_inv
    have hl : ws.length = rows.length := by rw [rs.1, List.length_map]
    -- each thing with its row
    have hz : (ws.zip rows).map Prod.fst = ws := List.map_fst_zip (by omega)
    have hz2 : (ws.zip rows).map Prod.snd = rows := List.map_snd_zip (by omega)
    have each : ∀ b ∈ ws.zip rows, Rep X.K H b.1 (dI b.2) := fun b hb => by
      obtain ⟨i, hi⟩ := List.getElem?_of_mem hb
      obtain ⟨h1, h2⟩ := List.getElem?_zip_eq_some.mp hi
      exact rs.2 i b.1 (dI b.2) h1 (by rw [List.getElem?_map, h2]; rfl)
    refine ⟨a, V × List Int, ws.zip rows, Prod.fst, fun b => (dI b.2).py, rfl, by rw [hz]; exact SqL.of h, fun b hb => (each b hb).dp (plain_dI _), AllAlike.of fun b b' => alike_dI _ _, Sortable.others fun b => ⟨fun z => (by rw [dI_py] at z; cases z), fun xs z => (by rw [dI_py] at z; cases z)⟩, fun b _ => Nat.le_trans (depth_dI b.2) (by decide), fun pp hp => ?_⟩
    refine q pp _ hp ?_
    have e1 : dataLe false (fun b : V × List Int => (dI b.2).py) = fun p q => decide (p.2 ≤ q.2) := by
      have : (fun b : V × List Int => (dI b.2).py) = fun b => .list (b.2.map .int) := funext fun b => dI_py b.2
      rw [this]
      exact dataLe_rows fun b : V × List Int => b.2
    have e2 : (sortL rows) = ((ws.zip rows).mergeSort (dataLe false fun b : V × List Int => (dI b.2).py)).map Prod.snd := by
      rw [e1]
      unfold sortL
      rw [List.map_mergeSort (r := fun p q : V × List Int => decide (p.2 ≤ q.2)) (s := fun a b => decide (a ≤ b)) (f := Prod.snd) (fun _ _ _ _ => rfl), hz2]
    rw [e2]
    generalize hM : (ws.zip rows).mergeSort (dataLe false fun b : V × List Int => (dI b.2).py) = Ms
    have sub : ∀ b ∈ Ms, Rep X.K H b.1 (dI b.2) := fun b hb => each b (by rw [← hM, List.mem_mergeSort] at hb; exact hb)
    clear hM e2
    rw [List.map_map]
    refine ⟨by simp, fun i v d h1 h2 => ?_⟩
    rw [List.getElem?_map] at h1 h2
    obtain ⟨b, hb, rfl⟩ := Option.map_eq_some_iff.mp h1
    rw [hb] at h2
    obtain rfl := Option.some.inj h2
    exact sub b (List.mem_of_getElem? hb)) (by decide) (by decide) hs hpl
end
end VL
set_option Elab.async false
set_option linter.all false
set_option maxRecDepth 100000
set_option maxHeartbeats 2000000
/-! value layer, part 27: own things of an own list that go to a new list, or behind another one -/
namespace VL
open PySem L2 PySem.W
section
variable {K : PySem.W.Frag} {H0 H H' S : Hp} {σ : L2.St} {ρ : RhoW} {F : Nat → List Addr} {o : O} {d0 d : D} {os os' : List O}
def atV (vs : List V) (k : Nat) : V := vs.getD k .non
def atO (os : List O) (k : Nat) : O := os.getD k (.sh .non)
theorem atV_of {vs : List V} {k : Nat} (h : k < vs.length) : vs[k]? = some (atV vs k) := by
  unfold atV
  rw [List.getD_eq_getElem?_getD, List.getElem?_eq_getElem h]; rfl
theorem atO_of {os : List O} {k : Nat} (h : k < os.length) : os[k]? = some (atO os k) := by
  unfold atO
  rw [List.getD_eq_getElem?_getD, List.getElem?_eq_getElem h]; rfl
theorem map_atO (os : List O) : (List.range os.length).map (atO os) = os := by
  apply List.ext_getElem?
  intro k
  rw [List.getElem?_map]
  by_cases hk : k < os.length
  · rw [List.getElem?_range hk, atO_of hk]; rfl
  · rw [List.getElem?_eq_none (by simpa using hk), List.getElem?_eq_none (by omega)]; rfl
/-- some of an own list's things, each once, go to a new list at p; the old list is given up -/
theorem EnvA.relist (E : EnvA K H0 σ H ρ F) {j : Nat} {a p : Addr} {vs : List V} {sel : List Nat} (hρ : ρ[j]? = some (some (.ow (.ls os) d0))) (hσ : σ[j]? = some (some (.ref a))) (ha : H a = some (.lst vs)) (nd : sel.Nodup) (hb : ∀ k ∈ sel, k < os.length)
    (s : Same H H') (hp : H p = none) (hp' : H' p = some (.lst (sel.map (atV vs)))) (hd : (O.ls (sel.map (atO os))).data = d) :
    EnvW K H0 (σ ++ [some (.ref p)]) H' (ρ.set j none ++ [some (.ow (.ls (sel.map (atO os))) d)]) := by
  obtain ⟨v, hv, r⟩ := E.get j _ hρ
  have hj := (List.getElem?_eq_some_iff.mp hρ).1
  have hl := E.len
  have r2 := r.2
  have hFn := E.nd j
  generalize hF : F j = Fj at r2 hFn
  cases r2 with
  | @ls a' vs' _ As h1 h2 h3 h4 =>
    rw [hσ] at hv
    obtain rfl : a = a' := by simpa using hv
    rw [ha] at h1
    obtain rfl : vs = vs' := by simpa using h1
    obtain ⟨_, hAn⟩ := List.nodup_cons.mp hFn
    let pick : Nat → List Addr := fun k => As.getD k []
    have hpk : ∀ k, k < os.length → As[k]? = some (pick k) := fun k hk => by
      show As[k]? = some (As.getD k [])
      rw [List.getD_eq_getElem?_getD, List.getElem?_eq_getElem (by omega)]; rfl
    have inF : ∀ k ∈ sel, ∀ b ∈ pick k, b ∈ F j := fun k hk b hbm => by
      rw [hF]
      exact List.mem_cons_of_mem _ (List.mem_flatten.mpr ⟨_, List.mem_of_getElem? (hpk k (hb k hk)), hbm⟩)
    have inFl : ∀ b ∈ (sel.map pick).flatten, b ∈ F j := fun b hbm => by
      obtain ⟨B, hB, hbB⟩ := List.mem_flatten.mp hbm
      obtain ⟨k, hk, rfl⟩ := List.mem_map.mp hB
      exact inF k hk b hbB
    have npF : p ∉ allOf F ρ.length := fun z => E.cells.some z hp
    have each : ∀ k, k < os.length → (pick k).Nodup := fun k hk => by
      have n1 := hAn
      rw [flat_split (hpk k hk)] at n1
      exact (List.nodup_append.mp (List.nodup_append.mp n1).2.1).1
    have ndS : ∀ l : List Nat, l.Nodup → (∀ k ∈ l, k < os.length) → (l.map pick).flatten.Nodup := by
      intro l
      induction l with
      | nil => intro _ _; simp
      | cons k l ih =>
        intro n1 n2
        obtain ⟨n3, n4⟩ := List.nodup_cons.mp n1
        rw [List.map_cons, List.flatten_cons]
        refine List.nodup_append.mpr ⟨each k (n2 k (List.mem_cons_self ..)), ih n4 (fun x hx => n2 x (List.mem_cons_of_mem _ hx)), fun b h1 c h2 e => ?_⟩
        subst e
        obtain ⟨B, hB, hbB⟩ := List.mem_flatten.mp h2
        obtain ⟨m, hm, rfl⟩ := List.mem_map.mp hB
        exact flat_other hAn (hpk k (n2 k (List.mem_cons_self ..))) (hpk m (n2 m (List.mem_cons_of_mem _ hm))) (fun z => n3 (z ▸ hm)) h1 hbB
    have ndsel := ndS sel nd hb
    let G : Nat → List Addr := fun m => if m = ρ.length then p :: (sel.map pick).flatten else if m = j then [] else F m
    have hG : ∀ m b, b ∈ G m → (m = ρ.length ∧ (b = p ∨ b ∈ F j)) ∨ (m ≠ ρ.length ∧ m ≠ j ∧ b ∈ F m) := fun m b hbm => by
      dsimp only [G] at hbm
      split at hbm
      · rcases List.mem_cons.mp hbm with e | hbm
        · exact .inl ⟨by assumption, .inl e⟩
        · exact .inl ⟨by assumption, .inr (inFl b hbm)⟩
      · split at hbm
        · cases hbm
        · exact .inr ⟨by assumption, by assumption, hbm⟩
    have hall : ∀ b, b ∈ allOf G (ρ.set j none ++ [some (W.ow (.ls (sel.map (atO os))) d)]).length → b = p ∨ b ∈ allOf F ρ.length := fun b hbm => by
      obtain ⟨m, _, h⟩ := mem_allOf.mp hbm
      rcases hG m b h with ⟨_, h | h⟩ | ⟨_, _, h⟩
      · exact .inl h
      · exact .inr (E.mem h)
      · exact .inr (E.mem h)
    have sub : Same (mask H (allOf F ρ.length)) (mask H' (allOf G (ρ.set j none ++ [some (W.ow (.ls (sel.map (atO os))) d)]).length)) := fun b u e => by
      obtain ⟨e1, e2⟩ := mask_some e
      rw [mask_out (fun z => (hall b z).elim (fun y => by subst y; rw [hp] at e1; cases e1) e2)]
      exact s b u e1
    refine ⟨G, by simp [hl], fun m => ?_, fun m m' b hb1 hb2 => ?_, fun b hbm => ?_, E.same.trans s, fun m x h => ?_, fun m h => ?_⟩
    · dsimp only [G]
      split
      · exact List.nodup_cons.mpr ⟨fun z => npF (E.mem (inFl p z)), ndsel⟩
      · split
        · exact List.nodup_nil
        · exact E.nd m
    · rcases hG m b hb1 with ⟨e1, h1⟩ | ⟨e1, e2, h1⟩ <;> rcases hG m' b hb2 with ⟨e3, h3⟩ | ⟨e3, e4, h3⟩
      · omega
      · rcases h1 with rfl | h1
        · exact absurd (E.mem h3) npF
        · exact absurd (E.dj _ _ b h1 h3).symm e4
      · rcases h3 with rfl | h3
        · exact absurd (E.mem h1) npF
        · exact absurd (E.dj _ _ b h1 h3) e2
      · exact E.dj _ _ b h1 h3
    · rcases hall b hbm with rfl | h
      · exact E.same.free hp
      · exact E.fresh b h
    · by_cases hm : m < ρ.length
      · rw [List.getElem?_append_left (by simpa using hm), List.getElem?_set] at h
        by_cases e : j = m
        · subst e
          rw [if_pos rfl, if_pos hm] at h
          cases h
        · rw [if_neg e] at h
          obtain ⟨v', hv', r'⟩ := E.get m x h
          refine ⟨v', by rw [List.getElem?_append_left (by omega)]; exact hv', ?_⟩
          dsimp only [G]
          rw [if_neg (by omega), if_neg (Ne.symm e)]
          exact r'.keep (fun b _ u z => s b u z) sub
      · have hm2 := (List.getElem?_eq_some_iff.mp h).1
        simp at hm2
        have e : m = ρ.length := by omega
        subst e
        rw [List.getElem?_append_right (by simp)] at h
        simp at h
        subst h
        refine ⟨.ref p, by rw [← hl]; simp, hd, ?_⟩
        dsimp only [G]
        rw [if_pos rfl]
        refine .ls hp' (by simp) (by simp) fun i v o A g1 g2 g3 => ?_
        rw [List.getElem?_map] at g1 g2 g3
        obtain ⟨k, hk, rfl⟩ := Option.map_eq_some_iff.mp g1
        rw [hk] at g2 g3
        obtain rfl := Option.some.inj g2
        obtain rfl := Option.some.inj g3
        have hkb := hb k (List.mem_of_getElem? hk)
        exact (h4 k _ _ _ (atV_of (by omega)) (atO_of hkb) (hpk k hkb)).keep (fun b _ u z => s b u z) sub
    · dsimp only [G]
      split
      · rename_i e
        subst e
        exact absurd (by simp) (h (.ow (.ls (sel.map (atO os))) d))
      · split
        · rfl
        · rename_i e1 e2
          refine E.off m fun x e => h x ?_
          have := (List.getElem?_eq_some_iff.mp e).1
          rw [List.getElem?_append_left (by simpa using this), List.getElem?_set, if_neg (Ne.symm e2)]
          exact e
/-- what stands in an own list -/
theorem EnvA.lsAt (E : EnvA K H0 σ H ρ F) {j : Nat} (hρ : ρ[j]? = some (some (.ow (.ls os) d0))) : ∃ a vs, σ[j]? = some (some (.ref a)) ∧ H a = some (.lst vs) ∧ vs.length = os.length ∧ ∀ k, k < os.length → Rep K H (atV vs k) (atO os k).data := by
  obtain ⟨v, hv, r⟩ := E.get j _ hρ
  have r2 := r.2
  generalize F j = Fj at r2
  cases r2 with
  | @ls a vs _ As h1 h2 h3 h4 =>
    refine ⟨a, vs, hv, h1, h2, fun k hk => ?_⟩
    exact (h4 k _ _ _ (atV_of (by omega)) (atO_of hk) (List.getElem?_eq_getElem (by omega))).rep mask_same
end
section
variable {X : Cx} {ρ : RhoW} {Φ : Post} {rest : List Stmt} {os : List O} {d1 d : D}
theorem wipe1 {σ : L2.St} {t : Nat} {x : V} : wipe ((wipe σ [t]).set t (some x)) [t] = wipe σ [t] := by
  have := wipe_setAll (σ := σ) (vs := [t]) (is := [t]) (ws := [x]) (by simp)
  exact this
/-- y = [x for x in z if test], z an own list that is given up -/
theorem Ws.asgFilter {y x z : Str} {py spos pos xp zp ep : Pos} {ifs : List Expr} {scope : Scope} (i j t : Nat) (f : O → Bool) (hc : X.calm = true) (hN : X.N.Nodup) (ok : BlkOk X.N X.env.scope scope [(x, t)])
    (ht : ∀ o ∈ os, ∀ (s : Shared) (H : Hp) (C : Addr) (cl : List (Str × Addr)) (fp : List Addr), EvTs (X.blk s H scope (compEnvC scope cl C X.env) fp) ((wipeD (bor ρ) [t]).set t (some o.data)) ifs (f o))
    (hl : os.length < 100000) (hd : (O.ls (os.filter f)).data = d) (k : Ws X ((ρ.set j none).set i (some (.ow (.ls (os.filter f)) d))) rest Φ) (htl : t < ρ.length := by decide)
    (hρ : ρ[j]? = some (some (.ow (.ls os) d1)) := by rfl) (hpz : PE X (.Name z zp) (tVar j) := by exact pv _)
    (hg : X.N.Nodup → ∀ (s : Shared) (H : Hp) (C : Addr) (cl : List (Str × Addr)) (fp : List Addr), PG (X.blk s H scope (compEnvC scope cl C X.env) fp) (.Name x xp) (gName t) := by intro hN s H C cl fp; exact pg_name hN rfl (by first | exact Or.inl rfl | exact Or.inr rfl))
    (he : ∀ (s : Shared) (H : Hp) (C : Addr) (cl : List (Str × Addr)) (fp : List Addr), PE (X.blk s H scope (compEnvC scope cl C X.env) fp) (.Name x ep) (tVar t) := by intro s H C cl fp; exact pv _)
    (hy : X.N[i]? = some y := by rfl) (hyl : X.env.scope.names.lookup y = some .local := by rfl) (hsw : swapsWith (.ListComp (.Name x ep) [⟨.Name x xp, .Name z zp, ifs, 0⟩] scope pos) (some (.Name y py)) spos.line X.env = pure true := by exact sw_true rfl rfl rfl (by decide +kernel))
    (hs : ∀ u, foldedSetIterable (.Name z zp) X.env u = pure u := by intro _; rfl) :
    Ws X ρ (.Assign [.Name y py] (.ListComp (.Name x ep) [⟨.Name x xp, .Name z zp, ifs, 0⟩] scope pos) spos :: rest) Φ := ⟨fun H0 σ H D E kk => by
  obtain ⟨F, E1⟩ := id E
  obtain ⟨a, vs, hσ, ha, hvl, hrep⟩ := E1.lsAt hρ
  refine WSs.cons (ws_of (ps_setLc (own := [(x, t)]) (g := gName t) (tt := blkT X scope ifs) (te := tVar t) hc hN hy hyl hsw (pi_list hpz) ok (hg hN) (fun s H0 C cl fp => ⟨fun pins s' σ' H' Q' I w => w s H0 C cl fp pins s' I⟩) he hs) ?_)
  refine ⟨.ref a, hσ, a, rfl, ⟨vs, SqL.of ha⟩, fun Dl hD => ?_⟩
  let sel : Nat → List Nat := fun n => (List.range n).filter fun k => f (atO os k)
  have selS : ∀ n, sel (n + 1) = sel n ++ (if f (atO os n) = true then [n] else []) := fun n => by
    show (List.range (n + 1)).filter _ = (List.range n).filter _ ++ _
    rw [List.range_succ, List.filter_append]
    by_cases h : f (atO os n) = true <;> simp [h]
  refine lc_it (g := gName t) (tt := blkT X scope ifs) (te := tVar t) (vs := [t]) (σ := σ) (H1 := H) (D := Dl) (walk_list (K := X.K) (a := a) (xs := vs)) (fun n H' => Same H H' ∧ H' Dl = some (.lst ((sel n).map (atV vs)))) ⟨Same.new hD, upd_same⟩ (fun n H' _ ⟨sm, _⟩ => SqL.of (sm _ _ ha)) (fun n v H1 H2 hlt ⟨sm, hacc⟩ yl => ?_) (fun H' ⟨sm, hacc⟩ => ?_)
  · obtain ⟨rfl, hx⟩ := yl
    have hno : n < os.length := by omega
    have ev : v = atV vs n := by rw [atV_of hlt] at hx; exact (Option.some.inj hx).symm
    have rv : Rep X.K H2 v (atO os n).data := by rw [ev]; exact (hrep n hno).mono sm
    have en : EnvS X.K ((wipe σ [t]).set t (some v)) H2 ((wipeD (bor ρ) [t]).set t (some (atO os n).data)) := ((E1.envB.mono sm).wipe [t]).set t rv
    refine ⟨wipe1, ?_⟩
    intro s H0' C cl fp
    refine (ht (atO os n) (List.mem_of_getElem? (atO_of hno)) s H0' C cl fp).run _ H2 en _ fun H3 s3 => ?_
    have lenb : (sel n).length ≤ n := by
      have := List.length_filter_le (fun k => f (atO os k)) (List.range n)
      simpa using this
    by_cases hf : f (atO os n) = true
    · rw [hf]
      refine iteT ⟨v, ?_, (sel n).map (atV vs), s3 _ _ hacc, ?_, fun b u e => ?_, ?_⟩
      · rw [List.getElem?_set_self (by rw [wipe_length, E1.len]; exact htl)]
      · rw [List.length_map]
        exact Nat.lt_of_lt_of_le (m := 100000) (by omega) (by decide)
      · rw [upd_ne (fun z => by subst z; rw [hD] at e; cases e)]
        exact s3 b u (sm b u e)
      · rw [upd_same, selS, if_pos hf, List.map_append, ev]; rfl
    · have hf' : f (atO os n) = false := by simpa using hf
      rw [hf']
      refine iteF ⟨sm.trans s3, ?_⟩
      rw [selS, if_neg hf, List.append_nil]
      exact s3 _ _ hacc
  · rw [hvl] at hacc
    have eo : (sel os.length).map (atO os) = os.filter f := by
      show ((List.range os.length).filter (f ∘ atO os)).map (atO os) = _
      rw [← List.filter_map, map_atO]
    have En := E1.relist (sel := sel os.length) (d := d) hρ hσ ha (List.Pairwise.filter _ List.nodup_range) (fun k hk => List.mem_range.mp (List.mem_filter.mp hk).1) sm hD hacc (by rw [eo]; exact hd)
    rw [eo] at En
    exact k.run H0 _ H' D (En.into i) (kk.cast (by simp))⟩
end
section
variable {K : PySem.W.Frag} {H0 H : Hp} {σ : L2.St} {ρ : RhoW} {F : Nat → List Addr} {v : V} {d0 d d' : D} {os os' : List O}
/-- the last slot's own things go behind those of slot i -/
theorem EnvA.extend (E : EnvA K H0 (σ ++ [some v]) H (ρ ++ [some (.ow (.ls os') d')]) F) {i : Nat} (hi : ρ[i]? = some (some (.ow (.ls os) d0))) (hd : (O.ls (os ++ os')).data = d) :
    ∃ a b vs ws, σ[i]? = some (some (.ref a)) ∧ v = .ref b ∧ H a = some (.lst vs) ∧ H b = some (.lst ws) ∧ vs.length = os.length ∧ ws.length = os'.length ∧ EnvW K H0 σ (upd H a (.lst (vs ++ ws))) (ρ.set i (some (.ow (.ls (os ++ os')) d))) := by
  have hl : σ.length = ρ.length := by have := E.len; simpa using this
  have hi' := (List.getElem?_eq_some_iff.mp hi).1
  obtain ⟨v0, e0, r0⟩ := E.get i _ (by rw [List.getElem?_append_left hi']; exact hi)
  rw [List.getElem?_append_left (by omega)] at e0
  obtain ⟨v1, e1, r1⟩ := E.get ρ.length (.ow (.ls os') d') (by simp)
  have ev : v1 = v := by rw [← hl] at e1; simp at e1; exact e1.symm
  subst ev
  have ro := r0.2
  have rw' := r1.2
  have nd := E.nd i
  have nd2 := E.nd ρ.length
  have mem : ∀ b ∈ F i, b ∈ allOf F (ρ ++ [some (W.ow (.ls os') d')]).length := fun b hb => E.mem hb
  have dis : ∀ b, b ∈ F i → b ∈ F ρ.length → False := fun b h1 h2 => by have := E.dj _ _ b h1 h2; omega
  obtain ⟨Fi, hFi⟩ : ∃ Fi, F i = Fi := ⟨_, rfl⟩
  obtain ⟨Fn, hFn⟩ : ∃ Fn, F ρ.length = Fn := ⟨_, rfl⟩
  rw [hFi] at ro nd mem dis
  rw [hFn] at rw' nd2 dis
  cases ro with
  | @ls a vs _ As g1 g2 g3 g4 =>
  cases rw' with
  | @ls b ws _ Bs k1 k2 k3 k4 =>
  refine ⟨a, b, vs, ws, e0, rfl, g1, k1, g2, k2, ?_⟩
  obtain ⟨na, ndA⟩ := List.nodup_cons.mp nd
  obtain ⟨nb, ndB⟩ := List.nodup_cons.mp nd2
  let G : Nat → List Addr := fun j => if j = i then a :: (As ++ Bs).flatten else if j = ρ.length then [] else F j
  have hG : ∀ c j, c ∈ G j → (j = i ∧ (c ∈ F i ∨ c ∈ F ρ.length)) ∨ (j ≠ i ∧ j ≠ ρ.length ∧ c ∈ F j) := fun c j h => by
    dsimp only [G] at h
    by_cases j1 : j = i
    · rw [if_pos j1, List.flatten_append] at h
      left
      refine ⟨j1, ?_⟩
      rw [hFi, hFn]
      simp only [List.mem_cons, List.mem_append] at h ⊢
      rcases h with h | h | h <;> simp [h]
    · rw [if_neg j1] at h
      by_cases j2 : j = ρ.length
      · rw [if_pos j2] at h; cases h
      · rw [if_neg j2] at h; exact .inr ⟨j1, j2, h⟩
  have hsub : ∀ c, c ∈ allOf G (ρ.set i (some (.ow (.ls (os ++ os')) d))).length → c ∈ allOf F (ρ ++ [some (W.ow (.ls os') d')]).length := fun c h => by
    obtain ⟨j, hj, h⟩ := mem_allOf.mp h
    rcases hG c j h with ⟨_, h | h⟩ | ⟨_, _, h⟩
    · exact E.mem h
    · exact E.mem h
    · exact E.mem h
  have aG : a ∈ allOf G (ρ.set i (some (.ow (.ls (os ++ os')) d))).length := mem_allOf.mpr ⟨i, by simp; omega, by dsimp only [G]; rw [if_pos rfl]; simp⟩
  have aall : a ∈ allOf F (ρ ++ [some (W.ow (.ls os') d')]).length := mem a (by simp)
  have sm : Same (mask H (allOf F (ρ ++ [some (W.ow (.ls os') d')]).length)) (mask (upd H a (.lst (vs ++ ws))) (allOf G (ρ.set i (some (.ow (.ls (os ++ os')) d))).length)) := by
    rw [mask_upd_in aG]
    exact mask_sub hsub
  refine ⟨G, by simp [hl], fun j => ?_, fun j t c h1 h2 => ?_, fun c hc => E.fresh c (hsub c hc), fun c u e => ?_, fun j x hx => ?_, fun j hj => ?_⟩
  · dsimp only [G]
    split
    · rw [List.flatten_append]
      refine List.nodup_cons.mpr ⟨fun z => ?_, List.nodup_append.mpr ⟨ndA, ndB, fun c h1 c' h2 e => ?_⟩⟩
      · rcases List.mem_append.mp z with z | z
        · exact na z
        · exact dis a (by simp) (List.mem_cons_of_mem _ z)
      · subst e
        exact dis c (List.mem_cons_of_mem _ h1) (List.mem_cons_of_mem _ h2)
    · split
      · exact List.nodup_nil
      · exact E.nd j
  · rcases hG c j h1 with ⟨j1, q1⟩ | ⟨j1, j2, q1⟩ <;> rcases hG c t h2 with ⟨t1, q2⟩ | ⟨t1, t2, q2⟩
    · rw [j1, t1]
    · rcases q1 with q1 | q1
      · exact absurd (E.dj _ _ c q2 q1) t1
      · exact absurd (E.dj _ _ c q2 q1) t2
    · rcases q2 with q2 | q2
      · exact absurd (E.dj _ _ c q1 q2) j1
      · exact absurd (E.dj _ _ c q1 q2) j2
    · exact E.dj j t c q1 q2
  · rw [upd_ne (fun z => by rw [z, E.fresh a aall] at e; cases e)]
    exact E.same c u e
  · by_cases j1 : j = i
    · subst j1
      rw [List.getElem?_set_self hi'] at hx
      obtain rfl := Option.some.inj (Option.some.inj hx)
      refine ⟨.ref a, e0, hd, ?_⟩
      dsimp only [G]
      rw [if_pos rfl]
      refine .ls (vs := vs ++ ws) upd_same (by simp [g2, k2]) (by simp [g3, k3]) fun t u o B h1 h2 h3 => ?_
      by_cases ht : t < os.length
      · rw [List.getElem?_append_left (by omega)] at h1 h2 h3
        refine (g4 t u o B h1 h2 h3).keep (fun c hc z hz => ?_) sm
        rw [upd_ne (fun y => na (by rw [← y]; exact List.mem_flatten.mpr ⟨B, List.mem_of_getElem? h3, hc⟩))]; exact hz
      · rw [List.getElem?_append_right (by omega)] at h1 h2 h3
        rw [g2] at h1
        rw [g3] at h3
        refine (k4 (t - os.length) u o B h1 h2 h3).keep (fun c hc z hz => ?_) sm
        rw [upd_ne (fun y => dis a (by simp) (by rw [← y]; exact List.mem_cons_of_mem _ (List.mem_flatten.mpr ⟨B, List.mem_of_getElem? h3, hc⟩)))]; exact hz
    · rw [List.getElem?_set_ne (Ne.symm j1)] at hx
      have hj := (List.getElem?_eq_some_iff.mp hx).1
      obtain ⟨u, e, ru⟩ := E.get j x (by rw [List.getElem?_append_left hj]; exact hx)
      rw [List.getElem?_append_left (by omega)] at e
      refine ⟨u, e, ?_⟩
      dsimp only [G]
      rw [if_neg j1, if_neg (by omega)]
      refine ru.keep (fun c hc z hz => ?_) sm
      rw [upd_ne (fun y => j1 (E.dj j i c hc (by rw [y, hFi]; simp)))]; exact hz
  · by_cases j1 : j = i
    · subst j1
      exact absurd (by rw [List.getElem?_set_self hi']) (hj (.ow (.ls (os ++ os')) d))
    · dsimp only [G]
      rw [if_neg j1]
      split
      · rfl
      · rename_i j2
        refine E.off j fun x e => hj x ?_
        have hj2 := (List.getElem?_eq_some_iff.mp e).1
        simp at hj2
        rw [List.getElem?_append_left (by omega)] at e
        rw [List.getElem?_set_ne (Ne.symm j1)]
        exact e
end
section
variable {X : Cx} {ρ : RhoW} {Φ : Post} {rest : List Stmt} {e : Expr} {p pos q1 q2 : Pos} {os os' : List O} {d0 d d' : D} {Ψ : W → RhoW → Prop}
/-- x.extend(e), x an own list of own things, e new own things -/
theorem Ws.extendO {x : Str} (i : Nat) (h : EvW X ρ e fun w ρ' => w = .ow (.ls os') d' ∧ ρ' = ρ) (hd : (O.ls (os ++ os')).data = d) (k : Ws X (ρ.set i (some (.ow (.ls (os ++ os')) d))) rest Φ) (hz : os.length + os'.length ≤ 100000) (hN : X.N[i]? = some x := by rfl) (hρ : ρ[i]? = some (some (.ow (.ls os) d0)) := by rfl)
    (hpe : ∀ {t}, PE X e t → PE X (.Call (.Attribute (.Name x q1) "extend" q2) [e] [] p) (tBM X.K "list" rExtend (tVar i) (tCons t tNil)) := by
      intro t ht; exact pe_bm PySem.F.plainAttrs_list PySem.F.slot_list_extend PySem.F.type_list_extend mt_extend (pv _) (pa_cons ht pa_nil))
    (hs : swapsWith (.Call (.Attribute (.Name x q1) "extend" q2) [e] [] p) none pos.line X.env = pure false := by rfl) : Ws X ρ (.Expr (.Call (.Attribute (.Name x q1) "extend" q2) [e] [] p) pos :: rest) Φ := ⟨fun H0 σ H D E kk =>
  WSs.cons (ws_of (ps_expr (hpe pe_we) hs) (by
    obtain ⟨F, E1⟩ := id E
    obtain ⟨a, vs, hσ, ha, _, _⟩ := E1.lsAt hρ
    refine ⟨.ref a, hσ, .inl ⟨rfl, vs, SqL.of ha⟩, h.run H0 σ H E _ fun v H' w ρ' q l E' => ?_⟩
    obtain ⟨rfl, rfl⟩ := q
    obtain ⟨F', E2⟩ := E'
    obtain ⟨a', b, vs', ws, hσ', rfl, ha', hb, l1, l2, En⟩ := E2.extend hρ hd
    obtain rfl : a' = a := by rw [hσ] at hσ'; simpa using hσ'.symm
    exact ⟨a', b, vs', ws, rfl, rfl, ha', hb, by rw [l1, l2]; exact Nat.le_trans hz (by decide), k.run H0 σ _ D En (kk.cast (by simp))⟩))⟩
/-- sorted(z), z an own list of own lists of whole numbers that is given up -/
theorem EvW.sortedOwn {z : Str} {rows : List (List Int)} (j : Nat) (hu : X.A.units + 64 < cLine) (hm : X.mg "sorted" = none) (hd : (O.ls ((sortL rows).map oI)).data = d) (k : Ψ (.ow (.ls ((sortL rows).map oI)) d) (ρ.set j none)) (hρ : ρ[j]? = some (some (.ow (.ls (rows.map oI)) d0)) := by rfl)
    (hpz : PE X (.Name z q1) (tVar j) := by exact pv _) (hg : Gl X "sorted" := by rfl) (hs : starEach [.Name z q1] X.env = (false, eval (.Name z q1) X.env) :: starEach [] X.env := by rfl) (hpl : (backTo pos (starEach [] X.env)).any (·.1) = false := by rfl) :
    EvW X ρ (.Call (.Name "sorted" p) [.Name z q1] [] pos) Ψ := ⟨fun H0 σ H E Q q => we_of (pe_callB (cr_sortedD hu) hg hm (by decide +kernel) (pa_cons hpz pa_nil hs) (by decide) (by decide) hs hpl) (by
  obtain ⟨F, E1⟩ := id E
  obtain ⟨a, vs, hσ, ha, hvl, hrep⟩ := E1.lsAt hρ
  rw [List.length_map] at hvl hrep
  let row : Nat → List Int := fun k => rows.getD k []
  have ho : ∀ k, k < rows.length → atO (rows.map oI) k = oI (row k) := fun k hk => by
    show (rows.map oI).getD k _ = oI (rows.getD k [])
    rw [List.getD_eq_getElem?_getD, List.getElem?_map, List.getElem?_eq_getElem hk, List.getD_eq_getElem?_getD, List.getElem?_eq_getElem hk]; rfl
  have hv : (List.range rows.length).map (atV vs) = vs := by
    apply List.ext_getElem?
    intro k
    rw [List.getElem?_map]
    by_cases hk : k < rows.length
    · rw [List.getElem?_range hk, atV_of (by omega)]; rfl
    · rw [List.getElem?_eq_none (by simpa using hk), List.getElem?_eq_none (by omega)]; rfl
  have hr : (List.range rows.length).map row = rows := by
    apply List.ext_getElem?
    intro k
    rw [List.getElem?_map]
    by_cases hk : k < rows.length
    · rw [List.getElem?_range hk, List.getElem?_eq_getElem hk]
      show some (rows.getD k []) = _
      rw [List.getD_eq_getElem?_getD, List.getElem?_eq_getElem hk]; rfl
    · rw [List.getElem?_eq_none (by simpa using hk), List.getElem?_eq_none (by omega)]; rfl
  refine ⟨.ref a, hσ, a, Nat, List.range rows.length, atV vs, fun k => .list ((row k).map .int), rfl, by rw [hv]; exact SqL.of ha, fun k hk => ?_, AllAlike.of fun x y => by rw [alike]; exact alike_ints _ _, Sortable.others fun x => ⟨fun z => (by cases z), fun xs z => (by cases z)⟩, fun x _ => by rw [PyData.depth, depth_ints]; decide, fun pp hp => ?_⟩
  · have hk := List.mem_range.mp hk
    have rr := hrep k hk
    rw [ho k hk, oI_data] at rr
    have := rr.dp (plain_dI _)
    rw [dI_py] at this
    exact this
  · generalize hM : (List.range rows.length).mergeSort (dataLe false fun k => PyData.list ((row k).map .int)) = sel
    have pm : sel.Perm (List.range rows.length) := by rw [← hM]; exact List.mergeSort_perm _ _
    have es : sel.map row = sortL rows := by
      rw [← hM, dataLe_rows]
      unfold sortL
      rw [List.map_mergeSort (r := fun p q : Nat => decide (row p ≤ row q)) (s := fun a b => decide (a ≤ b)) (f := row) (fun _ _ _ _ => rfl), hr]
    have eo : sel.map (atO (rows.map oI)) = (sortL rows).map oI := by
      rw [← es, List.map_map]
      exact List.map_congr_left fun k hk => ho k (List.mem_range.mp (pm.subset hk))
    have En := E1.relist (sel := sel) (d := d) hρ hσ ha (pm.nodup_iff.mpr List.nodup_range) (fun k hk => by rw [List.length_map]; exact List.mem_range.mp (pm.subset hk)) (Same.new hp) hp upd_same (by rw [eo]; exact hd)
    rw [eo] at En
    exact q _ _ _ _ k (by simp) En)⟩
end
end VL
set_option Elab.async false
set_option linter.all false
set_option maxRecDepth 100000
set_option maxHeartbeats 2000000
/-! value layer, part 28: a comprehension whose call raises -/
namespace L2
open PySem PySem.Spec PyProof.Rows
/-- what a block of names that is let go leaves of a flight -/
theorem held_but {B h h2 : Heap} {l : List Env} {a L C : Addr} {Z : Obj → Prop} {m m2 : Str → Option Value} (hB : B.get? C = none) (hn : h.Ns C m) (hn2 : h2.Ns C m2) (sb : Heap.SameBut C h h2) (x : HandSPX.HeldZ B l a Z L h) : HandSPX.HeldZ B l a Z L h2 := by
  obtain ⟨b1, b0, f1, oe, vs, T, oT, ts, e1, e2, e3, e4, e5, e6, e7, e8, e9⟩ := x
  obtain ⟨oC, _, _, hC, hdC, _⟩ := hn
  have ne : ∀ b o ws, h.get? b = some o → o.data = .fields ws → b ≠ C := fun b o ws q hd z => by
    subst z
    rw [hC] at q
    obtain rfl := Option.some.inj q
    rw [hdC] at hd
    cases hd
  refine ⟨fun b o q => ?_, b0, Heap.FunFrames.sameBut sb hn2 f1, oe, vs, T, oT, ts, ?_, e2, e3, e4, e5, e6, ?_, e8, e9⟩
  · exact (sb.2 b fun z => by rw [z, hB] at q; cases q).trans (b1 b o q)
  · exact (sb.2 a (ne a oe vs e1 e3)).trans e1
  · exact (sb.2 T (ne T oT ts e7 e8)).trans e7
/-- the context of a comprehension's block whose element may raise -/
abbrev Cx.blkX (X : Cx) (s : Shared) (H : Hp) (scope : Scope) (cenv : Env) (fp : List Addr) (xe : Value → Shared → Prop) : Cx := { X.blk s H scope cenv fp with xe := xe }
section
variable {X : Cx} {pins : List (Addr × Obj)} {σ : St} {W : WX} {E : XK}
/-- an exception of the element's call goes on in the def's own air -/
theorem blk_fails (hs : X.stack = X.env :: X.outer) (hf : X.env.frame = some X.env.locals) (tk : Takes X W) (hW : ∀ cls d H', E cls d H' → W cls d σ H') {H9 : Hp} {s9 s' : Shared} {u : Value} {C : Addr} {cenv : Env} {m : Str → Option Value}
    (J : Inv X pins σ H9 s9) (fC : FpOk X pins H9 C) (hcl : cenv.locals = C) (hcf : cenv.frame = X.env.frame) (hn : s9.heap.Ns C m) (c : CX X.prog X.w X.stack H9 s9 E u s') :
    notedBy (model X.prog X.w) X.A cenv (CompFails (model X.prog X.w) X.A X.xe cenv) u s' := by
  obtain ⟨a, B, H', cls, d, rfl, fl, hok, ub, na, os, ag, hE⟩ := c
  obtain ⟨c1, c2, c3, c4, c5, c6⟩ := fC
  have hfr : X.A.frames = some (X.env :: X.outer) := by rw [J.ok.frames, hs]
  have Cnf : C ∉ frs X.stack := fun z => (List.mem_cons.mp (J.stkSub C z)).elim c2 c3
  -- the ground without the block's names
  obtain ⟨B', b1, b2⟩ := restrict B fun b => !decide (b = C)
  have bC : B'.get? C = none := b2 C (by simp)
  have bne : ∀ b, b ≠ C → B'.get? b = B.get? b := fun b hb => b1 b (by simp [hb])
  have bsub : ∀ b o, B'.get? b = some o → B.get? b = some o ∧ b ≠ C := fun b o q => by
    by_cases hb : b = C
    · rw [hb, bC] at q; cases q
    · exact ⟨by rw [← bne b hb]; exact q, hb⟩
  have bnone : ∀ b, B.get? b = none → B'.get? b = none := fun b q => by
    by_cases hb : b = C
    · rw [hb]; exact bC
    · rw [bne b hb]; exact q
  have fl' : HandSPX.FlyingZ B' X.stack a (Zc cls d) s'.heap := by
    obtain ⟨f1, f2, f3, oe, vs, T, oT, ts, e1, e2, e3, e4, e5, e6, e7, e8, e9⟩ := fl
    exact ⟨fun b o q => f1 b o (bsub b o q).1, bnone a f2, funFrames_none f3 (fun L hL => bnone L (f3.mem hL).1), oe, vs, T, oT, ts, e1, e2, e3, e4, bnone T e5, e6, e7, e8, e9⟩
  obtain ⟨G, g1, g2⟩ := restrict s'.heap fun b => (B'.get? b).isSome || decide (b ∈ frs X.stack)
  have stB : B.StaysIn s'.heap := fl.1
  have gB : ∀ b o, B'.get? b = some o → G.get? b = some o := fun b o q => by
    rw [g1 b (by simp [q])]
    exact stB b o (bsub b o q).1
  have gF : ∀ b, b ∈ frs X.stack → G.get? b = s'.heap.get? b := fun b hb => g1 b (by simp [hb])
  have og : ∀ b o, G.get? b = some o → s'.heap.get? b = some o ∧ ((B'.get? b).isSome = true ∨ b ∈ frs X.stack) := fun b o q => by
    cases z : ((B'.get? b).isSome || decide (b ∈ frs X.stack)) with
    | false => rw [g2 b z] at q; cases q
    | true => rw [g1 b z] at q; exact ⟨q, by simpa [Bool.or_eq_true] using z⟩
  have gne : ∀ b o, G.get? b = some o → b ≠ C := fun b o q z => by
    rcases (og b o q).2 with h | h
    · rw [z, bC] at h; cases h
    · exact Cnf (z ▸ h)
  have hC' : H' C = none := by
    obtain ⟨oC, _, _, hoC, _⟩ := id hn
    exact ub.free C oC hoC c1
  have hokB : HOk X.prog X.w H' B' := fun b o q => (hok b o q).stay (fun c v hc r => by
      rw [bne c]
      · exact r
      · intro z
        subst z
        rcases hc with hc | hc
        · rw [← hc, hC'] at q; cases q
        · rw [hC'] at hc; cases hc) (fun _ r => r) fun _ _ r => r
  have I2 : Inv X pins σ H' { s9 with heap := G, gens := s'.gens, drawn := s'.drawn, toks := s'.toks } := by
    refine J.call (ch := [C]) ⟨fun b o q n hb hc => gB b o ?_, fun b o q n hb hc => ?_, fun b o q n _ => ub.free b o q n, fun b o q hc => ?_, ub.tups, ub.frzs, ub.tbls⟩ (hokB.kept gB) ag fun b hb => ?_
    · rw [bne b (by simpa using hc)]
      exact ub.keep b o q n hb
    · obtain ⟨sl, z⟩ := ub.slot b o q hb
      exact ⟨sl, by rw [gF b hb]; exact z⟩
    · by_cases hb : b ∈ frs X.stack
      · obtain ⟨sl, z⟩ := ub.slot b o q hb
        exact ⟨_, by rw [gF b hb]; exact z⟩
      · obtain ⟨o', z⟩ := ub.there b o q hb
        exact ⟨o', gB b o' (by rw [bne b (by simpa using hc)]; exact z)⟩
    · obtain rfl : b = C := by simpa using hb
      exact ⟨c4, c2, c5, c6⟩
  have nb : ∀ b o, G.get? b = some o → b ∉ frs X.stack → B'.get? b = some o := fun b o q hb => by
    obtain ⟨q', h⟩ := og b o q
    rcases h with h | h
    · obtain ⟨o', z⟩ := Option.isSome_iff_exists.mp h
      have y := stB b o' (bsub b o' z).1
      rw [q'] at y
      obtain rfl := Option.some.inj y
      exact z
    · exact absurd h hb
  have hnS : s'.heap.Ns C m := by
    obtain ⟨oC, es, ep, hoC, r⟩ := hn
    exact ⟨oC, es, ep, stB C oC (ub.keep C oC hoC c1 Cnf), r⟩
  show wpAny _ _ (noteFrame (.ref a) cenv) _ _ s'
  rw [noteFrame_env (.ref a) hcf]
  refine HandSPX.looks_onZ Zc.steady hfr hf (hs ▸ fl') fun h1 hh up => ?_
  have hn1 : h1.Ns C m := hnS.upToSlots up
  refine ⟨m, by rw [hcl]; exact hn1, fun h2 m2 hn2 sb => ?_⟩
  rw [hcl] at hn2 sb
  have hh2 := held_but bC hn1 hn2 sb hh
  obtain ⟨_, _, _, oe, vs, T, oT, ts, e1, e2, e3, e4, _⟩ := id hh2
  unfold PySem.passOn
  refine wpAny_bind (wpAny_field e1 e3 e4 ?_)
  rw [if_neg (by simp), hcf, hf]
  refine wpAny_bind (HandSPX.setFlight_onZ hh2 fun h3 hh3 up3 => wpAny_throw (tk _ _ ⟨a, B', _, pins, σ, H', cls, d, rfl, I2, nb, fun b o q hnf => ?_, .inr (.inr (hs ▸ hh3)), na, os, ag, hW _ _ _ hE⟩))
  obtain ⟨sl1, z1⟩ := up b o (og b o q).1 hnf
  obtain ⟨sl3, z3⟩ := up3 b _ ((sb.2 b (gne b o q)).trans z1) hnf
  exact ⟨sl3, z3⟩
end
end L2
namespace L2
open PySem PySem.Spec PyProof.Rows
theorem lc_coreX {X : Cx} {W : WX} {E : XK} {pins : List (Addr × Obj)} {s : Shared} {σ : St} {H : Hp} {Q : VK} {elt tg iter : Expr} {ifs : List Expr} {scope : Scope} {own : List (Str × Nat)} {pos pos' : Pos} {wi : TI} {g : TG} {tt : TT} {te : TE} {use : Value → Sem Unit} {Qf : Value → Shared → Prop}
    (hc : X.calm = true) (hst : X.stack = X.env :: X.outer) (hf : X.env.frame = some X.env.locals) (hN : X.N.Nodup) (I : Inv X pins σ H s) (tk : Takes X W) (hW : ∀ cls d H', E cls d H' → W cls d σ H') (hi : PI X tg iter wi) (ok : BlkOk X.N X.env.scope scope own)
    (hg : ∀ (s : Shared) (H : Hp) (C : Addr) (cl : List (Str × Addr)) (fp : List Addr) (xe : Value → Shared → Prop), PG (X.blkX s H scope (compEnvC scope cl C X.env) fp xe) tg g) (ht : ∀ (s : Shared) (H : Hp) (C : Addr) (cl : List (Str × Addr)) (fp : List Addr) (xe : Value → Shared → Prop), PTs (X.blkX s H scope (compEnvC scope cl C X.env) fp xe) ifs tt)
    (he : ∀ (s : Shared) (H : Hp) (C : Addr) (cl : List (Str × Addr)) (fp : List Addr) (xe : Value → Shared → Prop), (∀ σ', PassesAt (L2.CX X.prog X.w) (X.blkX s H scope (compEnvC scope cl C X.env) fp xe) σ' E) → PE (X.blkX s H scope (compEnvC scope cl C X.env) fp xe) elt te) (hs : ∀ x, foldedSetIterable iter X.env x = pure x)
    (h : tLc wi g tt te (own.map (·.2)) σ H Q)
    (hRR : ∀ (D C : Addr) (s' : Shared) (m : Str → Option Value) (H' : Hp) (ce : Env), ce.locals = C → Inv X pins σ H' s' → Q (.ref D) H' → s'.heap.Ns C m → FpOk X pins H' C → compEnds (model X.prog X.w) X.A X.xe (some use) Qf (.ref D) ce (.ok .next) s') :
    wpAny (model X.prog X.w) X.A (comprehension (.ListComp elt [⟨tg, iter, ifs, 0⟩] scope pos) scope X.env pos' (newList []) false (eval iter X.env) (some use)) Qf X.xe s := by
  have frees : ∀ y ∈ scope.names, y.2 = .free → ∃ c, X.env.cells.lookup y.1 = some c := fun y hy z =>
    (ok.free y hy z).elim (fun k => I.ok.has _ (.inl k)) (fun k => I.ok.has _ (.inr k))
  refine comprehension_at (use := some use) rfl hs (closure_ok frees) ok.kind (fun y hy z => by rw [ok.uniq y hy, z]) (thn (hi.run pins s σ H _ I h) fun xv u1 hx => thn hx fun itv u2 h2 => ?_)
  obtain ⟨it, fp, tn, J, K2, z, I2, T, st2, f2, q⟩ := h2
  subst z
  refine wpAny_newObj_type (newEnv_comp ?_) (by show 0 ≤ sizeLine; decide)
  obtain ⟨D, hD⟩ : ∃ D, u2.heap.objs.size = D := ⟨_, rfl⟩
  rw [hD]
  have Dn : K2 D = none := I2.hok.fresh (Nat.le_of_eq hD)
  obtain ⟨Wv, ⟨m0, w0⟩, turn⟩ := q D Dn
  generalize hu3 : ({ u2 with heap := u2.heap.push { cls := .type "list", data := .seq ([] : List Value).toArray } } : Shared) = u3
  have e3 : u3.heap = u2.heap.push { cls := .type "list", data := .seq ([] : List Value).toArray } := by rw [← hu3]
  have kp3 : ∀ b o, u2.heap.get? b = some o → u3.heap.get? b = some o := fun b o y => by rw [e3]; exact Heap.get?_push_of_some _ y
  have I3 : Inv X pins σ (upd K2 D (.lst [])) u3 := by
    have at3 : u3.heap.get? D = some { cls := .type "list", data := .seq ([] : List Value).toArray } := by rw [e3, ← hD]; exact Heap.get?_push_size _ rfl
    have := I2.laid (t' := u2.toks) (h' := u3.heap) kp3 (Nat.le_of_eq hD) (o := .lst []) ⟨Nat.zero_le _, [], 0, .nil, at3⟩
    rw [← hu3] at this ⊢
    exact this
  have f3 : ∀ b ∈ fp, FpOk X pins (upd K2 D (.lst [])) b ∧ b < u3.heap.objs.size := fun b hb => by
    obtain ⟨ob, y, _⟩ := T.obj _ _ st2 b hb
    have lt : b < u2.heap.objs.size := Heap.lt_size y
    refine ⟨⟨?_, (f2 b hb).2⟩, by rw [e3, Heap.size_push]; exact Nat.lt_succ_of_lt lt⟩
    rw [upd_ne (by rw [← hD]; exact Nat.ne_of_lt lt)]
    exact (f2 b hb).1
  have I4 := block_start I3 ok hN f3
  have hgc := hg u3 (upd K2 D (.lst [])) u3.heap.objs.size (cellsFrom (u3.heap.objs.size + 1) scope.names (cloFrom X.env.cells scope.names [])) fp
  have htc := ht u3 (upd K2 D (.lst [])) u3.heap.objs.size (cellsFrom (u3.heap.objs.size + 1) scope.names (cloFrom X.env.cells scope.names [])) fp
  have hec := he u3 (upd K2 D (.lst [])) u3.heap.objs.size (cellsFrom (u3.heap.objs.size + 1) scope.names (cloFrom X.env.cells scope.names [])) fp
  show codeAny _ _ (.compStart (.ListComp elt [⟨tg, iter, ifs, 0⟩] scope pos) 0 (.ref it) (.ref D) (compEnvC scope (cellsFrom (u3.heap.objs.size + 1) scope.names (cloFrom X.env.cells scope.names [])) u3.heap.objs.size X.env)) (compEnds (model X.prog X.w) X.A X.xe (some use) Qf (.ref D) (compEnvC scope (cellsFrom (u3.heap.objs.size + 1) scope.names (cloFrom X.env.cells scope.names [])) u3.heap.objs.size X.env)) { u3 with heap := pushCells (u3.heap.push { cls := .type "dict", data := .dict #[] }) scope.names }
  have nfp : ∀ b ∈ fp, (upd K2 D (.lst [])) b = none := fun b hb => (f3 b hb).1.1
  generalize hce : compEnvC scope (cellsFrom (u3.heap.objs.size + 1) scope.names (cloFrom X.env.cells scope.names [])) u3.heap.objs.size X.env = ce at I4 hgc htc hec ⊢
  have cL : ce.locals = u3.heap.objs.size := by subst hce; rfl
  have cF : ce.frame = X.env.frame := by subst hce; rfl
  generalize hK3 : upd K2 D (.lst []) = K3 at I3 I4 hgc htc hec w0 nfp f3
  generalize hu4 : ({ u3 with heap := pushCells (u3.heap.push { cls := .type "dict", data := .dict #[] }) scope.names } : Shared) = u4 at I4 ⊢
  have st4 : tn 0 u4.heap := T.keep _ _ _ (T.keep _ _ _ st2 fun b _ o y => kp3 b o y) fun b _ o y => by rw [← hu4]; exact pushCells_keeps _ _ _ _ (Heap.get?_push_of_some _ y)
  -- the block's air
  obtain ⟨xB, hxB⟩ : ∃ xB : Value → Shared → Prop, xB = notedBy (model X.prog X.w) X.A ce fun e s' => CompFails (model X.prog X.w) X.A X.xe ce e s' := ⟨_, rfl⟩
  have home : ∀ {p' : List (Addr × Obj)} {τ : St} {K9 : Hp} {u9 : Shared}, Inv (X.blkX u3 K3 scope ce fp xB) p' τ K9 u9 → Inv X pins σ K9 u9 ∧ FpOk X pins K9 u3.heap.objs.size ∧ ∃ m, u9.heap.Ns u3.heap.objs.size m := fun {p' τ K9 u9} I9 => by
    have nC : K9 u3.heap.objs.size = none := by rw [← cL]; exact I9.free
    refine ⟨I3.call' (ch := fp) I9.os I9.base I9.hok I9.bare fun b hb => ?_, I3.fpOk (Nat.le_refl _) nC, ?_⟩
    · obtain ⟨_, z2, _, z4, z5, z6⟩ := (f3 b hb).1
      exact ⟨z4, z2, z5, z6⟩
    · obtain ⟨m, hm, _⟩ := I9.loc
      exact ⟨m, by rw [← cL]; exact hm⟩
  have pass : ∀ τ, PassesAt (L2.CX X.prog X.w) (X.blkX u3 K3 scope ce fp xB) τ E := fun τ p' K9 u9 e s' I9 c => by
    obtain ⟨J9, fC, m, hm⟩ := home I9
    show xB e s'
    rw [hxB]
    exact blk_fails hst hf tk hW J9 fC cL cF hm c
  have I4' : Inv (X.blkX u3 K3 scope ce fp xB) [] (wipe σ (own.map (·.2))) K3 u4 := ⟨⟨I4.ok.mod, I4.ok.kind, I4.ok.glob, I4.ok.blt, I4.ok.above, I4.ok.inj, I4.ok.has, I4.ok.cab, I4.ok.hd, I4.ok.frames, I4.ok.stk, I4.ok.exf, I4.ok.bs, I4.ok.bsz, I4.ok.noex, I4.ok.exfs, I4.ok.funs, I4.ok.frf⟩, I4.os, I4.bare, I4.base, I4.loc, I4.cell, I4.free, I4.freeC, I4.pin, I4.hok, I4.len⟩
  have stat : ∀ {τ : St} {K9 : Hp} {u9 : Shared}, Inv (X.blkX u3 K3 scope ce fp xB) [] τ K9 u9 → (∀ b ∈ fp, K9 b = none) → ∀ b ∈ fp, FpOk (X.blkX u3 K3 scope ce fp xB) [] K9 b := fun {τ K9 u9} I9 hn b hb =>
    ⟨hn b hb, (I9.ok.exf b hb).1, I9.ok.exfs b hb, .inl hb, fun x c y => (I9.ok.exf b hb).2 x c y, fun p hp => by simp at hp⟩
  have pg := hgc xB
  have pt := htc xB
  have pe := hec xB pass
  have loop : codeAny (model X.prog X.w) X.A (.compLoop (.ListComp elt [⟨tg, iter, ifs, 0⟩] scope pos) 0 (.ref it) (.ref D) ce) (compEnds (model X.prog X.w) X.A X.xe (some use) Qf (.ref D) ce) u4 := by
    refine compLoop_any (fun n s' => ∃ i K', Inv (X.blkX u3 K3 scope ce fp xB) [] (wipe σ (own.map (·.2))) K' s' ∧ tn i s'.heap ∧ (∀ b ∈ fp, K' b = none) ∧ Wv i n K') ?_ m0 ⟨0, K3, I4', st4, nfp, w0⟩
    rintro n u5 ⟨i, K5, I5, st5, n5, w5⟩
    have air : notedBy (model X.prog X.w) X.A ce (fun e s' => compEnds (model X.prog X.w) X.A X.xe (some use) Qf (.ref D) ce (.error e) s') = xB := by rw [hxB]; rfl
    rw [air]
    rcases turn i n K5 w5 with ⟨stop, qq⟩ | ⟨go, Nx, hNx, step⟩
    · refine thnF (T.done (X.blkX u3 K3 scope ce fp xB) rfl rfl rfl hc i [] u5 _ K5 (fun _ _ => False) I5 (stat I5 n5) st5 stop) fun r u6 ⟨hr, I6⟩ => ?_
      subst hr
      obtain ⟨J6, fC, m, hm⟩ := home I6
      exact hRR D u3.heap.objs.size u6 m K5 ce cL J6 qq hm fC
    · refine thnF (T.item (X.blkX u3 K3 scope ce fp xB) rfl rfl rfl hc i [] u5 _ K5 (fun _ _ => False) I5 (stat I5 n5) st5 go) fun r u6 ⟨u, hr, h6⟩ => ?_
      subst hr
      refine thnF h6 fun _ u7 ⟨x, K7, I7, r7, y7, st7, n7⟩ => ?_
      have I7p := I7.pinned (stat I7 n7) (T.obj _ _ st7)
      refine thn (pg.run _ u7 _ K7 x u _ I7p r7 (step x K7 y7)) fun _ u8 ⟨τ8, K8, I8, w8, q8⟩ => ?_
      refine thn (pt.run _ u8 τ8 K8 _ I8 q8) fun b u9 ⟨K9, I9, q9⟩ => ?_
      have fin : ∀ {s' : Shared} {K' : Hp}, Inv (X.blkX u3 K3 scope ce fp xB) ([] ++ pinsAt fp u7.heap) τ8 K' s' → Nx K' → ∃ m, m < n ∧ ∃ i K', Inv (X.blkX u3 K3 scope ce fp xB) [] (wipe σ (own.map (·.2))) K' s' ∧ tn i s'.heap ∧ (∀ b ∈ fp, K' b = none) ∧ Wv i m K' := fun {s' K'} I' nx => by
        obtain ⟨m', hm, w'⟩ := hNx K' nx
        have stand : ∀ b ∈ fp, ∀ o, u7.heap.get? b = some o → s'.heap.get? b = some o ∧ K' b = none := fun b hb o y => by
          obtain ⟨z1, z2, _⟩ := I'.pin (b, o) (List.mem_append_right _ (List.mem_append_right _ (mem_pinsAt hb y)))
          exact ⟨z1, z2⟩
        refine ⟨m', hm, i + 1, K', (I'.unpinned (pins := [])).weak (by rw [← w8, wipe_length]) (fun j v y => ?_), T.keep _ _ _ st7 fun b hb o y => (stand b hb o y).1, fun b hb => ?_, w'⟩
        · rw [← w8] at y
          exact (wipe_some y).1
        · obtain ⟨o, y, _⟩ := T.obj _ _ st7 b hb
          exact (stand b hb o y).2
      cases b with
      | false =>
        simp only [Bool.false_eq_true, if_false] at q9 ⊢
        exact fin I9 q9
      | true =>
        simp only [if_true] at q9 ⊢
        refine thn (pe.run _ u9 τ8 K9 _ I9 q9) fun z u10 ⟨yv, K10, I10, r10, acc, hD10, hz10, nx⟩ => ?_
        exact app_ok (X := X.blkX u3 K3 scope ce fp xB) I10 hD10 hz10 r10 fun u11 I11 => fin I11 nx
  exact codeAny_compStart_list loop (T.self X.A 0 _ _ _ st4 loop)
end L2
namespace L2
open PySem PySem.Spec PyProof.Rows
/-- y = [..] whose element raises at some turn -/
theorem ps_setLcX {X : Cx} {W : WX} {E : XK} {pins : List (Addr × Obj)} {s : Shared} {σ : St} {H : Hp} {D : Ends} {y : Str} {py spos pos : Pos} {elt tg iter : Expr} {ifs : List Expr} {scope : Scope} {own : List (Str × Nat)} {wi : TI} {g : TG} {tt : TT} {te : TE}
    (hc : X.calm = true) (hst : X.stack = X.env :: X.outer) (hf : X.env.frame = some X.env.locals) (hN : X.N.Nodup) (hsw : swapsWith (.ListComp elt [⟨tg, iter, ifs, 0⟩] scope pos) (some (.Name y py)) spos.line X.env = pure true) (I : Inv X pins σ H s) (tk : Takes X W) (hW : ∀ cls d H', E cls d H' → W cls d σ H') (hi : PI X tg iter wi) (ok : BlkOk X.N X.env.scope scope own)
    (hg : ∀ (s : Shared) (H : Hp) (C : Addr) (cl : List (Str × Addr)) (fp : List Addr) (xe : Value → Shared → Prop), PG (X.blkX s H scope (compEnvC scope cl C X.env) fp xe) tg g) (ht : ∀ (s : Shared) (H : Hp) (C : Addr) (cl : List (Str × Addr)) (fp : List Addr) (xe : Value → Shared → Prop), PTs (X.blkX s H scope (compEnvC scope cl C X.env) fp xe) ifs tt)
    (he : ∀ (s : Shared) (H : Hp) (C : Addr) (cl : List (Str × Addr)) (fp : List Addr) (xe : Value → Shared → Prop), (∀ σ', PassesAt (L2.CX X.prog X.w) (X.blkX s H scope (compEnvC scope cl C X.env) fp xe) σ' E) → PE (X.blkX s H scope (compEnvC scope cl C X.env) fp xe) elt te) (hs : ∀ x, foldedSetIterable iter X.env x = pure x)
    (h : tLc wi g tt te (own.map (·.2)) σ H fun _ _ => False) : wpAny (model X.prog X.w) X.A (exec (.Assign [.Name y py] (.ListComp elt [⟨tg, iter, ifs, 0⟩] scope pos) spos) X.env) (SP X pins D) X.xe s := by
  rw [exec_Assign_Name_used _ _ _ _ hsw]
  refine wpAny_bind (wpAny_standAt (wpAny_bind ?_))
  show wpAny (model X.prog X.w) X.A (do let _ ← comprehension (.ListComp elt [⟨tg, iter, ifs, 0⟩] scope pos) scope X.env (firstIterPos [⟨tg, iter, ifs, 0⟩] pos) (newList []) false (eval iter X.env) (some (assign (.Name y py) X.env))) _ _ _
  exact wpAny_bind (thn (lc_coreX (Qf := fun _ _ => False) hc hst hf hN I tk hW hi ok hg ht he hs h fun _ _ _ _ _ _ _ _ q _ _ => q.elim) fun _ _ q => q.elim)
end L2
namespace VL
open PySem L2
/-- an expression that raises C, by what its context passes on -/
structure EvRE (X : Cx) (ρ : Rho) (e : Expr) (C : Addr) (E : XK) : Prop where
  run : ∀ (σ : L2.St) (H : Hp), EnvS X.K σ H ρ → (∀ H', Same H H' → E (.ref C) none H') → ∀ Q : VK, WE X e σ H Q
section
variable {X : Cx} {ρ : Rho} {C : Addr} {E : XK} {x : Str} {k : Nat} {e : Expr} {es : List Expr} {p pos : Pos} {ds : List D}
theorem EvRE.call (F : VX X.prog X.w X.K X.mg X.base k x ds C) (hr : Room k X.A) (hp : ∀ σ, PassesAt (L2.CX X.prog X.w) X σ E) (ha : EvA X ρ (e :: es) ds) (hg : Gl X x := by rfl) (hdb : (x == ("__debug__" : Str)) = false := by decide)
    (he : starEach (e :: es) X.env = (false, eval e X.env) :: starEach es X.env := by rfl) (hpl : (backTo pos (starEach es X.env)).any (·.1) = false := by rfl) : EvRE X ρ (.Call (.Name x p) (e :: es) [] pos) C E := by
  obtain ⟨f, fd, ps, h1, h2, h3, h4⟩ := F.ex
  exact ⟨fun σ H en hx Q => we_of (pe_callS (E := fun _ => E) h4 hr hg h1 h2 h3 hp pa_wa hdb he hpl) (ha.run σ H en _ fun vs H1 s1 r1 => ⟨r1, fun H' s => hx H' (s1.trans s)⟩)⟩
end
section
variable {X : Cx} {ρ : RhoW} {Φ : Post} {rest : List Stmt}
def blkGX (X : Cx) (scope : Scope) (tg : Expr) : TG := fun v σ' H' Q' => ∀ (s : Shared) (H0 : Hp) (C : Addr) (cl : List (Str × Addr)) (fp : List Addr) (xe : Value → Shared → Prop), WG (X.blkX s H0 scope (compEnvC scope cl C X.env) fp xe) tg v σ' H' Q'
def blkEX (X : Cx) (scope : Scope) (elt : Expr) (E : XK) : TE := fun σ' H' Q' => ∀ (s : Shared) (H0 : Hp) (C : Addr) (cl : List (Str × Addr)) (fp : List Addr) (xe : Value → Shared → Prop), (∀ τ, PassesAt (L2.CX X.prog X.w) (X.blkX s H0 scope (compEnvC scope cl C X.env) fp xe) τ E) → WE (X.blkX s H0 scope (compEnvC scope cl C X.env) fp xe) elt σ' H' Q'
/-- y = [elt for ..], the element raises at the k-th turn -/
theorem Ws.asgCX {α : Type} {y : Str} {py spos pos : Pos} {elt tg iter : Expr} {scope : Scope} {own : List (Str × Nat)} {C : Addr} (L : List α) (h : α → D) (g : α → O) (is : List Nat) (bs : α → List D) (k : Nat) (hk : k < L.length)
    (hc : X.calm = true) (hst : X.stack = X.env :: X.outer) (hf : X.env.frame = some X.env.locals) (hN : X.N.Nodup) (tk : Takes X Φ.xw) (hx : Φ.xs (.ref C)) (hi : EvI X (hide ρ) tg iter (L.map h)) (ok : BlkOk X.N X.env.scope scope own) (his : ∀ i ∈ is, i ∈ own.map (·.2))
    (hg : ∀ x ∈ L, ∀ (s : Shared) (H : Hp) (C : Addr) (cl : List (Str × Addr)) (fp : List Addr) (xe : Value → Shared → Prop), EvG (X.blkX s H scope (compEnvC scope cl C X.env) fp xe) tg (h x) is (bs x))
    (he : ∀ (i : Nat) x, i < k → L[i]? = some x → ∀ (s : Shared) (H : Hp) (C : Addr) (cl : List (Str × Addr)) (fp : List Addr) (xe : Value → Shared → Prop), Ev (X.blkX s H scope (compEnvC scope cl C X.env) fp xe) (setD (wipeD (hide ρ) (own.map (·.2))) is (bs x)) elt (g x).data)
    (hr : ∀ x, L[k]? = some x → ∀ (s : Shared) (H : Hp) (C' : Addr) (cl : List (Str × Addr)) (fp : List Addr) (xe : Value → Shared → Prop) (E : XK), (∀ σ', PassesAt (L2.CX X.prog X.w) (X.blkX s H scope (compEnvC scope cl C' X.env) fp xe) σ' E) → EvRE (X.blkX s H scope (compEnvC scope cl C' X.env) fp xe) (setD (wipeD (hide ρ) (own.map (·.2))) is (bs x)) elt C E)
    (hl : L.length < sizeLine) (hsw : swapsWith (.ListComp elt [⟨tg, iter, [], 0⟩] scope pos) (some (.Name y py)) spos.line X.env = pure true := by exact sw_true rfl rfl rfl (by decide +kernel))
    (hs : ∀ x, foldedSetIterable iter X.env x = pure x := by intro _; rfl) : Ws X ρ (.Assign [.Name y py] (.ListComp elt [⟨tg, iter, [], 0⟩] scope pos) spos :: rest) Φ := ⟨fun H0 σ H D E0 kk => by
  obtain ⟨F, E1⟩ := E0
  refine WSs.cons (WS.frame E1.cells (N := fun _ _ => False) ?_ fun _ _ n => n.elim)
  have H0M : Same H0 (mask H (allOf F ρ.length)) := mask_same_of E1.same fun a ha => E1.fresh a ha
  intro pins s I
  refine ps_setLcX (W := Φ.xw) (E := fun c d H' => Φ.xw c d σ H') (g := blkGX X scope tg) (tt := tYes) (te := blkEX X scope elt fun c d H' => Φ.xw c d σ H')
    hc hst hf hN hsw I tk (fun _ _ _ z => z) pi_wi ok (fun s H0 C cl fp xe => ⟨fun pins s' σ' H' v u Q' I r w => w s H0 C cl fp xe pins s' u I r⟩) (fun s H0 C cl fp xe => pts_nil) (fun s H0 C cl fp xe hp => ⟨fun pins s' σ' H' Q' I w => w s H0 C cl fp xe hp pins s' I⟩) hs ?_
  refine hi.run σ (mask H (allOf F ρ.length)) E1.envH _ fun J H1 s1 src => ?_
  intro Dl hD
  obtain ⟨G, Y, wk, hG, hY⟩ := src.go
  rw [List.length_map] at wk hY
  refine lc_it (g := blkGX X scope tg) (tt := tYes) (te := blkEX X scope elt fun c d H' => Φ.xw c d σ H') (vs := own.map (·.2)) (σ := σ) (H1 := H1) (D := Dl) (Qd := fun _ => False) wk (fun i H' => i ≤ k ∧ Same H1 H' ∧ ∃ acc : List V, H' Dl = some (.lst acc) ∧ acc.length ≤ i) ⟨Nat.zero_le _, Same.new hD, [], upd_same, Nat.le_refl _⟩ (fun i H' _ ⟨_, s, _⟩ => hG H' s) (fun i x H2 H3 hlt ⟨hik, s2, acc, hacc, hal⟩ yl => ?_) (fun H' ⟨hz, _⟩ => by omega)
  have hlt' : i < L.length := hlt
  obtain ⟨s3, d, hd, rd⟩ := hY i H2 x H3 hlt s2 yl
  rw [List.getElem?_map, List.getElem?_eq_getElem hlt'] at hd
  obtain rfl := Option.some.inj hd
  have hz : L[i]? = some L[i] := List.getElem?_eq_getElem hlt'
  have hmem : L[i] ∈ L := List.getElem_mem hlt'
  generalize L[i] = z at rd hz hmem
  have rd' : Rep X.K H3 x (h z) := by have := rd [] (fun a ha => by cases ha); rwa [mask_nil] at this
  have en : EnvS X.K (wipe σ (own.map (·.2))) H3 (wipeD (hide ρ) (own.map (·.2))) := ((E1.envH.mono s1).mono (s2.trans s3)).wipe _
  intro s H0 C0 cl fp xe
  refine (hg z hmem s H0 C0 cl fp xe).run (wipe σ (own.map (·.2))) H3 H3 x (Same.refl _) rd' _ fun ws rws => ?_
  refine ⟨wipe_setAll his, ?_⟩
  refine iteT (B := i + 1 ≤ k ∧ Same H1 H3 ∧ ∃ acc : List V, H3 Dl = some (.lst acc) ∧ acc.length ≤ i + 1) ?_
  intro s6 H6 C6 cl6 fp6 xe6 pass
  have en2 : EnvS X.K (setAll (wipe σ (own.map (·.2))) is ws) H3 (setD (wipeD (hide ρ) (own.map (·.2))) is (bs z)) := en.setAll' rws
  by_cases e : i = k
  · subst e
    exact (hr z hz s6 H6 C6 cl6 fp6 xe6 _ pass).run _ H3 en2 (fun H' s' => kk.ex _ σ H' hx E1.len (H0M.trans (s1.trans ((s2.trans s3).trans s')))) _
  · refine (he i z (by omega) hz s6 H6 C6 cl6 fp6 xe6).run _ H3 en2 _ fun v H4 s4 r4 => ⟨acc, s4 _ _ (s3 _ _ hacc), by omega, by omega, fun b u q => ?_, acc ++ [v], upd_same, by simp; omega⟩
    rw [upd_ne (fun y => by subst y; rw [hD] at q; cases q)]
    exact s4 b u (s3 b u (s2 b u q))⟩
end
end VL
set_option Elab.async false
set_option linter.all false
set_option maxRecDepth 100000
set_option maxHeartbeats 1000000
/-! value layer, part 29: texts; slices with the step two -/
namespace VL
/-- every second thing -/
def alt {α : Type} : List α → List α
  | [] => []
  | [x] => [x]
  | x :: _ :: r => x :: alt r
theorem alt_pick {α : Type} : ∀ L : List α, (List.range ((L.length + 1) / 2)).filterMap (fun k => L[2 * k]?) = alt L
  | [] => by simp [alt]
  | [x] => by simp [alt, List.range_succ]
  | x :: y :: r => by
    have e : ((x :: y :: r).length + 1) / 2 = (r.length + 1) / 2 + 1 := by simp; omega
    rw [e, List.range_succ_eq_map, List.filterMap_cons]
    show x :: _ = x :: alt r
    rw [List.filterMap_map, ← alt_pick r]
    congr 1
theorem alt_map {α β : Type} (f : α → β) : ∀ L : List α, alt (L.map f) = (alt L).map f
  | [] => rfl
  | [x] => rfl
  | x :: y :: r => by
    show f x :: alt (r.map f) = f x :: (alt r).map f
    rw [alt_map f r]
theorem alt_length {α : Type} : ∀ L : List α, (alt L).length = (L.length + 1) / 2
  | [] => by simp [alt]
  | [x] => by simp [alt]
  | x :: y :: r => by
    show (alt r).length + 1 = _
    rw [alt_length r]; simp; omega
theorem alt_get {α : Type} : ∀ (L : List α) (k : Nat), (alt L)[k]? = L[2 * k]?
  | [], k => rfl
  | [x], 0 => rfl
  | [x], k + 1 => by
    show none = _
    rw [List.getElem?_eq_none (by simp; omega)]
  | x :: y :: r, 0 => rfl
  | x :: y :: r, k + 1 => by
    show (alt r)[k]? = r[2 * k]?
    exact alt_get r k
end VL
namespace L2
open PySem PySem.Spec PyProof.Rows
theorem step2_range (a n : Nat) (h : a ≤ n) : sliceRange (a : Int) (n : Int) 2 = (List.range ((n - a + 1) / 2)).map fun k => a + 2 * k := by
  unfold sliceRange
  have hc : (if (2 : Int) > 0 then (if (a : Int) < n then ((n : Int) - a + 2 - 1) / 2 else 0) else (if (a : Int) > n then ((a : Int) - n - 2 - 1) / (-2) else 0)).toNat = (n - a + 1) / 2 := by
    rw [if_pos (by decide)]
    split <;> omega
  simp only [hc]
  apply List.map_congr_left
  intro k _
  omega
theorem pick2 (its : List Value) (o : Option Int) : slicePick its.toArray o none (some 2) = (VL.alt (its.drop (HT.sIx its.length 0 o))).toArray := by
  have hb : sliceBounds o none (some 2) its.toArray.size = (((HT.sIx its.length 0 o : Nat) : Int), (its.length : Int), 2) := by
    have h1 : (sliceBounds o none (some 2) its.toArray.size).2.1 = (its.length : Int) := by simp [sliceBounds]
    have h2 : (sliceBounds o none (some 2) its.toArray.size).2.2 = 2 := rfl
    have h3 : (sliceBounds o none (some 2) its.toArray.size).1 = ((HT.sIx its.length 0 o : Nat) : Int) := by
      cases o with
      | none => simp [sliceBounds, HT.sIx]
      | some i =>
        simp only [sliceBounds, HT.sIx, Option.getD_some, show (2 : Int) > 0 by decide, if_true, List.size_toArray]
        by_cases h : i < 0
        · simp only [h, if_true] <;> omega
        · simp only [h, if_false] <;> omega
    exact Prod.ext h3 (Prod.ext h1 h2)
  have hle : HT.sIx its.length 0 o ≤ its.length := HT.sIx_le _ _ (Nat.zero_le _) _
  unfold slicePick
  rw [hb]
  show ((sliceRange _ _ 2).filterMap (its.toArray[·]?)).toArray = _
  rw [step2_range _ _ hle, List.filterMap_map, ← VL.alt_pick, List.length_drop]
  congr 2
  funext k
  simp
theorem valsAlt : ∀ {xs : List V} {us : List Value}, Vals xs us → Vals (VL.alt xs) (VL.alt us)
  | [], _, .nil => .nil
  | [x], _, .cons r .nil => .cons r .nil
  | x :: y :: xs, _, .cons r (.cons _ rs) => .cons r (valsAlt rs)
def tAltL (K : PySem.W.Frag) (te : TE) (tl : TO) : TE := fun σ H Q => te σ H fun x H1 => tl σ H1 fun l H2 => ∃ a xs, x = .ref a ∧ SqL K H2 a xs ∧ ∀ p, H2 p = none → Q (.ref p) (upd H2 p (.lst (VL.alt (xs.drop (HT.sIx xs.length 0 l)))))
/-- xs[lo::2] -/
theorem pe_altL {X : Cx} {e : Expr} {te : TE} {lo : Option Expr} {tl : TO} {k : Nat} {p1 p3 pos : Pos} (he : PE X e te) (hl : PO X lo tl) : PE X (.Subscript e (.Slice lo none (some (.Constant (.int 2) k p1)) p3) pos) (tAltL X.K te tl) := by
  refine ⟨fun pins s σ H Q I h => ?_⟩
  refine Subscript_ (thn (he.run pins s σ H _ I h) fun v s1 ⟨x, H1, I1, r1, q1⟩ => ?_)
  have hst : PO X (some (.Constant (.int 2) k p1)) (tPart (tC (.int 2))) := po_some pe_int
  refine wpAny_Slice (thn (hl.run pins s1 σ H1 _ I1 q1) fun vl s2 ⟨l, H2, I2, pl, q2⟩ => ?_)
  refine thn (po_none.run pins s2 σ H2 (fun o H3 => o = none ∧ H3 = H2) I2 ⟨rfl, rfl⟩) fun vu s3 ⟨u, H3, I3, pu, eu, e3⟩ => ?_
  subst eu e3
  refine thn (hst.run pins s3 σ H3 (fun o H4 => o = some 2 ∧ H4 = H3) I3 ⟨2, rfl, rfl, rfl⟩) fun vs s4 ⟨o, H4, I4, ps, eo, e4⟩ => ?_
  subst eo e4
  obtain ⟨a, xs, ex, hx, q⟩ := q2
  subst ex
  cases r1
  have I5 : Inv X pins σ H4 { s4 with heap := s4.heap.push { cls := .type "slice", data := .fields #[vl, vu, vs] } } := I4.kept (t' := s4.toks) fun b ob q => Heap.get?_push_of_some _ q
  obtain ⟨its, r, ht, hz⟩ := I5.list hx
  have hlen := r.length
  show wpAny (model X.prog X.w) X.A (subscriptTail e (.Slice lo none (some (.Constant (.int 2) k p1)) p3) (.ref a) (.ref s4.heap.objs.size)) (EP X pins σ Q) X.xe { s4 with heap := s4.heap.push { cls := .type "slice", data := .fields #[vl, vu, vs] } }
  refine tail_any (ops := [.ref a, .ref s4.heap.objs.size]) ht.isList.typeIs (PySem.slot_list_getitem.lookup) ?_ (by with_unfolding_all rfl)
  refine wpAny_getItem_list_slice ht.isList (Heap.IsSliceOf.new _ vl vu vs) pl pu ps (by decide) ?_ (by rw [List.size_toArray]; omega)
  rw [pick2, ← hlen]
  refine ⟨.ref _, _, I5.laid (t' := s4.toks) (o := .lst (VL.alt (xs.drop (HT.sIx xs.length 0 l)))) (fun b ob q => Heap.get?_push_of_some _ q) (Nat.le_refl _) ?_, rfl, q _ (I5.hok.fresh (Nat.le_refl _))⟩
  exact ⟨by rw [VL.alt_length, List.length_drop]; omega, _, 0, valsAlt (r.drop _), Heap.get?_push_size _ rfl⟩
end L2

namespace VL
open PySem L2
open TL (tl)
theorem Reps.alt {K : PySem.W.Frag} {H : Hp} {vs : List V} {ds : List D} (r : Reps K H vs ds) : Reps K H (VL.alt vs) (VL.alt ds) :=
  ⟨by rw [alt_length, alt_length, r.1], fun i v d h1 h2 => by
    rw [alt_get] at h1 h2
    exact r.2 _ v d h1 h2⟩
abbrev dW (W : List Str) : D := .lst (W.map D.str)
abbrev oW (W : List Str) : O := oL (W.map D.str)
section
variable {X : Cx} {ρ : Rho} {e a b o tg : Expr} {p q pos apos : Pos} {i j : Int} {ds xs : List D} {W ys : List Str} {x y z : Str}
theorem EvO.alt {el : Option Expr} {lo : Option Int} {k : Nat} {p1 p3 : Pos} (ha : Ev X ρ a (.lst xs)) (hl : EvP X ρ el lo) : EvO X ρ (.Subscript a (.Slice el Option.none (Option.some (.Constant (.int 2) k p1)) p3) pos) (oL (VL.alt (xs.drop (HT.sIx xs.length 0 lo)))) := by
  obtain ⟨tl, pl, ql⟩ := hl.run
  exact .newl fun σ H en Q q => we_of (pe_altL pe_we pl) (ha.run σ H en _ fun x H1 s1 r1 => ql σ H1 (en.mono s1) _ fun H2 s2 => by
    obtain ⟨p1, vs, rfl, h1, rs⟩ := (r1.mono s2).lst_inv
    exact ⟨p1, vs, rfl, SqL.of h1, fun p hp => by
      have := q p _ H2 (s1.trans s2) hp ((rs.drop (HT.sIx xs.length 0 lo)).alt)
      rw [← rs.1] at this
      exact this⟩)
/-- every second word from the first on, from the second on -/
theorem Ev.alt0 {k : Nat} {p1 p3 : Pos} (ha : Ev X ρ a (dW W)) : Ev X ρ (.Subscript a (.Slice Option.none Option.none (Option.some (.Constant (.int 2) k p1)) p3) pos) (dW (VL.alt W)) :=
  (EvO.alt ha EvP.none).ev' (by rw [oL_data]; simp [HT.sIx, alt_map, dW])
theorem Ev.alt1 {k k1 : Nat} {p1 p2 p3 : Pos} (ha : Ev X ρ a (dW W)) : Ev X ρ (.Subscript a (.Slice (Option.some (.Constant (.int 1) k1 p2)) Option.none (Option.some (.Constant (.int 2) k p1)) p3) pos) (dW (VL.alt (W.drop 1))) :=
  (EvO.alt ha (EvP.some Ev.int)).ev' (by
    rw [oL_data]
    have e : HT.sIx (W.map D.str).length 0 (some 1) = min 1 W.length := by simp [HT.sIx]
    rw [e]
    cases W with
    | nil => rfl
    | cons w W => simp [alt_map, dW])
/-- o.split(e) -/
theorem EvO.split (h : Ev X ρ o (.str x)) (h2 : Ev X ρ e (.str y)) (hy : (y.length == 0) = false) (hx : x.length + 2 ≤ sizeLine) (hs : starEach [e] X.env = [(false, eval e X.env)] := by rfl) (hbase : attributeBase o "split" X.env (eval o X.env) = eval o X.env := by rfl) (hline : (apos.endLine == pos.line) = true := by rfl) :
    EvO X ρ (.Call (.Attribute o "split" apos) [e] [] pos) (oW (Txt.split x y)) :=
  .newl fun σ H en Q q => we_of (pe_split pe_we pe_we hs hbase hline) (h.run σ H en _ fun v H1 s1 r1 => by
    obtain rfl := r1.str_inv
    refine ⟨⟨x, rfl⟩, h2.run σ H1 (en.mono s1) _ fun w H2 s2 r2 => ?_⟩
    obtain rfl := r2.str_inv
    exact ⟨x, y, rfl, rfl, hy, hx, fun p hp => q p _ H2 (s1.trans s2) hp (reps_strs _)⟩)
/-- o.join(e) -/
theorem Ev.join (h : Ev X ρ o (.str x)) (h2 : Ev X ρ e (dW ys)) (hz : (ys.map (·.length)).sum + ys.length * x.length ≤ 16777216) (hs : starEach [e] X.env = [(false, eval e X.env)] := by rfl) (hbase : attributeBase o "join" X.env (eval o X.env) = eval o X.env := by rfl) (hline : (apos.endLine == pos.line) = true := by rfl) :
    Ev X ρ (.Call (.Attribute o "join" apos) [e] [] pos) (.str (Txt.join x ys)) :=
  ⟨fun σ H en Q q => we_of (pe_join pe_we pe_we hs hbase hline) (h.run σ H en _ fun v H1 s1 r1 => by
    obtain rfl := r1.str_inv
    refine ⟨⟨x, rfl⟩, h2.run σ H1 (en.mono s1) _ fun w H2 s2 r2 => ?_⟩
    obtain ⟨p1, vs, rfl, h1, rs⟩ := r2.lst_inv
    obtain rfl := rs.strs
    exact ⟨x, p1, ys, rfl, rfl, .inl (SqL.of h1), hz, q _ H2 (s1.trans s2) (.str _)⟩)⟩
/-- str(e), e a number -/
theorem Ev.strI (hm : X.mg "str" = none) (h : Ev X ρ e (.int i)) (hi : i.natAbs.log2 < 1920) (hg : Gl X "str" := by rfl) (hs : starEach [e] X.env = (false, eval e X.env) :: starEach [] X.env := by rfl) (hpl : (backTo pos (starEach [] X.env)).any (·.1) = false := by rfl) : Ev X ρ (.Call (.Name "str" p) [e] [] pos) (.str (toString i)) :=
  Ev.callTy call_str_int hg hm (by decide +kernel) (.one h hs) (fun vs H r0 Q q => by
    obtain ⟨v, rfl, r⟩ := r0.one
    obtain rfl := r.int_inv
    exact ⟨i, rfl, hi, q _ H (Same.refl H) (.str _)⟩) (by decide) (by decide) hs hpl
/-- int(e), e a text -/
theorem Ev.intS (hm : X.mg "int" = none) (h : Ev X ρ e (.str x)) (hi : PySem.intText? x = some i) (hx : x.length ≤ 640) (hg : Gl X "int" := by rfl) (hs : starEach [e] X.env = (false, eval e X.env) :: starEach [] X.env := by rfl) (hpl : (backTo pos (starEach [] X.env)).any (·.1) = false := by rfl) : Ev X ρ (.Call (.Name "int" p) [e] [] pos) (.int i) :=
  Ev.callTy call_int_str hg hm (by decide +kernel) (.one h hs) (fun vs H r0 Q q => by
    obtain ⟨v, rfl, r⟩ := r0.one
    obtain rfl := r.str_inv
    exact ⟨x, i, rfl, hi, hx, q _ H (Same.refl H) (.int _)⟩) (by decide) (by decide) hs hpl
/-- a sign of a text -/
theorem Ev.ixS {c : Nat} (ha : Ev X ρ a (.str x)) (hb : Ev X ρ b (.int i)) (hx : x.length ≤ sizeLine) (h : atI (tl x) i = some c) (hs : PlainIx b := by exact fun _ _ => rfl) : Ev X ρ (.Subscript a b pos) (.str ⟨#[c]⟩) :=
  ⟨fun σ H en Q q => we_of (pe_ix ix_str pe_we pe_we hs) (ha.run σ H en _ fun v H1 s1 r1 => hb.run σ H1 (en.mono s1) _ fun w H2 s2 r2 => by
    obtain rfl := r1.str_inv
    obtain rfl := r2.int_inv
    exact ⟨x, i, c, rfl, rfl, hx, h, q _ H2 (s1.trans s2) (.str _)⟩)⟩
/-- a part of a text -/
theorem Ev.sliceS {el eh : Option Expr} {lo hi : Option Int} {p2 : Pos} (ha : Ev X ρ a (.str x)) (hl : EvP X ρ el lo) (hh : EvP X ρ eh hi) (hx : x.length ≤ sizeLine) : Ev X ρ (.Subscript a (.Slice el eh Option.none p2) pos) (.str (cutS x lo hi)) := by
  obtain ⟨tl', pl, ql⟩ := hl.run
  obtain ⟨th, ph, qh⟩ := hh.run
  exact ⟨fun σ H en Q q => we_of (pe_slice sl_str pe_we pl ph) (ha.run σ H en _ fun v H1 s1 r1 => ql σ H1 (en.mono s1) _ fun H2 s2 => qh σ H2 (en.mono (s1.trans s2)) _ fun H3 s3 => by
    obtain rfl := r1.str_inv
    exact ⟨x, rfl, hx, q _ H3 ((s1.trans s2).trans s3) (.str _)⟩)⟩
theorem CmpD.inSign {c : Nat} : CmpD X .In (.str ⟨#[c]⟩) (.str z) (decide (c ∈ tl z)) :=
  ⟨_, op_in_sign, fun v w H rv rw Q q => ⟨c, z, rv.str_inv, rw.str_inv, q _ H (Same.refl H) (.bl _)⟩⟩
theorem CmpD.notInSign {c : Nat} : CmpD X .NotIn (.str ⟨#[c]⟩) (.str z) (!decide (c ∈ tl z)) :=
  ⟨_, op_notIn_sign, fun v w H rv rw Q q => ⟨c, z, rv.str_inv, rw.str_inv, q _ H (Same.refl H) (.bl _)⟩⟩
/-- the signs of a text, one by one -/
theorem src_str {K : PySem.W.Frag} {H : Hp} : Src K H (Its x) ((tl x).map fun c => D.str ⟨#[c]⟩) :=
  ⟨fun _ => True, fun i H v H' => H' = H ∧ ∃ c, x.cps[i]? = some c ∧ v = .str ⟨#[c]⟩, by rw [List.length_map]; exact walk_str, fun _ _ => trivial, fun i H1 v H2 hi s y => by
    obtain ⟨rfl, c, hc, rfl⟩ := y
    exact ⟨Same.refl _, .str ⟨#[c]⟩, by rw [List.getElem?_map]; simp [hc], fun as _ => .str _⟩⟩
theorem EvI.str (h : Ev X ρ e (.str x)) : EvI X ρ tg e ((tl x).map fun c => D.str ⟨#[c]⟩) :=
  ⟨fun σ H en R q => wi_of (pi_str pe_we) (h.run σ H en _ fun v H1 s1 r1 => by
    obtain rfl := r1.str_inv
    exact ⟨x, rfl, q _ H1 s1 src_str⟩)⟩
/-- a text of the module -/
theorem Ev.globS {t : Tok} (hm : X.mg x = some (.str y t)) (hg : Gl X x := by rfl) (hd : (x == ("__debug__" : Str)) = false := by decide) : Ev X ρ (.Name x p) (.str y) :=
  ⟨fun σ H en Q q => we_of (pe_glob (v := .str y) hg hm ⟨t, rfl⟩ hd) (q _ H (Same.refl H) (.str y))⟩
theorem Ev.globR {c : Addr} (hm : X.mg x = some (.ref c)) (hg : Gl X x := by rfl) (hd : (x == ("__debug__" : Str)) = false := by decide) : Ev X ρ (.Name x p) (.raw c) :=
  ⟨fun σ H en Q q => we_of (pe_glob (v := .ref c) hg hm rfl hd) (q _ H (Same.refl H) (.raw c))⟩
/-- d.get(k) -/
theorem Ev.getDk {kvs : List (Key × V)} {d : D} (hu : X.A.units + 1 < cLine) (ha : Ev X ρ a (.dk kvs)) (hb : Ev X ρ b (.str z)) (hd : ∀ (K : PySem.W.Frag) (H : Hp), Rep K H ((valV kvs (.inr z)).getD .non) d)
    (m : M1 X a "get" apos b pos := by exact ⟨rfl, rfl, rfl, rfl⟩) : Ev X ρ (.Call (.Attribute a "get" apos) [b] [] pos) d :=
  ⟨fun σ H en Q q => we_of (pe_dget1 hu pe_we pe_we m) (ha.run σ H en _ fun x H1 s1 r1 => by
    cases r1 with
    | dk h1 h2 =>
      refine ⟨_, rfl, .inl ⟨_, .inl h1⟩, hb.run σ H1 (en.mono s1) _ fun y H2 s2 r2 => ?_⟩
      obtain rfl := r2.str_inv
      exact ⟨_, DGet.k (k := .inr z) (s2 _ _ h1), q _ H2 (s1.trans s2) (hd _ _)⟩)⟩
end
/-- a dict of the module with the keys ks, no others -/
structure KKeys (K : PySem.W.Frag) (w : World) (a : Addr) (ks : List Str) : Prop where
  low : (a == sysModules) = false
  ex : ∃ es n, K.lookup a = some ⟨.type "dict", none, .dict es n, #[]⟩ ∧ PySem.W.KeysLit w.params es.toList ∧ es.toList.all (fun e => ks.any fun k => e.key.isStr k) = true
theorem KKeys.miss {K : PySem.W.Frag} {w : World} {a : Addr} {ks : List Str} (h : KKeys K w a ks) {z : Str} (hz : z ∉ ks) : PySem.W.nsIn K a z = some none := by
  obtain ⟨es, n, hl, hk, he⟩ := h.ex
  unfold PySem.W.nsIn
  rw [hl]
  dsimp only
  have hf : es.toList.find? (·.key.isStr z) = none := List.find?_eq_none.mpr fun e hm hs => by
    obtain ⟨k, hk1, hk2⟩ := List.any_eq_true.mp (List.all_eq_true.mp he e hm)
    obtain ⟨x, t, hx, _⟩ := hk.all e hm
    rw [hx] at hs hk2
    have e1 : x = z := by simpa [Value.isStr] using hs
    have e2 : x = k := by simpa [Value.isStr] using hk2
    subst e1; subst e2
    exact hz hk1
  rw [hf]
  have hr : es.toList.any (·.refKey) = false := List.any_eq_false.mpr fun e hm => by
    obtain ⟨x, t, hx, _⟩ := hk.all e hm
    unfold DictEntry.refKey
    rw [hx]
    simp
  dsimp only
  rw [hr]
  rfl
theorem CmpD.notInK {X : Cx} {a : Addr} {ks : List Str} {z : Str} (h : KKeys X.K X.w a ks) (hi : z ∈ ks → ∃ v, KDct X.K X.w a z v) : CmpD X .NotIn (.str z) (.raw a) (decide (z ∉ ks)) := by
  obtain ⟨es, n, hl, hk, he⟩ := id h.ex
  have key : ∀ r, PySem.W.nsIn X.K a z = some r → CmpD X .NotIn (.str z) (.raw a) (!r.isSome) := fun r e =>
    ⟨_, op_notIn_kd (es := es) (n := n) ⟨hl, hk, h.low⟩, fun v w H rv rw Q q => by
      cases rw
      exact ⟨z, r, rv.str_inv, rfl, e, q _ H (Same.refl H) (.bl _)⟩⟩
  by_cases hz : z ∈ ks
  · obtain ⟨v, es', n', u, _, _, e, _⟩ := hi hz
    have := key _ e
    rw [decide_eq_false (by simpa using hz)]
    exact this
  · have := key _ (h.miss hz)
    rw [decide_eq_true hz]
    exact this
end VL
set_option Elab.async false
set_option linter.all false
set_option maxRecDepth 100000
set_option maxHeartbeats 1000000
/-! value layer, part 30: an except suite that raises -/
namespace VL
open PySem L2 PySem.Spec PyProof.Rows
section
variable {P : Program} {w : World} {K : PySem.W.Frag} {mg : Str → Option Value} {base : Heap}
theorem okN {x qual : Str} {st : Stmt} {f : Addr} {fd : FuncData} {N ps : List Str} {k : Nat} {sp : Sp} (F : Fun K x qual st f fd) (S : FnScope N ps (defScope st)) (len : ∀ vs H Q E, sp vs H Q E → vs.length = ps.length)
    (hbody : ∀ (cdv : Value) (A : Around) (outer : List Env) (s : Shared) (H : Hp) (vs : List V) (Q : VK) (E : XK), Room k (A.deeper (envOfC qual (defScope st) s.heap.objs.size f cdv)) → sp vs H Q E →
      ∃ t, PSs (cxOf (L2N.CX P w) P w K mg base N qual (defScope st) f cdv A outer s H E) (defBody st) t ∧ t { nx := fun _ H' => Q .non H', rt := Q } (start N vs) H) : FnOk P w K mg base (L2N.CX P w) (k + 1) f fd ps sp := by
  obtain ⟨oc, od, kV, doc, pm, an, cdv, ct, osl, rfl, lk, hcd⟩ := F.ex
  exact fn_of lk hcd S len fun A outer s H vs Q E hr hsp => hbody cdv A outer s H vs Q E hr hsp
end
section
variable {X : Cx} {ρ : RhoW} {Φ : Post} {rest : List Stmt} {C : Addr} {x m : Str} {j : Nat} {p p2 p3 pos : Pos}
/-- raise x('m'), nothing being handled: its context is None -/
theorem Ws.raiseN (E : ErrC X.K X.mg x C) (hc : X.calm = true) (tk : L2N.Takes X Φ.xw) (h : Φ.xs (.ref C)) (hg : Gl X x := by rfl) (hdb : (x == ("__debug__" : Str)) = false := by decide) : Ws X ρ (.Raise (some (.Call (.Name x p) [.Constant (.str m) j p2] [] p3)) none pos :: rest) Φ :=
  ⟨fun H0 σ H D En k => WSs.cons (ws_of (L2N.ps_raise hc tk (L2N.pmk_own PySem.F.excBase_ValueError E.q E.g E.k (raises_own E.b E.t) hg hdb)) (by
    obtain ⟨F, En⟩ := En
    exact k.ex _ σ H h En.len En.same))⟩
/-- .. within an except suite -/
theorem Ws.raiseH (E : ErrC X.K X.mg x C) (hc : L2H.HotC X) (tk : Takes X Φ.xw) (h : Φ.xs (.ref C)) (hg : Gl X x := by rfl) (hdb : (x == ("__debug__" : Str)) = false := by decide) : Ws X ρ (.Raise (some (.Call (.Name x p) [.Constant (.str m) j p2] [] p3)) none pos :: rest) Φ :=
  ⟨fun H0 σ H D En k => WSs.cons (ws_of (L2H.ps_raiseH hc tk (L2N.pmk_own PySem.F.excBase_ValueError E.q E.g E.k (raises_own E.b E.t) hg hdb)) (by
    obtain ⟨F, En⟩ := En
    exact k.ex _ σ H h En.len En.same))⟩
end
/-- a call that raises C, its context None -/
structure VXN (P : Program) (w : World) (K : PySem.W.Frag) (mg : Str → Option Value) (base : Heap) (k : Nat) (x : Str) (ds : List D) (C : Addr) : Prop where
  ex : ∃ (f : Addr) (fd : FuncData) (ps : List Str), mg x = some (.ref f) ∧ PySem.W.keepIn K (.ref f) = true ∧ Binds K fd ps [] ∧ FnOk P w K mg base (L2N.CX P w) k f fd ps (spX K ds C)
section
variable {P : Program} {w : World} {K : PySem.W.Frag} {mg : Str → Option Value} {base : Heap}
theorem VXN.of {x : Str} {st : Stmt} {N ps : List Str} {k : Nat} {ds : List D} {C : Addr} {ρ : RhoW} (F : Df K mg x st ps) (S : FnScope N ps (defScope st)) (hρ : startW N.length ds = ρ)
    (h : ∀ (f : Addr) (cdv : Value) (A : Around) (outer : List Env) (s : Shared) (H : Hp) (E : XK), Room k (cxOf (L2N.CX P w) P w K mg base N x (defScope st) f cdv A outer s H E).A →
      L2N.Takes (cxOf (L2N.CX P w) P w K mg base N x (defScope st) f cdv A outer s H E) (fun c d _ H => E c d H) →
      Ws (cxOf (L2N.CX P w) P w K mg base N x (defScope st) f cdv A outer s H E) ρ (defBody st) { nx := fun _ => False, rt := fun _ => False, xs := fun c => c = .ref C, xw := fun c d _ H => E c d H }) (hl : ps.length = ds.length := by rfl) : VXN P w K mg base (k + 1) x ds C := by
  obtain ⟨f, fd, h1, h2, h3⟩ := F.ex
  refine ⟨f, fd, ps, h1, h2.kp, h3, okN h2 S (fun vs H Q E q => by rw [hl]; exact q.1.1) fun cdv A outer s H vs Q E hr q => ?_⟩
  obtain ⟨r, q⟩ := q
  refine ⟨_, pss_wss, ?_⟩
  exact (h f cdv A outer s H E hr (L2N.takes_of rfl rfl rfl rfl)).run H (L2.start N vs) H _ (hρ ▸ start_env r) ⟨fun _ _ _ p => p.elim, fun _ _ _ p => p.elim, fun _ _ _ p => p.elim, fun _ _ _ _ p => p.elim, fun _ _ _ _ _ p => p.elim, fun c σ H' e _ s => by subst e; exact q H' s⟩
end
section
variable {X : Cx} {ρ : Rho} {C : Addr} {xw : WX} {x : Str} {k : Nat} {e : Expr} {es : List Expr} {p pos : Pos} {ds : List D}
theorem EvR.callN (F : VXN X.prog X.w X.K X.mg X.base k x ds C) (hr : Room k X.A) (tk : L2N.Takes X xw) (ha : EvA X ρ (e :: es) ds) (hg : Gl X x := by rfl) (hdb : (x == ("__debug__" : Str)) = false := by decide)
    (he : starEach (e :: es) X.env = (false, eval e X.env) :: starEach es X.env := by rfl) (hpl : (backTo pos (starEach es X.env)).any (·.1) = false := by rfl) : EvR X ρ (.Call (.Name x p) (e :: es) [] pos) C xw := by
  obtain ⟨f, fd, ps, h1, h2, h3, h4⟩ := F.ex
  exact ⟨fun σ H en hx Q => we_of (pe_callS h4 hr hg h1 h2 h3 (fun σ => L2N.passAt tk σ) pa_wa hdb he hpl) (ha.run σ H en _ fun vs H1 s1 r1 => ⟨r1, fun H' s => hx H' (s1.trans s)⟩)⟩
end
theorem env_none {K : PySem.W.Frag} {H0 H : Hp} {σ : L2.St} {n : Nat} (hl : σ.length = n) (s : Same H0 H) : EnvW K H0 σ H (List.replicate n none) := by
  have hall : ∀ m, allOf (fun _ => ([] : List Addr)) m = [] := fun m => by unfold allOf; simp
  refine ⟨fun _ => [], by simp [hl], fun _ => List.nodup_nil, fun i j a h => (by cases h), fun a ha => (by rw [hall] at ha; cases ha), s, fun j x h => ?_, fun _ _ => rfl⟩
  rw [List.getElem?_replicate] at h
  split at h <;> cases h
section
variable {X : Cx} {ρ : RhoW} {Φ : Post} {rest body suite : List Stmt} {x : Str} {b₀ : Stmt} {np pos pos' : Pos} {c : Value}
/-- try: body except x: suite; the suite raises or returns -/
theorem Ws.tryX (xs : Value → Prop) (hc : Names X x c) (tk : Takes X Φ.xw) (hpa : ∀ hd : Option Value, PassesOwnAt (model X.prog X.w) (X.A.mark hd) X.A X.env X.xe)
    (hx : ∀ v, xs v → PySem.W.exmOne X.K v c = some true)
    (hb : ∀ (W : WX) (pn : List (Addr × Obj)) (xe : Value → Shared → Prop), L2N.Takes (X.tr pn xe) W → PassesOwn (model X.prog X.w) X.A X.env xe → Ws (X.tr pn xe) ρ body { nx := fun ρ => Ws X ρ rest Φ, rt := Φ.rt, xs := xs, xw := W })
    (hsu : ∀ (v : Value) (a : Addr) (oe : Obj) (pn : List (Addr × Obj)), xs v → Takes (L2H.suiteX X a ((a, oe) :: pn)) Φ.xw → L2H.HotC (L2H.suiteX X a ((a, oe) :: pn)) → Ws (L2H.suiteX X a ((a, oe) :: pn)) (List.replicate ρ.length none) (b₀ :: suite) { nx := fun _ => False, rt := Φ.rt, xs := Φ.xs, xw := Φ.xw })
    (hs : X.stack = X.env :: X.outer := by rfl) (hf : X.env.frame = some X.env.locals := by rfl) :
    Ws X ρ (.Try body [.ExceptHandler (some (.Name x np)) none (b₀ :: suite) pos'] [] [] pos :: rest) Φ := ⟨fun H0 σ H D E k =>
  WSs.cons (ws_of (L2H.ps_try_onlyX (Wout := Φ.xw)
      (tb := fun W D σ H => ∀ (pn : List (Addr × Obj)) (xe : Value → Shared → Prop), L2N.Takes (X.tr pn xe) W → PassesOwn (model X.prog X.w) X.A X.env xe → WSs (X.tr pn xe) body σ H D)
      (ts := fun a cls d D σ H => ∀ (oe : Obj) (pn : List (Addr × Obj)), Takes (L2H.suiteX X a ((a, oe) :: pn)) Φ.xw → L2H.HotC (L2H.suiteX X a ((a, oe) :: pn)) → WSs (L2H.suiteX X a ((a, oe) :: pn)) (b₀ :: suite) σ H D)
      hs hf hc hpa tk (fun W pn xe t _ po => ⟨fun pins s σ H D I h => h pn xe t po pins s I⟩) (fun a oe cls d pn hz hd t ht => ⟨fun pins s σ H D I h => h oe pn t ht pins s I⟩)) (by
    have hl : σ.length = ρ.length := E.len
    intro pn xe t po
    refine (hb _ pn xe t po).run H0 σ H _ E ⟨fun σ' H' ρ' q l E' => q.run H0 σ' H' D E' (k.cast l.symm), fun _ _ _ q => q.elim, fun _ _ _ q => q.elim, k.rt, fun _ _ _ _ _ q => q.elim, fun v σ' H' q l s => ?_⟩
    refine ⟨true, hx v q, fun _ a na oe pn' tkS ht => ?_, fun z => by cases z⟩
    refine (hsu v a oe pn' q tkS ht).run H0 _ H' _ (env_none l s) ⟨fun _ _ _ q => q.elim, fun _ _ _ q => q.elim, fun _ _ _ q => q.elim, k.rt, fun _ _ _ _ _ q => q.elim, fun c' σ2 H2 q2 l2 s2 => ?_⟩
    exact k.ex c' σ2 H2 q2 (l2.trans (by simp)) s2))⟩
end
end VL
set_option Elab.async false
set_option linter.all false
set_option maxRecDepth 100000
set_option maxHeartbeats 1000000
/-! value layer, part 31: try: x = e, what is shared stays in sight in the suite -/
namespace VL
open PySem L2 PySem.Spec PyProof.Rows
/-- only what is shared -/
def keepD (r : Rho) : RhoW := r.map fun o => o.map W.sh
theorem env_keep {K : PySem.W.Frag} {H0 H M : Hp} {σ : L2.St} {r : Rho} (en : EnvS K σ M r) (s0 : Same H0 H) (s : Same M H) : EnvW K H0 σ H (keepD r) := by
  have hall : ∀ m, allOf (fun _ => ([] : List Addr)) m = [] := fun m => by unfold allOf; simp
  refine ⟨fun _ => [], by unfold keepD; simp [en.len], fun _ => List.nodup_nil, fun i j a h => (by cases h), fun a ha => (by rw [hall] at ha; cases ha), s0, fun j x h => ?_, fun _ _ => rfl⟩
  rw [hall, mask_nil]
  unfold keepD at h
  rw [List.getElem?_map] at h
  cases e : r[j]? with
  | none => rw [e] at h; cases h
  | some o =>
    rw [e] at h
    cases o with
    | none => cases h
    | some d =>
      cases h
      obtain ⟨v, h1, h2⟩ := en.get j d e
      exact ⟨v, h1, h2.mono s, rfl⟩
theorem env_set_raw {K : PySem.W.Frag} {H0 H : Hp} {σ : L2.St} {r : Rho} {i : Nat} {a : Addr} (E : EnvW K H0 σ H (keepD r)) : EnvW K H0 (σ.set i (some (.ref a))) H ((keepD r).set i (some (.sh (.raw a)))) := by
  obtain ⟨F, E⟩ := E
  have hF : ∀ j, F j = [] := fun j => by
    by_cases h : ∃ d, (keepD r)[j]? = some (some (.sh d))
    · obtain ⟨d, h⟩ := h
      obtain ⟨v, _, h2⟩ := E.get j _ h
      exact h2.2
    · refine E.off j fun w hw => h ?_
      unfold keepD at hw
      rw [List.getElem?_map] at hw
      cases e : r[j]? with
      | none => rw [e] at hw; cases hw
      | some o =>
        rw [e] at hw
        cases o with
        | none => cases hw
        | some d => unfold keepD; exact ⟨d, by rw [List.getElem?_map, e]; rfl⟩
  have hall : allOf F (keepD r).length = [] := by unfold allOf; simp [hF]
  have hs := E.same
  have hall2 : ∀ m, allOf (fun _ => ([] : List Addr)) m = [] := fun m => by unfold allOf; simp
  refine ⟨fun _ => [], by simp [E.len], fun _ => List.nodup_nil, fun i j a h => (by cases h), fun a ha => (by rw [hall2] at ha; cases ha), hs, fun j x h => ?_, fun _ _ => rfl⟩
  rw [hall2, mask_nil]
  rw [List.getElem?_set] at h
  split at h
  · rename_i e
    split at h
    · rename_i hlt
      obtain rfl := Option.some.inj (Option.some.inj h)
      subst e
      exact ⟨.ref a, List.getElem?_set_self (by rw [E.len]; exact hlt), .raw a, rfl⟩
    · cases h
  · rename_i hij
    obtain ⟨v, h1, h2⟩ := E.get j x h
    rw [hall, mask_nil, hF] at h2
    exact ⟨v, by rw [List.getElem?_set_ne hij]; exact h1, h2⟩
section
variable {X : Cx} {ρ : RhoW} {Φ : Post} {rest suite : List Stmt} {x n y : Str} {b₀ : Stmt} {e : Expr} {np pos pos' py apos : Pos} {c : Value} {C : Addr}
/-- try: y = e except x as n: suite; e raises C -/
theorem Ws.tryAs1 (i iy : Nat) (hN : X.N.Nodup) (hc : Names X x c) (tk : Takes X Φ.xw)
    (hx : PySem.W.exmOne X.K (.ref C) c = some true)
    (hb : ∀ (W : WX) (pn : List (Addr × Obj)) (xe : Value → Shared → Prop), Takes (X.tr pn xe) W → EvR (X.tr pn xe) (hide ρ) e C W)
    (hsu : ∀ (a : Addr) (oe : Obj) (pn : List (Addr × Obj)), Zc (.ref C) none oe → (∃ vs, oe.data = .fields vs) → Ws (X.suite a ((a, oe) :: pn)) ((keepD (hide ρ)).set i (some (.sh (.raw a)))) (b₀ :: suite) { nx := fun _ => False, rt := Φ.rt })
    (hs : X.stack = X.env :: X.outer := by rfl) (hf : X.env.frame = some X.env.locals := by rfl) (hi : X.N[i]? = some n := by rfl) (hln : X.env.kindOf n = some .local := by rfl)
    (hiy : X.N[iy]? = some y := by rfl) (hly : Loc X.env.scope y := by first | exact Or.inl rfl | exact Or.inr rfl)
    (hsw : swapsWith e (some (.Name y py)) apos.line X.env = pure false := by rfl) (hfy : X.fn y = true ∨ X.env.scope.names.lookup y = some .local := by first | exact .inl rfl | exact .inr rfl) :
    Ws X ρ (.Try [.Assign [.Name y py] e apos] [.ExceptHandler (some (.Name x np)) (some n) (b₀ :: suite) pos'] [] [] pos :: rest) Φ := ⟨fun H0 σ H D E k =>
  WSs.cons (ws_of (ps_try_as (Wout := Φ.xw) (i := i)
      (tb := fun W D σ H => ∀ (pn : List (Addr × Obj)) (xe : Value → Shared → Prop), Takes (X.tr pn xe) W → PassesOwn (model X.prog X.w) X.A X.env xe → WSs (X.tr pn xe) [.Assign [.Name y py] e apos] σ H D)
      (ts := fun a cls d D σ H => ∀ (oe : Obj) (pn : List (Addr × Obj)), Zc cls d oe → (∃ vs, oe.data = .fields vs) → WSs (X.suite a ((a, oe) :: pn)) (b₀ :: suite) σ H D)
      hs hf hN hi hln hc tk (fun W pn xe t po => ⟨fun pins s σ H D I h => h pn xe t po pins s I⟩) (fun a oe cls d pn hz hd => ⟨fun pins s σ H D I h => h oe pn hz hd pins s I⟩)) (by
    intro pn xe t po
    refine WSs.cons (ws_of (ps_set (X := X.tr pn xe) hN hiy hly pe_we hsw hfy) ?_)
    obtain ⟨F, E⟩ := id E
    have H0M : Same H0 (mask H (allOf F ρ.length)) := mask_same_of E.same fun a ha => E.fresh a ha
    refine (WE.frame (X := X.tr pn xe) E.cells ((hb _ pn xe t).run σ (mask H (allOf F ρ.length)) E.envH (fun H' s => ?_) (fun _ _ => False))).mono ?_
    · refine ⟨true, hx, fun _ a na oe pn' hz hd => ?_, fun z => by cases z⟩
      have En := env_set_raw (i := i) (a := a) (env_keep E.envH (H0M.trans s) s)
      refine (hsu a oe pn' hz hd).run H0 _ H' _ En ⟨fun _ _ _ q => q.elim, fun _ _ _ q => q.elim, fun _ _ _ q => q.elim, k.rt, fun _ _ _ _ _ q => q.elim, fun _ _ _ q => q.elim⟩
    · rintro v H' ⟨M, q, _⟩
      exact q.elim))⟩
end
section
variable {X : Cx} {ρ : Rho} {pos : Pos}
theorem Ev.dict0 : Ev X ρ (.Dict [] [] pos) (.dk []) :=
  ⟨fun σ H en Q q => we_of pe_dnewK fun p hp => q _ _ (Same.new hp) (.dk upd_same (by simp))⟩
end
end VL
namespace VL
open PySem L2

def topS (i : Nat) : Stmt := PySem.Challenge.pw_flatstrip_k14_texts.main.body.getD i (.Pass ⟨0, 0, 0, 0⟩)
/-! is_whole: slots 0=thing -/
abbrev s_is_whole : Stmt := topS 11
abbrev n_is_whole : List Str := ["thing"]
theorem sc_is_whole : FnScope n_is_whole ["thing"] (defScope s_is_whole) := ⟨rfl, rfl, rfl, by decide +kernel, rfl, by decide +kernel, by decide +kernel⟩
/-! is_mark: slots 0=thing -/
abbrev s_is_mark : Stmt := topS 12
abbrev n_is_mark : List Str := ["thing"]
theorem sc_is_mark : FnScope n_is_mark ["thing"] (defScope s_is_mark) := ⟨rfl, rfl, rfl, by decide +kernel, rfl, by decide +kernel, by decide +kernel⟩
/-! need_lengths: slots 0=lengths 1=length -/
abbrev s_need_lengths : Stmt := topS 13
abbrev n_need_lengths : List Str := ["lengths", "length"]
theorem sc_need_lengths : FnScope n_need_lengths ["lengths"] (defScope s_need_lengths) := ⟨rfl, rfl, rfl, by decide +kernel, rfl, by decide +kernel, by decide +kernel⟩
/-! checked: slots 0=strip 1=lengths 2=marks 3=mark -/
abbrev s_checked : Stmt := topS 14
abbrev n_checked : List Str := ["strip", "lengths", "marks", "mark"]
theorem sc_checked : FnScope n_checked ["strip"] (defScope s_checked) := ⟨rfl, rfl, rfl, by decide +kernel, rfl, by decide +kernel, by decide +kernel⟩
/-! written: slots 0=strip 1=found 2=length 3=mark -/
abbrev s_written : Stmt := topS 20
abbrev n_written : List Str := ["strip", "found", "length", "mark"]
theorem sc_written : FnScope n_written ["strip"] (defScope s_written) := ⟨rfl, rfl, rfl, by decide +kernel, rfl, by decide +kernel, by decide +kernel⟩
/-! length_of: slots 0=word 1=sign -/
abbrev s_length_of : Stmt := topS 21
abbrev n_length_of : List Str := ["word", "sign"]
theorem sc_length_of : FnScope n_length_of ["word"] (defScope s_length_of) := ⟨rfl, rfl, rfl, by decide +kernel, rfl, by decide +kernel, by decide +kernel⟩
/-! read: slots 0=text 1=words 2=lengths 3=marks 4=word -/
abbrev s_read : Stmt := topS 22
abbrev n_read : List Str := ["text", "words", "lengths", "marks", "word"]
theorem sc_read : FnScope n_read ["text"] (defScope s_read) := ⟨rfl, rfl, rfl, by decide +kernel, rfl, by decide +kernel, by decide +kernel⟩
/-! _law_cell_at: slots 0=_law_script 1=_law_k -/
abbrev s_L_cell_at : Stmt := topS 24
abbrev n_L_cell_at : List Str := ["_law_script", "_law_k"]
theorem sc_L_cell_at : FnScope n_L_cell_at ["_law_script", "_law_k"] (defScope s_L_cell_at) := ⟨rfl, rfl, rfl, by decide +kernel, rfl, by decide +kernel, by decide +kernel⟩
/-! _law_unfolded: slots 0=_law_script 1=_law_first 2=_law_many 3=_law_lengths 4=_law_marks 5=_law_turn 6=_law_cell 7=_law_mark 8=_law_at 9=_law_step 10=_law_short -/
abbrev s_L_unfolded : Stmt := topS 25
abbrev n_L_unfolded : List Str := ["_law_script", "_law_first", "_law_many", "_law_lengths", "_law_marks", "_law_turn", "_law_cell", "_law_mark", "_law_at", "_law_step", "_law_short"]
theorem sc_L_unfolded : FnScope n_L_unfolded ["_law_script", "_law_first", "_law_many"] (defScope s_L_unfolded) := ⟨rfl, rfl, rfl, by decide +kernel, rfl, by decide +kernel, by decide +kernel⟩
/-! _law_strip: slots 0=_law_script 1=_law_head 2=_law_lengths 3=_law_marks 4=_law_cells 5=_law_more 6=_law_at 7=_law_cell 8=_law_found 9=_law_k 10=_law_length_here -/
abbrev s_L_strip : Stmt := topS 26
abbrev n_L_strip : List Str := ["_law_script", "_law_head", "_law_lengths", "_law_marks", "_law_cells", "_law_more", "_law_at", "_law_cell", "_law_found", "_law_k", "_law_length_here"]
theorem sc_L_strip : FnScope n_L_strip ["_law_script"] (defScope s_L_strip) := ⟨rfl, rfl, rfl, by decide +kernel, rfl, by decide +kernel, by decide +kernel⟩
/-! _law_whole: slots 0=_law_found -/
abbrev s_L_whole : Stmt := topS 27
abbrev n_L_whole : List Str := ["_law_found"]
theorem sc_L_whole : FnScope n_L_whole ["_law_found"] (defScope s_L_whole) := ⟨rfl, rfl, rfl, by decide +kernel, rfl, by decide +kernel, by decide +kernel⟩
/-! _law_is_strip: slots 0=_law_found 1=_law_due 2=_law_length_here 3=_law_mark -/
abbrev s_L_is_strip : Stmt := topS 28
abbrev n_L_is_strip : List Str := ["_law_found", "_law_due", "_law_length_here", "_law_mark"]
theorem sc_L_is_strip : FnScope n_L_is_strip ["_law_found", "_law_due"] (defScope s_L_is_strip) := ⟨rfl, rfl, rfl, by decide +kernel, rfl, by decide +kernel, by decide +kernel⟩
/-! _law_sole: slots 0=_law_error 1=_law_due 2=_law_kinds -/
abbrev s_L_sole : Stmt := topS 29
abbrev n_L_sole : List Str := ["_law_error", "_law_due", "_law_kinds"]
theorem sc_L_sole : FnScope n_L_sole ["_law_error", "_law_due"] (defScope s_L_sole) := ⟨rfl, rfl, rfl, by decide +kernel, rfl, by decide +kernel, by decide +kernel⟩
/-! _law_text: slots 0=_law_strip_here 1=_law_words 2=_law_k -/
abbrev s_L_text : Stmt := topS 30
abbrev n_L_text : List Str := ["_law_strip_here", "_law_words", "_law_k"]
theorem sc_L_text : FnScope n_L_text ["_law_strip_here"] (defScope s_L_text) := ⟨rfl, rfl, rfl, by decide +kernel, rfl, by decide +kernel, by decide +kernel⟩
/-! _law_length: slots 0=_law_word 1=_law_sign_here -/
abbrev s_L_length : Stmt := topS 31
abbrev n_L_length : List Str := ["_law_word", "_law_sign_here"]
theorem sc_L_length : FnScope n_L_length ["_law_word"] (defScope s_L_length) := ⟨rfl, rfl, rfl, by decide +kernel, rfl, by decide +kernel, by decide +kernel⟩
/-! _law_strip_of: slots 0=_law_text_here 1=_law_words 2=_law_lengths 3=_law_marks 4=_law_k -/
abbrev s_L_strip_of : Stmt := topS 32
abbrev n_L_strip_of : List Str := ["_law_text_here", "_law_words", "_law_lengths", "_law_marks", "_law_k"]
theorem sc_L_strip_of : FnScope n_L_strip_of ["_law_text_here"] (defScope s_L_strip_of) := ⟨rfl, rfl, rfl, by decide +kernel, rfl, by decide +kernel, by decide +kernel⟩
/-! _law_sign: slots 0=_law_cell 1=_law_some -/
abbrev s_L_sign : Stmt := topS 33
abbrev n_L_sign : List Str := ["_law_cell", "_law_some"]
theorem sc_L_sign : FnScope n_L_sign ["_law_cell"] (defScope s_L_sign) := ⟨rfl, rfl, rfl, by decide +kernel, rfl, by decide +kernel, by decide +kernel⟩
/-! _law_odd: slots 0=_law_cell 1=_law_some -/
abbrev s_L_odd : Stmt := topS 34
abbrev n_L_odd : List Str := ["_law_cell", "_law_some"]
theorem sc_L_odd : FnScope n_L_odd ["_law_cell"] (defScope s_L_odd) := ⟨rfl, rfl, rfl, by decide +kernel, rfl, by decide +kernel, by decide +kernel⟩
/-! _law_bent: slots 0=_law_text_here 1=_law_cell 2=_law_more 3=_law_at 4=_law_words 5=_law_one 6=_law_other 7=_law_kept -/
abbrev s_L_bent : Stmt := topS 35
abbrev n_L_bent : List Str := ["_law_text_here", "_law_cell", "_law_more", "_law_at", "_law_words", "_law_one", "_law_other", "_law_kept"]
theorem sc_L_bent : FnScope n_L_bent ["_law_text_here", "_law_cell", "_law_more"] (defScope s_L_bent) := ⟨rfl, rfl, rfl, by decide +kernel, rfl, by decide +kernel, by decide +kernel⟩
/-! _law_right: slots 0=_law_thing 1=_law_due 2=_law_found 3=_law_error -/
abbrev s_L_right : Stmt := topS 36
abbrev n_L_right : List Str := ["_law_thing", "_law_due", "_law_found", "_law_error"]
theorem sc_L_right : FnScope n_L_right ["_law_thing", "_law_due"] (defScope s_L_right) := ⟨rfl, rfl, rfl, by decide +kernel, rfl, by decide +kernel, by decide +kernel⟩
/-! law: slots 0=_law_script 1=_law_strip_here 2=_law_handed 3=_law_text_here 4=_law_bent_here 5=_law_more -/
abbrev s_law : Stmt := topS 37
abbrev n_law : List Str := ["_law_script", "_law_strip_here", "_law_handed", "_law_text_here", "_law_bent_here", "_law_more"]
theorem sc_law : FnScope n_law ["_law_script"] (defScope s_law) := ⟨rfl, rfl, rfl, by decide +kernel, rfl, by decide +kernel, by decide +kernel⟩
structure Fx (K : PySem.W.Frag) (mg : Str → Option Value) : Prop where
  d_is_whole : Df K mg "is_whole" s_is_whole ["thing"]
  d_is_mark : Df K mg "is_mark" s_is_mark ["thing"]
  d_need_lengths : Df K mg "need_lengths" s_need_lengths ["lengths"]
  d_checked : Df K mg "checked" s_checked ["strip"]
  d_written : Df K mg "written" s_written ["strip"]
  d_length_of : Df K mg "length_of" s_length_of ["word"]
  d_read : Df K mg "read" s_read ["text"]
  d_L_cell_at : Df K mg "_law_cell_at" s_L_cell_at ["_law_script", "_law_k"]
  d_L_unfolded : Df K mg "_law_unfolded" s_L_unfolded ["_law_script", "_law_first", "_law_many"]
  d_L_strip : Df K mg "_law_strip" s_L_strip ["_law_script"]
  d_L_whole : Df K mg "_law_whole" s_L_whole ["_law_found"]
  d_L_is_strip : Df K mg "_law_is_strip" s_L_is_strip ["_law_found", "_law_due"]
  d_L_sole : Df K mg "_law_sole" s_L_sole ["_law_error", "_law_due"]
  d_L_text : Df K mg "_law_text" s_L_text ["_law_strip_here"]
  d_L_length : Df K mg "_law_length" s_L_length ["_law_word"]
  d_L_strip_of : Df K mg "_law_strip_of" s_L_strip_of ["_law_text_here"]
  d_L_sign : Df K mg "_law_sign" s_L_sign ["_law_cell"]
  d_L_odd : Df K mg "_law_odd" s_L_odd ["_law_cell"]
  d_L_bent : Df K mg "_law_bent" s_L_bent ["_law_text_here", "_law_cell", "_law_more"]
  d_L_right : Df K mg "_law_right" s_L_right ["_law_thing", "_law_due"]
  d_law : Df K mg "law" s_law ["_law_script"]
structure Bx (mg : Str → Option Value) : Prop where
  b_len : mg "len" = none
  b_int : mg "int" = none
  b_str : mg "str" = none
  b_list : mg "list" = none
  b_tuple : mg "tuple" = none
  b_all : mg "all" = none
  b_range : mg "range" = none
  b_zip : mg "zip" = none
  b_isinstance : mg "isinstance" = none
  b_bool : mg "bool" = none
  b_ValueError : mg "ValueError" = none
variable {P : Program} {w : World} {K : PySem.W.Frag} {mg : Str → Option Value} {base : Heap}

/-! ### good strips -/
theorem pyget_mem {α : Type} [Inhabited α] {L : List α} {z : Int} (h : -(L.length : Int) ≤ z ∧ z < L.length) : pyget L z ∈ L := by
  unfold pyget
  have hk : (if 0 ≤ z then z else (L.length : Int) + z).toNat < L.length := by split <;> omega
  rw [List.getD_eq_getElem?_getD, List.getElem?_eq_getElem hk]
  exact List.getElem_mem hk
structure Good (n : Int) (ls : List Int) (ms : List Bool) : Prop where
  len : ls.length = ms.length + 1
  most : ls.length ≤ 30
  all : ∀ x ∈ ls, 1 ≤ x ∧ x ≤ n
theorem Good.pos {n : Int} {ls : List Int} {ms : List Bool} (g : Good n ls ms) : 1 ≤ ls.length := by have := g.len; omega
theorem Good.at {n : Int} {ls : List Int} {ms : List Bool} (g : Good n ls ms) {z : Int} (h : -(ls.length : Int) ≤ z ∧ z < ls.length) : 1 ≤ pyget ls z ∧ pyget ls z ≤ n := g.all _ (pyget_mem h)
theorem Good.mono {n m : Int} {ls : List Int} {ms : List Bool} (g : Good n ls ms) (h : n ≤ m) : Good m ls ms := ⟨g.len, g.most, fun x hx => by have := g.all x hx; omega⟩
/-- the data of a strip -/
def dS (ls : List Int) (ms : List Bool) : D := .tup [dI ls, dM ms]
def oS (ls : List Int) (ms : List Bool) : O := .tu [oI ls, oM ms]
theorem oS_data (ls : List Int) (ms : List Bool) : (oS ls ms).data = dS ls ms := by
  unfold oS dS
  rw [O.data, dataAll, dataAll, dataAll, oI_data, oM_data]
theorem Ev.ixHV {X : Cx} {ρ : Rho} {a b : Expr} {pos : Pos} {z : Int} (ha : Ev X ρ a (.lst [.str "hill", .str "valley"])) (hb : Ev X ρ b (.int z)) (hz : 0 ≤ z ∧ z < 2) (hs : PlainIx b := by exact fun _ _ => rfl) : Ev X ρ (.Subscript a b pos) (mkD (decide (z = 1))) :=
  (Ev.ix2 ha hb hz hs).is (by
    have : z = 0 ∨ z = 1 := by omega
    rcases this with rfl | rfl <;> rfl)
theorem Ev.ixVH {X : Cx} {ρ : Rho} {a b : Expr} {pos : Pos} {z : Int} (ha : Ev X ρ a (.lst [.str "valley", .str "hill"])) (hb : Ev X ρ b (.int z)) (hz : 0 ≤ z ∧ z < 2) (hs : PlainIx b := by exact fun _ _ => rfl) : Ev X ρ (.Subscript a b pos) (mkD (decide (z = 0))) :=
  (Ev.ix2 ha hb hz hs).is (by
    have : z = 0 ∨ z = 1 := by omega
    rcases this with rfl | rfl <;> rfl)

/-! ### places, first numbers -/
/-- the place at which the k-th piece begins -/
def plc (L : List Int) : Nat → Int
  | 0 => 0
  | k + 1 => if k % 2 = 0 then plc L k + L.getD k 0 else plc L k - L.getD k 0
def plcs (L : List Int) (n : Nat) : List Int := (List.range n).map (plc L)
theorem plcs_snoc (L : List Int) (n : Nat) : plcs L (n + 1) = plcs L n ++ [plc L n] := by unfold plcs; rw [List.range_succ, List.map_append]; rfl
theorem plcs_len (L : List Int) (n : Nat) : (plcs L n).length = n := by unfold plcs; simp
theorem plcs_last (L : List Int) (n : Nat) : pyget (plcs L (n + 1)) (-1) = plc L n := by
  rw [plcs_snoc]
  unfold pyget
  rw [if_neg (by omega)]
  have : ((plcs L n ++ [plc L n]).length + (-1) : Int).toNat = (plcs L n).length := by simp; omega
  rw [this]
  simp
theorem plcs_get (L : List Int) {n k : Nat} (h : k < n) : pyget (plcs L n) (k : Int) = plc L k := by
  rw [pyget_nat, List.getD_eq_getElem?_getD]
  unfold plcs
  rw [List.getElem?_map, List.getElem?_range h]
  rfl
/-- the k places in their order -/
def upto (n : Nat) : List Int := (List.range n).map fun (k : Nat) => (k : Int)
theorem upto_length (n : Nat) : (upto n).length = n := by unfold upto; simp
/-! ### orders -/
theorem upto_succ (n : Nat) : upto (n + 1) = upto n ++ [(n : Int)] := by unfold upto; rw [List.range_succ, List.map_append]; rfl
theorem mem_upto {n : Nat} {x : Int} : x ∈ upto n ↔ 0 ≤ x ∧ x < n := by
  unfold upto
  simp only [List.mem_map, List.mem_range]
  constructor
  · rintro ⟨k, hk, rfl⟩; omega
  · intro h; exact ⟨x.toNat, by omega, by omega⟩
theorem upto_pw (n : Nat) : (upto n).Pairwise (· ≤ ·) := by
  unfold upto
  rw [List.pairwise_map]
  exact List.pairwise_le_range.imp (by intro a b h; omega)
theorem upto_nodup (n : Nat) : (upto n).Nodup := by
  unfold upto List.Nodup
  rw [List.pairwise_map]
  exact (List.nodup_range (n := n)).imp (by intro a b h; omega)
theorem erase_perm {α : Type} {L : List α} {k : Nat} (h : k < L.length) : (L[k] :: L.eraseIdx k).Perm L := by
  rw [List.eraseIdx_eq_take_drop_succ]
  have e : L.take k ++ L[k] :: L.drop (k + 1) = L := by rw [← List.drop_eq_getElem_cons h, List.take_append_drop]
  have h1 := (List.perm_middle (a := L[k]) (l₁ := L.take k) (l₂ := L.drop (k + 1))).symm
  rw [e] at h1
  exact h1
theorem sort_upto {L : List Int} {n : Nat} (h : L.Perm (upto n)) : sortI L = upto n :=
  perm_sorted_unique ((sortI_perm L).trans h) (sortI_pw L) (upto_pw n)
theorem perm_ins {α : Type} (L : List α) (k : Nat) (x : α) : (L.take k ++ [x] ++ L.drop k).Perm (L ++ [x]) := by
  rw [List.append_assoc]
  have h := List.Perm.append_left (L.take k) (List.perm_append_comm (l₁ := [x]) (l₂ := L.drop k))
  rwa [← List.append_assoc (L.take k) (L.drop k), List.take_append_drop] at h
def partL (ls : List Int) (first last : Nat) : List Int := (ls.drop first).take (last + 1 - first)
def partM (ms : List Bool) (first last : Nat) : List Bool := (ms.drop first).take (last - first)
/-! ### whole numbers -/
def D.isInt : D → Bool
  | .int _ => true
  | _ => false
theorem Ev.isInt {X : Cx} {ρ : Rho} {a a' : Expr} {d : D} {p1 p2 p3 p4 p5 p6 q1 q2 : Pos} (hm : X.mg "isinstance" = none) (hi : X.mg "int" = none) (hb : X.mg "bool" = none) (hob : d.isOb = false)
    (h1 : ∀ c, kitB (tyD d) "int" = some c → Ev X ρ (.Call (.Name "isinstance" p1) [a, .Name "int" p2] [] p3) (.bl c)) (h2 : ∀ c, kitB (tyD d) "bool" = some c → Ev X ρ (.Call (.Name "isinstance" p4) [a', .Name "bool" p5] [] p6) (.bl c)) :
    Ev X ρ (.BoolOp .And [.Call (.Name "isinstance" p1) [a, .Name "int" p2] [] p3, .UnaryOp .Not (.Call (.Name "isinstance" p4) [a', .Name "bool" p5] [] p6) q1] q2) (.bl d.isInt) := by
  have main : ∀ c1 c2, kitB (tyD d) "int" = some c1 → kitB (tyD d) "bool" = some c2 → (c1 && !c2) = d.isInt → Ev X ρ (.BoolOp .And [.Call (.Name "isinstance" p1) [a, .Name "int" p2] [] p3, .UnaryOp .Not (.Call (.Name "isinstance" p4) [a', .Name "bool" p5] [] p6) q1] q2) (.bl d.isInt) :=
    fun c1 c2 e1 e2 e3 => (Ev.and (h1 c1 e1) fun _ => .one (.notV (h2 c2 e2))).is (by rw [e3])
  cases d with
  | non => exact main false false (show kitB (tyD .non) "int" = some false by decide +kernel) (show kitB (tyD .non) "bool" = some false by decide +kernel) rfl
  | bl b => exact main true true (show kitB (tyD (.bl true)) "int" = some true by decide +kernel) (show kitB (tyD (.bl true)) "bool" = some true by decide +kernel) rfl
  | int i => exact main true false (show kitB (tyD (.int 0)) "int" = some true by decide +kernel) (show kitB (tyD (.int 0)) "bool" = some false by decide +kernel) rfl
  | str x => exact main false false (show kitB (tyD (.str "")) "int" = some false by decide +kernel) (show kitB (tyD (.str "")) "bool" = some false by decide +kernel) rfl
  | lst x => exact main false false (show kitB (tyD (.lst [])) "int" = some false by decide +kernel) (show kitB (tyD (.lst [])) "bool" = some false by decide +kernel) rfl
  | tup x => exact main false false (show kitB (tyD (.tup [])) "int" = some false by decide +kernel) (show kitB (tyD (.tup [])) "bool" = some false by decide +kernel) rfl
  | ro x => exact main false false (show kitB (tyD (.ro [])) "int" = some false by decide +kernel) (show kitB (tyD (.ro [])) "bool" = some false by decide +kernel) rfl
  | dk x => exact main false false (show kitB (tyD (.dk [])) "int" = some false by decide +kernel) (show kitB (tyD (.dk [])) "bool" = some false by decide +kernel) rfl
  | dd k x => exact main false false (show kitB (tyD (.dk [])) "int" = some false by decide +kernel) (show kitB (tyD (.dk [])) "bool" = some false by decide +kernel) rfl
  | ob a k x => cases hob
  | raw a => cases hob

local macro_rules
  | `(tactic| walk_at "okp") => `(tactic| first | exact trivial | exact ⟨trivial, fun _ h => by cases h; walk_at "okp"⟩ | exact ⟨⟨rfl, rfl⟩, fun _ h => by cases h; walk_at "okp"⟩ | exact ⟨rfl, fun _ h => by cases h; walk_at "okp"⟩)
local macro_rules
  | `(tactic| walk_at "nm") => `(tactic| first | exact Ev.name 0 | exact Ev.name 1 | exact Ev.name 2 | exact Ev.name 3 | exact Ev.name 4 | exact Ev.name 5 | exact Ev.name 6 | exact Ev.name 7 | exact Ev.name 8 | exact Ev.name 9 | exact Ev.name 10 | exact Ev.name 11 | exact Ev.name 12 | exact Ev.name 13 | exact Ev.name 14 | exact Ev.name 15 | exact Ev.name 16)
local macro_rules
  | `(tactic| walk_at "sd") => `(tactic| first | assumption | omega | (simp; done) | (simp; omega) | decide | (unfold CDiv; omega) | (unfold CMul; omega))
local macro_rules
  | `(tactic| walk_at "cd") => `(tactic| first | exact CmpD.eqI | exact CmpD.lt | exact CmpD.le | exact CmpD.neI | exact CmpD.gt | exact CmpD.ge | exact CmpD.eqS | exact CmpD.neS | exact CmpD.eqB | exact CmpD.neB | exact CmpD.isN | exact CmpD.isNotN | exact CmpD.isB | exact CmpD.isNotB | exact CmpD.neM | exact CmpD.eqM | exact CmpD.eqMh | exact CmpD.eqMv)
local macro_rules
  | `(tactic| walk_at "ev") => `(tactic| first
    | exact Ev.int
    | exact Ev.str
    | walk_at "nm"
    | exact Ev.bl
    | exact Ev.non
    | (refine' Ev.add ?a ?b; (case a => walk_at "ev"); (case b => walk_at "ev"))
    | (refine' Ev.sub ?a ?b; (case a => walk_at "ev"); (case b => walk_at "ev"))
    | (refine' Ev.neg ?a; (case a => walk_at "ev"))
    | (refine' Ev.ixT0 ?a; (case a => walk_at "ev"))
    | (refine' Ev.ixT1 ?a; (case a => walk_at "ev"))
    | (refine' Ev.ixI ?a ?b ?c; (case a => walk_at "ev"); (case b => walk_at "ev"); (case c => walk_at "sd"))
    | (refine' Ev.ixM ?a ?b ?c; (case a => walk_at "ev"); (case b => walk_at "ev"); (case c => walk_at "sd"))
    | (refine' Ev.ixRoI ?a ?b ?c; (case a => walk_at "ev"); (case b => walk_at "ev"); (case c => walk_at "sd"))
    | (refine' Ev.ixHV ?a ?b ?c; (case a => walk_at "ev"); (case b => walk_at "ev"); (case c => walk_at "sd"))
    | (refine' Ev.ixVH ?a ?b ?c; (case a => walk_at "ev"); (case b => walk_at "ev"); (case c => walk_at "sd"))
    | (refine' Ev.ix2 ?a ?b ?c; (case a => walk_at "ev"); (case b => walk_at "ev"); (case c => walk_at "sd"))
    | (refine' Ev.mod ?a ?b ?c; (case a => walk_at "ev"); (case b => walk_at "ev"); (case c => walk_at "sd"))
    | (refine' Ev.div ?a ?b ?c; (case a => walk_at "ev"); (case b => walk_at "ev"); (case c => walk_at "sd"))
    | (refine' Ev.mul ?a ?b ?c; (case a => walk_at "ev"); (case b => walk_at "ev"); (case c => walk_at "sd"))
    | (refine' Ev.lenI ?h ?a; (case h => assumption); (case a => walk_at "ev"))
    | (refine' Ev.lenM ?h ?a; (case h => assumption); (case a => walk_at "ev"))
    | (refine' Ev.lenRoI ?h ?a; (case h => assumption); (case a => walk_at "ev"))
    | (refine' Ev.min2 rfl ?h ?a ?b; (case h => assumption); (case a => walk_at "ev"); (case b => walk_at "ev"))
    | (refine' Ev.max2 rfl ?h ?a ?b; (case h => assumption); (case a => walk_at "ev"); (case b => walk_at "ev"))
    | (refine' Ev.intB ?h ?a; (case h => assumption); (case a => walk_at "ev"))
    | (refine' Ev.cmp ?a ?b ?c; (case a => walk_at "ev"); (case b => walk_at "ev"); (case c => walk_at "cd"))
    | (refine' Ev.list ?a; (case a => walk_at "ea"))
    | (refine' Ev.tup ?a; (case a => walk_at "ea")))
local macro_rules
  | `(tactic| walk_at "ea") => `(tactic| first
    | exact EvA.nil
    | (refine' EvA.cons ?a ?b; (case a => walk_at "ev"); (case b => walk_at "ea")))
local macro_rules
  | `(tactic| walk_at "et") => `(tactic| first
    | (refine' EvT.cmp ?a ?b ?c; (case a => walk_at "ev"); (case b => walk_at "ev"); (case c => walk_at "cd"))
    | (refine' EvT.not ?a; (case a => walk_at "et"))
    | (refine' EvT.bool ?a; (case a => walk_at "ew"))
    | (refine' EvT.val ?a; (case a => walk_at "ev")))
local macro_rules
  | `(tactic| walk_at "ew") => `(tactic| first
    | (refine' EvW'.and1 ?a; (case a => walk_at "et"))
    | (refine' EvW'.or1 ?a; (case a => walk_at "et"))
    | (refine' EvW'.and ?a (fun h => ?b); (case a => walk_at "et"); (case b => ((try simp only [decide_eq_true_eq, Bool.not_eq_true', decide_eq_false_iff_not] at h); walk_at "ew")))
    | (refine' EvW'.or ?a (fun h => ?b); (case a => walk_at "et"); (case b => ((try simp only [decide_eq_true_eq, Bool.not_eq_true', decide_eq_false_iff_not] at h); walk_at "ew"))))

/-! ### texts, plain (k14) -/
section
open TL (tl numL spl joinL)
theorem tl_figs : tl ("0123456789" : Str) = [48, 49, 50, 51, 52, 53, 54, 55, 56, 57] := by decide +kernel
theorem fig_iff (c : Nat) : c ∈ tl ("0123456789" : Str) ↔ 48 ≤ c ∧ c ≤ 57 := by
  rw [tl_figs]
  simp only [List.mem_cons, List.not_mem_nil, or_false]
  omega
/-- the length that a word writes -/
def lenOf (w : Str) : Option Nat := if 1 ≤ w.length ∧ w.length ≤ 4 ∧ (tl w)[0]? ≠ some 48 ∧ ∀ c ∈ tl w, 48 ≤ c ∧ c ≤ 57 then some (NumText.digitsVal (tl w)) else none
theorem lenOf_some {w : Str} {n : Nat} (h : lenOf w = some n) : (1 ≤ w.length ∧ w.length ≤ 4 ∧ (tl w)[0]? ≠ some 48 ∧ ∀ c ∈ tl w, 48 ≤ c ∧ c ≤ 57) ∧ n = NumText.digitsVal (tl w) := by
  unfold lenOf at h
  split at h
  · rename_i hh
    exact ⟨hh, (Option.some.inj h).symm⟩
  · cases h
theorem lenOf_pos {w : Str} {n : Nat} (h : lenOf w = some n) : 1 ≤ n := by
  obtain ⟨⟨h1, _, h2, h3⟩, rfl⟩ := lenOf_some h
  rw [TL.len_tl] at h1
  match e : tl w with
  | [] => rw [e] at h1; simp at h1
  | c :: r =>
    rw [e] at h2 h3
    have := h3 c (List.mem_cons_self ..)
    have h2 : c ≠ 48 := by simpa using h2
    exact NumText.digitsVal_pos (by omega)
theorem lenOf_int {w : Str} {n : Nat} (h : lenOf w = some n) : PySem.intText? w = some (n : Int) := by
  obtain ⟨⟨h1, h4, h2, h3⟩, rfl⟩ := lenOf_some h
  exact PySem.intText_digits (x := w) h3 (fun e => by rw [TL.len_tl] at h1; rw [show tl w = [] from e] at h1; simp at h1) (by omega)
abbrev num (n : Int) : Str := toString n
theorem tl_numI {n : Int} (h : 0 ≤ n) : tl (num n) = numL n.toNat := by
  have e : n = ((n.toNat : Nat) : Int) := by omega
  rw [e]
  exact TL.tl_num _
theorem lenOf_num {n : Int} (h : 1 ≤ n) (h2 : n ≤ 9999) : lenOf (num n) = some n.toNat := by
  have e := tl_numI (n := n) (by omega)
  have hl := TL.numL_len (n := n.toNat) (k := 4) (by decide) (by omega)
  have hne := TL.numL_ne n.toNat
  have hd := TL.numL_digits n.toNat
  unfold lenOf
  rw [TL.len_tl, e]
  rw [if_pos, TL.numL_val]
  refine ⟨?_, hl, ?_, hd⟩
  · cases q : numL n.toNat with
    | nil => exact absurd q hne
    | cons a r => simp
  · intro q
    have key : ∀ m : Nat, 1 ≤ m → (numL m)[0]? ≠ some 48 := by
      intro m
      induction m using Nat.strongRecOn with
      | _ m ih =>
        intro hm
        by_cases h10 : m < 10
        · rw [TL.numL_lt h10]; simp; omega
        · rw [TL.numL_step (by omega)]
          have := ih (m / 10) (by omega) (by omega)
          cases q2 : numL (m / 10) with
          | nil => exact absurd q2 (TL.numL_ne _)
          | cons a r => rw [q2] at this; simpa using this
    exact key n.toNat (by omega) q
def sgn (m : Bool) : Str := if m then "v" else "h"
def markOf (w : Str) : Option Bool := if w = "v" then some true else if w = "h" then some false else none
theorem sgn_ne : ("v" : Str) ≠ "h" := by decide
theorem markOf_sgn (m : Bool) : markOf (sgn m) = some m := by cases m <;> decide
theorem markOf_some {w : Str} {m : Bool} (h : markOf w = some m) : w = sgn m := by
  unfold markOf at h
  split at h
  · cases h; assumption
  · split at h
    · cases h; assumption
    · cases h
theorem markOf_none {w : Str} : markOf w = none ↔ w ∉ (["v", "h"] : List Str) := by
  unfold markOf
  simp only [List.mem_cons, List.not_mem_nil, or_false, not_or]
  split
  · simp_all
  · split
    · simp_all
    · simp_all
/-- what words write -/
def GoodT (W : List Str) : Prop := (∀ w ∈ alt W, ∃ n, lenOf w = some n ∧ n ≤ 1000) ∧ (∀ w ∈ alt (W.drop 1), ∃ m, markOf w = some m) ∧ (alt W).length ≤ 30 ∧ W.length % 2 = 1
def lsT (W : List Str) : List Int := (alt W).map fun w => (((lenOf w).getD 0 : Nat) : Int)
def msT (W : List Str) : List Bool := (alt (W.drop 1)).map fun w => (markOf w).getD false
abbrev wordsT (t : Str) : List Str := Txt.split t " "
/-! the words of a text -/
theorem spl_ne (S : List Nat) : ∀ (l : List Nat) (k : Nat) (acc : List Nat), spl S k acc l ≠ []
  | [], k, acc => by rw [TL.spl_nil]; simp
  | c :: r, k, acc => by
    rw [TL.spl_pass]
    cases k with
    | zero =>
      rw [List.drop_zero]
      cases h : TL.pre S (c :: r) with
      | true => rw [TL.spl_hit h]; simp
      | false => rw [TL.spl_miss h]; exact spl_ne S r 0 _
    | succ k => exact TL.spl_pass S k acc r ▸ spl_ne S r k acc
theorem spl_le (S : List Nat) : ∀ (l : List Nat) (k : Nat) (acc : List Nat), ∀ p ∈ spl S k acc l, p.length ≤ acc.length + l.length
  | [], k, acc, p, h => by
    rw [TL.spl_nil] at h
    simp at h; subst h; simp
  | c :: r, k, acc, p, h => by
    rw [TL.spl_pass] at h
    cases k with
    | zero =>
      rw [List.drop_zero] at h
      cases q : TL.pre S (c :: r) with
      | true =>
        rw [TL.spl_hit q] at h
        rcases List.mem_cons.mp h with e | h
        · subst e; omega
        · have := spl_le S r _ _ p h
          simp at this ⊢; omega
      | false =>
        rw [TL.spl_miss q] at h
        have := spl_le S r _ _ p h
        simp at this ⊢; omega
    | succ k =>
      have h' : p ∈ spl S k acc r := by rw [TL.spl_pass]; exact h
      have := spl_le S r _ _ p h'
      simp; omega
theorem tl_blank : tl (" " : Str) = [32] := by decide +kernel
theorem wordsT_tl (t : Str) : (wordsT t).map tl = spl [32] 0 [] (tl t) := by
  have := TL.split_spl t " " (by rw [tl_blank]; simp) (TL.kind_ok (by decide +kernel))
  rw [tl_blank] at this
  exact this
theorem wordsT_ne (t : Str) : wordsT t ≠ [] := fun e => by
  have := wordsT_tl t
  rw [e] at this
  exact spl_ne _ _ _ _ this.symm
theorem wordsT_le {t w : Str} (h : w ∈ wordsT t) : w.length ≤ t.length := by
  have h2 : tl w ∈ spl [32] 0 [] (tl t) := by rw [← wordsT_tl]; exact List.mem_map_of_mem h
  have := spl_le _ _ _ _ _ h2
  rw [TL.len_tl, TL.len_tl]
  simpa using this
theorem wordsT_len (t : Str) : (wordsT t).length ≤ t.length + 2 := PyProof.Rows.split_le t " "
theorem wordsT_join {W : List Str} (hne : W ≠ []) (h : ∀ w ∈ W, 32 ∉ tl w) : wordsT (Txt.join " " W) = W := TL.split_join tl_blank (by decide +kernel) hne h
/-! the text of a strip -/
def wordsOf (a : Int) (ps : List (Int × Bool)) : List Str := num a :: ps.flatMap fun p => [sgn p.2, num p.1]
def textF (ls : List Int) (ms : List Bool) : Str := Txt.join " " (wordsOf (ls.getD 0 0) ((ls.drop 1).zip ms))
theorem join_tl (W : List Str) : tl (Txt.join " " W) = joinL [32] (W.map tl) := by rw [TL.join_eq, TL.tl_join, tl_blank]
theorem joinL_cons (S a : List Nat) : ∀ r : List (List Nat), joinL S (a :: r) = a ++ r.flatMap fun x => S ++ x
  | [] => by simp [joinL]
  | b :: r => by
    show a ++ (S ++ joinL S (b :: r)) = _
    rw [joinL_cons S b r]
    simp
theorem join_snoc2 {a : Str} {W : List Str} (x y : Str) : Txt.join " " (a :: (W ++ [x, y])) = Txt.join " " (a :: W) ++ " " ++ x ++ " " ++ y := by
  apply TL.ext_tl
  rw [join_tl, TL.tl_append, TL.tl_append, TL.tl_append, TL.tl_append, join_tl, tl_blank, List.map_cons, List.map_cons, joinL_cons, joinL_cons]
  simp
theorem join_len (W : List Str) (k : Nat) (h : ∀ w ∈ W, w.length ≤ k) : (Txt.join " " W).length ≤ W.length * (k + 1) := by
  rw [TL.len_tl, join_tl]
  cases W with
  | nil => simp [joinL]
  | cons a r =>
    rw [List.map_cons, joinL_cons, List.length_append, List.flatMap_map]
    have h1 := h a (List.mem_cons_self ..)
    have h2 : ∀ r : List Str, (∀ w ∈ r, w.length ≤ k) → (r.flatMap fun x => [32] ++ tl x).length ≤ r.length * (k + 1) := by
      intro r
      induction r with
      | nil => simp
      | cons b r ih =>
        intro h
        rw [List.flatMap_cons, List.length_append]
        have := ih fun w hw => h w (List.mem_cons_of_mem _ hw)
        have hb := h b (List.mem_cons_self ..)
        rw [TL.len_tl] at hb
        simp only [List.length_append, List.length_cons, List.length_nil] at this ⊢
        rw [Nat.add_mul]
        omega
    have := h2 r fun w hw => h w (List.mem_cons_of_mem _ hw)
    rw [TL.len_tl] at h1
    rw [List.length_cons, Nat.add_mul]
    omega
theorem sum_len (W : List Str) (k : Nat) (h : ∀ w ∈ W, w.length ≤ k) : (W.map (·.length)).sum ≤ W.length * k := by
  induction W with
  | nil => simp
  | cons a r ih =>
    have := ih fun w hw => h w (List.mem_cons_of_mem _ hw)
    have h1 := h a (List.mem_cons_self ..)
    simp only [List.map_cons, List.sum_cons, List.length_cons, Nat.add_mul]
    omega
theorem num_len {n : Int} (h : 0 ≤ n) (h2 : n ≤ 9999) : (num n).length ≤ 4 := by
  rw [TL.len_tl, tl_numI h]
  exact TL.numL_len (by decide) (by omega)
theorem sgn_len (m : Bool) : (sgn m).length = 1 := by cases m <;> decide
theorem num_free {n : Int} (h : 0 ≤ n) : 32 ∉ tl (num n) := by rw [tl_numI h]; exact TL.numL_free (by omega)
theorem sgn_free (m : Bool) : 32 ∉ tl (sgn m) := by cases m <;> decide +kernel
theorem wordsOf_length (a : Int) (ps : List (Int × Bool)) : (wordsOf a ps).length = 1 + 2 * ps.length := by
  unfold wordsOf
  rw [List.length_cons, List.length_flatMap]
  have : ∀ ps : List (Int × Bool), (ps.map fun p => [sgn p.2, num p.1].length).sum = 2 * ps.length := by
    intro ps
    induction ps with
    | nil => rfl
    | cons p ps ih => rw [List.map_cons, List.sum_cons, ih]; simp only [List.length_cons, List.length_nil]; omega
  rw [this]; omega
theorem wordsOf_mem {a : Int} {ps : List (Int × Bool)} {w : Str} (h : w ∈ wordsOf a ps) : w = num a ∨ ∃ p ∈ ps, w = sgn p.2 ∨ w = num p.1 := by
  unfold wordsOf at h
  rcases List.mem_cons.mp h with h | h
  · exact .inl h
  · obtain ⟨p, hp, hw⟩ := List.mem_flatMap.mp h
    refine .inr ⟨p, hp, ?_⟩
    simpa using hw
theorem wordsOf_snoc (a : Int) (ps : List (Int × Bool)) (p : Int × Bool) : wordsOf a (ps ++ [p]) = wordsOf a ps ++ [sgn p.2, num p.1] := by
  unfold wordsOf
  simp
theorem alt_wordsOf (a : Int) : ∀ ps : List (Int × Bool), alt (wordsOf a ps) = num a :: ps.map fun p => num p.1
  | [] => rfl
  | p :: ps => by
    have := alt_wordsOf p.1 ps
    show num a :: alt (num p.1 :: ps.flatMap fun p => [sgn p.2, num p.1]) = _
    rw [show num p.1 :: (ps.flatMap fun p => [sgn p.2, num p.1]) = wordsOf p.1 ps from rfl, this]
    rfl
theorem alt_wordsOf1 (a : Int) : ∀ ps : List (Int × Bool), alt ((wordsOf a ps).drop 1) = ps.map fun p => sgn p.2
  | [] => rfl
  | p :: ps => by
    have := alt_wordsOf1 p.1 ps
    show alt (sgn p.2 :: num p.1 :: ps.flatMap fun p => [sgn p.2, num p.1]) = _
    cases ps with
    | nil => rfl
    | cons p2 ps2 =>
      show sgn p.2 :: alt (sgn p2.2 :: num p2.1 :: ps2.flatMap fun p => [sgn p.2, num p.1]) = _
      rw [show sgn p2.2 :: num p2.1 :: (ps2.flatMap fun p => [sgn p.2, num p.1]) = (wordsOf p.1 (p2 :: ps2)).drop 1 from rfl, this]
      rfl
section
variable {ls : List Int} {ms : List Bool}
theorem textF_words (hl : ms.length + 1 = ls.length) (hb : ∀ x ∈ ls, 1 ≤ x ∧ x ≤ 1000) : wordsT (textF ls ms) = wordsOf (ls.getD 0 0) ((ls.drop 1).zip ms) := by
  have h0 : 1 ≤ ls.getD 0 0 ∧ ls.getD 0 0 ≤ 1000 := by
    cases ls with
    | nil => simp at hl
    | cons a r => exact hb a (List.mem_cons_self ..)
  refine wordsT_join (by unfold wordsOf; simp) fun w hw => ?_
  rcases wordsOf_mem hw with rfl | ⟨p, hp, rfl | rfl⟩
  · exact num_free (by omega)
  · exact sgn_free _
  · have := hb p.1 (List.mem_of_mem_drop (List.of_mem_zip hp).1)
    exact num_free (by omega)
theorem zip_fst' {α β : Type} : ∀ (a : List α) (b : List β), a.length = b.length → (a.zip b).map (·.1) = a
  | [], _, _ => rfl
  | x :: xs, [], h => by simp at h
  | x :: xs, y :: ys, h => by simp only [List.zip_cons_cons, List.map_cons]; rw [zip_fst' xs ys (by simpa using h)]
theorem zip_snd' {α β : Type} : ∀ (a : List α) (b : List β), a.length = b.length → (a.zip b).map (·.2) = b
  | [], [], _ => rfl
  | [], y :: ys, h => by simp at h
  | x :: xs, [], h => by simp at h
  | x :: xs, y :: ys, h => by simp only [List.zip_cons_cons, List.map_cons]; rw [zip_snd' xs ys (by simpa using h)]
/-- the text of a strip writes it -/
theorem textF_good (hl : ms.length + 1 = ls.length) (hb : ∀ x ∈ ls, 1 ≤ x ∧ x ≤ 1000) (h30 : ls.length ≤ 30) : GoodT (wordsT (textF ls ms)) ∧ lsT (wordsT (textF ls ms)) = ls ∧ msT (wordsT (textF ls ms)) = ms := by
  rw [textF_words hl hb]
  have hz : ((ls.drop 1).zip ms).length = ms.length := by simp; omega
  obtain ⟨a, r, rfl⟩ : ∃ a r, ls = a :: r := by
    cases ls with
    | nil => simp at hl
    | cons a r => exact ⟨a, r, rfl⟩
  have ha := hb a (List.mem_cons_self ..)
  have hr : ∀ x ∈ r, 1 ≤ x ∧ x ≤ 1000 := fun x hx => hb x (List.mem_cons_of_mem _ hx)
  show GoodT (wordsOf a (r.zip ms)) ∧ lsT (wordsOf a (r.zip ms)) = a :: r ∧ msT (wordsOf a (r.zip ms)) = ms
  have hrl : r.length = ms.length := by simp at hl; omega
  have ev : ∀ x : Int, 1 ≤ x ∧ x ≤ 1000 → (((lenOf (num x)).getD 0 : Nat) : Int) = x := fun x hx => by
    rw [lenOf_num hx.1 (by omega)]; simp; omega
  refine ⟨⟨fun w hw => ?_, fun w hw => ?_, ?_, ?_⟩, ?_, ?_⟩
  · rw [alt_wordsOf] at hw
    rcases List.mem_cons.mp hw with rfl | hw
    · exact ⟨_, lenOf_num ha.1 (by omega), by omega⟩
    · obtain ⟨p, hp, rfl⟩ := List.mem_map.mp hw
      have := hr p.1 (List.of_mem_zip hp).1
      exact ⟨_, lenOf_num this.1 (by omega), by omega⟩
  · rw [alt_wordsOf1] at hw
    obtain ⟨p, hp, rfl⟩ := List.mem_map.mp hw
    exact ⟨_, markOf_sgn _⟩
  · rw [alt_wordsOf]; simp at h30 ⊢; omega
  · rw [wordsOf_length]; omega
  · unfold lsT
    rw [alt_wordsOf, List.map_cons, ev a ha, List.map_map]
    have : (r.zip ms).map ((fun w => (((lenOf w).getD 0 : Nat) : Int)) ∘ fun p => num p.1) = (r.zip ms).map (·.1) := List.map_congr_left fun p hp => ev _ (hr _ (List.of_mem_zip hp).1)
    rw [this, zip_fst' _ _ hrl]
  · unfold msT
    rw [alt_wordsOf1, List.map_map]
    have : (r.zip ms).map ((fun w => (markOf w).getD false) ∘ fun p => sgn p.2) = (r.zip ms).map (·.2) := List.map_congr_left fun p hp => by
      show (markOf (sgn p.2)).getD false = p.2
      rw [markOf_sgn]; rfl
    rw [this, zip_snd' _ _ hrl]
theorem textF_len (hl : ms.length + 1 = ls.length) (hb : ∀ x ∈ ls, 1 ≤ x ∧ x ≤ 1000) (h30 : ls.length ≤ 30) : (textF ls ms).length ≤ 295 := by
  have h0 : 1 ≤ ls.getD 0 0 ∧ ls.getD 0 0 ≤ 1000 := by
    cases ls with
    | nil => simp at hl
    | cons a r => exact hb a (List.mem_cons_self ..)
  refine Nat.le_trans (join_len _ 4 fun w hw => ?_) ?_
  · rcases wordsOf_mem hw with rfl | ⟨p, hp, rfl | rfl⟩
    · exact num_len (by omega) (by omega)
    · rw [sgn_len]; omega
    · have := hb p.1 (List.mem_of_mem_drop (List.of_mem_zip hp).1)
      exact num_len (by omega) (by omega)
  · rw [wordsOf_length]
    simp
    omega
end
end

/-! ### kinds -/
theorem kb_lst {x : List D} : kitB (tyD (.lst x)) "list" = some true := show kitB (tyD (.lst [])) "list" = some true by decide +kernel
theorem kb_tup {x : List D} : kitB (tyD (.tup x)) "tuple" = some true := show kitB (tyD (.tup [])) "tuple" = some true by decide +kernel
theorem kb_str {x : Str} : kitB (tyD (.str x)) "str" = some true := show kitB (tyD (.str "")) "str" = some true by decide +kernel
theorem kb_bl {x : Bool} : kitB (tyD (.bl x)) "bool" = some true := show kitB (tyD (.bl true)) "bool" = some true by decide +kernel

/-! ### is_whole -/
theorem isw_ok (T : Fx K mg) (B : Bx mg) (d : D) (hob : d.isOb = false := by rfl) : VF P w K mg base 1 "is_whole" [d] (fun o => o = .sh (.bl d.isInt)) := by
  refine VF.of T.d_is_whole sc_is_whole rfl fun f cdv A outer s H E hr => ?_
  have hB := B; cases hB
  refine' Ws.ret (.bor ?a rfl rfl)
  case a =>
    refine' Ev.isInt ?m1 ?m2 ?m3 hob ?i ?j
    case i => exact fun c hc => .isi (by assumption) (by assumption) (.name 0) hc hob
    case j => exact fun c hc => .isi (by assumption) (by assumption) (.name 0) hc hob
    all_goals assumption

/-! ### _law_cell_at -/
def cellF (ns : List Int) (k : Int) : Int := if k < ns.length then (pyget ns k * 48271 + 7919 * k) % 2147483647 else 0
theorem cellF_nn (ns : List Int) (k : Int) : 0 ≤ cellF ns k := by unfold cellF; split <;> omega
theorem cellF_lt (ns : List Int) (k : Int) : cellF ns k < 2147483647 := by unfold cellF; split <;> omega
theorem cell_ok (T : Fx K mg) (B : Bx mg) (ns : List Int) (k : Int) (hk : 0 ≤ k) : VF P w K mg base 1 "_law_cell_at" [.ro (ns.map D.int), .int k] (fun o => o = .sh (.int (cellF ns k))) := by
  refine VF.of T.d_L_cell_at sc_L_cell_at rfl fun f cdv A outer s H E hr => ?_
  have hB := B; cases hB
  refine' Ws.if ?t (fun h => ?y) (fun h => ?n)
  case t => walk_at "et"
  case y =>
    simp at h
    refine' Ws.ret (.bor ?a ?f ?g)
    case a => walk_at "ev"
    case f => rfl
    case g => show O.sh _ = O.sh _; rw [cellF, if_pos h]
  case n =>
    simp at h
    refine' Ws.nil (Ws.ret (.bor ?a ?f ?g))
    case a => walk_at "ev"
    case f => rfl
    case g => show O.sh _ = O.sh _; rw [cellF, if_neg (by omega)]
theorem Ev.cell {X : Cx} {ρ : Rho} {a b : Expr} {p pos : Pos} {ns : List Int} {k : Int} {j : Nat} (T : Fx X.K X.mg) (B : Bx X.mg) (hr : Room (j + 1) X.A) (ha : Ev X ρ a (.ro (ns.map D.int))) (hb : Ev X ρ b (.int k)) (hk : 0 ≤ k) (hg : Gl X "_law_cell_at" := by rfl)
    (hs : starEach [a, b] X.env = (false, eval a X.env) :: starEach [b] X.env := by rfl) (hs2 : starEach [b] X.env = (false, eval b X.env) :: starEach [] X.env := by rfl) (hpl : (backTo pos (starEach [b] X.env)).any (·.1) = false := by rfl) : Ev X ρ (.Call (.Name "_law_cell_at" p) [a, b] [] pos) (.int (cellF ns k)) :=
  .call (cell_ok T B ns k hk) (hr.mono (by omega)) (.two ha hb hs hs2) (fun o' e => by rw [e, O.data]) hg (by decide) hs hpl

/-! ### _law_unfolded -/
theorem good_pleat {ls : List Int} {ms : List Bool} (g : Good 9 ls ms) {a : Nat} (ha : a < ls.length) (hl : ls.length < 29) {st sh : Int} (h0 : 0 ≤ st) (h1 : st < ls.getD a 0) (h2 : 1 ≤ sh) (h3 : sh ≤ ls.getD a 0 - st) (m1 m2 : Bool) :
    Good 9 (ls.take a ++ [sh + st, sh, ls.getD a 0 - st] ++ ls.drop (a + 1)) (ms.take a ++ [m1, m2] ++ ms.drop a) := by
  have gl := g.len
  have hx : ls.getD a 0 ∈ ls := by
    rw [List.getD_eq_getElem?_getD, List.getElem?_eq_getElem ha]
    exact List.getElem_mem ha
  have := g.all _ hx
  refine ⟨?_, ?_, fun x hx => ?_⟩
  · simp; omega
  · simp; omega
  · simp only [List.mem_append, List.mem_cons, List.not_mem_nil, or_false] at hx
    rcases hx with (hx | hx) | hx
    · exact g.all x (List.mem_of_mem_take hx)
    · rcases hx with rfl | rfl | rfl <;> omega
    · exact g.all x (List.mem_of_mem_drop hx)
theorem unfolded_ok (T : Fx K mg) (B : Bx mg) (ns : List Int) (first many : Int) (hf : 0 ≤ first) (hm : 0 ≤ many ∧ many ≤ 1000) : VF P w K mg base 2 "_law_unfolded" [.ro (ns.map D.int), .int first, .int many] (fun o => ∃ ls ms, o = oS ls ms ∧ Good 9 ls ms) := by
  refine VF.of T.d_L_unfolded sc_L_unfolded rfl fun f cdv A outer s H E hr => ?_
  have hB := B; cases hB
  refine' Ws.asg 3 sc_L_unfolded.nd (.own (.list (.one (.add .int (.mod (.cell T B hr ?a ?b hf) .int (by decide))))) (oL_data _) ?_)
  case a => walk_at "nm"
  case b => walk_at "nm"
  have c0 := cellF_nn ns first
  generalize cellF ns first = c at c0 ⊢
  refine' Ws.asg 4 sc_L_unfolded.nd (.own (.list .nil) (oL_data _) ?_)
  refine' Ws.for (fun i ρ => ∃ ls ms x5 x6 x7 x8 x9 x10, ρ = [some (.sh (.ro (ns.map D.int))), some (.sh (.int first)), some (.sh (.int many)), some (.oi ls), some (.om ms), x5, x6, x7, x8, x9, x10] ∧ Good 9 ls ms) [5] (fun i => [.int (i : Int)]) .never rfl (.range1 (j := many) (by assumption) ?a (by omega)) ?b ?c ?d ?e
  case a => walk_at "nm"
  case b =>
    intro i d hd
    obtain ⟨_, rfl⟩ := rangeD_get hd
    rw [show (0 : Int) + (i : Int) = i by omega]
    exact .name 5 sc_L_unfolded.nd
  case c => exact ⟨[1 + c % 9], [], _, _, _, _, _, _, rfl, rfl, by simp, by simp; omega⟩
  case e =>
    rintro ρ ⟨ls, ms, x5, x6, x7, x8, x9, x10, rfl, g⟩ _
    exact Ws.ret (.tup2 3 4 (by decide) ⟨ls, ms, rfl, g⟩ (oI_data _) (oM_data _))
  case d =>
    rintro i d ρ hd ⟨ls, ms, x5, x6, x7, x8, x9, x10, rfl, g⟩ _
    have hi := (rangeD_get hd).1
    have gl := g.len
    have gm := g.most
    have gp := g.pos
    have g0 := g.at (z := 0) (by omega)
    have g1 := g.at (z := -1) (by omega)
    refine' Ws.asg 6 sc_L_unfolded.nd (.bor (.add (.cell T B hr ?a ?b ?c) ?d) rfl ?_)
    case a => walk_at "nm"
    case b => walk_at "ev"
    case c => walk_at "sd"
    case d => walk_at "ev"
    have c1 := cellF_nn ns (first + 1 + (i : Int) % 12)
    generalize hc2 : cellF ns (first + 1 + (i : Int) % 12) + 31 * (i : Int) = c2
    have c2n : 0 ≤ c2 := by omega
    clear hc2 c1
    refine' Ws.asg 7 sc_L_unfolded.nd (.bor (.ixHV ?a ?b ?c) rfl ?_)
    case a => walk_at "ev"
    case b => walk_at "ev"
    case c => walk_at "sd"
    generalize decide (c2 / 3 % 2 = 1) = mk1
    refine' Ws.if (.bool ?t) (fun h => ?y) (fun h => ?n)
    case t => walk_at "ew"
    case y =>
      simp at h
      refine' Ws.insert 3 (((1 + c2 / 6 % pyget ls 0) :: ls).map D.int) .int ?a rfl (by omega) (by simp; omega) rfl ?_
      case a => walk_at "ev"
      refine' Ws.insert 4 ((mk1 :: ms).map mkD) .int (d := mkD mk1) ?a rfl (by omega) (by simp; omega) rfl ?_
      case a => walk_at "ev"
      refine .nil (.nil ⟨_, _, _, _, _, _, _, _, rfl, by simp [gl], by simp; omega, fun x hx => ?_⟩)
      rcases List.mem_cons.mp hx with rfl | hx
      · have := Int.emod_nonneg (c2 / 6) (show pyget ls 0 ≠ 0 by omega)
        have := Int.emod_lt_of_pos (c2 / 6) (show 0 < pyget ls 0 by omega)
        omega
      · exact g.all x hx
    case n =>
      clear h
      refine' Ws.if (.bool ?t2) (fun h => ?y2) (fun h => ?n2)
      case t2 => walk_at "ew"
      case y2 =>
        simp at h
        refine' Ws.append 3 ((ls ++ [1 + c2 / 6 % pyget ls (-1)]).map D.int) (.bor ?a ?f ⟨rfl, rfl⟩) ?h ?_
        case a => walk_at "ev"
        case f => rfl
        case h => simp
        refine' Ws.append 4 ((ms ++ [mk1]).map mkD) (d := mkD mk1) (.bor ?a ?f ⟨rfl, rfl⟩) ?h ?_
        case a => walk_at "ev"
        case f => rfl
        case h => simp
        refine .nil (.nil (.nil ⟨_, _, _, _, _, _, _, _, rfl, by simp [gl], by simp; omega, fun x hx => ?_⟩))
        rcases List.mem_append.mp hx with hx | hx
        · exact g.all x hx
        · have := Int.emod_nonneg (c2 / 6) (show pyget ls (-1) ≠ 0 by omega)
          have := Int.emod_lt_of_pos (c2 / 6) (show 0 < pyget ls (-1) by omega)
          simp at hx
          omega
      case n2 =>
        clear h
        refine' Ws.if ?t3 (fun h => ?y3) (fun h => ?n3)
        case t3 => walk_at "et"
        case n3 => exact .nil (.nil (.nil (.nil ⟨_, _, _, _, _, _, _, _, rfl, g⟩)))
        case y3 =>
          simp at h
          refine' Ws.asg 8 sc_L_unfolded.nd (.bor ?a ?f ?_)
          case a => walk_at "ev"
          case f => rfl
          have ha0 := Int.emod_nonneg (c2 / 6) (show (ls.length : Int) ≠ 0 by omega)
          have ha1 := Int.emod_lt_of_pos (c2 / 6) (show 0 < (ls.length : Int) by omega)
          obtain ⟨a, ha⟩ := Int.eq_ofNat_of_zero_le ha0
          rw [ha] at ha1 ⊢
          clear ha ha0
          have ga := g.at (z := (a : Int)) (by omega)
          have hpa : pyget ls (a : Int) = ls.getD a 0 := pyget_nat ls a
          refine' Ws.asg 9 sc_L_unfolded.nd (.bor ?a ?f ?_)
          case a => walk_at "ev"
          case f => rfl
          have hs0 := Int.emod_nonneg (c2 / 60) (show pyget ls (a : Int) ≠ 0 by omega)
          have hs1 := Int.emod_lt_of_pos (c2 / 60) (show 0 < pyget ls (a : Int) by omega)
          generalize c2 / 60 % pyget ls (a : Int) = st at hs0 hs1 ⊢
          refine' Ws.asg 10 sc_L_unfolded.nd (.bor ?a ?f ?_)
          case a => walk_at "ev"
          case f => rfl
          have hh0 := Int.emod_nonneg (c2 / 420) (show pyget ls (a : Int) - st ≠ 0 by omega)
          have hh1 := Int.emod_lt_of_pos (c2 / 420) (show 0 < pyget ls (a : Int) - st by omega)
          generalize c2 / 420 % (pyget ls (a : Int) - st) = sh at hh0 hh1 ⊢
          have q1 := cutL_length ls none (some (a : Int))
          have q2 := cutL_length ls (some ((a : Int) + 1)) none
          refine' Ws.asg 3 sc_L_unfolded.nd (.borO (.catI (.catI (.sliceI ?a .none (.some ?b)) ((Ev.list ?c).is (d1 := dI [1 + sh + st, 1 + sh, pyget ls (a : Int) - st]) rfl) ?l1) (.sliceI ?d (.some ?e) .none) ?l2) (oI_free _) (oI_data _) ?_)
          case a => walk_at "ev"
          case b => walk_at "ev"
          case c => walk_at "ea"
          case d => walk_at "ev"
          case e => walk_at "ev"
          case l1 => walk_at "sd"
          case l2 => walk_at "sd"
          have q3 := cutL_length ms none (some (a : Int))
          have q4 := cutL_length ms (some (a : Int)) none
          refine' Ws.asg 4 sc_L_unfolded.nd (.borO (.catM (.catM (.sliceM ?a .none (.some ?b)) ((Ev.list (.two (d1 := mkD mk1) ?c1 (.ixVH ?c2 ?c3 ?c4))).is (d1 := dM [mk1, decide (c2 / 3 % 2 = 0)]) rfl) ?l1) (.sliceM ?d (.some ?e) .none) ?l2) (oM_free _) (oM_data _) ?_)
          case a => walk_at "ev"
          case b => walk_at "ev"
          case c1 => walk_at "ev"
          case c2 => walk_at "ev"
          case c3 => walk_at "ev"
          case c4 => walk_at "sd"
          case d => walk_at "ev"
          case e => walk_at "ev"
          case l1 => walk_at "sd"
          case l2 => walk_at "sd"
          rw [show (a : Int) + 1 = ((a + 1 : Nat) : Int) by omega, cutL_to, cutL_from, cutL_to, cutL_from, hpa]
          exact .nil (.nil (.nil (.nil ⟨_, _, _, _, _, _, _, _, rfl, good_pleat g (by omega) (by omega) hs0 (by omega) (by omega) (by omega) mk1 _⟩)))

/-! ### _law_strip -/
theorem good_set {n m : Int} {ls : List Int} {ms : List Bool} (g : Good n ls ms) (hnm : n ≤ m) {k : Nat} {x : Int} (h : 1 ≤ x ∧ x ≤ m) : Good m (ls.set k x) ms :=
  ⟨by simp [g.len], by simp [g.most], fun y hy => by
    rcases List.mem_or_eq_of_mem_set hy with hy | rfl
    · have := g.all y hy; omega
    · exact h⟩
theorem good_setM {n : Int} {ls : List Int} {ms : List Bool} (g : Good n ls ms) (k : Nat) (b : Bool) : Good n ls (ms.set k b) := ⟨by simp [g.len], g.most, g.all⟩
theorem mulp {a b n m : Int} (h1 : 1 ≤ a) (h2 : a ≤ n) (h3 : 1 ≤ b) (h4 : b ≤ m) : 1 ≤ a * b ∧ a * b ≤ n * m := by
  refine ⟨?_, ?_⟩
  · have := Int.mul_le_mul h1 h3 (by omega) (by omega)
    omega
  · exact Int.mul_le_mul h2 h4 (by omega) (by omega)
theorem strip_ok (T : Fx K mg) (B : Bx mg) (ns : List Int) : VF P w K mg base 3 "_law_strip" [.ro (ns.map D.int)] (fun o => ∃ ls ms, o = oS ls ms ∧ Good 1000 ls ms) := by
  refine VF.of T.d_L_strip sc_L_strip rfl fun f cdv A outer s H E hr => ?_
  have hB := B; cases hB
  -- head
  refine' Ws.asg 1 sc_L_strip.nd (.bor (.cell T B hr ?a .int (by decide)) ?f ?_)
  case a => walk_at "nm"
  case f => rfl
  have c0 := cellF_nn ns 0
  generalize cellF ns 0 = c0v at c0 ⊢
  -- lengths, marks
  have hmany : ∃ m : Int, 0 ≤ m ∧ m ≤ 1000 ∧ (if b2i (decide (c0v / 660 % 8 = 1)) = 0 then D.int (c0v / 2 % 10) else D.int (c0v / 20 % 33)) = D.int m := by
    split
    · exact ⟨_, by omega, by omega, rfl⟩
    · exact ⟨_, by omega, by omega, rfl⟩
  obtain ⟨m, hm0, hm1, hme⟩ := hmany
  refine' Ws.unpack2 2 3 rfl sc_L_strip.nd (.evN O.data (.call (unfolded_ok T B ns 3 m (by omega) ⟨hm0, hm1⟩) (hr.mono (by decide)) (.cons ?a (.cons .int (.cons (Ev.is (Ev.ix2 ?b ?c ?d) hme) .nil)))) (fun _ _ => rfl) ?_) (by decide)
  case a => walk_at "nm"
  case b => walk_at "ev"
  case c => walk_at "ev"
  case d => unfold b2i; split <;> omega
  rintro o ⟨ls, ms, rfl, g⟩
  refine ⟨oI ls, oM ms, _, rfl, ?_⟩
  rw [oI_data, oM_data]
  clear hme
  -- the drawn ones
  have key : ∀ ls ms x4, Good 9 ls ms → Ws (cxOf CX0 P w K mg base n_L_strip "_law_strip" (defScope s_L_strip) f cdv A outer s H E).nox
      [some (.sh (.ro (ns.map D.int))), some (.sh (.int c0v)), some (.oi ls), some (.om ms), x4, none, none, none, none, none, none] ((defBody s_L_strip).drop 3)
      { nx := fun _ => ∃ ls ms, O.sh D.non = oS ls ms ∧ Good 1000 ls ms, rt := fun o => ∃ ls ms, o = oS ls ms ∧ Good 1000 ls ms } := by
    clear g
    intro ls ms x4 g
    have gl := g.len
    have gp := g.pos
    have gm := g.most
    refine' Ws.asg 5 sc_L_strip.nd (.bor (.cell T B hr ?a .int (by decide)) ?f ?_)
    case a => walk_at "nm"
    case f => rfl
    have m0 := cellF_nn ns 1
    generalize cellF ns 1 = mo at m0 ⊢
    have key2 : ∀ ls ms x4 x6, Good 9 ls ms → Ws (cxOf CX0 P w K mg base n_L_strip "_law_strip" (defScope s_L_strip) f cdv A outer s H E).nox
      [some (.sh (.ro (ns.map D.int))), some (.sh (.int c0v)), some (.oi ls), some (.om ms), x4, some (.sh (.int mo)), x6, none, none, none, none] ((defBody s_L_strip).drop 5)
      { nx := fun _ => ∃ ls ms, O.sh D.non = oS ls ms ∧ Good 1000 ls ms, rt := fun o => ∃ ls ms, o = oS ls ms ∧ Good 1000 ls ms } := by
      clear g gl gp gm
      intro ls ms x4 x6 g
      have gl := g.len
      have gp := g.pos
      have gm := g.most
      have key3 : ∀ ls ms, Good 9 ls ms → Ws (cxOf CX0 P w K mg base n_L_strip "_law_strip" (defScope s_L_strip) f cdv A outer s H E).nox
        [some (.sh (.ro (ns.map D.int))), some (.sh (.int c0v)), some (.oi ls), some (.om ms), x4, some (.sh (.int mo)), x6, none, none, none, none] ((defBody s_L_strip).drop 6)
        { nx := fun _ => ∃ ls ms, O.sh D.non = oS ls ms ∧ Good 1000 ls ms, rt := fun o => ∃ ls ms, o = oS ls ms ∧ Good 1000 ls ms } := by
        clear g gl gp gm
        intro ls ms g
        have gl := g.len
        have gp := g.pos
        have gm := g.most
        refine' Ws.asg 7 sc_L_strip.nd (.bor (.cell T B hr ?a .int (by decide)) ?f ?_)
        case a => walk_at "nm"
        case f => rfl
        have e0 := cellF_nn ns 2
        generalize cellF ns 2 = ce at e0 ⊢
        refine Ws.share (i := 2) rfl ?_
        have hp : pyget [1, 1, 1, 7, 100] (ce % 5) ∈ ([1, 1, 1, 7, 100] : List Int) := pyget_mem (by simp; omega)
        have hpb : 1 ≤ pyget ([1, 1, 1, 7, 100] : List Int) (ce % 5) ∧ pyget ([1, 1, 1, 7, 100] : List Int) (ce % 5) ≤ 100 := by simp at hp; omega
        refine' Ws.asgCI n_L_strip (defScope s_L_strip) 8 10 ls D.int (fun x => pyget [1, 1, 1, 7, 100] (ce % 5) * x) rfl sc_L_strip.nd (.list ?a) (by omega) (fun x hx s H C cl fp => .mul (.ixI ((Ev.list ?b).is (d1 := dI [1, 1, 1, 7, 100]) rfl) ?c ?d) ?e ?g) ?_
        case a => walk_at "ev"
        case b => walk_at "ea"
        case c => walk_at "ev"
        case d => simp; omega
        case e => walk_at "ev"
        case g => exact Or.inl ⟨by omega, by omega⟩
        generalize pyget ([1, 1, 1, 7, 100] : List Int) (ce % 5) = fa at hpb ⊢
        have g2 : Good 1000 (ls.map fun x => fa * x) ms := ⟨by simp [gl], by simp [gm], fun y hy => by
          obtain ⟨x, hx, rfl⟩ := List.mem_map.mp hy
          have := g.all x hx
          have := mulp hpb.1 hpb.2 this.1 this.2
          omega⟩
        clear hp
        generalize (ls.map fun x => fa * x) = fs at g2 ⊢
        have fl := g2.len
        refine' Ws.if ?t (fun h => ?y4) (fun h => ?n4)
        case t => walk_at "et"
        case n4 => exact .nil (Ws.ret (.tup2 8 3 (by decide) ⟨_, _, rfl, g2⟩ (oI_data _) (oM_data _)))
        case y4 =>
          have hv : ∃ v : Int, 1 ≤ v ∧ v ≤ 1000 ∧ atI [D.int 1000, D.int 999, D.int (1 + ce / 1200 % 1000)] (ce / 1200 % 3) = some (D.int v) := by
            have : ce / 1200 % 3 = 0 ∨ ce / 1200 % 3 = 1 ∨ ce / 1200 % 3 = 2 := by omega
            rcases this with e | e | e
            · rw [e]; exact ⟨1000, by omega, by omega, rfl⟩
            · rw [e]; exact ⟨999, by omega, by omega, rfl⟩
            · rw [e]; exact ⟨1 + ce / 1200 % 1000, by omega, by omega, rfl⟩
          obtain ⟨v, v1, v2, hv⟩ := hv
          refine' Ws.setItem 8 ((fs.set (ce / 40 % fs.length).toNat v).map D.int) (.ixL ?a ?b hv) rfl ?c ?d ?e ?_
          case a => walk_at "ev"
          case b => walk_at "ev"
          case c => walk_at "ev"
          case d =>
            rw [List.length_map]
            exact ixN_of ⟨Int.emod_nonneg _ (by omega), Int.emod_lt_of_pos _ (by omega)⟩
          case e => simp
          exact .nil (Ws.ret (.tup2 8 3 (by decide) ⟨_, _, rfl, good_set g2 (by omega) ⟨v1, v2⟩⟩ (oI_data _) (oM_data _)))
      refine' Ws.if ?t (fun h => ?y3) (fun h => ?n3)
      case t => walk_at "et"
      case n3 => exact .nil (key3 ls ms g)
      case y3 =>
        refine' Ws.setItem 2 ((ls.set (mo / 4 % ls.length).toNat (1 + mo / 120 % 9)).map D.int) ?a ?f ?c ?d ?e ?_
        case a => walk_at "ev"
        case f => rfl
        case c => walk_at "ev"
        case d =>
          rw [List.length_map]
          exact ixN_of ⟨Int.emod_nonneg _ (by omega), Int.emod_lt_of_pos _ (by omega)⟩
        case e => simp
        exact .nil (key3 _ _ (good_set g (by omega) (by omega)))
    refine' Ws.if (.bool (.and ?t (fun _ => .and1 (.cmp ?u (.list .nil) (.neNil hr.units (shp_dM ms)))))) (fun h => ?y2) (fun h => ?n2)
    case t => walk_at "et"
    case u => walk_at "nm"
    case n2 => exact .nil (key2 ls ms _ _ g)
    case y2 =>
      simp at h
      have mp : 0 < ms.length := List.length_pos_iff.mpr h.2
      refine' Ws.asg 6 sc_L_strip.nd (.bor ?a ?f ?_)
      case a => walk_at "ev"
      case f => rfl
      have a0 := Int.emod_nonneg (mo / 4) (show (ms.length : Int) ≠ 0 by omega)
      have a1 := Int.emod_lt_of_pos (mo / 4) (show 0 < (ms.length : Int) by omega)
      generalize mo / 4 % (ms.length : Int) = at' at a0 a1 ⊢
      refine' Ws.setItem 3 ((ms.set at'.toNat (decide (b2i (!pyget ms at') = 1))).map mkD) (.ixHV ?a (.intB ?hb (.cmp (.ixM ?b ?c ?e) .str .eqMh)) ?d) ?f ?g ?h ?i ?_
      case a => walk_at "ev"
      case hb => assumption
      case b => walk_at "ev"
      case c => walk_at "ev"
      case e => walk_at "sd"
      case d => unfold b2i; split <;> omega
      case f => rfl
      case g => walk_at "ev"
      case h => rw [List.length_map]; exact ixN_of ⟨a0, a1⟩
      case i => simp
      exact .nil (key2 _ _ _ _ (good_setM g _ _))
  refine' Ws.if ?t (fun h => ?y) (fun h => ?n)
  case t => walk_at "et"
  case n => exact .nil (key ls ms _ g)
  case y =>
    refine' Ws.asgCI n_L_strip (defScope s_L_strip) 4 9 (List.range (1 + c0v / 2 % 7).toNat) (fun (k : Nat) => D.int (k : Int)) (fun (k : Nat) => cellF ns (3 + (k : Int)) + 17 * (k : Int)) rfl sc_L_strip.nd (.rangeN (j := 1 + c0v / 2 % 7) (by assumption) ?a (by omega)) (by simp; omega) (fun k hk s H C cl fp => .add (.cell T B hr ?b ?c (by omega)) ?d) ?_
    case a => walk_at "ev"
    case b => walk_at "nm"
    case c => walk_at "ev"
    case d => walk_at "ev"
    refine Ws.share (i := 4) rfl ?_
    have hcl : ∀ c ∈ (List.range (1 + c0v / 2 % 7).toNat).map (fun (k : Nat) => cellF ns (3 + (k : Int)) + 17 * (k : Int)), 0 ≤ c := fun c hc => by
      obtain ⟨k, _, rfl⟩ := List.mem_map.mp hc
      have := cellF_nn ns (3 + (k : Int))
      omega
    have hln : ((List.range (1 + c0v / 2 % 7).toNat).map (fun (k : Nat) => cellF ns (3 + (k : Int)) + 17 * (k : Int))).length = (1 + c0v / 2 % 7).toNat := by simp
    generalize (List.range (1 + c0v / 2 % 7).toNat).map (fun (k : Nat) => cellF ns (3 + (k : Int)) + 17 * (k : Int)) = cs at hcl hln ⊢
    have hp : pyget [2, 3, 6, 9] (c0v / 14 % 4) ∈ ([2, 3, 6, 9] : List Int) := pyget_mem (by simp; omega)
    have hpb : 2 ≤ pyget ([2, 3, 6, 9] : List Int) (c0v / 14 % 4) ∧ pyget ([2, 3, 6, 9] : List Int) (c0v / 14 % 4) ≤ 9 := by simp at hp; omega
    refine' Ws.asgCI n_L_strip (defScope s_L_strip) 2 7 cs D.int (fun c => 1 + c / 2 % pyget [2, 3, 6, 9] (c0v / 14 % 4)) rfl sc_L_strip.nd (.list ?a) (by omega) (fun x hx s H C cl fp => .add .int (.mod ?b (.ixI ((Ev.list ?c).is (d1 := dI [2, 3, 6, 9]) rfl) ?d ?e) ?g)) ?_
    case a => walk_at "ev"
    case b => walk_at "ev"
    case c => walk_at "ea"
    case d => walk_at "ev"
    case e => simp; omega
    case g => omega
    refine' Ws.asgCM n_L_strip (defScope s_L_strip) 3 7 (cutL cs (some 1) none) D.int (fun c => decide (c % 2 = 1)) rfl sc_L_strip.nd (.list (.sliceI ?a (.some .int) .none)) (by have := cutL_length cs (some 1) none; omega) (fun x hx s H C cl fp => .ixHV ?b ?c ?d) ?_
    case a => walk_at "nm"
    case b => walk_at "ev"
    case c => walk_at "ev"
    case d => omega
    refine .nil (key _ _ _ ⟨?_, ?_, fun y hy => ?_⟩)
    · have : (cutL cs (some 1) none).length = cs.length - 1 := by
        have := cutL_from cs 1
        rw [show ((1 : Nat) : Int) = 1 by rfl] at this
        rw [this]; simp
      simp [this]
      omega
    · simp; omega
    · obtain ⟨c, hc, rfl⟩ := List.mem_map.mp hy
      have := hcl c hc
      have := Int.emod_nonneg (c / 2) (show pyget ([2, 3, 6, 9] : List Int) (c0v / 14 % 4) ≠ 0 by omega)
      have := Int.emod_lt_of_pos (c / 2) (show 0 < pyget ([2, 3, 6, 9] : List Int) (c0v / 14 % 4) by omega)
      omega

/-! ### _law_whole -/
theorem whole_ok (T : Fx K mg) (B : Bx mg) (d : D) (hob : d.isOb = false := by rfl) : VF P w K mg base 1 "_law_whole" [d] (fun o => o = .sh (.bl d.isInt)) := by
  refine VF.of T.d_L_whole sc_L_whole rfl fun f cdv A outer s H E hr => ?_
  have hB := B; cases hB
  refine' Ws.ret (.bor ?a rfl rfl)
  case a =>
    refine' Ev.isInt ?m1 ?m2 ?m3 hob ?i ?j
    case i => exact fun c hc => .isi (by assumption) (by assumption) (.name 0) hc hob
    case j => exact fun c hc => .isi (by assumption) (by assumption) (.name 0) hc hob
    all_goals assumption

/-! ### _law_is_strip -/
theorem truesM {α : Type} (L : List α) : (O.ls (L.map fun _ => O.sh (.bl true))).data = .lst ((L.map fun _ => true).map D.bl) := by
  rw [oL_of, oL_data, List.map_map]; rfl
theorem kb_mk {b : Bool} : kitB (tyD (mkD b)) "str" = some true := by cases b <;> exact kb_str
theorem iss_ok (T : Fx K mg) (B : Bx mg) (ls : List Int) (ms : List Bool) (hl : ls.length ≤ 1000) (hm : ms.length ≤ 1000) : VF P w K mg base 2 "_law_is_strip" [dS ls ms, dS ls ms] (fun o => o = .sh (.bl true)) := by
  refine VF.of T.d_L_is_strip sc_L_is_strip rfl fun f cdv A outer s H E hr => ?_
  have hB := B; cases hB
  refine' Ws.if (b := false) (.is (.bool (.or (.not (.val ?a1)) (fun _ => .or1 (.cmp ?a2 .int .neI)))) ?a3) (fun h => by cases h) (fun _ => ?_)
  case a1 => exact .isi (by assumption) (by assumption) (.name 0) kb_tup
  case a2 => exact .lenT (by assumption) (ds := [dI ls, dM ms]) (.name 0)
  case a3 => rfl
  refine' Ws.nil (Ws.if (b := false) (.is (.bool (.or (.not (.val ?b1)) (fun _ => .or1 (.not (.val ?b2))))) ?b3) (fun h => by cases h) (fun _ => ?_))
  case b1 => exact .isi (by assumption) (by assumption) (.ixT0 (.name 0)) kb_lst
  case b2 => exact .isi (by assumption) (by assumption) (.ixT1 (.name 0)) kb_lst
  case b3 => rfl
  refine' Ws.nil (Ws.if (b := false) (.is (.bool (.or (.not (.val (.allB (bs := ls.map fun _ => true) rfl ?c1 ?c2))) (fun _ => .or1 (.not (.val (.allB (bs := ms.map fun _ => true) rfl ?c3 ?c4)))))) ?c5) (fun h => by cases h) (fun _ => ?_))
  case c1 => assumption
  case c3 => assumption
  case c2 =>
    refine' EvO.ev' (.comp (own := [("_law_length_here", 2)]) ls D.int (fun _ => .sh (.bl true)) [2] (fun x => [.int x]) rfl sc_L_is_strip.nd (.list (.ixT0 (.name 0))) (blkOk_by (N := n_L_is_strip) (sc := defScope s_L_is_strip) (by decide +kernel)) (by simp) (fun x _ s H C cl fp => .name 2 sc_L_is_strip.nd) (fun x _ s H C cl fp => Ev.evO ?g1) (Nat.lt_of_lt_of_le (m := 100000) (by omega) (by decide))) (truesM _)
    case g1 => exact .call (whole_ok T B (.int x)) (hr.mono (by decide)) (.one (.name 2)) (fun o e => by rw [e]; rfl)
  case c4 =>
    refine' EvO.ev' (.comp (own := [("_law_mark", 3)]) ms mkD (fun _ => .sh (.bl true)) [3] (fun x => [mkD x]) rfl sc_L_is_strip.nd (.list (.ixT1 (.name 0))) (blkOk_by (N := n_L_is_strip) (sc := defScope s_L_is_strip) (by decide +kernel)) (by simp) (fun x _ s H C cl fp => .name 3 sc_L_is_strip.nd) (fun x _ s H C cl fp => Ev.evO ?g2) (Nat.lt_of_lt_of_le (m := 100000) (by omega) (by decide))) (truesM _)
    case g2 => exact .isi (by assumption) (by assumption) (.name 3) kb_mk
  case c5 => simp
  refine' Ws.nil (Ws.ret (.bor (d := .bl true) (.is (.and (c1 := true) (c2 := true) ?d1 fun _ => .one ?d2) rfl) rfl rfl))
  case d1 => exact .is (.cmp (.ixT0 (.name 0)) (.ixT0 (.name 1)) (.eqD hr.units (shp_dI ls) (shp_dI ls))) (by rw [eqvD_refl (good_dI _)])
  case d2 => exact .is (.cmp (.ixT1 (.name 0)) (.ixT1 (.name 1)) (.eqD hr.units (shp_dM ms) (shp_dM ms))) (by rw [eqvD_refl (good_dM _)])

/-! ### is_mark, need_lengths, checked (k01) -/
structure Cst (mg : Str → Option Value) : Prop where
  mp : ∃ t, mg "MOST_PIECES" = some (.int 30 t)
  ml : ∃ t, mg "MOST_LENGTH" = some (.int 1000 t)
def D.isMark : D → Bool
  | .str s => decide (s = "hill") || decide (s = "valley")
  | _ => false
theorem need_lengths_ok (T : Fx K mg) (B : Bx mg) (Q : Cst mg) (ls : List Int) (h0 : 1 ≤ ls.length) (h1 : ls.length ≤ 30) (ha : ∀ x ∈ ls, 1 ≤ x ∧ x ≤ 1000) : VF P w K mg base 2 "need_lengths" [dI ls] (fun o => o = .sh .non) := by
  refine VF.of T.d_need_lengths sc_need_lengths rfl fun f cdv A outer s H E hr => ?_
  have hB := B; cases hB
  obtain ⟨t1, q1⟩ := Q.mp
  obtain ⟨t2, q2⟩ := Q.ml
  refine' Ws.if (b := false) (.is (.bool (.or (c1 := false) (.is (.not (.val (.isi ?h1 ?h2 (.name 0) kb_lst))) rfl) (fun _ => .or1 (c := false) (.is (.not (.chain .int (.lenI ?h3 (.name 0)) (.globI q1) .le (fun _ => .le))) ?h4)))) rfl) (fun h => by cases h) (fun _ => .nil ?_)
  case h1 => assumption
  case h2 => assumption
  case h3 => assumption
  case h4 => rw [decide_eq_true (show (1 : Int) ≤ ls.length by omega), decide_eq_true (show (ls.length : Int) ≤ 30 by omega)]; rfl
  refine' Ws.for (fun i ρ => ∃ x1, ρ = [some (.sh (dI ls)), x1]) [1] (fun i => [.int (ls.getD i default)]) .never rfl (.list (.name 0)) ?a ⟨_, rfl⟩ ?b ?c
  case a =>
    intro i d hd
    obtain ⟨hi, rfl⟩ := map_get hd
    exact .name 1 sc_need_lengths.nd
  case c => rintro ρ ⟨x1, rfl⟩ _; exact .nil rfl
  case b =>
    rintro i d ρ hd ⟨x1, rfl⟩ _
    obtain ⟨hi, -⟩ := map_get hd
    have hx := ha (ls.getD i default) (by rw [List.getD_eq_getElem?_getD, List.getElem?_eq_getElem hi]; exact List.getElem_mem hi)
    dsimp only [setW, List.set]
    generalize ls.getD i default = x at hx
    refine' Ws.if (b := false) (.is (.bool (.or (c1 := false) (.is (.not (c := true) (.val (.call (isw_ok T B (.int x)) (hr.mono (by decide)) (.one (.name 1)) (fun o e => by rw [e]; rfl)))) rfl) (fun _ => .or1 (c := false) (.is (.not (.chain .int (.name 1) (.globI q2) .le (fun _ => .le))) ?e1)))) rfl) (fun h => by cases h) (fun _ => .nil (.nil ⟨_, rfl⟩))
    case e1 => rw [decide_eq_true hx.1, decide_eq_true hx.2]; rfl

def D.isLst : D → Bool
  | .lst _ => true
  | .ro _ => true
  | _ => false
theorem kit_lst {d : D} (h : d.isOb = false) : kitB (tyD d) "list" = some d.isLst := by
  cases d with
  | non => exact (show kitB (tyD .non) "list" = some false by decide +kernel)
  | bl b => exact (show kitB (tyD (.bl true)) "list" = some false by decide +kernel)
  | int i => exact (show kitB (tyD (.int 0)) "list" = some false by decide +kernel)
  | str x => exact (show kitB (tyD (.str "")) "list" = some false by decide +kernel)
  | lst x => exact (show kitB (tyD (.lst [])) "list" = some true by decide +kernel)
  | tup x => exact (show kitB (tyD (.tup [])) "list" = some false by decide +kernel)
  | ro x => exact (show kitB (tyD (.ro [])) "list" = some true by decide +kernel)
  | dk x => exact (show kitB (tyD (.dk [])) "list" = some false by decide +kernel)
  | dd k x => exact (show kitB (tyD (.dk [])) "list" = some false by decide +kernel)
  | ob a k x => cases h
  | raw a => cases h

/-! ### need_lengths refuses (k01) -/
def badL : D → Bool
  | .int i => !(decide (1 ≤ i) && decide (i ≤ 1000))
  | _ => true
def BadLen (d : D) : Prop := d.isOb = false ∧ (d.isLst = false ∨ ∃ ds, d = .lst ds ∧ ds.length ≤ 100000 ∧ ((ds.length < 1 ∨ 30 < ds.length) ∨ ((∀ x ∈ ds, x.isOb = false) ∧ ∃ x ∈ ds, badL x = true)))
theorem need_lengthsN (T : Fx K mg) (B : Bx mg) (Q : Cst mg) {Dx Fx' : Addr} (W : ErrW K mg 0 "BadStrip" Dx Fx') (d : D) (hd : BadLen d) : VXN P w K mg base 2 "need_lengths" [d] Dx := by
  refine VXN.of T.d_need_lengths sc_need_lengths rfl fun f cdv A outer s H E hr tk => ?_
  have hB := B; cases hB
  obtain ⟨t1, q1⟩ := Q.mp
  obtain ⟨t2, q2⟩ := Q.ml
  obtain ⟨ho, hd⟩ := hd
  by_cases hl : d.isLst = false
  · refine' Ws.if (b := true) (.is (.bool (.or (c1 := true) (.is (.not (c := false) (.val (.isi (T' := "list") ?h1 ?h2 (.name 0) (by rw [← hl]; exact kit_lst ho) (hob := ho)))) rfl) (c2 := true) (fun h => by cases h))) rfl) (fun _ => ?_) (fun h => by cases h)
    case h1 => assumption
    case h2 => assumption
    exact Ws.raiseN W.er rfl tk rfl
  · obtain ⟨ds, rfl, hz, hd⟩ := hd.resolve_left hl
    refine' Ws.if (b := !(decide ((1 : Int) ≤ ds.length) && decide ((ds.length : Int) ≤ 30))) (.is (.bool (.or (c1 := false) (.is (.not (.val (.isi (T' := "list") ?h1 ?h2 (.name 0) kb_lst))) rfl) (fun _ => .or1 (.not (.chain .int (.lenL (ds := ds) ?h3 (.name 0)) (.globI q1) .le (fun _ => .le)))))) (by rw [Bool.false_or])) (fun h => ?y) (fun h => ?n)
    case h1 => assumption
    case h2 => assumption
    case h3 => assumption
    case y => exact Ws.raiseN W.er rfl tk rfl
    case n =>
      have hlen : 1 ≤ ds.length ∧ ds.length ≤ 30 := by
        simp at h
        omega
      obtain ⟨hob, hex⟩ := hd.resolve_left (by omega)
      refine' Ws.nil (Ws.for (fun i ρ => (∃ x1, ρ = [some (.sh (.lst ds)), x1]) ∧ ∀ j x, j < i → ds[j]? = some x → badL x = false) [1] (fun i => [ds.getD i .non]) (passes_of rfl) rfl (.list (.name 0)) ?a ⟨⟨_, rfl⟩, fun j x hj => by omega⟩ ?b ?c)
      case a =>
        intro i d hd
        rw [List.getD_eq_getElem?_getD, hd]
        exact .name 1 sc_need_lengths.nd
      case c =>
        rintro ρ ⟨_, hall⟩ _
        obtain ⟨x, hx, hb⟩ := hex
        obtain ⟨j, hj, rfl⟩ := List.getElem_of_mem hx
        have := hall j ds[j] hj (List.getElem?_eq_getElem hj)
        rw [hb] at this; cases this
      case b =>
        rintro i d ρ hd ⟨⟨x1, rfl⟩, hall⟩ _
        have hmem : d ∈ ds := List.mem_of_getElem? hd
        have hg : ds.getD i .non = d := by rw [List.getD_eq_getElem?_getD, hd]; rfl
        rw [hg]
        dsimp only [setW, List.set]
        refine' Ws.if (b := badL d) ?t (fun h => Ws.raiseN W.er rfl tk rfl) (fun h => .nil (.nil ⟨⟨_, rfl⟩, fun j x hj hx => ?z⟩))
        case z =>
          by_cases e : j = i
          · subst e; rw [hd] at hx; cases hx; exact h
          · exact hall j x (by omega) hx
        case t =>
          by_cases hi : d.isInt = true
          · obtain ⟨v, rfl⟩ : ∃ v, d = .int v := by cases d <;> first | exact ⟨_, rfl⟩ | cases hi
            refine' .is (.bool (.or (c1 := false) (.is (.not (c := true) (.val (.call (isw_ok T B (.int v)) (hr.mono (by decide)) (.one (.name 1)) (fun o e => by rw [e]; rfl)))) rfl) (fun _ => .or1 (.not (.chain .int (.name 1) (.globI q2) .le (fun _ => .le)))))) (by rw [Bool.false_or]; rfl)
          · have hi : d.isInt = false := by simpa using hi
            have hb : badL d = true := by cases d <;> first | rfl | cases hi
            refine' .is (.bool (.or (c1 := true) (.is (.not (c := false) (.val (.call (isw_ok T B d (hob d hmem)) (hr.mono (by decide)) (.one (.name 1)) (fun o e => by rw [e, hi]; rfl)))) rfl) (c2 := true) (fun h => by cases h))) (by rw [hb]; rfl)

/-! ### is_mark (k01) -/
def D.isStr' : D → Bool
  | .str _ => true
  | _ => false
theorem kit_str' {d : D} (h : d.isOb = false) : kitB (tyD d) "str" = some d.isStr' := by
  cases d with
  | non => exact (show kitB (tyD .non) "str" = some false by decide +kernel)
  | bl b => exact (show kitB (tyD (.bl true)) "str" = some false by decide +kernel)
  | int i => exact (show kitB (tyD (.int 0)) "str" = some false by decide +kernel)
  | str x => exact (show kitB (tyD (.str "")) "str" = some true by decide +kernel)
  | lst x => exact (show kitB (tyD (.lst [])) "str" = some false by decide +kernel)
  | tup x => exact (show kitB (tyD (.tup [])) "str" = some false by decide +kernel)
  | ro x => exact (show kitB (tyD (.ro [])) "str" = some false by decide +kernel)
  | dk x => exact (show kitB (tyD (.dk [])) "str" = some false by decide +kernel)
  | dd k x => exact (show kitB (tyD (.dk [])) "str" = some false by decide +kernel)
  | ob a k x => cases h
  | raw a => cases h
theorem eqv_str (x y : Str) : eqvD (.str x) (.str y) = decide (x = y) := by
  unfold eqvD
  simp only [D.py, PyData.eqv]
  by_cases h : x = y <;> simp [h]
theorem is_mark_ok (T : Fx K mg) (B : Bx mg) (d : D) (ho : d.isOb = false) (hs : ∀ s, d = .str s → PyData.strOk s = true) : VF P w K mg base 1 "is_mark" [d] (fun o => o = .sh (.bl d.isMark)) := by
  refine VF.of T.d_is_mark sc_is_mark rfl fun f cdv A outer s H E hr => ?_
  have hB := B; cases hB
  by_cases h : d.isStr' = true
  · obtain ⟨x, rfl⟩ : ∃ x, d = .str x := by cases d <;> first | exact ⟨_, rfl⟩ | cases h
    have shp : Shp (.str x) := shp_of (by rw [D.good]; exact hs x rfl) (by simp [D.deep])
    have sht : Shp (.tup [.str "hill", .str "valley"]) := shp_of (by decide +kernel) (by simp [D.deep, deepAll])
    have hu : (cxOf CX0 P w K mg base n_is_mark "is_mark" (defScope s_is_mark) f cdv A outer s H E).nox.A.units + 65 < cLine := units65 hr
    refine' Ws.ret (.bor (d := .bl (D.isMark (.str x))) (.is (.and (c1 := true) (.isi ?h1 ?h2 (.name 0) kb_str) (fun _ => .one (.cmp (.name 0) (.tup (ds := [.str "hill", .str "valley"]) (.two .str .str)) (.inT hu shp sht) rfl))) ?e) rfl rfl)
    case h1 => assumption
    case h2 => assumption
    case e =>
      simp only [List.any_cons, List.any_nil, Bool.or_false, Bool.true_and, eqv_str]
      show D.bl _ = D.bl (decide (x = "hill") || decide (x = "valley"))
      congr 2 <;> exact decide_eq_decide.mpr ⟨Eq.symm, Eq.symm⟩
  · have h : d.isStr' = false := by simpa using h
    have hm : d.isMark = false := by cases d <;> first | rfl | cases h
    refine' Ws.ret (.bor (d := .bl false) (.is (.and (c1 := false) (.isi ?h3 ?h4 (.name 0) (by rw [← h]; exact kit_str' ho) (hob := ho)) (c2 := true) (fun h => by cases h)) rfl) rfl ?h5)
    case h3 => assumption
    case h4 => assumption
    case h5 => show O.sh _ = O.sh _; rw [hm]

def D.isTup : D → Bool
  | .tup _ => true
  | _ => false
theorem kit_tup {d : D} (h : d.isOb = false) : kitB (tyD d) "tuple" = some d.isTup := by
  cases d with
  | non => exact (show kitB (tyD .non) "tuple" = some false by decide +kernel)
  | bl b => exact (show kitB (tyD (.bl true)) "tuple" = some false by decide +kernel)
  | int i => exact (show kitB (tyD (.int 0)) "tuple" = some false by decide +kernel)
  | str x => exact (show kitB (tyD (.str "")) "tuple" = some false by decide +kernel)
  | lst x => exact (show kitB (tyD (.lst [])) "tuple" = some false by decide +kernel)
  | tup x => exact (show kitB (tyD (.tup [])) "tuple" = some true by decide +kernel)
  | ro x => exact (show kitB (tyD (.ro [])) "tuple" = some false by decide +kernel)
  | dk x => exact (show kitB (tyD (.dk [])) "tuple" = some false by decide +kernel)
  | dd k x => exact (show kitB (tyD (.dk [])) "tuple" = some false by decide +kernel)
  | ob a k x => cases h
  | raw a => cases h

/-! ### checked refuses (k01) -/
def BadMk (n : Nat) (m : D) : Prop := m.isOb = false ∧ (m.isLst = false ∨ ∃ ds, m = .lst ds ∧ ds.length ≤ 100000 ∧ (ds.length + 1 ≠ n ∨ ((∀ x ∈ ds, x.isOb = false ∧ ∀ s, x = .str s → PyData.strOk s = true) ∧ ∃ x ∈ ds, x.isMark = false)))
def BadStp (d : D) : Prop := d.isOb = false ∧ (d.isTup = false ∨ ∃ xs, d = .tup xs ∧ (xs.length ≠ 2 ∨ ∃ l m, xs = [l, m] ∧ (BadLen l ∨ ∃ ls : List Int, l = dI ls ∧ 1 ≤ ls.length ∧ ls.length ≤ 30 ∧ (∀ x ∈ ls, 1 ≤ x ∧ x ≤ 1000) ∧ BadMk ls.length m)))
theorem checkedN (T : Fx K mg) (B : Bx mg) (Q : Cst mg) {Dx Fx' : Addr} (W : ErrW K mg 0 "BadStrip" Dx Fx') (d : D) (hd : BadStp d) : VXN P w K mg base 3 "checked" [d] Dx := by
  refine VXN.of T.d_checked sc_checked rfl fun f cdv A outer s H E hr tk => ?_
  have hB := B; cases hB
  obtain ⟨ho, hd⟩ := hd
  by_cases hl : d.isTup = false
  · refine' Ws.if (b := true) (.is (.bool (.or (c1 := true) (.is (.not (c := false) (.val (.isi (T' := "tuple") ?h1 ?h2 (.name 0) (by rw [← hl]; exact kit_tup ho) (hob := ho)))) rfl) (c2 := true) (fun h => by cases h))) rfl) (fun _ => ?_) (fun h => by cases h)
    case h1 => assumption
    case h2 => assumption
    exact Ws.raiseN W.er rfl tk rfl
  · obtain ⟨xs, rfl, hd2⟩ := hd.resolve_left hl
    refine' Ws.if (b := !decide ((xs.length : Int) = 2)) (.is (.bool (.or (c1 := false) (.is (.not (.val (.isi (T' := "tuple") ?h1 ?h2 (.name 0) kb_tup))) rfl) (fun _ => .or1 (.cmp (.lenT (ds := xs) ?h3 (.name 0)) .int .neI)))) (by rw [Bool.false_or])) (fun h => Ws.raiseN W.er rfl tk rfl) (fun h => .nil ?_)
    case h1 => assumption
    case h2 => assumption
    case h3 => assumption
    have hlen : xs.length = 2 := by simp at h; omega
    obtain ⟨l, m, rfl, hd3⟩ := hd2.resolve_left (fun h => h hlen)
    refine' Ws.unpackS2 1 2 (d := l) (d2 := m) rfl sc_checked.nd (.sh (.name 0) ⟨rfl, ?_⟩)
    dsimp only [setW, List.set]
    rcases hd3 with hb | ⟨ls, rfl, g1, g2, g3, mo, hm⟩
    · exact Ws.exprR (.callN (need_lengthsN T B Q W l hb) hr tk (.one (.name 1))) rfl
    · refine' Ws.expr (.sh (d := .non) (.call (need_lengths_ok T B Q ls g1 g2 g3) (hr.mono (by decide)) (.one (.name 1)) (fun o e => by rw [e]; rfl)) ?_)
      by_cases hml : m.isLst = false
      · refine' Ws.if (b := true) (.is (.bool (.or (c1 := true) (.is (.not (c := false) (.val (.isi (T' := "list") ?i1 ?i2 (.name 2) (by rw [← hml]; exact kit_lst mo) (hob := mo)))) rfl) (c2 := true) (fun h => by cases h))) rfl) (fun _ => ?_) (fun h => by cases h)
        case i1 => assumption
        case i2 => assumption
        exact Ws.raiseN W.er rfl tk rfl
      · obtain ⟨ds, rfl, hz, hm2⟩ := hm.resolve_left hml
        refine' Ws.if (b := !decide ((ds.length : Int) = (ls.length : Int) - 1)) (.is (.bool (.or (c1 := false) (.is (.not (.val (.isi (T' := "list") ?i1 ?i2 (.name 2) kb_lst))) rfl) (fun _ => .or1 (.cmp (.lenL (ds := ds) ?i3 (.name 2)) (.sub (.lenI ?i4 (.name 1)) .int) .neI)))) (by rw [Bool.false_or])) (fun h => Ws.raiseN W.er rfl tk rfl) (fun h => .nil ?_)
        case i1 => assumption
        case i2 => assumption
        case i3 => assumption
        case i4 => assumption
        have hl2 : ds.length + 1 = ls.length := by simp at h; omega
        obtain ⟨hob, hex⟩ := hm2.resolve_left (fun h => h hl2)
        refine' Ws.for (fun i ρ => (∃ x3, ρ = [some (.sh (.tup [dI ls, .lst ds])), some (.sh (dI ls)), some (.sh (.lst ds)), x3]) ∧ ∀ j x, j < i → ds[j]? = some x → x.isMark = true) [3] (fun i => [ds.getD i .non]) (passes_of rfl) rfl (.list (.name 2)) ?a ⟨⟨_, rfl⟩, fun j x hj => by omega⟩ ?b ?c
        case a =>
          intro i d hd
          rw [List.getD_eq_getElem?_getD, hd]
          exact .name 3 sc_checked.nd
        case c =>
          rintro ρ ⟨_, hall⟩ _
          obtain ⟨x, hx, hb⟩ := hex
          obtain ⟨j, hj, rfl⟩ := List.getElem_of_mem hx
          have := hall j ds[j] hj (List.getElem?_eq_getElem hj)
          rw [hb] at this; cases this
        case b =>
          rintro i d ρ hd ⟨⟨x1, rfl⟩, hall⟩ _
          have hmem : d ∈ ds := List.mem_of_getElem? hd
          have hg : ds.getD i .non = d := by rw [List.getD_eq_getElem?_getD, hd]; rfl
          rw [hg]
          dsimp only [setW, List.set]
          refine' Ws.if (b := !d.isMark) (.not (.val (.call (is_mark_ok T B d (hob d hmem).1 (hob d hmem).2) (hr.mono (by decide)) (.one (.name 3)) (fun o e => by rw [e]; rfl)))) (fun h => Ws.raiseN W.er rfl tk rfl) (fun h => .nil (.nil ⟨⟨_, rfl⟩, fun j x hj hx => ?z⟩))
          case z =>
            by_cases e : j = i
            · subst e; rw [hd] at hx; cases hx; simpa using h
            · exact hall j x (by omega) hx

/-! ### _law_sole -/
theorem sole_eq {j : Nat} (hj : j < 6) : (((([0, 1, 2] : List Nat).map fun i => D.bl (decide (i = j))) ++ (([3, 4, 5] : List Nat).map fun i => D.bl (decide (i = j)))).countP fun z => eqvD z (.bl true)) = 1 ∧ (∃ z, ((([0, 1, 2] : List Nat).map fun i => D.bl (decide (i = j))) ++ (([3, 4, 5] : List Nat).map fun i => D.bl (decide (i = j))))[j]? = some z ∧ eqvD z (.bl true) = true) ∧ ∀ m z', m < j → ((([0, 1, 2] : List Nat).map fun i => D.bl (decide (i = j))) ++ (([3, 4, 5] : List Nat).map fun i => D.bl (decide (i = j))))[m]? = some z' → eqvD z' (.bl true) = false := by
  have key : ∀ m, ((([0, 1, 2] : List Nat).map fun i => D.bl (decide (i = j))) ++ (([3, 4, 5] : List Nat).map fun i => D.bl (decide (i = j))))[m]? = if m < 6 then some (.bl (decide (m = j))) else none := by
    intro m
    match m with
    | 0 => rfl
    | 1 => rfl
    | 2 => rfl
    | 3 => rfl
    | 4 => rfl
    | 5 => rfl
    | m + 6 => simp
  have eqt : eqvD (.bl true) (.bl true) = true := by decide +kernel
  have eqf : eqvD (.bl false) (.bl true) = false := by decide +kernel
  refine ⟨?_, ⟨.bl (decide (j = j)), by rw [key, if_pos hj], by simp [eqt]⟩, fun m z' hm h => ?_⟩
  · have : j = 0 ∨ j = 1 ∨ j = 2 ∨ j = 3 ∨ j = 4 ∨ j = 5 := by omega
    rcases this with rfl | rfl | rfl | rfl | rfl | rfl <;> simp [eqt, eqf]
  · rw [key, if_pos (by omega)] at h
    obtain rfl := Option.some.inj h
    rw [decide_eq_false (by omega)]
    exact eqf
theorem shp_bls (bs : List Bool) : Shp (.lst (bs.map D.bl)) := by
  refine shp_of ?_ ?_
  · rw [D.good]; exact goodAll_map (fun b => by simp [D.good]) bs
  · rw [D.deep]
    have := deepAll_map (h := D.bl) (n := 0) (fun b => by simp [D.deep]) bs
    omega
theorem sole_ok (T : Fx K mg) (B : Bx mg) {j : Nat} {x : Str} {Dx Fx' a : Addr} {oe : Obj} (W : ErrW K mg j x Dx Fx') (hj : j < 6) (hz : Zc (.ref Dx) none oe) (hf : ∃ vs, oe.data = .fields vs) : VE P w K mg base 1 "_law_sole" a oe [.raw a, .str (errT.getD j "")] (fun o => o = .sh (.bl true)) := by
  refine VE.of T.d_L_sole sc_L_sole rfl fun f cdv A outer s H E hr => ?_
  have hB := B; cases hB
  have hpn : (a, oe) ∈ (L2H.cxH CX0 P w K mg base n_L_sole "_law_sole" (defScope s_L_sole) f cdv A outer s H E (a, oe)).nox.pn := List.mem_singleton.mpr rfl
  obtain ⟨c0, g0, k0⟩ := W.kits 0 _ rfl
  obtain ⟨c1, g1, k1⟩ := W.kits 1 _ rfl
  obtain ⟨c2, g2, k2⟩ := W.kits 2 _ rfl
  obtain ⟨c3, g3, k3⟩ := W.kits 3 _ rfl
  obtain ⟨c4, g4, k4⟩ := W.kits 4 _ rfl
  obtain ⟨c5, g5, k5⟩ := W.kits 5 _ rfl
  obtain ⟨q1, ⟨z, q2, q3⟩, q4⟩ := sole_eq hj
  refine' Ws.asg 2 sc_L_sole.nd (.own (o := oL (([0, 1, 2] : List Nat).map fun i => D.bl (decide (i = j)))) (.list (.cons (.isEC W.ec hz hf hpn ?m0 (.name 0) g0 k0) (.two (.isEC W.ec hz hf hpn ?m1 (.name 0) g1 k1) (.isEC W.ec hz hf hpn ?m2 (.name 0) g2 k2)))) (oL_data _) ?_)
  case m0 => assumption
  case m1 => assumption
  case m2 => assumption
  refine Ws.share (i := 2) rfl ?_
  refine' Ws.asg 2 sc_L_sole.nd (.own (o := oL ((([0, 1, 2] : List Nat).map fun i => D.bl (decide (i = j))) ++ (([3, 4, 5] : List Nat).map fun i => D.bl (decide (i = j))))) (.cat (.name 2) (.list (ds := ([3, 4, 5] : List Nat).map fun i => D.bl (decide (i = j))) (.cons (.isEC W.ec hz hf hpn ?m3 (.name 0) g3 k3) (.two (.isEC W.ec hz hf hpn ?m4 (.name 0) g4 k4) (.isEC W.ec hz hf hpn ?m5 (.name 0) g5 k5)))) ?z0) (oL_data _) ?_)
  case m3 => assumption
  case m4 => assumption
  case m5 => assumption
  case z0 => exact Nat.le_trans (show 6 ≤ 100000 by decide) (show 100000 ≤ sizeLine by decide)
  refine Ws.share (i := 2) rfl ?_
  have shp : Shp (.lst ((([0, 1, 2] : List Nat).map fun i => D.bl (decide (i = j))) ++ (([3, 4, 5] : List Nat).map fun i => D.bl (decide (i = j))))) := shp_bls [decide (0 = j), decide (1 = j), decide (2 = j), decide (3 = j), decide (4 = j), decide (5 = j)]
  generalize (([0, 1, 2] : List Nat).map fun i => D.bl (decide (i = j))) ++ (([3, 4, 5] : List Nat).map fun i => D.bl (decide (i = j))) = ks at q1 q2 q4 shp
  have hu : (L2H.cxH CX0 P w K mg base n_L_sole "_law_sole" (defScope s_L_sole) f cdv A outer s H E (a, oe)).nox.A.units + 65 < cLine := unitsH hr
  have shb : Shp (.bl true) := shp_of (by simp [D.good]) (by simp [D.deep])
  refine' Ws.if (b := false) (.is (.bool (.or (c1 := false) (.is (.cmp (.count hu (ds := ks) (.name 2) .bl shb shp) .int .neI) (by rw [q1]; rfl)) (fun _ => .or1 (c := false) (.is (.not (.val (.isEB W.ec hz hf hpn ?m6 (.name 0) ?m7 W.kv))) rfl)))) rfl) (fun h => by cases h) (fun _ => .nil ?_)
  case m6 => assumption
  case m7 => assumption
  refine' Ws.ret (.bor (d := .bl true) (.is (.cmp (.ixL (ds := errT.map D.str) (d := .str (errT.getD j "")) (.list (.cons .str (.cons .str (.cons .str (.cons .str (.two .str .str)))))) (.indexD hu (ds := ks) (.name 2) .bl shb shp q2 q3 q4) ?i1) (.name 1) .eqS) (by simp)) rfl rfl)
  case i1 =>
    have : j = 0 ∨ j = 1 ∨ j = 2 ∨ j = 3 ∨ j = 4 ∨ j = 5 := by omega
    rcases this with rfl | rfl | rfl | rfl | rfl | rfl <;> rfl

/-! ### checked takes a good strip, _law_refused (k01) -/
theorem checked_ok (T : Fx K mg) (B : Bx mg) (Q : Cst mg) (ls : List Int) (ms : List Bool) (hl : ls.length = ms.length + 1) (h1 : ls.length ≤ 30) (ha : ∀ x ∈ ls, 1 ≤ x ∧ x ≤ 1000) : VF P w K mg base 3 "checked" [dS ls ms] (fun o => o = oS ls ms) := by
  refine VF.of T.d_checked sc_checked rfl fun f cdv A outer s H E hr => ?_
  have hB := B; cases hB
  refine' Ws.if (b := false) (.is (.bool (.or (c1 := false) (.is (.not (.val (.isi (T' := "tuple") ?h1 ?h2 (.name 0) kb_tup))) rfl) (fun _ => .or1 (c := false) (.is (.cmp (.lenT (ds := [dI ls, dM ms]) ?h3 (.name 0)) .int .neI) rfl)))) rfl) (fun h => by cases h) (fun _ => .nil ?_)
  case h1 => assumption
  case h2 => assumption
  case h3 => assumption
  refine' Ws.unpackS2 1 2 (d := dI ls) (d2 := dM ms) rfl sc_checked.nd (.sh (.name 0) ⟨rfl, ?_⟩)
  dsimp only [setW, List.set]
  refine' Ws.expr (.sh (d := .non) (.call (need_lengths_ok T B Q ls (by omega) h1 ha) (hr.mono (by decide)) (.one (.name 1)) (fun o e => by rw [e]; rfl)) ?_)
  refine' Ws.if (b := false) (.is (.bool (.or (c1 := false) (.is (.not (.val (.isi (T' := "list") ?i1 ?i2 (.name 2) kb_lst))) rfl) (fun _ => .or1 (c := false) (.is (.cmp (.lenM ?i3 (.name 2)) (.sub (.lenI ?i4 (.name 1)) .int) .neI) ?i5)))) rfl) (fun h => by cases h) (fun _ => .nil ?_)
  case i1 => assumption
  case i2 => assumption
  case i3 => assumption
  case i4 => assumption
  case i5 => rw [decide_eq_true (show (ms.length : Int) = (ls.length : Int) - 1 by omega)]; rfl
  refine' Ws.for (fun i ρ => ∃ x3, ρ = [some (.sh (dS ls ms)), some (.sh (dI ls)), some (.sh (dM ms)), x3]) [3] (fun i => [mkD (ms.getD i default)]) .never rfl (.list (.name 2)) ?a ⟨_, rfl⟩ ?b ?c
  case a =>
    intro i d hd
    obtain ⟨hi, rfl⟩ := map_get hd
    exact .name 3 sc_checked.nd
  case b =>
    rintro i d ρ hd ⟨x3, rfl⟩ _
    dsimp only [setW, List.set]
    generalize ms.getD i default = b
    refine' Ws.if (b := false) (.is (.not (c := true) (.val (.call (is_mark_ok T B (mkD b) rfl ?s1) (hr.mono (by decide)) (.one (.name 3)) (fun o e => by rw [e]; cases b <;> rfl)))) rfl) (fun h => by cases h) (fun _ => .nil (.nil ⟨_, rfl⟩))
    case s1 => intro s e; cases b <;> cases e <;> decide +kernel
  case c =>
    rintro ρ ⟨x3, rfl⟩ _
    refine' Ws.ret (.own (.pairO (o1 := oI ls) (o2 := oM ms) (.listL ?d1 (.name 1)) (.listL ?d2 (.name 2))) rfl rfl)
    case d1 => assumption
    case d2 => assumption

/-! ### length_of (k14) -/
section
open TL (tl)
theorem idx_get {l : List Nat} {k : Nat} {c : Nat} (h : (l.map fun c => D.str ⟨#[c]⟩)[k]? = some d) : k < l.length ∧ d = .str ⟨#[l.getD k 0]⟩ := by
  rw [List.getElem?_map] at h
  cases e : l[k]? with
  | none => rw [e] at h; cases h
  | some x =>
    rw [e] at h
    cases h
    exact ⟨(List.getElem?_eq_some_iff.mp e).1, by rw [List.getD_eq_getElem?_getD, e]; rfl⟩
theorem atI_0 {l : List Nat} {c : Nat} (h : l[0]? = some c) : atI l 0 = some c := by
  have hl := (List.getElem?_eq_some_iff.mp h).1
  unfold atI
  rw [ixN_of (by omega)]
  exact h
theorem sign_eq (c : Nat) : decide ((⟨#[c]⟩ : Str) = "0") = decide (c = 48) := by
  apply decide_eq_decide.mpr
  constructor
  · intro h
    have := congrArg tl h
    have e : tl ("0" : Str) = [48] := by decide +kernel
    rw [e] at this
    exact List.cons.inj (show [c] = [48] from this) |>.1
  · intro h
    subst h
    decide +kernel
theorem length_of_ok (T : Fx K mg) (B : Bx mg) (Q2 : ∃ t, mg "MOST_FIGURES" = some (.int 4 t)) (U0 : ∃ t, mg "FIGURES" = some (.str "0123456789" t)) (x : Str) (n : Nat) (hn : lenOf x = some n) : VF P w K mg base 1 "length_of" [.str x] (fun o => o = .sh (.int n)) := by
  refine VF.of T.d_length_of sc_length_of rfl fun f cdv A outer s H E hr => ?_
  have hB := B; cases hB
  obtain ⟨t2, q2⟩ := Q2
  obtain ⟨u0, q0⟩ := U0
  obtain ⟨⟨h1, h2, h3, h4⟩, rfl⟩ := lenOf_some hn
  have hsz : x.length ≤ sizeLine := Nat.le_trans h2 (by decide)
  obtain ⟨c, hc⟩ : ∃ c, (tl x)[0]? = some c := by
    rw [TL.len_tl] at h1
    exact ⟨_, List.getElem?_eq_getElem (by omega)⟩
  have hc48 : c ≠ 48 := fun e => h3 (by rw [hc, e])
  refine' Ws.if (b := false) (.is (.bool (.or (c1 := false) (.is (.not (c := true) (.is (.chain .int (.lenS ?a1 (.name 0) hsz) (.globI q2) .le (fun _ => .le)) ?a2)) rfl) (fun _ => .or1 (.is (.cmp (.ixS (.name 0) .int hsz (atI_0 hc)) .str .eqS) ?a3)))) rfl) (fun h => by cases h) (fun _ => .nil ?_)
  case a1 => assumption
  case a2 => rw [decide_eq_true (show (1 : Int) ≤ x.length by omega), decide_eq_true (show (x.length : Int) ≤ 4 by omega)]; rfl
  case a3 => rw [sign_eq]; exact decide_eq_false hc48
  refine' Ws.for (fun i ρ => ∃ x1, ρ = [some (.sh (.str x)), x1]) [1] (fun i => [.str ⟨#[(tl x).getD i 0]⟩]) .never rfl (.str (.name 0)) ?a ⟨_, rfl⟩ ?b ?c
  case a =>
    intro i d hd
    obtain ⟨hi, rfl⟩ := idx_get (c := 0) hd
    exact .name 1 sc_length_of.nd
  case b =>
    rintro i d ρ hd ⟨x1, rfl⟩ _
    obtain ⟨hi, -⟩ := idx_get (c := 0) hd
    dsimp only [setW, List.set]
    have hm : (tl x).getD i 0 ∈ tl x := by rw [List.getD_eq_getElem?_getD, List.getElem?_eq_getElem hi]; exact List.getElem_mem hi
    refine' Ws.if (b := false) (.is (.cmp (.name 1) (.globS q0) .notInSign rfl) ?b1) (fun h => by cases h) (fun _ => .nil (.nil ⟨_, rfl⟩))
    case b1 => rw [decide_eq_true ((fig_iff _).mpr (h4 _ hm))]; rfl
  case c =>
    rintro ρ ⟨x1, rfl⟩ _
    refine' Ws.ret (.sh (d := .int (NumText.digitsVal (tl x) : Nat)) (.intS ?c1 (.name 0) (lenOf_int hn) (by omega)) rfl)
    case c1 => assumption
theorem length_ofX (T : Fx K mg) (B : Bx mg) (Q2 : ∃ t, mg "MOST_FIGURES" = some (.int 4 t)) (U0 : ∃ t, mg "FIGURES" = some (.str "0123456789" t)) {Dx Fx' : Addr} (W : ErrW K mg 5 "BadText" Dx Fx') (x : Str) (hz : x.length ≤ 100000) (hn : lenOf x = none) : VX P w K mg base 1 "length_of" [.str x] Dx := by
  refine VX.of T.d_length_of sc_length_of rfl fun f cdv A outer s H E hr tk => ?_
  have hB := B; cases hB
  obtain ⟨t2, q2⟩ := Q2
  obtain ⟨u0, q0⟩ := U0
  have hsz : x.length ≤ sizeLine := Nat.le_trans hz (by decide)
  by_cases hl : 1 ≤ x.length ∧ x.length ≤ 4
  · obtain ⟨c, hc⟩ : ∃ c, (tl x)[0]? = some c := by
      have := hl.1
      rw [TL.len_tl] at this
      exact ⟨_, List.getElem?_eq_getElem (by omega)⟩
    refine' Ws.if (b := decide (c = 48)) (.is (.bool (.or (c1 := false) (.is (.not (c := true) (.is (.chain .int (.lenS ?a1 (.name 0) hsz) (.globI q2) .le (fun _ => .le)) ?a2)) rfl) (fun _ => .or1 (.is (.cmp (.ixS (.name 0) .int hsz (atI_0 hc)) .str .eqS) (sign_eq c))))) (by rw [Bool.false_or])) (fun h => Ws.raise W.er rfl tk rfl) (fun h0 => .nil ?_)
    case a1 => assumption
    case a2 => rw [decide_eq_true (show (1 : Int) ≤ x.length by omega), decide_eq_true (show (x.length : Int) ≤ 4 by omega)]; rfl
    have hex : ∃ y ∈ tl x, ¬ (48 ≤ y ∧ y ≤ 57) := by
      refine Classical.byContradiction fun hno => ?_
      unfold lenOf at hn
      rw [if_pos ⟨hl.1, hl.2, by rw [hc]; simpa using h0, fun y hy => Classical.byContradiction fun z => hno ⟨y, hy, z⟩⟩] at hn
      cases hn
    refine' Ws.for (fun i ρ => (∃ x1, ρ = [some (.sh (.str x)), x1]) ∧ ∀ j, j < i → j < (tl x).length → 48 ≤ (tl x).getD j 0 ∧ (tl x).getD j 0 ≤ 57) [1] (fun i => [.str ⟨#[(tl x).getD i 0]⟩]) (passes_of rfl) rfl (.str (.name 0)) ?a ⟨⟨_, rfl⟩, fun j hj => by omega⟩ ?b ?c
    case a =>
      intro i d hd
      obtain ⟨hi, rfl⟩ := idx_get (c := 0) hd
      exact .name 1 sc_length_of.nd
    case b =>
      rintro i d ρ hd ⟨⟨x1, rfl⟩, hall⟩ _
      dsimp only [setW, List.set]
      refine' Ws.if (b := !decide ((tl x).getD i 0 ∈ tl ("0123456789" : Str))) (.cmp (.name 1) (.globS q0) .notInSign rfl) (fun h => Ws.raise W.er rfl tk rfl) (fun h => .nil (.nil ⟨⟨_, rfl⟩, fun j hj hjl => ?z⟩))
      case z =>
        by_cases e : j = i
        · subst e; exact (fig_iff _).mp (by simpa using h)
        · exact hall j (by omega) hjl
    case c =>
      rintro ρ ⟨_, hall⟩ _
      obtain ⟨y, hy, hb⟩ := hex
      obtain ⟨j, hj, rfl⟩ := List.getElem_of_mem hy
      have := hall j (by simpa using hj) hj
      rw [List.getD_eq_getElem?_getD, List.getElem?_eq_getElem hj] at this
      exact absurd this hb
  · refine' Ws.if (b := true) (.is (.bool (.or (c1 := true) (.is (.not (c := false) (.is (.chain .int (.lenS ?a1 (.name 0) hsz) (.globI q2) .le (fun _ => .le)) ?a2)) rfl) (c2 := true) (fun h => by cases h))) rfl) (fun h => Ws.raise W.er rfl tk rfl) (fun h => by cases h)
    case a1 => assumption
    case a2 =>
      rw [← Bool.decide_and]
      exact decide_eq_false fun h => hl (by omega)
end

/-! ### read takes what writes a strip (k14) -/
theorem isInt_take {α : Type} (L : List α) (k : Nat) (x : α) (h : L[k]? = some x) : L.take (k + 1) = L.take k ++ [x] := by
  rw [List.take_add_one, h]; rfl
theorem msT_get {W : List Str} {i : Nat} {x : Str} (h : (alt (W.drop 1))[i]? = some x) : (msT W)[i]? = some ((markOf x).getD false) := by
  unfold msT; rw [List.getElem?_map, h]; rfl
theorem alt_mem {α : Type} {L : List α} {x : α} (h : x ∈ alt L) : x ∈ L := by
  obtain ⟨i, hi, rfl⟩ := List.getElem_of_mem h
  have := alt_get L i
  rw [List.getElem?_eq_getElem hi] at this
  exact List.mem_of_getElem? this.symm
theorem GoodT.lens {W : List Str} (h : GoodT W) : (lsT W).length = (msT W).length + 1 ∧ (lsT W).length ≤ 30 ∧ (∀ x ∈ lsT W, 1 ≤ x ∧ x ≤ 1000) := by
  obtain ⟨h1, h2, h3, h4⟩ := h
  refine ⟨?_, by unfold lsT; simpa using h3, fun x hx => ?_⟩
  · unfold lsT msT
    rw [List.length_map, List.length_map, alt_length, alt_length, List.length_drop]
    omega
  · unfold lsT at hx
    obtain ⟨w, hw, rfl⟩ := List.mem_map.mp hx
    obtain ⟨n, hn, hle⟩ := h1 w hw
    have := lenOf_pos hn
    rw [hn]; simp; omega
theorem read_ok (T : Fx K mg) (B : Bx mg) (Q : Cst mg) (Q2 : ∃ t, mg "MOST_FIGURES" = some (.int 4 t)) (M1 : ∃ c, mg "MARKS" = some (.ref c) ∧ KKeys K w c ["v", "h"] ∧ KDct K w c "v" (.str "valley") ∧ KDct K w c "h" (.str "hill")) (U0 : ∃ t, mg "FIGURES" = some (.str "0123456789" t))
    {Dx Fx' : Addr} (W0 : ErrW K mg 0 "BadStrip" Dx Fx') (t : Str) (hz : t.length ≤ 90000) (hg : GoodT (wordsT t)) : VF P w K mg base 4 "read" [.str t] (fun o => o = oS (lsT (wordsT t)) (msT (wordsT t))) := by
  refine VF.of T.d_read sc_read rfl fun f cdv A outer s H E hr => ?_
  have hB := B; cases hB
  obtain ⟨c1, m1, k1, kv, kh⟩ := M1
  refine' Ws.if (b := false) (.is (.not (.val (.isi ?h1 ?h2 (.name 0) kb_str))) rfl) (fun h => by cases h) (fun _ => .nil ?_)
  case h1 => assumption
  case h2 => assumption
  have hlen := wordsT_len t
  have hwl : ∀ w ∈ wordsT t, w.length ≤ 90000 := fun w hw => Nat.le_trans (wordsT_le hw) hz
  refine' Ws.asg 1 sc_read.nd (.own (o := oW (wordsT t)) (d := dW (wordsT t)) (.split (.name 0) .str (by decide) (Nat.le_trans (Nat.add_le_add_right hz 2) (by decide))) (oL_data _) ?_)
  refine Ws.share (i := 1) rfl ?_
  obtain ⟨l1, l2, l3⟩ := hg.lens
  obtain ⟨g1, g2, g3, g4⟩ := hg
  revert hlen hwl l1 l2 l3 g1 g2 g3 g4
  generalize wordsT t = W
  intro hlen hwl l1 l2 l3 g1 g2 g3 g4
  have ha := alt_length W
  refine' Ws.asgCI n_read (defScope s_read) 2 4 (alt W) D.str (fun w => (((lenOf w).getD 0 : Nat) : Int)) rfl sc_read.nd (.list (.alt0 (.name 1))) (by omega) (fun x hx s H C cl fp => ?e) ?_
  case e =>
    obtain ⟨n, hn, _⟩ := g1 x hx
    exact .call (length_of_ok T B Q2 U0 x n hn) (hr.mono (by decide)) (.one (.name 4)) (fun o e => by rw [e, hn]; rfl)
  refine Ws.share (i := 2) rfl ?_
  refine' Ws.asg 3 sc_read.nd (.own (o := oM []) (d := dM []) (EvO.list .nil) (oL_data _) ?_)
  refine' Ws.for (fun i ρ => ∃ x4, ρ = [some (.sh (.str t)), some (.sh (dW W)), some (.sh (dI (lsT W))), some (.om ((msT W).take i)), x4]) [4] (fun i => [.str ((alt (W.drop 1)).getD i default)]) .never rfl (.list (.alt1 (.name 1))) ?a ⟨_, rfl⟩ ?b ?c
  case a =>
    intro i d hd
    obtain ⟨hi, rfl⟩ := map_get hd
    exact .name 4 sc_read.nd
  case b =>
    rintro i d ρ hd ⟨x4, rfl⟩ _
    obtain ⟨hi, -⟩ := map_get hd
    dsimp only [setW, List.set]
    have hx : (alt (W.drop 1))[i]? = some ((alt (W.drop 1)).getD i default) := by rw [List.getD_eq_getElem?_getD, List.getElem?_eq_getElem hi]; rfl
    generalize (alt (W.drop 1)).getD i default = x at hx
    have hi' : (((msT W).take i).map mkD).length < 100000 := by
      rw [List.length_map, List.length_take]
      have := alt_length (W.drop 1)
      rw [List.length_drop] at this
      omega
    obtain ⟨m, hm⟩ := g2 x (List.mem_of_getElem? hx)
    have hxm := markOf_some hm
    have hml := msT_get hx
    rw [hm] at hml
    have hkd : KDct K w c1 x (.str (if m then "valley" else "hill")) := by rw [hxm]; cases m; exact kh; exact kv
    refine' Ws.if (b := false) (.is (.cmp (.name 4) (.globR m1) (.notInK k1 (fun _ => ⟨_, hkd⟩)) rfl) ?b1) (fun h => by cases h) (fun _ => .nil ?_)
    case b1 =>
      refine decide_eq_false fun h => ?_
      rw [← markOf_none, hm] at h
      cases h
    refine' Ws.append 3 (((msT W).take (i + 1)).map mkD) (d := mkD m) (.sh (.ixG m1 (.name 4) hkd) ⟨rfl, rfl⟩) ?b2 (.nil ⟨_, rfl⟩) (hz := hi')
    case b2 => rw [isInt_take _ _ _ hml, List.map_append]; rfl
  case c =>
    rintro ρ ⟨x4, rfl⟩ _
    rw [List.length_map, List.take_of_length_le (show (msT W).length ≤ (alt (W.drop 1)).length by unfold msT; simp)]
    refine Ws.share (i := 3) rfl ?_
    refine' Ws.tryX (c := .ref Dx) (fun _ => False) ⟨rfl, by decide, .inl W0.er.g⟩ ?tk (fun hd e s h => h.elim) (fun v h => h.elim) ?bd (fun v a oe pn h => h.elim)
    case tk =>
      intro u s' h
      obtain ⟨_, _, _, _, _, _, _, _, _, _, _, _, _, _, _, _, q⟩ := h
      exact q.elim
    case bd =>
      intro Wx pn xe tk po
      refine' Ws.ret (.own (.call (checked_ok T B Q (lsT W) (msT W) l1 l2 l3) (hr.mono (by decide)) (.one (.tup (.two (.name 2) (.name 3)))) (fun o e => e)) rfl rfl)

/-! ### read refuses (k14) -/
theorem first_at {α : Type} {p : α → Prop} : ∀ {L : List α}, (∃ x ∈ L, p x) → ∃ (k : Nat) (x : α), L[k]? = some x ∧ p x ∧ ∀ (j : Nat) (y : α), j < k → L[j]? = some y → ¬ p y
  | [], h => by obtain ⟨x, hx, _⟩ := h; cases hx
  | a :: L, h => by
    by_cases ha : p a
    · exact ⟨0, a, rfl, ha, fun j y hj => by omega⟩
    · obtain ⟨x, hx, hp⟩ := h
      rcases List.mem_cons.mp hx with rfl | hx
      · exact absurd hp ha
      · obtain ⟨k, y, h1, h2, h3⟩ := first_at ⟨x, hx, hp⟩
        refine ⟨k + 1, y, h1, h2, fun j z hj hz => ?_⟩
        cases j with
        | zero => cases hz; exact ha
        | succ j => exact h3 j z (by omega) hz
def BadT (d : D) : Prop := d.isOb = false ∧ (d.isStr' = false ∨ ∃ t, d = .str t ∧ t.length ≤ 90000 ∧ ¬ GoodT (wordsT t))
theorem readX (T : Fx K mg) (B : Bx mg) (Q : Cst mg) (Q2 : ∃ t, mg "MOST_FIGURES" = some (.int 4 t)) (M1 : ∃ c, mg "MARKS" = some (.ref c) ∧ KKeys K w c ["v", "h"] ∧ KDct K w c "v" (.str "valley") ∧ KDct K w c "h" (.str "hill")) (U0 : ∃ t, mg "FIGURES" = some (.str "0123456789" t))
    {Dx Dy Fx' : Addr} (W0 : ErrW K mg 0 "BadStrip" Dx Fx') (W5 : ErrW K mg 5 "BadText" Dy Fx') (Y0 : PySem.W.exmOne K (.ref Dx) (.ref Dx) = some true) (d : D) (hd : BadT d) : VX P w K mg base 4 "read" [d] Dy := by
  refine VX.of T.d_read sc_read rfl fun f cdv A outer s H E hr tk => ?_
  have hB := B; cases hB
  obtain ⟨c1, m1, k1, kv, kh⟩ := M1
  obtain ⟨ho, hd⟩ := hd
  by_cases hs : d.isStr' = false
  · refine' Ws.if (b := true) (.is (.not (c := false) (.val (.isi (T' := "str") ?h1 ?h2 (.name 0) (by rw [← hs]; exact kit_str' ho) (hob := ho)))) rfl) (fun h => Ws.raise W5.er rfl tk rfl) (fun h => by cases h)
    case h1 => assumption
    case h2 => assumption
  obtain ⟨t, rfl, hz, hg⟩ := hd.resolve_left hs
  refine' Ws.if (b := false) (.is (.not (.val (.isi ?h1 ?h2 (.name 0) kb_str))) rfl) (fun h => by cases h) (fun _ => .nil ?_)
  case h1 => assumption
  case h2 => assumption
  have hlen := wordsT_len t
  have hwl : ∀ w ∈ wordsT t, w.length ≤ 90000 := fun w hw => Nat.le_trans (wordsT_le hw) hz
  have hne := wordsT_ne t
  refine' Ws.asg 1 sc_read.nd (.own (o := oW (wordsT t)) (d := dW (wordsT t)) (.split (.name 0) .str (by decide) (Nat.le_trans (Nat.add_le_add_right hz 2) (by decide))) (oL_data _) ?_)
  refine Ws.share (i := 1) rfl ?_
  revert hlen hwl hg hne
  generalize wordsT t = W
  intro hg hlen hwl hne
  have ha := alt_length W
  have ha1 := alt_length (W.drop 1)
  rw [List.length_drop] at ha1
  have hW0 : 1 ≤ W.length := by cases W with
    | nil => exact absurd rfl hne
    | cons a r => simp
  by_cases hbad : ∃ x ∈ alt W, lenOf x = none
  · obtain ⟨k, x0, hx0, hn0, hbef⟩ := first_at hbad
    have hk := (List.getElem?_eq_some_iff.mp hx0).1
    refine' Ws.asgCX (C := Dy) (own := [("word", 4)]) (alt W) D.str (fun w => .sh (.int (((lenOf w).getD 0 : Nat) : Int))) [4] (fun x => [.str x]) k hk rfl rfl rfl sc_read.nd tk rfl (.list (.alt0 (.name 1))) (blkOk_by (N := n_read) (sc := defScope s_read) (by decide +kernel)) (by simp) (fun x hx s H C cl fp xe => .name 4 sc_read.nd) (fun i x hi hx s H C cl fp xe => ?e1) (fun x hx s H C cl fp xe E pass => ?e2) (Nat.lt_of_lt_of_le (show (alt W).length < 100000 by omega) (by decide))
    case e1 =>
      have := hbef i x hi hx
      obtain ⟨n, hn⟩ := Option.ne_none_iff_exists'.mp this
      exact .call (length_of_ok T B Q2 U0 x n hn) (hr.mono (by decide)) (.one (.name 4)) (fun o e => by rw [e, hn]; rfl)
    case e2 =>
      rw [hx0] at hx; cases hx
      exact .call (length_ofX T B Q2 U0 W5 x0 (Nat.le_trans (hwl x0 (alt_mem (List.mem_of_getElem? hx0))) (by decide)) hn0) (hr.mono (by decide)) pass (.one (.name 4))
  have hlens : ∀ x ∈ alt W, ∃ n, lenOf x = some n := fun x hx => Option.ne_none_iff_exists'.mp fun e => hbad ⟨x, hx, e⟩
  refine' Ws.asgCI n_read (defScope s_read) 2 4 (alt W) D.str (fun w => (((lenOf w).getD 0 : Nat) : Int)) rfl sc_read.nd (.list (.alt0 (.name 1))) (by omega) (fun x hx s H C cl fp => ?e3) ?_
  case e3 =>
    obtain ⟨n, hn⟩ := hlens x hx
    exact .call (length_of_ok T B Q2 U0 x n hn) (hr.mono (by decide)) (.one (.name 4)) (fun o e => by rw [e, hn]; rfl)
  refine Ws.share (i := 2) rfl ?_
  refine' Ws.asg 3 sc_read.nd (.own (o := oM []) (d := dM []) (EvO.list .nil) (oL_data _) ?_)
  refine' Ws.for (fun i ρ => (∃ x4, ρ = [some (.sh (.str t)), some (.sh (dW W)), some (.sh (dI (lsT W))), some (.om ((msT W).take i)), x4]) ∧ ∀ j x, j < i → (alt (W.drop 1))[j]? = some x → markOf x ≠ none) [4] (fun i => [.str ((alt (W.drop 1)).getD i default)]) (passes_of rfl) rfl (.list (.alt1 (.name 1))) ?a ⟨⟨_, rfl⟩, fun j x hj => by omega⟩ ?b ?c
  case a =>
    intro i d hd
    obtain ⟨hi, rfl⟩ := map_get hd
    exact .name 4 sc_read.nd
  case b =>
    rintro i d ρ hd ⟨⟨x4, rfl⟩, hall⟩ _
    obtain ⟨hi, -⟩ := map_get hd
    dsimp only [setW, List.set]
    have hx : (alt (W.drop 1))[i]? = some ((alt (W.drop 1)).getD i default) := by rw [List.getD_eq_getElem?_getD, List.getElem?_eq_getElem hi]; rfl
    generalize (alt (W.drop 1)).getD i default = x at hx
    have hi' : (((msT W).take i).map mkD).length < 100000 := by
      rw [List.length_map, List.length_take]
      omega
    refine' Ws.if (b := decide (x ∉ (["v", "h"] : List Str))) (.cmp (.name 4) (.globR m1) (.notInK k1 (fun hin => ?kk)) rfl) (fun _ => Ws.raise W5.er rfl tk rfl) (fun hin => .nil ?_)
    case kk =>
      simp only [List.mem_cons, List.not_mem_nil, or_false] at hin
      rcases hin with rfl | rfl
      · exact ⟨_, kv⟩
      · exact ⟨_, kh⟩
    have hmn : markOf x ≠ none := fun e => by
      rw [markOf_none] at e
      exact of_decide_eq_false hin e
    obtain ⟨m, hm⟩ := Option.ne_none_iff_exists'.mp hmn
    have hxm := markOf_some hm
    have hml := msT_get hx
    rw [hm] at hml
    have hkd : KDct K w c1 x (.str (if m then "valley" else "hill")) := by rw [hxm]; cases m; exact kh; exact kv
    refine' Ws.append 3 (((msT W).take (i + 1)).map mkD) (d := mkD m) (.sh (.ixG m1 (.name 4) hkd) ⟨rfl, rfl⟩) ?b2 (.nil ⟨⟨_, rfl⟩, fun j y hj hy => ?b4⟩) (hz := hi')
    case b2 => rw [isInt_take _ _ _ hml, List.map_append]; rfl
    case b4 =>
      by_cases e : j = i
      · subst e; rw [hx] at hy; cases hy; exact hmn
      · exact hall j y (by omega) hy
  case c =>
    rintro ρ ⟨⟨x4, rfl⟩, hall⟩ _
    have hmarks : ∀ x ∈ alt (W.drop 1), ∃ m, markOf x = some m := fun x hx => by
      obtain ⟨j, hj, rfl⟩ := List.getElem_of_mem hx
      exact Option.ne_none_iff_exists'.mp (hall j _ (by simpa using hj) (List.getElem?_eq_getElem hj))
    rw [List.length_map, List.take_of_length_le (show (msT W).length ≤ (alt (W.drop 1)).length by unfold msT; simp)]
    refine Ws.share (i := 3) rfl ?_
    have hll : (lsT W).length = (alt W).length := by unfold lsT; simp
    have hml : (msT W).length = (alt (W.drop 1)).length := by unfold msT; simp
    have hstp : BadStp (.tup [dI (lsT W), dM (msT W)]) := by
      refine ⟨rfl, .inr ⟨_, rfl, .inr ⟨_, _, rfl, ?_⟩⟩⟩
      by_cases hb : 30 < (alt W).length ∨ ∃ x ∈ lsT W, 1000 < x
      · left
        refine ⟨rfl, .inr ⟨(lsT W).map D.int, rfl, by rw [List.length_map]; omega, ?_⟩⟩
        rcases hb with hb | ⟨x, hx, hb⟩
        · left; right; rw [List.length_map]; omega
        · right
          refine ⟨fun y hy => ?_, .int x, List.mem_map_of_mem hx, ?_⟩
          · obtain ⟨z, _, rfl⟩ := List.mem_map.mp hy; rfl
          · show (!(decide (1 ≤ x) && decide (x ≤ 1000))) = true
            rw [decide_eq_false (show ¬ x ≤ 1000 by omega)]; simp
      · right
        have hall2 : ∀ x ∈ alt W, ∃ n, lenOf x = some n ∧ n ≤ 1000 := fun x hx => by
          obtain ⟨n, hn⟩ := hlens x hx
          refine ⟨n, hn, Classical.byContradiction fun z => hb (.inr ⟨(((lenOf x).getD 0 : Nat) : Int), ?_, ?_⟩)⟩
          · unfold lsT; exact List.mem_map_of_mem (f := fun w => (((lenOf w).getD 0 : Nat) : Int)) hx
          · rw [hn]; simp; omega
        have hodd : W.length % 2 ≠ 1 := fun e => hg ⟨hall2, hmarks, by omega, e⟩
        refine ⟨lsT W, rfl, by omega, by omega, fun x hx => ?_, rfl, .inr ⟨(msT W).map mkD, rfl, by rw [List.length_map]; omega, .inl ?_⟩⟩
        · unfold lsT at hx
          obtain ⟨y, hy, rfl⟩ := List.mem_map.mp hx
          obtain ⟨n, hn, hle⟩ := hall2 y hy
          have := lenOf_pos hn
          rw [hn]; simp; omega
        · rw [List.length_map]; omega
    refine' Ws.tryX (c := .ref Dx) (fun v => v = .ref Dx) ⟨rfl, by decide, .inl W0.er.g⟩ tk (L2H.passesAt_of rfl) (fun v h => by rw [h]; exact Y0) ?bd ?su
    case bd =>
      intro Wx pn xe tkN po
      exact Ws.retR (.callN (checkedN T B Q W0 _ hstp) (hr.mono (by decide)) tkN (.one (.tup (.two (.name 2) (.name 3))))) rfl
    case su =>
      rintro v a oe pn rfl tkS hot
      exact Ws.raiseH W5.er hot tkS rfl

/-! ### written, _law_text (k14) -/
theorem pyget_0 (ls : List Int) : pyget ls 0 = ls.getD 0 0 := pyget_nat ls 0
theorem log2_small {i : Int} (h : 0 ≤ i) (h2 : i ≤ 9999) : i.natAbs.log2 < 1920 := by
  by_cases e : i.natAbs = 0
  · rw [e]; decide
  · have := (Nat.log2_lt (n := i.natAbs) (k := 14) e).mpr (by omega)
    omega
theorem zipD_map (ls : List Int) (ms : List Bool) : zipD (ls.map D.int) (ms.map mkD) = (ls.zip ms).map fun p => D.tup [.int p.1, mkD p.2] := by
  unfold zipD
  rw [List.zip_map, List.map_map]
  rfl
theorem join_lenW {a : Int} {ps : List (Int × Bool)} (ha : 0 ≤ a ∧ a ≤ 1000) (h : ∀ p ∈ ps, 0 ≤ p.1 ∧ p.1 ≤ 1000) : (Txt.join " " (wordsOf a ps)).length ≤ (1 + 2 * ps.length) * 5 := by
  refine Nat.le_trans (join_len _ 4 fun w hw => ?_) (by rw [wordsOf_length]; omega)
  rcases wordsOf_mem hw with rfl | ⟨p, hp, rfl | rfl⟩
  · exact num_len ha.1 (by omega)
  · rw [sgn_len]; omega
  · have := h p hp
    exact num_len this.1 (by omega)
theorem written_ok (T : Fx K mg) (B : Bx mg) (G0 : ∃ c, mg "SIGNS" = some (.ref c) ∧ KDct K w c "valley" (.str "v") ∧ KDct K w c "hill" (.str "h")) (ls : List Int) (ms : List Bool) (hl : ls.length = ms.length + 1) (h30 : ls.length ≤ 30) (hb : ∀ x ∈ ls, 1 ≤ x ∧ x ≤ 1000) :
    VF P w K mg base 1 "written" [dS ls ms] (fun o => o = .sh (.str (textF ls ms))) := by
  refine VF.of T.d_written sc_written rfl fun f cdv A outer s H E hr => ?_
  have hB := B; cases hB
  obtain ⟨c, g0, kv, kh⟩ := G0
  have h0 : 1 ≤ ls.getD 0 0 ∧ ls.getD 0 0 ≤ 1000 := by
    cases ls with
    | nil => simp at hl
    | cons a r => exact hb a (List.mem_cons_self ..)
  have hps : ∀ p ∈ (ls.drop 1).zip ms, 0 ≤ p.1 ∧ p.1 ≤ 1000 := fun p hp => by
    have := hb p.1 (List.mem_of_mem_drop (List.of_mem_zip hp).1)
    omega
  have hpl : ((ls.drop 1).zip ms).length ≤ 30 := by simp; omega
  unfold textF
  revert hps hpl
  have e1 : cutL ls (some 1) none = ls.drop 1 := by rw [show (1 : Int) = ((1 : Nat) : Int) by rfl, cutL_from]
  have hit : zipD ((cutL ls (some 1) none).map D.int) (ms.map mkD) = ((ls.drop 1).zip ms).map fun p => D.tup [.int p.1, mkD p.2] := by rw [e1, zipD_map]
  revert hit
  generalize (ls.drop 1).zip ms = ps
  intro hit hps hpl
  refine' Ws.asg 1 sc_written.nd (.sh (d := .str (Txt.join " " (wordsOf (ls.getD 0 0) (ps.take 0)))) (.is (.strI ?a1 (.ixI (.ixT0 (.name 0)) .int (by omega)) (by rw [pyget_0]; exact log2_small (by omega) (by omega))) ?a2) ?_)
  case a1 => assumption
  case a2 => rw [pyget_0]; rfl
  refine' Ws.for (fun i ρ => ∃ x2 x3, ρ = [some (.sh (dS ls ms)), some (.sh (.str (Txt.join " " (wordsOf (ls.getD 0 0) (ps.take i))))), x2, x3]) [2, 3] (fun i => [.int (ps.getD i default).1, mkD (ps.getD i default).2]) .never rfl ((EvI.zip ?b0 (.sliceI (.ixT0 (.name 0)) (.some .int) .none) (.ixT1 (.name 0))).is hit) ?b1 ⟨_, _, rfl⟩ ?b2 ?b3
  case b0 => assumption
  case b1 =>
    intro i d hd
    obtain ⟨hi, rfl⟩ := map_get hd
    exact .two 2 3 rfl sc_written.nd
  case b2 =>
    rintro i d ρ hd ⟨x2, x3, rfl⟩ _
    obtain ⟨hi, -⟩ := map_get hd
    dsimp only [setW, List.set]
    have hp : ps[i]? = some (ps.getD i default) := by rw [List.getD_eq_getElem?_getD, List.getElem?_eq_getElem hi]; rfl
    generalize ps.getD i default = p at hp
    have hpm := hps p (List.mem_of_getElem? hp)
    have htl : ∀ q ∈ ps.take i, 0 ≤ q.1 ∧ q.1 ≤ 1000 := fun q hq => hps q (List.mem_of_mem_take hq)
    have hjl := join_lenW (a := ls.getD 0 0) ⟨by omega, by omega⟩ htl
    have htk : (ps.take i).length ≤ 30 := by rw [List.length_take]; omega
    have hkd : KDct K w c (if p.2 then "valley" else "hill") (.str (sgn p.2)) := by cases p.2; exact kh; exact kv
    have hnl := num_len hpm.1 (by omega)
    have hsl := sgn_len p.2
    have hbl : (" " : Str).length = 1 := by decide
    have app : ∀ x y : Str, (x ++ y).length = x.length + y.length := fun x y => by rw [TL.len_tl, TL.tl_append, List.length_append, ← TL.len_tl, ← TL.len_tl]
    refine' Ws.asg 1 sc_written.nd (.sh (d := .str (Txt.join " " (wordsOf (ls.getD 0 0) (ps.take (i + 1))))) (.is (.addS (.addS (.addS (.addS (.name 1) .str ?l1) (.ixG g0 (.name 3) hkd) ?l2) .str ?l3) (.strI ?s1 (.name 2) (log2_small hpm.1 (by omega))) ?l4) ?e1) (.nil ⟨_, _, rfl⟩))
    case s1 => assumption
    case l1 => exact Nat.le_trans (m := 1000) (by rw [hbl]; omega) (by decide)
    case l2 => exact Nat.le_trans (m := 1000) (by rw [app, hbl, hsl]; omega) (by decide)
    case l3 => exact Nat.le_trans (m := 1000) (by rw [app, app, hbl, hsl]; omega) (by decide)
    case l4 => exact Nat.le_trans (m := 1000) (by rw [app, app, app, hbl, hsl]; have : (toString p.1 : Str).length ≤ 4 := hnl; omega) (by decide)
    case e1 =>
      rw [isInt_take _ _ _ hp, wordsOf_snoc]
      show D.str _ = D.str (Txt.join " " (num (ls.getD 0 0) :: ((ps.take i).flatMap fun p => [sgn p.2, num p.1]) ++ [sgn p.2, num p.1]))
      rw [List.cons_append, join_snoc2]
      rfl
  case b3 =>
    rintro ρ ⟨x2, x3, rfl⟩ _
    rw [List.length_map, List.take_length]
    exact .ret (.sh (.name 1) rfl)
theorem ltext_ok (T : Fx K mg) (B : Bx mg) (ls : List Int) (ms : List Bool) (hl : ls.length = ms.length + 1) (h30 : ls.length ≤ 30) (hb : ∀ x ∈ ls, 1 ≤ x ∧ x ≤ 1000) :
    VF P w K mg base 1 "_law_text" [dS ls ms] (fun o => o = .sh (.str (textF ls ms))) := by
  refine VF.of T.d_L_text sc_L_text rfl fun f cdv A outer s H E hr => ?_
  have hB := B; cases hB
  have h0 : 1 ≤ ls.getD 0 0 ∧ ls.getD 0 0 ≤ 1000 := by
    cases ls with
    | nil => simp at hl
    | cons a r => exact hb a (List.mem_cons_self ..)
  have hps : ∀ p ∈ (ls.drop 1).zip ms, 0 ≤ p.1 ∧ p.1 ≤ 1000 := fun p hp => by
    have := hb p.1 (List.mem_of_mem_drop (List.of_mem_zip hp).1)
    omega
  have hpl : ((ls.drop 1).zip ms).length = ms.length := by simp; omega
  have hget : ∀ i, i < ms.length → ((ls.drop 1).zip ms)[i]? = some (ls.getD (i + 1) 0, ms.getD i false) := fun i hi => by
    rw [List.getElem?_zip_eq_some]
    refine ⟨?_, ?_⟩
    · rw [List.getElem?_drop, List.getD_eq_getElem?_getD, show 1 + i = i + 1 by omega, List.getElem?_eq_getElem (by omega)]; rfl
    · show _ = some (ms.getD i false)
      rw [List.getD_eq_getElem?_getD, List.getElem?_eq_getElem hi]; rfl
  unfold textF
  revert hps hpl hget
  generalize (ls.drop 1).zip ms = ps
  intro hps hpl hget
  refine' Ws.asg 1 sc_L_text.nd (.own (o := oW (wordsOf (ls.getD 0 0) (ps.take 0))) (d := dW (wordsOf (ls.getD 0 0) (ps.take 0))) (.is (.list (.one (.strI ?a1 (.ixI (.ixT0 (.name 0)) .int (by omega)) (by rw [pyget_0]; exact log2_small (by omega) (by omega))))) ?a2) (oL_data _) ?_)
  case a1 => assumption
  case a2 => rw [pyget_0]; rfl
  refine' Ws.for (fun i ρ => ∃ x2, ρ = [some (.sh (dS ls ms)), some (.ol ((wordsOf (ls.getD 0 0) (ps.take i)).map D.str)), x2]) [2] (fun i => [.int (i : Int)]) .never rfl (.rangeN (j := (ms.length : Int)) ?b0 (.lenM ?b4 (.ixT1 (.name 0))) (by omega)) ?b1 ⟨_, rfl⟩ ?b2 ?b3
  case b0 => assumption
  case b4 => assumption
  case b1 =>
    intro i d hd
    obtain ⟨hi, rfl⟩ := map_get hd
    rw [List.getD_eq_getElem?_getD, List.getElem?_range (by simpa using hi)]
    exact .name 2 sc_L_text.nd
  case b2 =>
    rintro i d ρ hd ⟨x2, rfl⟩ _
    obtain ⟨hi, -⟩ := map_get hd
    have hi : i < ms.length := by simpa using hi
    dsimp only [setW, List.set]
    have hp := hget i hi
    have hpm := hps _ (List.mem_of_getElem? hp)
    have hwl : ((wordsOf (ls.getD 0 0) (ps.take i)).map D.str).length ≤ 100 := by rw [List.length_map, wordsOf_length, List.length_take]; omega
    have hwl2 : ((wordsOf (ls.getD 0 0) (ps.take i) ++ [sgn (ms.getD i false)]).map D.str).length ≤ 101 := by
      rw [List.length_map, List.length_append]
      rw [List.length_map] at hwl
      simp only [List.length_cons, List.length_nil]
      omega
    have hdk : valV [((.inr "valley" : Key), V.str "v"), (.inr "hill", .str "h")] (.inr (if pyget ms (i : Int) then "valley" else "hill")) = some (.str (sgn (ms.getD i false))) := by
      rw [pyget_nat]; show valV [((.inr "valley" : Key), V.str "v"), (.inr "hill", .str "h")] (.inr (if ms.getD i false then "valley" else "hill")) = _
      cases ms.getD i false <;> decide +kernel
    have e2 : (i : Int) + 1 = ((i + 1 : Nat) : Int) := by omega
    refine' Ws.append 1 ((wordsOf (ls.getD 0 0) (ps.take i) ++ [sgn (ms.getD i false)]).map D.str) (d := .str (sgn (ms.getD i false))) (.bor (.ixDkS (Nat.lt_of_le_of_lt (Nat.add_le_add_left (by decide : 1 ≤ 64) _) hr.units) (.dict2 (by decide)) (.ixM (.ixT1 (.name 0)) (.name 2) (by omega)) hdk) rfl ⟨rfl, rfl⟩) (by rw [List.map_append]; rfl) ?_ (hz := Nat.lt_of_le_of_lt hwl (by decide))
    refine' Ws.append 1 ((wordsOf (ls.getD 0 0) (ps.take (i + 1))).map D.str) (d := .str (num (ls.getD (i + 1) 0))) (.bor (.is (.strI ?c1 (.ixI (.ixT0 (.name 0)) (.add (.name 2) .int) (by omega)) (by rw [e2, pyget_nat]; exact log2_small hpm.1 (show ls.getD (i + 1) 0 ≤ 9999 by have := hpm.2; simp only at this; omega))) (by rw [e2, pyget_nat]; rfl)) rfl ⟨rfl, rfl⟩) ?c2 (.nil ⟨_, rfl⟩) (hz := Nat.lt_of_le_of_lt hwl2 (by decide))
    case c1 => assumption
    case c2 => rw [isInt_take _ _ _ hp, wordsOf_snoc]; simp only [List.map_append, List.map_cons, List.map_nil, List.append_assoc, List.cons_append, List.nil_append]
  case b3 =>
    rintro ρ ⟨x2, rfl⟩ _
    rw [List.length_map, List.length_range, Int.toNat_natCast, List.take_of_length_le (by omega)]
    refine Ws.share (i := 1) rfl ?_
    have hsum := sum_len (wordsOf (ls.getD 0 0) ps) 4 fun w hw => by
      rcases wordsOf_mem hw with rfl | ⟨p, hp, rfl | rfl⟩
      · exact num_len (by omega) (by omega)
      · rw [sgn_len]; omega
      · have := hps p hp
        exact num_len this.1 (by omega)
    have hwl := wordsOf_length (ls.getD 0 0) ps
    exact .ret (.sh (.join .str (.name 1) (by have : (" " : Str).length = 1 := by decide
                                              rw [this]; omega)) rfl)

/-! ### _law_length, _law_strip_of (k14) -/
section
open TL (tl)
def lenD (w : Str) : D := match lenOf w with
  | some n => if n ≤ 1000 then .int (n : Int) else .non
  | none => .non
def markD (w : Str) : D := match markOf w with
  | some m => mkD m
  | none => .non
theorem lenD_some {w : Str} {n : Nat} (h : lenOf w = some n) : lenD w = if n ≤ 1000 then .int (n : Int) else .non := by unfold lenD; rw [h]
theorem lenD_none {w : Str} (h : lenOf w = none) : lenD w = .non := by unfold lenD; rw [h]
theorem tl_empty : tl ("" : Str) = [] := by decide +kernel
theorem llength_ok (T : Fx K mg) (B : Bx mg) (x : Str) (hz : x.length ≤ 90000) : VF P w K mg base 1 "_law_length" [.str x] (fun o => o = .sh (lenD x)) := by
  refine VF.of T.d_L_length sc_L_length rfl fun f cdv A outer s H E hr => ?_
  have hB := B; cases hB
  have hsz : x.length ≤ sizeLine := Nat.le_trans hz (by decide)
  by_cases he : x = ""
  · refine' Ws.if (b := true) (.is (.bool (.or (c1 := true) (.is (.cmp (.name 0) .str .eqS) (decide_eq_true he)) (c2 := true) (fun h => by cases h))) rfl) (fun _ => .ret (.sh .non ?a)) (fun h => by cases h)
    case a =>
      subst he
      rw [lenD_none (by decide +kernel)]; rfl
  · obtain ⟨c, hc⟩ : ∃ c, (tl x)[0]? = some c := by
      cases e : tl x with
      | nil => exact absurd (TL.ext_tl (e.trans tl_empty.symm)) he
      | cons c r => exact ⟨c, rfl⟩
    have h1 : 1 ≤ x.length := by rw [TL.len_tl]; exact (List.getElem?_eq_some_iff.mp hc).1
    refine' Ws.if (b := decide (c = 48) || decide (4 < x.length)) (.is (.bool (.or (c1 := false) (.is (.cmp (.name 0) .str .eqS) (decide_eq_false he)) (fun _ => .or (.is (.cmp (.ixS (.name 0) .int hsz (atI_0 hc)) .str .eqS) (sign_eq c)) (fun _ => .or1 (.is (.cmp (.lenS ?a1 (.name 0) hsz) .int .gt) ?a2))))) (by rw [Bool.false_or])) (fun h => .ret (.sh .non ?a3)) (fun h => .nil ?_)
    case a1 => assumption
    case a2 => exact decide_eq_decide.mpr (by omega)
    case a3 =>
      rw [lenD_none]; rfl
      unfold lenOf
      rw [if_neg]
      rintro ⟨_, q1, q2, _⟩
      rw [hc] at q2
      simp at h
      rcases h with h | h
      · exact q2 (by rw [h])
      · omega
    have h48 : c ≠ 48 := fun e => by simp [e] at h
    have h4 : x.length ≤ 4 := by simp at h; omega
    refine' Ws.for (fun i ρ => (∃ x1, ρ = [some (.sh (.str x)), x1]) ∧ ∀ j, j < i → j < (tl x).length → 48 ≤ (tl x).getD j 0 ∧ (tl x).getD j 0 ≤ 57) [1] (fun i => [.str ⟨#[(tl x).getD i 0]⟩]) .never rfl (.str (.name 0)) ?a ⟨⟨_, rfl⟩, fun j hj => by omega⟩ ?b ?c
    case a =>
      intro i d hd
      obtain ⟨hi, rfl⟩ := idx_get (c := 0) hd
      exact .name 1 sc_L_length.nd
    case b =>
      rintro i d ρ hd ⟨⟨x1, rfl⟩, hall⟩ _
      obtain ⟨hi, -⟩ := idx_get (c := 0) hd
      dsimp only [setW, List.set]
      refine' Ws.if (b := !decide ((tl x).getD i 0 ∈ tl ("0123456789" : Str))) (.cmp (.name 1) .str .notInSign rfl) (fun h => .ret (.sh .non ?y)) (fun h => .nil (.nil ⟨⟨_, rfl⟩, fun j hj hjl => ?z⟩))
      case y =>
        show O.sh .non = O.sh (lenD x)
        rw [lenD_none]
        unfold lenOf
        rw [if_neg]
        rintro ⟨_, _, _, q⟩
        have := q ((tl x).getD i 0) (by rw [List.getD_eq_getElem?_getD, List.getElem?_eq_getElem hi]; exact List.getElem_mem hi)
        rw [← fig_iff] at this
        rw [decide_eq_true this] at h
        cases h
      case z =>
        by_cases e : j = i
        · subst e; exact (fig_iff _).mp (by simpa using h)
        · exact hall j (by omega) hjl
    case c =>
      rintro ρ ⟨⟨x1, rfl⟩, hall⟩ _
      have hn : lenOf x = some (NumText.digitsVal (tl x)) := by
        unfold lenOf
        rw [if_pos]
        refine ⟨h1, h4, by rw [hc]; simpa using h48, fun y hy => ?_⟩
        obtain ⟨j, hj, rfl⟩ := List.getElem_of_mem hy
        have := hall j (by simpa using hj) hj
        rw [List.getD_eq_getElem?_getD, List.getElem?_eq_getElem hj] at this
        exact this
      refine' Ws.if (b := decide (1000 < ((NumText.digitsVal (tl x) : Nat) : Int))) (.is (.cmp (.intS ?c1 (.name 0) (lenOf_int hn) (by omega)) .int .gt) rfl) (fun h => .ret (.sh .non ?c2)) (fun h => .nil (.ret (.sh (d := .int (NumText.digitsVal (tl x) : Nat)) (.intS ?c3 (.name 0) (lenOf_int hn) (by omega)) ?c4)))
      case c1 => assumption
      case c3 => assumption
      case c2 => show O.sh .non = O.sh (lenD x); rw [lenD_some hn, if_neg (by have := of_decide_eq_true h; omega)]
      case c4 => show O.sh _ = O.sh (lenD x); rw [lenD_some hn, if_pos (by have := of_decide_eq_false h; omega)]
/-- every second word, by their numbers -/
theorem alt_range (W : List Str) (n : Nat) (hn : n = (W.length + 1) / 2) : alt W = (List.range n).map fun (t : Nat) => pyget W (0 + (t : Int) * 2) := by
  apply List.ext_getElem?
  intro i
  rw [alt_get, List.getElem?_map]
  by_cases hi : i < n
  · rw [List.getElem?_range hi]
    have h2 : 2 * i < W.length := by omega
    rw [List.getElem?_eq_getElem h2]
    show _ = some (pyget W (0 + (i : Int) * 2))
    rw [show (0 : Int) + ((i : Nat) : Int) * 2 = ((2 * i : Nat) : Int) by omega, pyget_nat, List.getD_eq_getElem?_getD, List.getElem?_eq_getElem h2]; rfl
  · rw [List.getElem?_eq_none (by omega), List.getElem?_eq_none (by simpa using hi)]; rfl
theorem alt_range1 (W : List Str) (n : Nat) (hn : n = W.length / 2) : alt (W.drop 1) = (List.range n).map fun (t : Nat) => pyget W (1 + (t : Int) * 2) := by
  apply List.ext_getElem?
  intro i
  rw [alt_get, List.getElem?_map, List.getElem?_drop]
  by_cases hi : i < n
  · rw [List.getElem?_range hi]
    have h2 : 1 + 2 * i < W.length := by omega
    rw [List.getElem?_eq_getElem h2]
    show _ = some (pyget W (1 + (i : Int) * 2))
    rw [show (1 : Int) + ((i : Nat) : Int) * 2 = ((1 + 2 * i : Nat) : Int) by omega, pyget_nat, List.getD_eq_getElem?_getD, List.getElem?_eq_getElem h2]; rfl
  · rw [List.getElem?_eq_none (by omega), List.getElem?_eq_none (by simpa using hi)]; rfl
theorem lenD_cases (w : Str) : (∃ n : Nat, lenOf w = some n ∧ n ≤ 1000 ∧ lenD w = .int (n : Int)) ∨ ((¬ ∃ n : Nat, lenOf w = some n ∧ n ≤ 1000) ∧ lenD w = .non) := by
  cases h : lenOf w with
  | none => right; exact ⟨(by rintro ⟨n, hn, _⟩; cases hn), lenD_none h⟩
  | some n =>
    rw [lenD_some h]
    by_cases hn : n ≤ 1000
    · left; exact ⟨n, rfl, hn, if_pos hn⟩
    · right; exact ⟨(by rintro ⟨m, hm, hm2⟩; cases hm; exact hn hm2), if_neg hn⟩
theorem markD_cases (w : Str) : (∃ m, markOf w = some m ∧ markD w = mkD m) ∨ (markOf w = none ∧ markD w = .non) := by
  unfold markD
  cases h : markOf w with
  | none => right; exact ⟨rfl, rfl⟩
  | some m => left; exact ⟨m, rfl, rfl⟩
theorem good_lenD (w : Str) : (lenD w).good = true ∧ (lenD w).deep ≤ 0 := by
  rcases lenD_cases w with ⟨n, _, _, e⟩ | ⟨_, e⟩ <;> rw [e] <;> simp [D.good, D.deep]
theorem good_markD (w : Str) : (markD w).good = true ∧ (markD w).deep ≤ 0 := by
  rcases markD_cases w with ⟨m, _, e⟩ | ⟨_, e⟩ <;> rw [e]
  · exact ⟨good_mkD m, by cases m <;> simp [mkD, D.deep]⟩
  · simp [D.good, D.deep]
theorem shp_list {α : Type} (L : List α) (g : α → D) (h : ∀ x, (g x).good = true ∧ (g x).deep ≤ 0) : Shp (.lst (L.map g)) := by
  refine shp_of ?_ ?_
  · rw [D.good]; exact goodAll_map (fun x => (h x).1) L
  · rw [D.deep]; have := deepAll_map (n := 0) (fun x => (h x).2) L; omega
theorem any_len (L : List Str) : ((L.map lenD).any fun z => eqvD z .non) = false ↔ ∀ w ∈ L, ∃ n, lenOf w = some n ∧ n ≤ 1000 := by
  rw [List.any_map, List.any_eq_false]
  refine forall_congr' fun w => forall_congr' fun _ => ?_
  rcases lenD_cases w with ⟨n, h1, h2, e⟩ | ⟨h1, e⟩
  · simp only [Function.comp, e]
    exact ⟨fun _ => ⟨n, h1, h2⟩, fun _ => by simp [eqvD, D.py, PyData.eqv]⟩
  · simp only [Function.comp, e]
    exact ⟨fun q => absurd (by simp [eqvD, D.py, PyData.eqv]) q, fun q => absurd q h1⟩
theorem any_mark (L : List Str) : ((L.map markD).any fun z => eqvD z .non) = false ↔ ∀ w ∈ L, ∃ m, markOf w = some m := by
  rw [List.any_map, List.any_eq_false]
  refine forall_congr' fun w => forall_congr' fun _ => ?_
  rcases markD_cases w with ⟨m, h1, e⟩ | ⟨h1, e⟩
  · simp only [Function.comp, e]
    exact ⟨fun _ => ⟨m, h1⟩, fun _ => by cases m <;> simp [mkD, eqvD, D.py, PyData.eqv]⟩
  · simp only [Function.comp, e]
    exact ⟨fun q => absurd (by simp [eqvD, D.py, PyData.eqv]) q, fun ⟨m, q⟩ => by rw [h1] at q; cases q⟩
theorem get_mark (w : Str) (K : PySem.W.Frag) (H : Hp) : Rep K H ((valV [((.inr "v" : Key), V.str "valley"), (.inr "h", .str "hill")] (.inr w)).getD .non) (markD w) := by
  unfold markD markOf
  by_cases h1 : w = "v"
  · rw [if_pos h1]; subst h1; exact .str _
  · rw [if_neg h1]
    by_cases h2 : w = "h"
    · rw [if_pos h2]; subst h2
      have : valV [((.inr "v" : Key), V.str "valley"), (.inr "h", .str "hill")] (.inr ("h" : Str)) = some (.str "hill") := by decide +kernel
      rw [this]; exact .str _
    · rw [if_neg h2]
      have : valV [((.inr "v" : Key), V.str "valley"), (.inr "h", .str "hill")] (.inr w) = none := by
        unfold valV
        rw [List.find?_cons_of_neg (by rw [decide_eq_false (fun e => h1 (Sum.inr.inj e).symm)]; simp), List.find?_cons_of_neg (by rw [decide_eq_false (fun e => h2 (Sum.inr.inj e).symm)]; simp)]
        rfl
      rw [this]; exact .non
theorem lstripof_ok (T : Fx K mg) (B : Bx mg) (t : Str) (hz : t.length ≤ 90000) : VF P w K mg base 2 "_law_strip_of" [.str t] (fun o => (GoodT (wordsT t) ∧ o = oS (lsT (wordsT t)) (msT (wordsT t))) ∨ (¬ GoodT (wordsT t) ∧ o = .sh .non)) := by
  refine VF.of T.d_L_strip_of sc_L_strip_of rfl fun f cdv A outer s H E hr => ?_
  have hB := B; cases hB
  have hlen := wordsT_len t
  have hwl : ∀ w ∈ wordsT t, w.length ≤ 90000 := fun w hw => Nat.le_trans (wordsT_le hw) hz
  refine' Ws.asg 1 sc_L_strip_of.nd (.own (o := oW (wordsT t)) (d := dW (wordsT t)) (.split (.name 0) .str (by decide) (Nat.le_trans (Nat.add_le_add_right hz 2) (by decide))) (oL_data _) ?_)
  refine Ws.share (i := 1) rfl ?_
  revert hlen hwl
  generalize wordsT t = W
  intro hlen hwl
  have ha := alt_length W
  have ha1 := alt_length (W.drop 1)
  rw [List.length_drop] at ha1
  have hu : (cxOf CX0 P w K mg base n_L_strip_of "_law_strip_of" (defScope s_L_strip_of) f cdv A outer s H E).nox.A.units + 65 < cLine := units65 hr
  refine' Ws.asgC (own := [("_law_k", 4)]) 2 (List.range ((W.length + 1) / 2)) (fun (k : Nat) => D.int (0 + (k : Int) * 2)) (fun k => .sh (lenD (pyget W (0 + (k : Int) * 2)))) [4] (fun k => [.int (0 + (k : Int) * 2)]) (.lst ((alt W).map lenD)) rfl sc_L_strip_of.nd (.rangeS (i := 0) (j := (W.length : Int)) ?r1 .int (.lenMap (L := W) ?r2 (.name 1)) .int _ (by omega) (by omega)) (blkOk_by (N := n_L_strip_of) (sc := defScope s_L_strip_of) (by decide +kernel)) (by simp) (fun k hk s H C cl fp => .name 4 sc_L_strip_of.nd) (fun k hk s H C cl fp => Ev.evO ?e1) (Nat.lt_of_lt_of_le (m := 100000) (by rw [List.length_range]; omega) (by decide)) ?d1 ?_
  case r1 => assumption
  case r2 => assumption
  case d1 => rw [oL_of, oL_data, alt_range W _ rfl, List.map_map]; rfl
  case e1 =>
    have hk := List.mem_range.mp hk
    refine .call (llength_ok T B (pyget W (0 + (k : Int) * 2)) (hwl _ ?m)) (hr.mono (by decide)) (.one (.ixMap (L := W) (h := D.str) (.name 1) (.name 4) (by omega))) (fun o e => by rw [e]; rfl)
    case m =>
      rw [show (0 : Int) + ((k : Nat) : Int) * 2 = ((2 * k : Nat) : Int) by omega, pyget_nat, List.getD_eq_getElem?_getD, List.getElem?_eq_getElem (show 2 * k < W.length by omega)]
      exact List.getElem_mem _
  have el : O.ls ((List.range ((W.length + 1) / 2)).map fun (k : Nat) => O.sh (lenD (pyget W (0 + (k : Int) * 2)))) = oL ((alt W).map lenD) := by rw [oL_of, alt_range W _ rfl, List.map_map]; rfl
  rw [el]
  refine' Ws.asgC (own := [("_law_k", 4)]) 3 (List.range (W.length / 2)) (fun (k : Nat) => D.int (1 + (k : Int) * 2)) (fun k => .sh (markD (pyget W (1 + (k : Int) * 2)))) [4] (fun k => [.int (1 + (k : Int) * 2)]) (.lst ((alt (W.drop 1)).map markD)) rfl sc_L_strip_of.nd (.rangeS (i := 1) (j := (W.length : Int)) ?r3 .int (.lenMap (L := W) ?r4 (.name 1)) .int _ (by omega) (by omega)) (blkOk_by (N := n_L_strip_of) (sc := defScope s_L_strip_of) (by decide +kernel)) (by simp) (fun k hk s H C cl fp => .name 4 sc_L_strip_of.nd) (fun k hk s H C cl fp => Ev.evO ?e2) (Nat.lt_of_lt_of_le (m := 100000) (by rw [List.length_range]; omega) (by decide)) ?d2 ?_
  case r3 => assumption
  case r4 => assumption
  case d2 => rw [oL_of, oL_data, alt_range1 W _ rfl, List.map_map]; rfl
  case e2 =>
    have hk := List.mem_range.mp hk
    exact .getDk (z := pyget W (1 + (k : Int) * 2)) (Nat.lt_of_le_of_lt (Nat.add_le_add_left (by decide : 1 ≤ 65) _) hu) (.dict2 (by decide)) (.ixMap (L := W) (h := D.str) (.name 1) (.name 4) (by omega)) (fun K H => get_mark _ K H)
  have em : O.ls ((List.range (W.length / 2)).map fun (k : Nat) => O.sh (markD (pyget W (1 + (k : Int) * 2)))) = oL ((alt (W.drop 1)).map markD) := by rw [oL_of, alt_range1 W _ rfl, List.map_map]; rfl
  rw [em]
  refine' Ws.if (b := ((alt W).map lenD).any (fun z => eqvD z .non) || (((alt (W.drop 1)).map markD).any (fun z => eqvD z .non) || (decide (W.length % 2 = 0) || decide (30 < (alt W).length)))) (.bool (.or (.cmp .non (.name 2) (.inD hu ?s1 ?s2) rfl) (fun _ => .or (.cmp .non (.name 3) (.inD hu ?s3 ?s4) rfl) (fun _ => .or (.is (.cmp (.mod (.lenMap (L := W) ?s5 (.name 1)) .int (by decide)) .int .eqI) ?s6) (fun _ => .or1 (.is (.cmp (.lenMap (L := alt W) ?s7 (.name 2)) .int .gt) ?s8)))))) (fun h => .ret (.sh .non ?p1)) (fun h => .nil ?_)
  case s1 => exact shp_of (by simp [D.good]) (by simp [D.deep])
  case s3 => exact shp_of (by simp [D.good]) (by simp [D.deep])
  case s2 => exact shp_list _ _ good_lenD
  case s4 => exact shp_list _ _ good_markD
  case s5 => assumption
  case s7 => assumption
  case s6 => exact decide_eq_decide.mpr (by omega)
  case s8 => exact decide_eq_decide.mpr (by omega)
  case p1 =>
    right
    refine ⟨fun ⟨g1, g2, g3, g4⟩ => ?_, rfl⟩
    rw [(any_len _).mpr g1, (any_mark _).mpr g2, decide_eq_false (show ¬ W.length % 2 = 0 by omega), decide_eq_false (show ¬ 30 < (alt W).length by omega)] at h
    cases h
  have hg : GoodT W := by
    simp only [Bool.or_eq_false_iff, decide_eq_false_iff_not] at h
    obtain ⟨h1, h2, h3, h4⟩ := h
    exact ⟨(any_len _).mp h1, (any_mark _).mp h2, by omega, by omega⟩
  have el2 : (alt W).map lenD = (lsT W).map D.int := by
    unfold lsT
    rw [List.map_map]
    refine List.map_congr_left fun w hw => ?_
    obtain ⟨n, hn, hle⟩ := hg.1 w hw
    rw [lenD_some hn, if_pos hle]
    simp [hn]
  have em2 : (alt (W.drop 1)).map markD = (msT W).map mkD := by
    unfold msT
    rw [List.map_map]
    refine List.map_congr_left fun w hw => ?_
    obtain ⟨m, hm⟩ := hg.2.1 w hw
    simp [markD, hm]
  rw [el2, em2]
  have e2 : D.lst ((lsT W).map D.int) = dI (lsT W) := rfl
  exact Ws.ret (.tup2 2 3 (by decide) (o1 := oI (lsT W)) (o2 := oM (msT W)) (.inl ⟨hg, rfl⟩) (oL_data _) (oL_data _))
end

/-! ### _law_sign, _law_odd, _law_bent (k14) -/
section
open TL (tl joinL)
theorem str_app (x y : Str) : (x ++ y).length = x.length + y.length := by rw [TL.len_tl, TL.tl_append, List.length_append, ← TL.len_tl, ← TL.len_tl]
theorem atI_mod {x : Str} {z : Int} (hx : 0 < x.length) : ∃ c, atI (tl x) (z % (x.length : Int)) = some c := by
  have h1 := Int.emod_nonneg z (show (x.length : Int) ≠ 0 by omega)
  have h2 := Int.emod_lt_of_pos z (show (0 : Int) < x.length by omega)
  unfold atI
  rw [ixN_of (by rw [TL.len_tl] at h2; exact ⟨h1, h2⟩)]
  exact ⟨_, List.getElem?_eq_getElem (by rw [TL.len_tl] at h1 h2; rw [TL.len_tl]; omega)⟩
theorem one_len (c : Nat) : (⟨#[c]⟩ : Str).length = 1 := rfl
def signS : Str := " !\"#$&'()*+,-./0123456789:;<=>?@ABCDEFGHIJKLMNOPQRSTUVWXYZ[\\]^_`" ++ ("abcdefghijklmnopqrstuvwxyz{|}~\n\t" : Str)
def signF (c : Int) : Str := if c % 2 = 0 then ⟨#[(atI (tl signS) (c / 4 % (signS.length : Int))).getD 0]⟩ else ⟨#[(atI (tl (" vh0123456789" : Str)) (c / 4 % 13)).getD 0]⟩
theorem signF_len (c : Int) : (signF c).length = 1 := by unfold signF; split <;> rfl
theorem sign_ok (T : Fx K mg) (B : Bx mg) (c : Int) (hc : 0 ≤ c) : VF P w K mg base 1 "_law_sign" [.int c] (fun o => o = .sh (.str (signF c))) := by
  refine VF.of T.d_L_sign sc_L_sign rfl fun f cdv A outer s H E hr => ?_
  have hB := B; cases hB
  refine' Ws.asg 1 sc_L_sign.nd (.sh (d := .str " !\"#$&'()*+,-./0123456789:;<=>?@ABCDEFGHIJKLMNOPQRSTUVWXYZ[\\]^_`") .str ?_)
  refine' Ws.asg 1 sc_L_sign.nd (.sh (d := .str signS) (.addS (.name 1) .str (by decide +kernel)) ?_)
  have hpos : 0 < signS.length := by decide +kernel
  have hle : signS.length ≤ sizeLine := by decide +kernel
  unfold signF
  revert hpos hle
  generalize signS = S
  intro hpos hle
  obtain ⟨c1, h1⟩ := atI_mod (x := S) (z := c / 4) hpos
  obtain ⟨c2, h2⟩ := atI_mod (x := (" vh0123456789" : Str)) (z := c / 4) (by decide +kernel)
  have e13 : ((" vh0123456789" : Str).length : Int) = 13 := by decide +kernel
  rw [e13] at h2
  refine' Ws.ret (.sh (d := if c % 2 = 0 then .str ⟨#[c1]⟩ else .str ⟨#[c2]⟩) (.ix2 (.list (.two (.ixS (.name 1) (.mod (.div (.name 0) .int (by walk_at "sd")) (.lenS ?a1 (.name 1) hle) (by omega)) hle h1) (.ixS .str (.mod (.div (.name 0) .int (by walk_at "sd")) .int (by decide)) (by decide +kernel) h2))) (.mod (.name 0) .int (by decide)) (by omega)) ?p)
  case a1 => assumption
  case p =>
    show O.sh _ = O.sh _
    rw [h1, h2]
    split <;> rfl
theorem joinAny_len (y : Str) (W : List Str) (k : Nat) (h : ∀ w ∈ W, w.length ≤ k) : (Txt.join y W).length ≤ W.length * (k + y.length) := by
  rw [TL.len_tl, TL.join_eq, TL.tl_join]
  cases W with
  | nil => simp [joinL]
  | cons a r =>
    rw [List.map_cons, joinL_cons, List.length_append, List.flatMap_map]
    have h1 := h a (List.mem_cons_self ..)
    have h2 : ∀ r : List Str, (∀ w ∈ r, w.length ≤ k) → (r.flatMap fun x => tl y ++ tl x).length ≤ r.length * (k + y.length) := by
      intro r
      induction r with
      | nil => simp
      | cons b r ih =>
        intro h
        rw [List.flatMap_cons, List.length_append]
        have := ih fun w hw => h w (List.mem_cons_of_mem _ hw)
        have hb := h b (List.mem_cons_self ..)
        have hy : y.length = (tl y).length := TL.len_tl y
        rw [TL.len_tl] at hb
        simp only [List.length_append, List.length_cons, List.length_nil] at this ⊢
        rw [Nat.add_mul]
        omega
    have := h2 r fun w hw => h w (List.mem_cons_of_mem _ hw)
    rw [TL.len_tl] at h1
    rw [List.length_cons, Nat.add_mul]
    omega
def oddA : List Str := ["", " ", "3 v", "v", "3  v 2", " 3", "3 ", "03", "0", "3 v 02", "3 V 2", "3 x 2", "-3", "+3", "1001"]
def oddB (J : Str) : List Str := ["3 v h 2", "3 4", "3v2", "3 v 2 v", "1_0", "10000", J]
def oddC (J : Str) : List Str := ["1000", "3 v 1000", J]
def rep1 : List Str := List.replicate 31 "1"
def rep2 : List Str := List.replicate 30 "999"
theorem rep1_ev {X : Cx} {ρ : Rho} {p p1 p2 p3 : Pos} {j1 j2 : Nat} : Ev X ρ (.BinOp (.List [.Constant (.str "1") j1 p1] p2) .Mult (.Constant (.int 31) j2 p3) p) (dW rep1) := (EvO.rep (xs := [.str "1"]) (k := 31) (.list (.one .str)) .int (by decide) (by decide)).ev' (by rw [oL_data]; rfl)
theorem rep2_ev {X : Cx} {ρ : Rho} {p p1 p2 p3 : Pos} {j1 j2 : Nat} : Ev X ρ (.BinOp (.List [.Constant (.str "999") j1 p1] p2) .Mult (.Constant (.int 30) j2 p3) p) (dW rep2) := (EvO.rep (xs := [.str "999"]) (k := 30) (.list (.one .str)) .int (by decide) (by decide)).ev' (by rw [oL_data]; rfl)
theorem odd_ok (T : Fx K mg) (B : Bx mg) (c : Int) (hc : 0 ≤ c) : VF P w K mg base 1 "_law_odd" [.int c] (fun o => ∃ s : Str, o = .sh (.str s) ∧ s.length ≤ 1000) := by
  refine VF.of T.d_L_odd sc_L_odd rfl fun f cdv A outer s H E hr => ?_
  have hB := B; cases hB
  refine' Ws.asg 1 sc_L_odd.nd (.own (o := oW oddA) (d := dW oddA) (.list ?a1 (Nat.le_of_ble_eq_true rfl)) (oL_data _) ?_)
  case a1 => walk_at "ea"
  refine Ws.share (i := 1) rfl ?_
  have hj1 := joinAny_len " v " rep1 1 (by decide +kernel)
  have hj2 := joinAny_len " h " rep2 3 (by decide +kernel)
  have l1 : (Txt.join " v " rep1).length ≤ 1000 := Nat.le_trans hj1 (by decide +kernel)
  have l2 : (Txt.join " h " rep2).length ≤ 1000 := Nat.le_trans hj2 (by decide +kernel)
  have s1 : ((rep1.map (·.length)).sum + rep1.length * (" v " : Str).length) ≤ 16777216 := by decide +kernel
  have s2 : ((rep2.map (·.length)).sum + rep2.length * (" h " : Str).length) ≤ 16777216 := by decide +kernel
  refine' Ws.asg 1 sc_L_odd.nd (.sh (d := dW (oddA ++ oddB (Txt.join " v " rep1))) (.is (.cat (.name 1) (ys := (oddB (Txt.join " v " rep1)).map D.str) (.list (.cons .str (.cons .str (.cons .str (.cons .str (.cons .str (.cons .str (.one (.join .str rep1_ev s1)))))))) (Nat.le_of_ble_eq_true rfl)) (Nat.le_of_ble_eq_true rfl)) rfl) ?_)
  refine' Ws.asg 1 sc_L_odd.nd (.sh (d := dW (oddA ++ oddB (Txt.join " v " rep1) ++ oddC (Txt.join " h " rep2))) (.is (.cat (.name 1) (ys := (oddC (Txt.join " h " rep2)).map D.str) (.list (.cons .str (.cons .str (.one (.join .str rep2_ev s2)))) (Nat.le_of_ble_eq_true rfl)) (Nat.le_of_ble_eq_true rfl)) rfl) ?_)
  generalize Txt.join " v " rep1 = J1 at l1
  generalize Txt.join " h " rep2 = J2 at l2
  have hall : ∀ w ∈ oddA ++ oddB J1 ++ oddC J2, w.length ≤ 1000 := by
    intro w hw
    rcases List.mem_append.mp hw with hw | hw
    · rcases List.mem_append.mp hw with hw | hw
      · have : ∀ w ∈ oddA, w.length ≤ 1000 := by decide +kernel
        exact this w hw
      · simp only [oddB, List.mem_cons, List.not_mem_nil, or_false] at hw
        rcases hw with rfl | rfl | rfl | rfl | rfl | rfl | rfl <;> first | exact l1 | decide +kernel
    · simp only [oddC, List.mem_cons, List.not_mem_nil, or_false] at hw
      rcases hw with rfl | rfl | rfl <;> first | exact l2 | decide +kernel
  have hlen : (oddA ++ oddB J1 ++ oddC J2).length = 25 := rfl
  revert hall hlen
  generalize oddA ++ oddB J1 ++ oddC J2 = L
  intro hall hlen
  refine' Ws.ret (.sh (d := .str (pyget L (c % 25))) (.ixMap (L := L) (h := D.str) (.name 1) (.mod (.name 0) .int (by decide)) (by omega)) ⟨_, rfl, hall _ (pyget_mem (by omega))⟩)
/-- words joined again -/
structure Few (W : List Str) : Prop where
  n : W.length ≤ 300
  k : ∀ w ∈ W, w.length ≤ 295
theorem Few.sum {W : List Str} (h : Few W) : (W.map (·.length)).sum + W.length * (" " : Str).length ≤ 16777216 := by
  have h1 := sum_len W 295 h.k
  have h2 := h.n
  rw [show (" " : Str).length = 1 by decide]
  omega
theorem Few.len {W : List Str} (h : Few W) (hn : W.length ≤ 298) : (Txt.join " " W).length ≤ 90000 := by
  have h1 := join_len W 295 h.k
  omega
variable {X : Cx} {ρ : Rho} {e a b : Expr} {p pos : Pos} {W W' : List Str} {lo hi : Option Int} {el eh : Option Expr} {p2 : Pos}
theorem Ev.sliceW (ha : Ev X ρ a (dW W)) (hl : EvP X ρ el lo) (hh : EvP X ρ eh hi) : Ev X ρ (.Subscript a (.Slice el eh Option.none p2) pos) (dW (cutL W lo hi)) := (Ev.slice ha hl hh).is (by rw [cutD_map])
theorem Ev.catW (ha : Ev X ρ a (dW W)) (hb : Ev X ρ b (dW W')) (hl : W.length + W'.length ≤ 100000) : Ev X ρ (.BinOp a .Add b pos) (dW (W ++ W')) := (Ev.cat ha hb (by simpa using hl)).is (by rw [← List.map_append])
theorem mem_cut {α : Type} {L : List α} {lo hi : Option Int} {x : α} (h : x ∈ cutL L lo hi) : x ∈ L := List.mem_of_mem_drop (List.mem_of_mem_take h)
theorem lbent_ok (T : Fx K mg) (B : Bx mg) (t : Str) (c m : Int) (ht : t.length ≤ 295) (hc : 0 ≤ c) (hm : 0 ≤ m) : VF P w K mg base 2 "_law_bent" [.str t, .int c, .int m] (fun o => ∃ s : Str, o = .sh (.str s) ∧ s.length ≤ 90000) := by
  refine VF.of T.d_L_bent sc_L_bent rfl fun f cdv A outer s H E hr => ?_
  have hB := B; cases hB
  have hsz : t.length ≤ sizeLine := Nat.le_trans ht (by decide)
  have hW := wordsT_len t
  have hwl : ∀ w ∈ wordsT t, w.length ≤ 295 := fun w hw => Nat.le_trans (wordsT_le hw) ht
  have hne := wordsT_ne t
  have cs : ∀ lo hi, (cutS t lo hi).length ≤ 295 := fun lo hi => Nat.le_trans (cutS_length t lo hi) ht
  have cs' : ∀ lo hi, (cutS t lo hi).length + 1 ≤ sizeLine := fun lo hi => Nat.le_trans (Nat.add_le_add_right (cs lo hi) 1) (by decide)
  have at0 := Int.emod_nonneg m (show (t.length : Int) + 1 ≠ 0 by omega)
  refine' Ws.asg 3 sc_L_bent.nd (.sh (d := .int (m % ((t.length : Int) + 1))) (.mod (.name 2) (.add (.lenS ?a1 (.name 0) hsz) .int) (by omega)) ?_)
  case a1 => assumption
  generalize m % ((t.length : Int) + 1) = a at at0
  refine' Ws.asg 4 sc_L_bent.nd (.own (o := oW (wordsT t)) (d := dW (wordsT t)) (.split (.name 0) .str (by decide) (Nat.le_trans (Nat.add_le_add_right ht 2) (by decide))) (oL_data _) ?_)
  revert hW hwl hne
  generalize wordsT t = W
  intro hW hwl hne
  have hW0 : 0 < W.length := by cases W with
    | nil => exact absurd rfl hne
    | cons a r => simp
  have on0 := Int.emod_nonneg m (show (W.length : Int) ≠ 0 by omega)
  have on1 := Int.emod_lt_of_pos m (show (0 : Int) < W.length by omega)
  refine' Ws.asg 5 sc_L_bent.nd (.bor (d := .int (m % (W.length : Int))) (.mod (.name 2) (.lenMap (L := W) ?a2 (.name 4)) (by omega)) rfl ?_)
  case a2 => assumption
  generalize m % (W.length : Int) = j at on0 on1
  have few : ∀ V : List Str, V.length ≤ 298 → (∀ w ∈ V, w ∈ W) → Few V := fun V h1 h2 => ⟨by omega, fun w hw => hwl w (h2 w hw)⟩
  have fin : ∀ {V : List Str}, V.length ≤ 298 → (∀ w ∈ V, w ∈ W) → ∃ s : Str, O.sh (.str (Txt.join " " V)) = O.sh (.str s) ∧ s.length ≤ 90000 := fun {V} h1 h2 => ⟨_, rfl, (few V h1 h2).len h1⟩
  have c1 := cutL_length W none (some j)
  have c2 := cutL_length W (some (j + 1)) none
  have c3 := cutL_length W (some j) none
  have s13 : (cutL W none (some j)).length + (cutL W (some j) none).length ≤ 297 := by
    have hj : j = ((j.toNat : Nat) : Int) := by omega
    rw [hj, cutL_to, cutL_from, List.length_take, List.length_drop]; omega
  have s12 : (cutL W none (some j)).length + (cutL W (some (j + 1)) none).length ≤ 297 := by
    have hj : j = ((j.toNat : Nat) : Int) := by omega
    rw [hj, show ((j.toNat : Nat) : Int) + 1 = ((j.toNat + 1 : Nat) : Int) by omega, cutL_to, cutL_from, List.length_take, List.length_drop]; omega
  refine' Ws.if (b := decide (c % 8 = 0)) (.cmp (.mod (.name 1) .int (by decide)) .int .eqI) (fun _ => ?y0) (fun _ => .nil ?_)
  case y0 =>
    refine' Ws.ret (.sh (.addS (.addS (.sliceS (.name 0) .none (.some (.name 3)) hsz) (.call (sign_ok T B (m / 150) (by omega)) (hr.mono (by decide)) (.one (.div (.name 2) .int (by walk_at "sd"))) (fun o e => by rw [e]; rfl)) (by rw [signF_len]; exact cs' _ _)) (.sliceS (.name 0) (.some (.name 3)) .none hsz) (by rw [str_app, signF_len]; exact Nat.le_trans (Nat.add_le_add (Nat.add_le_add_right (cs _ _) 1) (cs _ _)) (by decide))) ⟨_, rfl, ?z0⟩)
    case z0 =>
      rw [str_app, str_app, signF_len]
      have := cs none (some a)
      have := cs (some a) none
      omega
  refine' Ws.if (b := decide (c % 8 = 1)) (.cmp (.mod (.name 1) .int (by decide)) .int .eqI) (fun _ => ?y1) (fun _ => .nil ?_)
  case y1 =>
    refine' Ws.ret (.sh (.addS (.addS (.sliceS (.name 0) .none (.some (.name 3)) hsz) (.call (sign_ok T B (m / 150) (by omega)) (hr.mono (by decide)) (.one (.div (.name 2) .int (by walk_at "sd"))) (fun o e => by rw [e]; rfl)) (by rw [signF_len]; exact cs' _ _)) (.sliceS (.name 0) (.some (.add (.name 3) .int)) .none hsz) (by rw [str_app, signF_len]; exact Nat.le_trans (Nat.add_le_add (Nat.add_le_add_right (cs _ _) 1) (cs _ _)) (by decide))) ⟨_, rfl, ?z1⟩)
    case z1 =>
      rw [str_app, str_app, signF_len]
      have := cs none (some a)
      have := cs (some (a + 1)) none
      omega
  refine' Ws.if (b := decide (c % 8 = 2)) (.cmp (.mod (.name 1) .int (by decide)) .int .eqI) (fun _ => ?y2) (fun _ => .nil ?_)
  case y2 =>
    refine' Ws.ret (.sh (.addS (.sliceS (.name 0) .none (.some (.name 3)) hsz) (.sliceS (.name 0) (.some (.add (.name 3) .int)) .none hsz) (Nat.le_trans (Nat.add_le_add (cs _ _) (cs _ _)) (by decide))) ⟨_, rfl, ?z2⟩)
    case z2 =>
      rw [str_app]
      have := cs none (some a)
      have := cs (some (a + 1)) none
      omega
  refine' Ws.if (b := decide (c % 8 = 3)) (.cmp (.mod (.name 1) .int (by decide)) .int .eqI) (fun _ => ?y3) (fun _ => .nil ?_)
  case y3 =>
    have hl : (cutL W none (some j) ++ cutL W (some (j + 1)) none).length ≤ 298 := by rw [List.length_append]; omega
    have hin : ∀ w ∈ cutL W none (some j) ++ cutL W (some (j + 1)) none, w ∈ W := fun w hw => (List.mem_append.mp hw).elim mem_cut mem_cut
    exact Ws.ret (.bor (.join .str (.catW (.sliceW (.name 4) .none (.some (.name 5))) (.sliceW (.name 4) (.some (.add (.name 5) .int)) .none) (by omega)) (few _ hl hin).sum) rfl (fin hl hin))
  refine' Ws.if (b := decide (c % 8 = 4)) (.cmp (.mod (.name 1) .int (by decide)) .int .eqI) (fun _ => ?y4) (fun _ => .nil ?_)
  case y4 =>
    have hl : (cutL W none (some j) ++ [pyget W j] ++ cutL W (some j) none).length ≤ 298 := by rw [List.length_append, List.length_append]; simp only [List.length_cons, List.length_nil]; omega
    have hin : ∀ w ∈ cutL W none (some j) ++ [pyget W j] ++ cutL W (some j) none, w ∈ W := fun w hw => by
      rcases List.mem_append.mp hw with hw | hw
      · rcases List.mem_append.mp hw with hw | hw
        · exact mem_cut hw
        · rw [List.mem_singleton.mp hw]; exact pyget_mem (by omega)
      · exact mem_cut hw
    exact Ws.ret (.bor (.join .str (.catW (.catW (.sliceW (.name 4) .none (.some (.name 5))) (W' := [pyget W j]) (.list (.one (.ixMap (L := W) (h := D.str) (.name 4) (.name 5) (by omega)))) (by simp only [List.length_cons, List.length_nil]; omega)) (.sliceW (.name 4) (.some (.name 5)) .none) (by rw [List.length_append]; simp only [List.length_cons, List.length_nil]; omega)) (few _ hl hin).sum) rfl (fin hl hin))
  refine' Ws.if (b := decide (c % 8 = 5)) (.cmp (.mod (.name 1) .int (by decide)) .int .eqI) (fun _ => ?y5) (fun _ => .nil ?_)
  case y5 =>
    have ot0 := Int.emod_nonneg (m / 70) (show (W.length : Int) ≠ 0 by omega)
    have ot1 := Int.emod_lt_of_pos (m / 70) (show (0 : Int) < W.length by omega)
    refine' Ws.asg 6 sc_L_bent.nd (.bor (d := .int (m / 70 % (W.length : Int))) (.mod (.div (.name 2) .int (by walk_at "sd")) (.lenMap (L := W) ?b1 (.name 4)) (by omega)) rfl ?_)
    case b1 => assumption
    generalize m / 70 % (W.length : Int) = i at ot0 ot1
    refine' Ws.asg 7 sc_L_bent.nd (.bor (d := .str (pyget W j)) (.ixMap (L := W) (h := D.str) (.name 4) (.name 5) (by omega)) rfl ?_)
    refine' Ws.setItem (ds := W.map D.str) 4 ((W.set j.toNat (pyget W i)).map D.str) (j := j.toNat) (.ixMap (L := W) (h := D.str) (.name 4) (.name 6) (by omega)) rfl (.name 5) (ixN_of (by rw [List.length_map]; omega)) (List.map_set ..).symm ?_
    refine' Ws.setItem (ds := (W.set j.toNat (pyget W i)).map D.str) 4 (((W.set j.toNat (pyget W i)).set i.toNat (pyget W j)).map D.str) (j := i.toNat) (.name 7) rfl (.name 6) (ixN_of (by rw [List.length_map, List.length_set]; omega)) (List.map_set ..).symm ?_
    have hl : ((W.set j.toNat (pyget W i)).set i.toNat (pyget W j)).length ≤ 298 := by rw [List.length_set, List.length_set]; omega
    have hin : ∀ w ∈ (W.set j.toNat (pyget W i)).set i.toNat (pyget W j), w ∈ W := fun w hw => by
      rcases List.mem_or_eq_of_mem_set hw with hw | rfl
      · rcases List.mem_or_eq_of_mem_set hw with hw | rfl
        · exact hw
        · exact pyget_mem (by omega)
      · exact pyget_mem (by omega)
    exact Ws.ret (.bor (.join .str (.name 4) (few _ hl hin).sum) rfl (fin hl hin))
  refine' Ws.if (b := decide (c % 8 = 6)) (.cmp (.mod (.name 1) .int (by decide)) .int .eqI) (fun _ => ?y6) (fun _ => .nil ?_)
  case y6 =>
    refine' Ws.ret (.evN O.data (EvN.call (odd_ok T B m hm) (hr.mono (by decide)) (.one (.name 2))) (fun _ _ => rfl) ?_)
    rintro o ⟨s, rfl, hs⟩
    exact ⟨s, rfl, by omega⟩
  exact Ws.ret (.sh (.name 0) ⟨t, rfl, by omega⟩)
end

/-! ### _law_right, law k14 -/
theorem good_dS (ls : List Int) (ms : List Bool) : (dS ls ms).good = true := by
  unfold dS
  rw [D.good, goodAll, goodAll, goodAll, good_dI, good_dM]; rfl
theorem shp_dS (ls : List Int) (ms : List Bool) : Shp (dS ls ms) := by
  refine shp_of (good_dS ls ms) ?_
  unfold dS
  rw [D.deep, deepAll, deepAll, deepAll]
  have := deep_dI ls
  have := deep_dM ms
  omega
theorem eqv_dS (ls : List Int) (ms : List Bool) : eqvD (dS ls ms) (dS ls ms) = true := eqvD_refl (good_dS ls ms)
section
variable (T : Fx K mg) (B : Bx mg) (Q : Cst mg) (Q2 : ∃ t, mg "MOST_FIGURES" = some (.int 4 t)) (M1 : ∃ c, mg "MARKS" = some (.ref c) ∧ KKeys K w c ["v", "h"] ∧ KDct K w c "v" (.str "valley") ∧ KDct K w c "h" (.str "hill")) (U0 : ∃ t, mg "FIGURES" = some (.str "0123456789" t))
  {Dx Dy Fx' : Addr} (W0 : ErrW K mg 0 "BadStrip" Dx Fx') (W5 : ErrW K mg 5 "BadText" Dy Fx') (Y0 : PySem.W.exmOne K (.ref Dx) (.ref Dx) = some true)
include T B Q Q2 M1 U0 W0 in
theorem right_ok (t : Str) (hz : t.length ≤ 90000) (hg : GoodT (wordsT t)) : VF P w K mg base 5 "_law_right" [.str t, dS (lsT (wordsT t)) (msT (wordsT t))] (fun o => o = .sh (.bl true)) := by
  refine VF.of T.d_L_right sc_L_right rfl fun f cdv A outer s H E hr => ?_
  have hB := B; cases hB
  have rd : VF P w K mg base 4 "read" [.str t] (fun o => o = oS (lsT (wordsT t)) (msT (wordsT t))) := read_ok T B Q Q2 M1 U0 W0 t hz hg
  obtain ⟨l1, l2, l3⟩ := hg.lens
  revert rd l1 l2
  generalize lsT (wordsT t) = ls
  generalize msT (wordsT t) = ms
  intro rd l1 l2
  refine' Ws.tryAs (c := .ref Fx') 3 (fun _ => False) sc_L_right.nd ⟨rfl, by decide, .inl W0.gF⟩ ?tk (fun v h => h.elim) ?bd (fun v a oe pn h => h.elim)
  case tk =>
    intro u s' h
    obtain ⟨_, _, _, _, _, _, _, _, _, _, _, _, _, _, _, _, q⟩ := h
    exact q.elim
  case bd =>
    intro Wx pn xe tk po
    refine' Ws.asg 2 sc_L_right.nd (.own (o := oS ls ms) (d := dS ls ms) (.call rd (hr.mono (by decide)) (.one (.name 0)) (fun o e => e)) (oS_data ls ms) (.nil ?_))
    dsimp only [List.set]
    refine' Ws.if (b := false) (.is (.bool (.or (c1 := false) (.is (.cmp (d1 := dS ls ms) (.name 1) .non .isN) rfl) (fun _ => .or1 (c := false) (.is (.not (c := true) (.val (.call (iss_ok T B ls ms (by omega) (by omega)) (hr.mono (by decide)) (.two (.name 2) (.name 1)) (fun o e => by rw [e]; rfl)))) rfl)))) rfl) (fun h => by cases h) (fun _ => .nil ?_)
    refine' Ws.appendP (ds := ls.map D.int) (d' := .tup [dI (ls ++ [0]), dM ms]) 2 [.ix 0] (.ix (.name 2) 0) .int rfl rfl ?e1 ?_ (by rw [List.length_map]; omega)
    case e1 =>
      show (O.tu [oL (ls.map D.int ++ [.int 0]), oM ms]).data = _
      rw [O.data, dataAll, dataAll, dataAll, oL_data, oM_data]
      unfold dI
      rw [List.map_append]; rfl
    refine' Ws.appendP (ds := ms.map mkD) (d' := .tup [dI (ls ++ [0]), .lst (ms.map mkD ++ [.str ""])]) 2 [.ix 1] (.ix (.name 2) 1) .str rfl rfl ?e2 ?_ (by rw [List.length_map]; omega)
    case e2 =>
      show (O.tu [oL (ls.map D.int ++ [.int 0]), oL (ms.map mkD ++ [.str ""])]).data = _
      rw [O.data, dataAll, dataAll, dataAll, oL_data, oL_data]
      unfold dI
      rw [List.map_append]; rfl
    exact Ws.ret (.sh (d := .bl true) (.call (iss_ok T B ls ms (by omega) (by omega)) (hr.mono (by decide)) (.two (.call (d := dS ls ms) rd (hr.mono (by decide)) (.one (.name 0)) (fun o e => by rw [e, oS_data])) (.name 1)) (fun o e => by rw [e]; rfl)) rfl)
include T B Q Q2 M1 U0 W0 W5 Y0 in
theorem rightX (d : D) (hd : BadT d) : VF P w K mg base 5 "_law_right" [d, .non] (fun o => o = .sh (.bl true)) := by
  refine VF.of T.d_L_right sc_L_right rfl fun f cdv A outer s H E hr => ?_
  have hB := B; cases hB
  refine' Ws.tryAs1 (c := .ref Fx') (C := Dy) 3 2 sc_L_right.nd ⟨rfl, by decide, .inl W5.gF⟩ ?tk W5.ex (fun Wx pn xe tk => .call (readX T B Q Q2 M1 U0 W0 W5 Y0 d hd) (hr.mono (by decide)) tk (.one (.name 0))) (fun a oe pn hz hf => ?su)
  case tk =>
    intro u s' h
    obtain ⟨_, _, _, _, _, _, _, _, _, _, _, _, _, _, _, _, q⟩ := h
    exact q.elim
  case su =>
    exact Ws.ret (.bor (d := .bl true) (.is (.and (c1 := true) (.is (.cmp (d1 := .non) (.name 1) .non .isN) rfl) (c2 := true) (fun _ => .one (.callE (sole_ok T B W5 (by decide) hz hf) (roomM (hr.mono (by decide))) (List.mem_cons_self ..) (.two (.name 3) .str) (fun o e => by rw [e]; rfl)))) rfl) rfl rfl)
end
theorem law_fn {f : Addr} {fd : FuncData} (F : Fun K "law" "law" s_law f fd) (T : Fx K mg) (B : Bx mg) (G0 : ∃ c, mg "SIGNS" = some (.ref c) ∧ KDct K w c "valley" (.str "v") ∧ KDct K w c "hill" (.str "h")) (_G1 : ∃ c, mg "MARKS" = some (.ref c) ∧ KDct K w c "v" (.str "valley") ∧ KDct K w c "h" (.str "hill"))
    {Dx Dy Fx' : Addr} (W0 : ErrW K mg 0 "BadStrip" Dx Fx') (W5 : ErrW K mg 5 "BadText" Dy Fx') (Q : Cst mg) (Q2 : ∃ t, mg "MOST_FIGURES" = some (.int 4 t)) (M1 : ∃ c, mg "MARKS" = some (.ref c) ∧ KKeys K w c ["v", "h"] ∧ KDct K w c "v" (.str "valley") ∧ KDct K w c "h" (.str "hill")) (U0 : ∃ t, mg "FIGURES" = some (.str "0123456789" t))
    (Y0 : PySem.W.exmOne K (.ref Dx) (.ref Dx) = some true) (ns : List Int) (hn : ns.length ≤ 63) : FnOk P w K mg base CX0 6 f fd ["_law_script"] (spV K [.ro (ns.map D.int)] fun o => o = .sh (.bl true)) := by
  refine fnOk_of F sc_law rfl rfl fun cdv A outer s H E hr => ?_
  have hB := B; cases hB
  have right : ∀ (t : Str), t.length ≤ 90000 → GoodT (wordsT t) → VF P w K mg base 5 "_law_right" [.str t, dS (lsT (wordsT t)) (msT (wordsT t))] (fun o => o = .sh (.bl true)) := fun t hz hg => right_ok T B Q Q2 M1 U0 W0 t hz hg
  have wrong : ∀ d : D, BadT d → VF P w K mg base 5 "_law_right" [d, .non] (fun o => o = .sh (.bl true)) := fun d hd => rightX T B Q Q2 M1 U0 W0 W5 Y0 d hd
  refine' Ws.asg 1 sc_law.nd (.evN O.data (.call (strip_ok T B ns) (hr.mono (by decide)) (.one (.name 0))) (fun _ _ => rfl) ?_)
  rintro o ⟨ls, ms, rfl, g⟩
  refine Ws.share (i := 1) rfl ?_
  rw [oS_data]
  have gl := g.len
  have gm := g.most
  have ga := g.all
  refine' Ws.asg 2 sc_law.nd (.own (o := oS ls ms) (.pairO (.listL ?h1 (.ixT0 (.name 1))) (.listL ?h2 (.ixT1 (.name 1)))) (oS_data ls ms) ?_)
  case h1 => assumption
  case h2 => assumption
  refine Ws.share (i := 2) rfl ?_
  refine' Ws.asg 3 sc_law.nd (.sh (d := .str (textF ls ms)) (.call (written_ok T B G0 ls ms gl gm ga) (hr.mono (by decide)) (.one (.name 2)) (fun o e => by rw [e]; rfl)) ?_)
  obtain ⟨tg, tl1, tm1⟩ := textF_good (ls := ls) (ms := ms) (by omega) ga gm
  have tlen := textF_len (ls := ls) (ms := ms) (by omega) ga gm
  have rt := right (textF ls ms) (by omega) tg
  rw [tl1, tm1] at rt
  refine' Ws.if (b := false) (.is (.bool (.or (c1 := false) (.is (.not (c := true) (.val (.isi ?i1 ?i2 (.name 3) kb_str))) rfl) (fun _ => .or (c1 := false) (.is (.cmp (.name 3) (.call (d := .str (textF ls ms)) (ltext_ok T B ls ms gl gm ga) (hr.mono (by decide)) (.one (.name 1)) (fun o e => by rw [e]; rfl)) .neS) ?i3) (fun _ => .or (c1 := false) (.is (.cmp (.name 2) (.name 1) (.neD hr.units (shp_dS ls ms) (shp_dS ls ms))) ?i4) (fun _ => .or1 (c := false) (.is (.not (c := true) (.val (.call rt (hr.mono (by decide)) (.two (.name 3) (.name 1)) (fun o e => by rw [e]; rfl)))) rfl)))))) rfl) (fun h => by cases h) (fun _ => .nil ?_)
  case i1 => assumption
  case i2 => assumption
  case i3 => rw [decide_eq_true rfl]; rfl
  case i4 => rw [eqv_dS]; rfl
  refine' Ws.asg 4 sc_law.nd (.sh (.name 3) ?_)
  have key : ∀ (b : Str) (x5 : Option VL.W), b.length ≤ 90000 → Ws (cxOf CX0 P w K mg base n_law "law" (defScope s_law) f cdv A outer s H E).nox [some (.sh (.ro (ns.map D.int))), some (.sh (dS ls ms)), some (.sh (dS ls ms)), some (.sh (.str (textF ls ms))), some (.sh (.str b)), x5] ((defBody s_law).drop 6) { nx := fun _ => O.sh .non = .sh (.bl true), rt := fun o => o = .sh (.bl true) } := by
    intro b x5 hb
    have c18 := cellF_nn ns 18
    refine' Ws.if (b := false) (.is (.not (c := true) (.val ?k1)) rfl) (fun h => by cases h) (fun _ => .nil ?_)
    case k1 =>
      by_cases hg : GoodT (wordsT b)
      · exact .call (right b hb hg) (hr.mono (by decide)) (.two (.name 4) (.call (d := dS (lsT (wordsT b)) (msT (wordsT b))) (lstripof_ok T B b hb) (hr.mono (by decide)) (.one (.name 4)) (fun o e => by
          rcases e with ⟨_, e⟩ | ⟨q, _⟩
          · rw [e, oS_data]
          · exact absurd hg q))) (fun o e => by rw [e]; rfl)
      · exact .call (wrong (.str b) ⟨rfl, .inr ⟨b, rfl, hb, hg⟩⟩) (hr.mono (by decide)) (.two (.name 4) (.call (d := .non) (lstripof_ok T B b hb) (hr.mono (by decide)) (.one (.name 4)) (fun o e => by
          rcases e with ⟨q, _⟩ | ⟨_, e⟩
          · exact absurd q hg
          · rw [e]; rfl))) (fun o e => by rw [e]; rfl)
    have hm0 := Int.emod_nonneg (cellF ns 18) (show (6 : Int) ≠ 0 by decide)
    have hm1 := Int.emod_lt_of_pos (cellF ns 18) (show (0 : Int) < 6 by decide)
    obtain ⟨d, hd, hbt⟩ : ∃ d, atI [D.non, .int 5, .lst [.str "3"], .tup [.str "3"], .dk [], .bl true] (cellF ns 18 % 6) = some d ∧ BadT d := by
      have : cellF ns 18 % 6 = 0 ∨ cellF ns 18 % 6 = 1 ∨ cellF ns 18 % 6 = 2 ∨ cellF ns 18 % 6 = 3 ∨ cellF ns 18 % 6 = 4 ∨ cellF ns 18 % 6 = 5 := by omega
      rcases this with e | e | e | e | e | e <;> rw [e] <;> exact ⟨_, rfl, rfl, .inl rfl⟩
    exact Ws.ret (.sh (d := .bl true) (.call (wrong d hbt) (hr.mono (by decide)) (.two (.ixL (.list (.cons .non (.cons .int (.cons (.list (.one .str)) (.cons (.tup (.one .str)) (.cons .dict0 (.one .bl))))))) (.mod (.cell T B hr (.name 0) .int (by decide)) .int (by decide)) hd) .non) (fun o e => by rw [e]; rfl)) rfl)
  have c16 := cellF_nn ns 16
  have c17 := cellF_nn ns 17
  refine' Ws.if (b := decide (0 < cellF ns 16 % 4)) (.is (.cmp (.mod (.cell T B hr (.name 0) .int (by decide)) .int (by decide)) .int .gt) rfl) (fun _ => ?y) (fun _ => .nil (key _ _ (by omega)))
  case y =>
    refine' Ws.asg 5 sc_law.nd (.bor (d := .int (cellF ns 17 * 48271 % 2147483647)) (.mod (.mul (.cell T B hr (.name 0) .int (by decide)) .int (by walk_at "sd")) .int (by decide)) rfl ?_)
    refine' Ws.asg 4 sc_law.nd (.evN O.data (.call (lbent_ok T B (textF ls ms) (cellF ns 16 / 4) (cellF ns 17 * 48271 % 2147483647) tlen (by omega) (by omega)) (hr.mono (by decide)) (.cons (.name 3) (.two (.div (.cell T B hr (.name 0) .int (by decide)) .int (by walk_at "sd")) (.name 5)))) (fun _ _ => rfl) ?_)
    rintro o ⟨b, rfl, hb⟩
    refine Ws.share (i := 4) rfl ?_
    exact .nil (key b _ hb)

section
theorem all_mk {l : PySem.W.OpenLaw} {w : World} {K : PySem.W.Frag} {h : Heap} {mg : Str → Option Value} {fa : Addr} (X : K.In h) (G : h.Ns mainGlobals mg) (hfa : mg "law" = some (.ref fa))
    {f0 : Addr} {od0 an0 : Option Addr} {sl0 : Array (Option Value)} {oc0 kV0 dc0 pm0 cd0 ct0 : Value}
    (a0 : PySem.W.nsIn K mainGlobals "is_whole" = some (some (.ref f0))) (l0 : K.lookup f0 = some ⟨oc0, od0, .func (PySem.W.fnOf "is_whole" "is_whole" (defArgs s_is_whole) (defBody s_is_whole) (defScope s_is_whole) .none kV0 dc0 pm0 an0 cd0 ct0), sl0⟩) (c0 : PySem.W.codeIn K cd0 "is_whole" = true) (k0 : PySem.W.keepIn K (.ref f0) = true)
    {f1 : Addr} {od1 an1 : Option Addr} {sl1 : Array (Option Value)} {oc1 kV1 dc1 pm1 cd1 ct1 : Value}
    (a1 : PySem.W.nsIn K mainGlobals "is_mark" = some (some (.ref f1))) (l1 : K.lookup f1 = some ⟨oc1, od1, .func (PySem.W.fnOf "is_mark" "is_mark" (defArgs s_is_mark) (defBody s_is_mark) (defScope s_is_mark) .none kV1 dc1 pm1 an1 cd1 ct1), sl1⟩) (c1 : PySem.W.codeIn K cd1 "is_mark" = true) (k1 : PySem.W.keepIn K (.ref f1) = true)
    {f2 : Addr} {od2 an2 : Option Addr} {sl2 : Array (Option Value)} {oc2 kV2 dc2 pm2 cd2 ct2 : Value}
    (a2 : PySem.W.nsIn K mainGlobals "need_lengths" = some (some (.ref f2))) (l2 : K.lookup f2 = some ⟨oc2, od2, .func (PySem.W.fnOf "need_lengths" "need_lengths" (defArgs s_need_lengths) (defBody s_need_lengths) (defScope s_need_lengths) .none kV2 dc2 pm2 an2 cd2 ct2), sl2⟩) (c2 : PySem.W.codeIn K cd2 "need_lengths" = true) (k2 : PySem.W.keepIn K (.ref f2) = true)
    {f3 : Addr} {od3 an3 : Option Addr} {sl3 : Array (Option Value)} {oc3 kV3 dc3 pm3 cd3 ct3 : Value}
    (a3 : PySem.W.nsIn K mainGlobals "checked" = some (some (.ref f3))) (l3 : K.lookup f3 = some ⟨oc3, od3, .func (PySem.W.fnOf "checked" "checked" (defArgs s_checked) (defBody s_checked) (defScope s_checked) .none kV3 dc3 pm3 an3 cd3 ct3), sl3⟩) (c3 : PySem.W.codeIn K cd3 "checked" = true) (k3 : PySem.W.keepIn K (.ref f3) = true)
    {f4 : Addr} {od4 an4 : Option Addr} {sl4 : Array (Option Value)} {oc4 kV4 dc4 pm4 cd4 ct4 : Value}
    (a4 : PySem.W.nsIn K mainGlobals "written" = some (some (.ref f4))) (l4 : K.lookup f4 = some ⟨oc4, od4, .func (PySem.W.fnOf "written" "written" (defArgs s_written) (defBody s_written) (defScope s_written) .none kV4 dc4 pm4 an4 cd4 ct4), sl4⟩) (c4 : PySem.W.codeIn K cd4 "written" = true) (k4 : PySem.W.keepIn K (.ref f4) = true)
    {f5 : Addr} {od5 an5 : Option Addr} {sl5 : Array (Option Value)} {oc5 kV5 dc5 pm5 cd5 ct5 : Value}
    (a5 : PySem.W.nsIn K mainGlobals "length_of" = some (some (.ref f5))) (l5 : K.lookup f5 = some ⟨oc5, od5, .func (PySem.W.fnOf "length_of" "length_of" (defArgs s_length_of) (defBody s_length_of) (defScope s_length_of) .none kV5 dc5 pm5 an5 cd5 ct5), sl5⟩) (c5 : PySem.W.codeIn K cd5 "length_of" = true) (k5 : PySem.W.keepIn K (.ref f5) = true)
    {f6 : Addr} {od6 an6 : Option Addr} {sl6 : Array (Option Value)} {oc6 kV6 dc6 pm6 cd6 ct6 : Value}
    (a6 : PySem.W.nsIn K mainGlobals "read" = some (some (.ref f6))) (l6 : K.lookup f6 = some ⟨oc6, od6, .func (PySem.W.fnOf "read" "read" (defArgs s_read) (defBody s_read) (defScope s_read) .none kV6 dc6 pm6 an6 cd6 ct6), sl6⟩) (c6 : PySem.W.codeIn K cd6 "read" = true) (k6 : PySem.W.keepIn K (.ref f6) = true)
    {f7 : Addr} {od7 an7 : Option Addr} {sl7 : Array (Option Value)} {oc7 kV7 dc7 pm7 cd7 ct7 : Value}
    (a7 : PySem.W.nsIn K mainGlobals "_law_cell_at" = some (some (.ref f7))) (l7 : K.lookup f7 = some ⟨oc7, od7, .func (PySem.W.fnOf "_law_cell_at" "_law_cell_at" (defArgs s_L_cell_at) (defBody s_L_cell_at) (defScope s_L_cell_at) .none kV7 dc7 pm7 an7 cd7 ct7), sl7⟩) (c7 : PySem.W.codeIn K cd7 "_law_cell_at" = true) (k7 : PySem.W.keepIn K (.ref f7) = true)
    {f8 : Addr} {od8 an8 : Option Addr} {sl8 : Array (Option Value)} {oc8 kV8 dc8 pm8 cd8 ct8 : Value}
    (a8 : PySem.W.nsIn K mainGlobals "_law_unfolded" = some (some (.ref f8))) (l8 : K.lookup f8 = some ⟨oc8, od8, .func (PySem.W.fnOf "_law_unfolded" "_law_unfolded" (defArgs s_L_unfolded) (defBody s_L_unfolded) (defScope s_L_unfolded) .none kV8 dc8 pm8 an8 cd8 ct8), sl8⟩) (c8 : PySem.W.codeIn K cd8 "_law_unfolded" = true) (k8 : PySem.W.keepIn K (.ref f8) = true)
    {f9 : Addr} {od9 an9 : Option Addr} {sl9 : Array (Option Value)} {oc9 kV9 dc9 pm9 cd9 ct9 : Value}
    (a9 : PySem.W.nsIn K mainGlobals "_law_strip" = some (some (.ref f9))) (l9 : K.lookup f9 = some ⟨oc9, od9, .func (PySem.W.fnOf "_law_strip" "_law_strip" (defArgs s_L_strip) (defBody s_L_strip) (defScope s_L_strip) .none kV9 dc9 pm9 an9 cd9 ct9), sl9⟩) (c9 : PySem.W.codeIn K cd9 "_law_strip" = true) (k9 : PySem.W.keepIn K (.ref f9) = true)
    {f10 : Addr} {od10 an10 : Option Addr} {sl10 : Array (Option Value)} {oc10 kV10 dc10 pm10 cd10 ct10 : Value}
    (a10 : PySem.W.nsIn K mainGlobals "_law_whole" = some (some (.ref f10))) (l10 : K.lookup f10 = some ⟨oc10, od10, .func (PySem.W.fnOf "_law_whole" "_law_whole" (defArgs s_L_whole) (defBody s_L_whole) (defScope s_L_whole) .none kV10 dc10 pm10 an10 cd10 ct10), sl10⟩) (c10 : PySem.W.codeIn K cd10 "_law_whole" = true) (k10 : PySem.W.keepIn K (.ref f10) = true)
    {f11 : Addr} {od11 an11 : Option Addr} {sl11 : Array (Option Value)} {oc11 kV11 dc11 pm11 cd11 ct11 : Value}
    (a11 : PySem.W.nsIn K mainGlobals "_law_is_strip" = some (some (.ref f11))) (l11 : K.lookup f11 = some ⟨oc11, od11, .func (PySem.W.fnOf "_law_is_strip" "_law_is_strip" (defArgs s_L_is_strip) (defBody s_L_is_strip) (defScope s_L_is_strip) .none kV11 dc11 pm11 an11 cd11 ct11), sl11⟩) (c11 : PySem.W.codeIn K cd11 "_law_is_strip" = true) (k11 : PySem.W.keepIn K (.ref f11) = true)
    {f12 : Addr} {od12 an12 : Option Addr} {sl12 : Array (Option Value)} {oc12 kV12 dc12 pm12 cd12 ct12 : Value}
    (a12 : PySem.W.nsIn K mainGlobals "_law_sole" = some (some (.ref f12))) (l12 : K.lookup f12 = some ⟨oc12, od12, .func (PySem.W.fnOf "_law_sole" "_law_sole" (defArgs s_L_sole) (defBody s_L_sole) (defScope s_L_sole) .none kV12 dc12 pm12 an12 cd12 ct12), sl12⟩) (c12 : PySem.W.codeIn K cd12 "_law_sole" = true) (k12 : PySem.W.keepIn K (.ref f12) = true)
    {f13 : Addr} {od13 an13 : Option Addr} {sl13 : Array (Option Value)} {oc13 kV13 dc13 pm13 cd13 ct13 : Value}
    (a13 : PySem.W.nsIn K mainGlobals "_law_text" = some (some (.ref f13))) (l13 : K.lookup f13 = some ⟨oc13, od13, .func (PySem.W.fnOf "_law_text" "_law_text" (defArgs s_L_text) (defBody s_L_text) (defScope s_L_text) .none kV13 dc13 pm13 an13 cd13 ct13), sl13⟩) (c13 : PySem.W.codeIn K cd13 "_law_text" = true) (k13 : PySem.W.keepIn K (.ref f13) = true)
    {f14 : Addr} {od14 an14 : Option Addr} {sl14 : Array (Option Value)} {oc14 kV14 dc14 pm14 cd14 ct14 : Value}
    (a14 : PySem.W.nsIn K mainGlobals "_law_length" = some (some (.ref f14))) (l14 : K.lookup f14 = some ⟨oc14, od14, .func (PySem.W.fnOf "_law_length" "_law_length" (defArgs s_L_length) (defBody s_L_length) (defScope s_L_length) .none kV14 dc14 pm14 an14 cd14 ct14), sl14⟩) (c14 : PySem.W.codeIn K cd14 "_law_length" = true) (k14 : PySem.W.keepIn K (.ref f14) = true)
    {f15 : Addr} {od15 an15 : Option Addr} {sl15 : Array (Option Value)} {oc15 kV15 dc15 pm15 cd15 ct15 : Value}
    (a15 : PySem.W.nsIn K mainGlobals "_law_strip_of" = some (some (.ref f15))) (l15 : K.lookup f15 = some ⟨oc15, od15, .func (PySem.W.fnOf "_law_strip_of" "_law_strip_of" (defArgs s_L_strip_of) (defBody s_L_strip_of) (defScope s_L_strip_of) .none kV15 dc15 pm15 an15 cd15 ct15), sl15⟩) (c15 : PySem.W.codeIn K cd15 "_law_strip_of" = true) (k15 : PySem.W.keepIn K (.ref f15) = true)
    {f16 : Addr} {od16 an16 : Option Addr} {sl16 : Array (Option Value)} {oc16 kV16 dc16 pm16 cd16 ct16 : Value}
    (a16 : PySem.W.nsIn K mainGlobals "_law_sign" = some (some (.ref f16))) (l16 : K.lookup f16 = some ⟨oc16, od16, .func (PySem.W.fnOf "_law_sign" "_law_sign" (defArgs s_L_sign) (defBody s_L_sign) (defScope s_L_sign) .none kV16 dc16 pm16 an16 cd16 ct16), sl16⟩) (c16 : PySem.W.codeIn K cd16 "_law_sign" = true) (k16 : PySem.W.keepIn K (.ref f16) = true)
    {f17 : Addr} {od17 an17 : Option Addr} {sl17 : Array (Option Value)} {oc17 kV17 dc17 pm17 cd17 ct17 : Value}
    (a17 : PySem.W.nsIn K mainGlobals "_law_odd" = some (some (.ref f17))) (l17 : K.lookup f17 = some ⟨oc17, od17, .func (PySem.W.fnOf "_law_odd" "_law_odd" (defArgs s_L_odd) (defBody s_L_odd) (defScope s_L_odd) .none kV17 dc17 pm17 an17 cd17 ct17), sl17⟩) (c17 : PySem.W.codeIn K cd17 "_law_odd" = true) (k17 : PySem.W.keepIn K (.ref f17) = true)
    {f18 : Addr} {od18 an18 : Option Addr} {sl18 : Array (Option Value)} {oc18 kV18 dc18 pm18 cd18 ct18 : Value}
    (a18 : PySem.W.nsIn K mainGlobals "_law_bent" = some (some (.ref f18))) (l18 : K.lookup f18 = some ⟨oc18, od18, .func (PySem.W.fnOf "_law_bent" "_law_bent" (defArgs s_L_bent) (defBody s_L_bent) (defScope s_L_bent) .none kV18 dc18 pm18 an18 cd18 ct18), sl18⟩) (c18 : PySem.W.codeIn K cd18 "_law_bent" = true) (k18 : PySem.W.keepIn K (.ref f18) = true)
    {f19 : Addr} {od19 an19 : Option Addr} {sl19 : Array (Option Value)} {oc19 kV19 dc19 pm19 cd19 ct19 : Value}
    (a19 : PySem.W.nsIn K mainGlobals "_law_right" = some (some (.ref f19))) (l19 : K.lookup f19 = some ⟨oc19, od19, .func (PySem.W.fnOf "_law_right" "_law_right" (defArgs s_L_right) (defBody s_L_right) (defScope s_L_right) .none kV19 dc19 pm19 an19 cd19 ct19), sl19⟩) (c19 : PySem.W.codeIn K cd19 "_law_right" = true) (k19 : PySem.W.keepIn K (.ref f19) = true)
    {f20 : Addr} {od20 an20 : Option Addr} {sl20 : Array (Option Value)} {oc20 kV20 dc20 pm20 cd20 ct20 : Value}
    (a20 : PySem.W.nsIn K mainGlobals "law" = some (some (.ref f20))) (l20 : K.lookup f20 = some ⟨oc20, od20, .func (PySem.W.fnOf "law" "law" (defArgs s_law) (defBody s_law) (defScope s_law) .none kV20 dc20 pm20 an20 cd20 ct20), sl20⟩) (c20 : PySem.W.codeIn K cd20 "law" = true) (k20 : PySem.W.keepIn K (.ref f20) = true)
    (z0 : PySem.W.nsIn K mainGlobals "len" = some none)
    (z1 : PySem.W.nsIn K mainGlobals "int" = some none)
    (z2 : PySem.W.nsIn K mainGlobals "str" = some none)
    (z3 : PySem.W.nsIn K mainGlobals "list" = some none)
    (z4 : PySem.W.nsIn K mainGlobals "tuple" = some none)
    (z5 : PySem.W.nsIn K mainGlobals "all" = some none)
    (z6 : PySem.W.nsIn K mainGlobals "range" = some none)
    (z7 : PySem.W.nsIn K mainGlobals "zip" = some none)
    (z8 : PySem.W.nsIn K mainGlobals "isinstance" = some none)
    (z9 : PySem.W.nsIn K mainGlobals "bool" = some none)
    (z10 : PySem.W.nsIn K mainGlobals "ValueError" = some none)
    {ga0 : Addr} {ge0 : Array DictEntry} {gn0 : Nat} {gt0_0 : Tok} {gt0_1 : Tok} (ya0 : PySem.W.nsIn K mainGlobals "SIGNS" = some (some (.ref ga0))) (yb0 : K.lookup ga0 = some ⟨.type "dict", none, .dict ge0 gn0, #[]⟩) (yk0 : PySem.W.KeysLit w.params ge0.toList)
    (y0_0 : PySem.W.nsIn K ga0 "valley" = some (some (.str "v" gt0_0)))
    (y0_1 : PySem.W.nsIn K ga0 "hill" = some (some (.str "h" gt0_1)))
    {ga1 : Addr} {ge1 : Array DictEntry} {gn1 : Nat} {gt1_0 : Tok} {gt1_1 : Tok} (ya1 : PySem.W.nsIn K mainGlobals "MARKS" = some (some (.ref ga1))) (yb1 : K.lookup ga1 = some ⟨.type "dict", none, .dict ge1 gn1, #[]⟩) (yk1 : PySem.W.KeysLit w.params ge1.toList)
    (y1_0 : PySem.W.nsIn K ga1 "v" = some (some (.str "valley" gt1_0)))
    (y1_1 : PySem.W.nsIn K ga1 "h" = some (some (.str "hill" gt1_1)))
    (yl1 : (ga1 == sysModules) = false) (yx1 : ge1.toList.all (fun e => (["v", "h"] : List Str).any fun k => e.key.isStr k) = true)
    {tu0 : Tok} (yu0 : PySem.W.nsIn K mainGlobals "FIGURES" = some (some (.str "0123456789" tu0)))
    {tc0 : Tok} (yc0 : PySem.W.nsIn K mainGlobals "MOST_PIECES" = some (some (.int 30 tc0)))
    {tc1 : Tok} (yc1 : PySem.W.nsIn K mainGlobals "MOST_LENGTH" = some (some (.int 1000 tc1)))
    {tc2 : Tok} (yc2 : PySem.W.nsIn K mainGlobals "MOST_FIGURES" = some (some (.int 4 tc2)))
    {Ce0 : Addr} (ea0 : PySem.W.nsIn K mainGlobals "BadStrip" = some (some (.ref Ce0))) (ew0 : PySem.W.hasDictIn K Ce0 = true) (ez0 : PySem.W.typeIn K (.ref Ce0) = some (.type "type"))
    {Ce1 : Addr} (ea1 : PySem.W.nsIn K mainGlobals "BadOrder" = some (some (.ref Ce1))) (ew1 : PySem.W.hasDictIn K Ce1 = true) (ez1 : PySem.W.typeIn K (.ref Ce1) = some (.type "type"))
    {Ce2 : Addr} (ea2 : PySem.W.nsIn K mainGlobals "NoFold" = some (some (.ref Ce2))) (ew2 : PySem.W.hasDictIn K Ce2 = true) (ez2 : PySem.W.typeIn K (.ref Ce2) = some (.type "type"))
    {Ce3 : Addr} (ea3 : PySem.W.nsIn K mainGlobals "NothingDone" = some (some (.ref Ce3))) (ew3 : PySem.W.hasDictIn K Ce3 = true) (ez3 : PySem.W.typeIn K (.ref Ce3) = some (.type "type"))
    {Ce4 : Addr} (ea4 : PySem.W.nsIn K mainGlobals "TooMany" = some (some (.ref Ce4))) (ew4 : PySem.W.hasDictIn K Ce4 = true) (ez4 : PySem.W.typeIn K (.ref Ce4) = some (.type "type"))
    {Ce5 : Addr} (ea5 : PySem.W.nsIn K mainGlobals "BadText" = some (some (.ref Ce5))) (ew5 : PySem.W.hasDictIn K Ce5 = true) (ez5 : PySem.W.typeIn K (.ref Ce5) = some (.type "type"))
    {Ce6 : Addr} (ea6 : PySem.W.nsIn K mainGlobals "FoldError" = some (some (.ref Ce6))) (ew6 : PySem.W.hasDictIn K Ce6 = true) (ez6 : PySem.W.typeIn K (.ref Ce6) = some (.type "type"))
    (ef6 : PySem.W.subIn K (.ref Ce6) (.type "BaseException") = some true)
    (eq0 : PySem.W.excIn K Ce0 [.type "ValueError", .type "Exception", .type "BaseException", .type "object"] "ValueError.__new__" = true)
    (ek0 : PySem.W.keepIn K (.ref Ce0) = true)
    (eb0 : PySem.W.subIn K (.ref Ce0) (.type "BaseException") = some true)
    (eg0 : PySem.W.findIn K (.ref Ce0) "__getattribute__" = some (some (.builtin "BaseException.__getattribute__")))
    (eh0 : PySem.W.findIn K (.ref Ce0) "__getattr__" = some none)
    (ec0 : PySem.W.findIn K (.ref Ce0) "__class__" = some (some (.builtin "object.__class__")))
    (en0 : PySem.W.specialIn K (.builtin "object.__class__") "__get__" = some (some (.builtin "getset_descriptor.__get__")))
    (ei0 : PySem.W.takesIn K (.builtin "object.__class__") = some true)
    (em0 : PySem.W.mroIn K Ce0 (.type "object") = some true)
    (ex0 : PySem.W.subIn K (.ref Ce0) (.ref Ce6) = some true)
    (ev0 : PySem.W.subIn K (.ref Ce0) (.type "ValueError") = some true)
    (es1_0 : PySem.W.subIn K (.ref Ce0) (.ref Ce1) = some false)
    (es2_0 : PySem.W.subIn K (.ref Ce0) (.ref Ce2) = some false)
    (es3_0 : PySem.W.subIn K (.ref Ce0) (.ref Ce3) = some false)
    (es4_0 : PySem.W.subIn K (.ref Ce0) (.ref Ce4) = some false)
    (es5_0 : PySem.W.subIn K (.ref Ce0) (.ref Ce5) = some false)
    (eu1_0 : (Value.ref Ce0 == Value.ref Ce1) = false)
    (eu2_0 : (Value.ref Ce0 == Value.ref Ce2) = false)
    (eu3_0 : (Value.ref Ce0 == Value.ref Ce3) = false)
    (eu4_0 : (Value.ref Ce0 == Value.ref Ce4) = false)
    (eu5_0 : (Value.ref Ce0 == Value.ref Ce5) = false)
    (eq5 : PySem.W.excIn K Ce5 [.type "ValueError", .type "Exception", .type "BaseException", .type "object"] "ValueError.__new__" = true)
    (ek5 : PySem.W.keepIn K (.ref Ce5) = true)
    (eb5 : PySem.W.subIn K (.ref Ce5) (.type "BaseException") = some true)
    (eg5 : PySem.W.findIn K (.ref Ce5) "__getattribute__" = some (some (.builtin "BaseException.__getattribute__")))
    (eh5 : PySem.W.findIn K (.ref Ce5) "__getattr__" = some none)
    (ec5 : PySem.W.findIn K (.ref Ce5) "__class__" = some (some (.builtin "object.__class__")))
    (en5 : PySem.W.specialIn K (.builtin "object.__class__") "__get__" = some (some (.builtin "getset_descriptor.__get__")))
    (ei5 : PySem.W.takesIn K (.builtin "object.__class__") = some true)
    (em5 : PySem.W.mroIn K Ce5 (.type "object") = some true)
    (ex5 : PySem.W.subIn K (.ref Ce5) (.ref Ce6) = some true)
    (ev5 : PySem.W.subIn K (.ref Ce5) (.type "ValueError") = some true)
    (es0_5 : PySem.W.subIn K (.ref Ce5) (.ref Ce0) = some false)
    (es1_5 : PySem.W.subIn K (.ref Ce5) (.ref Ce1) = some false)
    (es2_5 : PySem.W.subIn K (.ref Ce5) (.ref Ce2) = some false)
    (es3_5 : PySem.W.subIn K (.ref Ce5) (.ref Ce3) = some false)
    (es4_5 : PySem.W.subIn K (.ref Ce5) (.ref Ce4) = some false)
    (eu0_5 : (Value.ref Ce5 == Value.ref Ce0) = false)
    (eu1_5 : (Value.ref Ce5 == Value.ref Ce1) = false)
    (eu2_5 : (Value.ref Ce5 == Value.ref Ce2) = false)
    (eu3_5 : (Value.ref Ce5 == Value.ref Ce3) = false)
    (eu4_5 : (Value.ref Ce5 == Value.ref Ce4) = false)
    (ey0 : PySem.W.subIn K (.ref Ce0) (.ref Ce0) = some true)
    : ∃ fd : FuncData, (∀ (s : Shared) (v : Value), BindsTo s fd ⟨[v], []⟩ [("_law_script", v)]) ∧ ∀ base : Heap, K.In base → base.Ns mainGlobals mg → FnOk l.prog w K mg base CX0 6 fa fd ["_law_script"] (spLaw K) := by
  have e := hfa.symm.trans (PySem.W.mg_of X G a20)
  cases e
  have F0 := fun_mk (st := s_is_whole) l0 c0 k0
  have b0 := F0.binds (ps := ["thing"]) fun _ _ _ _ _ _ us hl => match us, hl with | [_], _ => rfl
  have F1 := fun_mk (st := s_is_mark) l1 c1 k1
  have b1 := F1.binds (ps := ["thing"]) fun _ _ _ _ _ _ us hl => match us, hl with | [_], _ => rfl
  have F2 := fun_mk (st := s_need_lengths) l2 c2 k2
  have b2 := F2.binds (ps := ["lengths"]) fun _ _ _ _ _ _ us hl => match us, hl with | [_], _ => rfl
  have F3 := fun_mk (st := s_checked) l3 c3 k3
  have b3 := F3.binds (ps := ["strip"]) fun _ _ _ _ _ _ us hl => match us, hl with | [_], _ => rfl
  have F4 := fun_mk (st := s_written) l4 c4 k4
  have b4 := F4.binds (ps := ["strip"]) fun _ _ _ _ _ _ us hl => match us, hl with | [_], _ => rfl
  have F5 := fun_mk (st := s_length_of) l5 c5 k5
  have b5 := F5.binds (ps := ["word"]) fun _ _ _ _ _ _ us hl => match us, hl with | [_], _ => rfl
  have F6 := fun_mk (st := s_read) l6 c6 k6
  have b6 := F6.binds (ps := ["text"]) fun _ _ _ _ _ _ us hl => match us, hl with | [_], _ => rfl
  have F7 := fun_mk (st := s_L_cell_at) l7 c7 k7
  have b7 := F7.binds (ps := ["_law_script", "_law_k"]) fun _ _ _ _ _ _ us hl => match us, hl with | [_, _], _ => rfl
  have F8 := fun_mk (st := s_L_unfolded) l8 c8 k8
  have b8 := F8.binds (ps := ["_law_script", "_law_first", "_law_many"]) fun _ _ _ _ _ _ us hl => match us, hl with | [_, _, _], _ => rfl
  have F9 := fun_mk (st := s_L_strip) l9 c9 k9
  have b9 := F9.binds (ps := ["_law_script"]) fun _ _ _ _ _ _ us hl => match us, hl with | [_], _ => rfl
  have F10 := fun_mk (st := s_L_whole) l10 c10 k10
  have b10 := F10.binds (ps := ["_law_found"]) fun _ _ _ _ _ _ us hl => match us, hl with | [_], _ => rfl
  have F11 := fun_mk (st := s_L_is_strip) l11 c11 k11
  have b11 := F11.binds (ps := ["_law_found", "_law_due"]) fun _ _ _ _ _ _ us hl => match us, hl with | [_, _], _ => rfl
  have F12 := fun_mk (st := s_L_sole) l12 c12 k12
  have b12 := F12.binds (ps := ["_law_error", "_law_due"]) fun _ _ _ _ _ _ us hl => match us, hl with | [_, _], _ => rfl
  have F13 := fun_mk (st := s_L_text) l13 c13 k13
  have b13 := F13.binds (ps := ["_law_strip_here"]) fun _ _ _ _ _ _ us hl => match us, hl with | [_], _ => rfl
  have F14 := fun_mk (st := s_L_length) l14 c14 k14
  have b14 := F14.binds (ps := ["_law_word"]) fun _ _ _ _ _ _ us hl => match us, hl with | [_], _ => rfl
  have F15 := fun_mk (st := s_L_strip_of) l15 c15 k15
  have b15 := F15.binds (ps := ["_law_text_here"]) fun _ _ _ _ _ _ us hl => match us, hl with | [_], _ => rfl
  have F16 := fun_mk (st := s_L_sign) l16 c16 k16
  have b16 := F16.binds (ps := ["_law_cell"]) fun _ _ _ _ _ _ us hl => match us, hl with | [_], _ => rfl
  have F17 := fun_mk (st := s_L_odd) l17 c17 k17
  have b17 := F17.binds (ps := ["_law_cell"]) fun _ _ _ _ _ _ us hl => match us, hl with | [_], _ => rfl
  have F18 := fun_mk (st := s_L_bent) l18 c18 k18
  have b18 := F18.binds (ps := ["_law_text_here", "_law_cell", "_law_more"]) fun _ _ _ _ _ _ us hl => match us, hl with | [_, _, _], _ => rfl
  have F19 := fun_mk (st := s_L_right) l19 c19 k19
  have b19 := F19.binds (ps := ["_law_thing", "_law_due"]) fun _ _ _ _ _ _ us hl => match us, hl with | [_, _], _ => rfl
  have F20 := fun_mk (st := s_law) l20 c20 k20
  have b20 := F20.binds (ps := ["_law_script"]) fun _ _ _ _ _ _ us hl => match us, hl with | [_], _ => rfl
  have T : Fx K mg := ⟨⟨_, _, PySem.W.mg_of X G a0, F0, b0⟩, ⟨_, _, PySem.W.mg_of X G a1, F1, b1⟩, ⟨_, _, PySem.W.mg_of X G a2, F2, b2⟩, ⟨_, _, PySem.W.mg_of X G a3, F3, b3⟩, ⟨_, _, PySem.W.mg_of X G a4, F4, b4⟩, ⟨_, _, PySem.W.mg_of X G a5, F5, b5⟩, ⟨_, _, PySem.W.mg_of X G a6, F6, b6⟩, ⟨_, _, PySem.W.mg_of X G a7, F7, b7⟩, ⟨_, _, PySem.W.mg_of X G a8, F8, b8⟩, ⟨_, _, PySem.W.mg_of X G a9, F9, b9⟩, ⟨_, _, PySem.W.mg_of X G a10, F10, b10⟩, ⟨_, _, PySem.W.mg_of X G a11, F11, b11⟩, ⟨_, _, PySem.W.mg_of X G a12, F12, b12⟩, ⟨_, _, PySem.W.mg_of X G a13, F13, b13⟩, ⟨_, _, PySem.W.mg_of X G a14, F14, b14⟩, ⟨_, _, PySem.W.mg_of X G a15, F15, b15⟩, ⟨_, _, PySem.W.mg_of X G a16, F16, b16⟩, ⟨_, _, PySem.W.mg_of X G a17, F17, b17⟩, ⟨_, _, PySem.W.mg_of X G a18, F18, b18⟩, ⟨_, _, PySem.W.mg_of X G a19, F19, b19⟩, ⟨_, _, PySem.W.mg_of X G a20, F20, b20⟩⟩
  have B : Bx mg := ⟨PySem.W.mg_none_of X G z0, PySem.W.mg_none_of X G z1, PySem.W.mg_none_of X G z2, PySem.W.mg_none_of X G z3, PySem.W.mg_none_of X G z4, PySem.W.mg_none_of X G z5, PySem.W.mg_none_of X G z6, PySem.W.mg_none_of X G z7, PySem.W.mg_none_of X G z8, PySem.W.mg_none_of X G z9, PySem.W.mg_none_of X G z10⟩
  have G0 : ∃ c, mg "SIGNS" = some (.ref c) ∧ KDct K w c "valley" (.str "v") ∧ KDct K w c "hill" (.str "h") := ⟨_, PySem.W.mg_of X G ya0, ⟨_, _, _, yb0, yk0, y0_0, ⟨_, rfl⟩⟩, ⟨_, _, _, yb0, yk0, y0_1, ⟨_, rfl⟩⟩⟩
  have G1 : ∃ c, mg "MARKS" = some (.ref c) ∧ KDct K w c "v" (.str "valley") ∧ KDct K w c "h" (.str "hill") := ⟨_, PySem.W.mg_of X G ya1, ⟨_, _, _, yb1, yk1, y1_0, ⟨_, rfl⟩⟩, ⟨_, _, _, yb1, yk1, y1_1, ⟨_, rfl⟩⟩⟩
  have kit0 : ∀ i n, errN[i]? = some n → ∃ C1, mg n = some (.ref C1) ∧ PySem.W.kitOne K (.ref Ce0) (.ref C1) = some (decide (i = 0)) := fun i n h => by
    match i, h with
    | 0, h => obtain rfl := Option.some.inj (show some ("BadStrip" : Str) = some n from h); exact ⟨_, PySem.W.mg_of X G ea0, kit_self⟩
    | 1, h => obtain rfl := Option.some.inj (show some ("BadOrder" : Str) = some n from h); exact ⟨_, PySem.W.mg_of X G ea1, kit_other eu1_0 ew1 ez1 es1_0⟩
    | 2, h => obtain rfl := Option.some.inj (show some ("NoFold" : Str) = some n from h); exact ⟨_, PySem.W.mg_of X G ea2, kit_other eu2_0 ew2 ez2 es2_0⟩
    | 3, h => obtain rfl := Option.some.inj (show some ("NothingDone" : Str) = some n from h); exact ⟨_, PySem.W.mg_of X G ea3, kit_other eu3_0 ew3 ez3 es3_0⟩
    | 4, h => obtain rfl := Option.some.inj (show some ("TooMany" : Str) = some n from h); exact ⟨_, PySem.W.mg_of X G ea4, kit_other eu4_0 ew4 ez4 es4_0⟩
    | 5, h => obtain rfl := Option.some.inj (show some ("BadText" : Str) = some n from h); exact ⟨_, PySem.W.mg_of X G ea5, kit_other eu5_0 ew5 ez5 es5_0⟩
    | i + 6, h => simp at h
  have W0 : ErrW K mg 0 "BadStrip" Ce0 Ce6 := ⟨⟨eq0, PySem.W.mg_of X G ea0, ek0, eb0, ez0⟩, ⟨eg0, eh0, eb0, ew0, ec0, en0, ei0, em0⟩, PySem.W.mg_of X G ea6, PySem.W.exm_ref ef6 ew6 ez6 ex0, kit0, kit_val ev0⟩
  have kit5 : ∀ i n, errN[i]? = some n → ∃ C1, mg n = some (.ref C1) ∧ PySem.W.kitOne K (.ref Ce5) (.ref C1) = some (decide (i = 5)) := fun i n h => by
    match i, h with
    | 0, h => obtain rfl := Option.some.inj (show some ("BadStrip" : Str) = some n from h); exact ⟨_, PySem.W.mg_of X G ea0, kit_other eu0_5 ew0 ez0 es0_5⟩
    | 1, h => obtain rfl := Option.some.inj (show some ("BadOrder" : Str) = some n from h); exact ⟨_, PySem.W.mg_of X G ea1, kit_other eu1_5 ew1 ez1 es1_5⟩
    | 2, h => obtain rfl := Option.some.inj (show some ("NoFold" : Str) = some n from h); exact ⟨_, PySem.W.mg_of X G ea2, kit_other eu2_5 ew2 ez2 es2_5⟩
    | 3, h => obtain rfl := Option.some.inj (show some ("NothingDone" : Str) = some n from h); exact ⟨_, PySem.W.mg_of X G ea3, kit_other eu3_5 ew3 ez3 es3_5⟩
    | 4, h => obtain rfl := Option.some.inj (show some ("TooMany" : Str) = some n from h); exact ⟨_, PySem.W.mg_of X G ea4, kit_other eu4_5 ew4 ez4 es4_5⟩
    | 5, h => obtain rfl := Option.some.inj (show some ("BadText" : Str) = some n from h); exact ⟨_, PySem.W.mg_of X G ea5, kit_self⟩
    | i + 6, h => simp at h
  have W5 : ErrW K mg 5 "BadText" Ce5 Ce6 := ⟨⟨eq5, PySem.W.mg_of X G ea5, ek5, eb5, ez5⟩, ⟨eg5, eh5, eb5, ew5, ec5, en5, ei5, em5⟩, PySem.W.mg_of X G ea6, PySem.W.exm_ref ef6 ew6 ez6 ex5, kit5, kit_val ev5⟩
  have Q : Cst mg := ⟨⟨_, PySem.W.mg_of X G yc0⟩, ⟨_, PySem.W.mg_of X G yc1⟩⟩
  have Q2 : ∃ t, mg "MOST_FIGURES" = some (.int 4 t) := ⟨_, PySem.W.mg_of X G yc2⟩
  have M1 : ∃ c, mg "MARKS" = some (.ref c) ∧ KKeys K w c ["v", "h"] ∧ KDct K w c "v" (.str "valley") ∧ KDct K w c "h" (.str "hill") := ⟨_, PySem.W.mg_of X G ya1, ⟨yl1, _, _, yb1, yk1, yx1⟩, ⟨_, _, _, yb1, yk1, y1_0, ⟨_, rfl⟩⟩, ⟨_, _, _, yb1, yk1, y1_1, ⟨_, rfl⟩⟩⟩
  have U0 : ∃ t, mg "FIGURES" = some (.str "0123456789" t) := ⟨_, PySem.W.mg_of X G yu0⟩
  have Y0 := PySem.W.exm_ref eb0 ew0 ez0 ey0
  exact ⟨_, fun s v => .of_eq rfl, fun base _ _ => law_of rfl fun ns hn => law_fn F20 T B G0 G1 W0 W5 Q Q2 M1 U0 Y0 ns hn⟩
end
end VL
open PySem PySem.W PyProof.Rows
set_option maxRecDepth 100000 in
set_option maxHeartbeats 0 in
theorem PySem.Challenge.cw_flatstrip_k14_texts_holds : PySem.Challenge.rw_flatstrip_k14_texts.Holds := by
  w_on
  o_law
  k_head
  case hw => w_witness2
  k_fill
  refine L2.walk_of (l := PySem.Challenge.rw_flatstrip_k14_texts)
    (n := 63) (k := 6) (x := "_law_script")
    (CX := fun _ => L2.CX0)
    (sp := fun w => VL.spLaw _)
    rfl (by decide) rfl
    ⟨rfl, by decide, by decide⟩
    (fun w h Y => PySem.W.kIn_of Y) ?F
    (fun _ _ a ns hl _ hS => ⟨a, ns, rfl, hS, hl, fun _ => rfl⟩)
    (fun _ _ _ _ _ h => h)
  case F =>
    intro w mg fa h KX G hmg
    refine' VL.all_mk KX G hmg
      ?a0 ?l0 ?c0 ?k0 ?a1 ?l1 ?c1 ?k1
      ?a2 ?l2 ?c2 ?k2 ?a3 ?l3 ?c3 ?k3
      ?a4 ?l4 ?c4 ?k4 ?a5 ?l5 ?c5 ?k5
      ?a6 ?l6 ?c6 ?k6 ?a7 ?l7 ?c7 ?k7
      ?a8 ?l8 ?c8 ?k8 ?a9 ?l9 ?c9 ?k9
      ?a10 ?l10 ?c10 ?k10 ?a11 ?l11 ?c11 ?k11
      ?a12 ?l12 ?c12 ?k12 ?a13 ?l13 ?c13 ?k13
      ?a14 ?l14 ?c14 ?k14 ?a15 ?l15 ?c15 ?k15
      ?a16 ?l16 ?c16 ?k16 ?a17 ?l17 ?c17 ?k17
      ?a18 ?l18 ?c18 ?k18 ?a19 ?l19 ?c19 ?k19
      ?a20 ?l20 ?c20 ?k20 ?z0 ?z1 ?z2 ?z3
      ?z4 ?z5 ?z6 ?z7 ?z8 ?z9 ?z10 ?ya0
      ?yb0 ?yk0 ?y0_0 ?y0_1 ?ya1 ?yb1 ?yk1 ?y1_0
      ?y1_1 ?yl1 ?yx1 ?yu0 ?yc0 ?yc1 ?yc2 ?ea0
      ?ew0 ?ez0 ?ea1 ?ew1 ?ez1 ?ea2 ?ew2 ?ez2
      ?ea3 ?ew3 ?ez3 ?ea4 ?ew4 ?ez4 ?ea5 ?ew5
      ?ez5 ?ea6 ?ew6 ?ez6 ?ef6 ?eq0 ?ek0 ?eb0
      ?eg0 ?eh0 ?ec0 ?en0 ?ei0 ?em0 ?ex0 ?ev0
      ?es1_0 ?es2_0 ?es3_0 ?es4_0 ?es5_0 ?eu1_0 ?eu2_0 ?eu3_0
      ?eu4_0 ?eu5_0 ?eq5 ?ek5 ?eb5 ?eg5 ?eh5 ?ec5
      ?en5 ?ei5 ?em5 ?ex5 ?ev5 ?es0_5 ?es1_5 ?es2_5
      ?es3_5 ?es4_5 ?eu0_5 ?eu1_5 ?eu2_5 ?eu3_5 ?eu4_5 ?ey0
    case a0 => k_is
    case l0 => k_is
    case c0 => k_is
    case k0 => k_is
    case a1 => k_is
    case l1 => k_is
    case c1 => k_is
    case k1 => k_is
    case a2 => k_is
    case l2 => k_is
    case c2 => k_is
    case k2 => k_is
    case a3 => k_is
    case l3 => k_is
    case c3 => k_is
    case k3 => k_is
    case a4 => k_is
    case l4 => k_is
    case c4 => k_is
    case k4 => k_is
    case a5 => k_is
    case l5 => k_is
    case c5 => k_is
    case k5 => k_is
    case a6 => k_is
    case l6 => k_is
    case c6 => k_is
    case k6 => k_is
    case a7 => k_is
    case l7 => k_is
    case c7 => k_is
    case k7 => k_is
    case a8 => k_is
    case l8 => k_is
    case c8 => k_is
    case k8 => k_is
    case a9 => k_is
    case l9 => k_is
    case c9 => k_is
    case k9 => k_is
    case a10 => k_is
    case l10 => k_is
    case c10 => k_is
    case k10 => k_is
    case a11 => k_is
    case l11 => k_is
    case c11 => k_is
    case k11 => k_is
    case a12 => k_is
    case l12 => k_is
    case c12 => k_is
    case k12 => k_is
    case a13 => k_is
    case l13 => k_is
    case c13 => k_is
    case k13 => k_is
    case a14 => k_is
    case l14 => k_is
    case c14 => k_is
    case k14 => k_is
    case a15 => k_is
    case l15 => k_is
    case c15 => k_is
    case k15 => k_is
    case a16 => k_is
    case l16 => k_is
    case c16 => k_is
    case k16 => k_is
    case a17 => k_is
    case l17 => k_is
    case c17 => k_is
    case k17 => k_is
    case a18 => k_is
    case l18 => k_is
    case c18 => k_is
    case k18 => k_is
    case a19 => k_is
    case l19 => k_is
    case c19 => k_is
    case k19 => k_is
    case a20 => k_is
    case l20 => k_is
    case c20 => k_is
    case k20 => k_is
    case z0 => k_is
    case z1 => k_is
    case z2 => k_is
    case z3 => k_is
    case z4 => k_is
    case z5 => k_is
    case z6 => k_is
    case z7 => k_is
    case z8 => k_is
    case z9 => k_is
    case z10 => k_is
    case ya0 => k_is
    case yb0 => k_is
    case yk0 => k_keys
    case y0_0 => k_is
    case y0_1 => k_is
    case ya1 => k_is
    case yb1 => k_is
    case yk1 => k_keys
    case y1_0 => k_is
    case y1_1 => k_is
    case yl1 => decide
    case yx1 => rfl
    case yu0 => k_is
    case yc0 => k_is
    case yc1 => k_is
    case yc2 => k_is
    case ea0 => k_is
    case ew0 => k_is
    case ez0 => k_is
    case ea1 => k_is
    case ew1 => k_is
    case ez1 => k_is
    case ea2 => k_is
    case ew2 => k_is
    case ez2 => k_is
    case ea3 => k_is
    case ew3 => k_is
    case ez3 => k_is
    case ea4 => k_is
    case ew4 => k_is
    case ez4 => k_is
    case ea5 => k_is
    case ew5 => k_is
    case ez5 => k_is
    case ea6 => k_is
    case ew6 => k_is
    case ez6 => k_is
    case ef6 => k_is
    case eq0 => k_exc
    case ek0 => k_is
    case eb0 => k_is
    case eg0 => k_is
    case eh0 => k_is
    case ec0 => k_is
    case en0 => k_is
    case ei0 => k_is
    case em0 => k_is
    case ex0 => k_is
    case ev0 => k_is
    case es1_0 => k_is
    case es2_0 => k_is
    case es3_0 => k_is
    case es4_0 => k_is
    case es5_0 => k_is
    case eu1_0 => decide
    case eu2_0 => decide
    case eu3_0 => decide
    case eu4_0 => decide
    case eu5_0 => decide
    case eq5 => k_exc
    case ek5 => k_is
    case eb5 => k_is
    case eg5 => k_is
    case eh5 => k_is
    case ec5 => k_is
    case en5 => k_is
    case ei5 => k_is
    case em5 => k_is
    case ex5 => k_is
    case ev5 => k_is
    case es0_5 => k_is
    case es1_5 => k_is
    case es2_5 => k_is
    case es3_5 => k_is
    case es4_5 => k_is
    case eu0_5 => decide
    case eu1_5 => decide
    case eu2_5 => decide
    case eu3_5 => decide
    case eu4_5 => decide
    case ey0 => k_is
