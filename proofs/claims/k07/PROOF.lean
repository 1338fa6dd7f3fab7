import PyProof.Rows.All
import Wide.All
import OpenK.AllK
import Wide.FinOn
import HandS.ForMost
import HandS.Walk
import HandS.SortInts
import HandS.Deep
import HandS.Style
import HandS.IsInst
import HandS.ForExc
import HandS.More
import HandS.TryOnly
import HandS.Conv
import HandS.Rev
import HandS.TupAny
import HandS.WordsExc
import HandS.ExcIs
import HandS.HotCalls
import KE.SortData
import KE.GoesRaise
import HandS.Text
import HandS.Iter
import HandS.SuiteRaise
import PySem.Challenge.RW_flatstrip_k07_folded_and_taken_back
set_option Elab.async false
set_option linter.all false
set_option maxRecDepth 100000
set_option maxHeartbeats 1000000
/-! value layer, part 1: data, the heap hidden, the frame -/
namespace VL
open PySem L2

/-! ### plain data -/
inductive D where
  | non | bl (b : Bool) | int (i : Int) | str (s : Str) | lst (xs : List D) | tup (xs : List D) | ro (xs : List D) | dk (kvs : List (Key × V)) | ob (C : Addr) (ks : List Str) (xs : List D) | dd (ks : List Key) (xs : List D) | raw (a : Addr)

def sclV : V → Bool
  | .ref _ => false
  | _ => true

inductive Rep (K : PySem.W.Frag) (H : Hp) : V → D → Prop
  | non : Rep K H .non .non
  | bl (b : Bool) : Rep K H (.bl b) (.bl b)
  | int (i : Int) : Rep K H (.int i) (.int i)
  | str (s : Str) : Rep K H (.str s) (.str s)
  | lst {a : Addr} {vs : List V} {ds : List D} : H a = some (.lst vs) → vs.length = ds.length → (∀ (i : Nat) v d, vs[i]? = some v → ds[i]? = some d → Rep K H v d) → Rep K H (.ref a) (.lst ds)
  | tup {a : Addr} {vs : List V} {ds : List D} : H a = some (.tup vs) → vs.length = ds.length → (∀ (i : Nat) v d, vs[i]? = some v → ds[i]? = some d → Rep K H v d) → Rep K H (.ref a) (.tup ds)
  | ro {a : Addr} {vs : List V} {ds : List D} : SqL K H a vs → vs.length = ds.length → (∀ (i : Nat) v d, vs[i]? = some v → ds[i]? = some d → Rep K H v d) → Rep K H (.ref a) (.ro ds)
  | dk {a : Addr} {kvs : List (Key × V)} : H a = some (.dK kvs) → (∀ p ∈ kvs, sclV p.2 = true) → Rep K H (.ref a) (.dk kvs)
  | ob {a C dx : Addr} {fs : List (Str × V)} {ks : List Str} {vs : List V} {ds : List D} : H a = some (.ins C dx fs) → vs.length = ks.length → (∀ (i : Nat) f v, ks[i]? = some f → vs[i]? = some v → fs.lookup f = some v) → (∀ f, fs.lookup f ≠ none → NoAttr K C f) → vs.length = ds.length →
      (∀ (i : Nat) v d, vs[i]? = some v → ds[i]? = some d → Rep K H v d) → Rep K H (.ref a) (.ob C ks ds)
  | dd {a : Addr} {kvs : List (Key × V)} {vs : List V} {ks : List Key} {ds : List D} : H a = some (.dK kvs) → vs.length = ks.length → (∀ (i : Nat) k v, ks[i]? = some k → vs[i]? = some v → valV kvs k = some v) → vs.length = ds.length → (∀ (i : Nat) v d, vs[i]? = some v → ds[i]? = some d → Rep K H v d) → Rep K H (.ref a) (.dd ks ds)
  | raw (a : Addr) : Rep K H (.ref a) (.raw a)

def Reps (K : PySem.W.Frag) (H : Hp) (vs : List V) (ds : List D) : Prop :=
  vs.length = ds.length ∧ ∀ (i : Nat) v d, vs[i]? = some v → ds[i]? = some d → Rep K H v d

section
variable {K : PySem.W.Frag} {H H' H1 H2 : Hp} {v : V} {d : D} {vs ws : List V} {ds es : List D}
theorem Rep.mono (s : Same H H') (r : Rep K H v d) : Rep K H' v d := by
  induction r with
  | non => exact .non
  | bl b => exact .bl b
  | int i => exact .int i
  | str s => exact .str s
  | lst h1 h2 h3 ih => exact .lst (s _ _ h1) h2 ih
  | tup h1 h2 h3 ih => exact .tup (s _ _ h1) h2 ih
  | ro h1 h2 h3 ih => exact .ro (s.seq h1) h2 ih
  | dk h1 h2 => exact .dk (s _ _ h1) h2
  | ob h1 h2 h3 h6 h4 h5 ih => exact .ob (s _ _ h1) h2 h3 h6 h4 ih
  | dd h1 h2 h3 h4 h5 ih => exact .dd (s _ _ h1) h2 h3 h4 ih
  | raw a => exact .raw a
theorem Reps.mono (s : Same H H') (r : Reps K H vs ds) : Reps K H' vs ds := ⟨r.1, fun i v d h1 h2 => (r.2 i v d h1 h2).mono s⟩
theorem Reps.nil : Reps K H [] [] := ⟨rfl, fun i v d h => by simp at h⟩
theorem Reps.cons (h : Rep K H v d) (t : Reps K H vs ds) : Reps K H (v :: vs) (d :: ds) := by
  refine ⟨by simp [t.1], fun i w e h1 h2 => ?_⟩
  cases i with
  | zero => simp at h1 h2; subst h1; subst h2; exact h
  | succ i => exact t.2 i w e (by simpa using h1) (by simpa using h2)
theorem Reps.cons_inv (t : Reps K H (v :: vs) (d :: ds)) : Rep K H v d ∧ Reps K H vs ds :=
  ⟨t.2 0 v d rfl rfl, by have := t.1; simpa using this, fun i w e h1 h2 => t.2 (i + 1) w e (by simpa using h1) (by simpa using h2)⟩
theorem Reps.cons_split : ∀ {vs : List V}, Reps K H vs (d :: ds) → ∃ v ws, vs = v :: ws ∧ Rep K H v d ∧ Reps K H ws ds
  | [], t => by have := t.1; simp at this
  | v :: ws, t => ⟨v, ws, rfl, t.cons_inv.1, t.cons_inv.2⟩
theorem Reps.nil_inv {vs : List V} (t : Reps K H vs []) : vs = [] := by
  have := t.1
  simpa using this
theorem Reps.append (a : Reps K H vs ds) (b : Reps K H ws es) : Reps K H (vs ++ ws) (ds ++ es) := by
  refine ⟨by simp [a.1, b.1], fun i v d h1 h2 => ?_⟩
  by_cases hi : i < vs.length
  · rw [List.getElem?_append_left hi] at h1
    rw [List.getElem?_append_left (by rw [← a.1]; exact hi)] at h2
    exact a.2 i v d h1 h2
  · rw [List.getElem?_append_right (by omega)] at h1
    rw [List.getElem?_append_right (by rw [← a.1]; omega), ← a.1] at h2
    exact b.2 _ v d h1 h2
theorem Reps.take (n : Nat) (a : Reps K H vs ds) : Reps K H (vs.take n) (ds.take n) := by
  refine ⟨by simp [a.1], fun i v d h1 h2 => ?_⟩
  rw [List.getElem?_take] at h1 h2
  split at h1
  · rename_i hi
    rw [if_pos hi] at h2
    exact a.2 i v d h1 h2
  · cases h1
theorem Reps.drop (n : Nat) (a : Reps K H vs ds) : Reps K H (vs.drop n) (ds.drop n) := by
  refine ⟨by simp [a.1], fun i v d h1 h2 => ?_⟩
  rw [List.getElem?_drop] at h1 h2
  exact a.2 _ v d h1 h2
theorem Reps.set (i : Nat) (h : Rep K H v d) (a : Reps K H vs ds) : Reps K H (vs.set i v) (ds.set i d) := by
  refine ⟨by simp [a.1], fun j w e h1 h2 => ?_⟩
  rw [List.getElem?_set] at h1 h2
  by_cases hij : i = j
  · subst hij
    rw [if_pos rfl] at h1 h2
    split at h1 <;> simp at h1
    split at h2 <;> simp at h2
    subst h1; subst h2
    exact h
  · rw [if_neg hij] at h1 h2
    exact a.2 j w e h1 h2
theorem Reps.reverse (a : Reps K H vs ds) : Reps K H vs.reverse ds.reverse := by
  refine ⟨by simp [a.1], fun i v d h1 h2 => ?_⟩
  have l1 := (List.getElem?_eq_some_iff.mp h1).1
  simp at l1
  have h1' := h1
  rw [List.getElem?_reverse l1] at h1
  rw [List.getElem?_reverse (by rw [← a.1]; exact l1), ← a.1] at h2
  exact a.2 _ v d h1 h2
theorem Reps.get (a : Reps K H vs ds) {i : Nat} (h : ds[i]? = some d) : ∃ v, vs[i]? = some v ∧ Rep K H v d := by
  have l := (List.getElem?_eq_some_iff.mp h).1
  rw [← a.1] at l
  exact ⟨vs[i], List.getElem?_eq_getElem l, a.2 i _ d (List.getElem?_eq_getElem l) h⟩
theorem Reps.getV (a : Reps K H vs ds) {i : Nat} (h : vs[i]? = some v) : ∃ d, ds[i]? = some d ∧ Rep K H v d := by
  have l := (List.getElem?_eq_some_iff.mp h).1
  rw [a.1] at l
  exact ⟨ds[i], List.getElem?_eq_getElem l, a.2 i v _ h (List.getElem?_eq_getElem l)⟩
theorem Reps.at (a : Reps K H vs ds) {z : Int} (h : atI ds z = some d) : ∃ v, atI vs z = some v ∧ Rep K H v d := by
  unfold atI at h ⊢
  rw [a.1]
  cases q : ixN ds.length z with
  | none => rw [q] at h; cases h
  | some j =>
    rw [q] at h
    exact a.get h
theorem Reps.rep (k : Nat) (a : Reps K H vs ds) : Reps K H (List.replicate k vs).flatten (List.replicate k ds).flatten := by
  induction k with
  | zero => exact .nil
  | succ k ih =>
    rw [List.replicate_succ, List.replicate_succ, List.flatten_cons, List.flatten_cons]
    exact a.append ih
theorem Reps.all_scl (a : Reps K H vs ds) : True := trivial
def cutD (xs : List D) (lo hi : Option Int) : List D := (xs.drop (HT.sIx xs.length 0 lo)).take (HT.sIx xs.length xs.length hi - HT.sIx xs.length 0 lo)
theorem Reps.cut (lo hi : Option Int) (a : Reps K H vs ds) : Reps K H (cutV vs lo hi) (cutD ds lo hi) := by
  unfold cutV cutD
  rw [a.1]
  exact (a.drop _).take _
theorem Rep.lst' {a : Addr} (h : H a = some (.lst vs)) (r : Reps K H vs ds) : Rep K H (.ref a) (.lst ds) := .lst h r.1 r.2
theorem Rep.tup' {a : Addr} (h : H a = some (.tup vs)) (r : Reps K H vs ds) : Rep K H (.ref a) (.tup ds) := .tup h r.1 r.2
theorem Rep.lst_inv (r : Rep K H v (.lst ds)) : ∃ a vs, v = .ref a ∧ H a = some (.lst vs) ∧ Reps K H vs ds := by
  cases r with
  | lst h1 h2 h3 => exact ⟨_, _, rfl, h1, h2, h3⟩
theorem Rep.tup_inv (r : Rep K H v (.tup ds)) : ∃ a vs, v = .ref a ∧ H a = some (.tup vs) ∧ Reps K H vs ds := by
  cases r with
  | tup h1 h2 h3 => exact ⟨_, _, rfl, h1, h2, h3⟩
theorem Rep.ro_inv (r : Rep K H v (.ro ds)) : ∃ a vs, v = .ref a ∧ SqL K H a vs ∧ Reps K H vs ds := by
  cases r with
  | ro h1 h2 h3 => exact ⟨_, _, rfl, h1, h2, h3⟩
theorem Rep.int_inv {i : Int} (r : Rep K H v (.int i)) : v = .int i := by cases r; rfl
theorem Rep.bl_inv {b : Bool} (r : Rep K H v (.bl b)) : v = .bl b := by cases r; rfl
theorem Rep.str_inv {x : Str} (r : Rep K H v (.str x)) : v = .str x := by cases r; rfl
theorem Rep.non_inv (r : Rep K H v .non) : v = .non := by cases r; rfl
theorem Rep.dk_inv {kvs : List (Key × V)} (r : Rep K H v (.dk kvs)) : ∃ a, v = .ref a ∧ H a = some (.dK kvs) ∧ ∀ p ∈ kvs, sclV p.2 = true := by
  cases r with
  | dk h1 h2 => exact ⟨_, rfl, h1, h2⟩
/-- a list or tuple or the script, read -/
theorem Rep.seq (r : Rep K H v (.lst ds)) : ∃ a vs, v = .ref a ∧ SqL K H a vs ∧ Reps K H vs ds := by
  obtain ⟨a, vs, e, h, q⟩ := r.lst_inv
  exact ⟨a, vs, e, SqL.of h, q⟩
theorem Reps.ints {ns : List Int} (r : Reps K H vs (ns.map D.int)) : vs = ns.map V.int := by
  induction ns generalizing vs with
  | nil => exact r.nil_inv
  | cons n ns ih =>
    obtain ⟨v, ws, e, h, t⟩ := r.cons_split
    rw [e, h.int_inv, ih t]; rfl
theorem Reps.bls {bs : List Bool} (r : Reps K H vs (bs.map D.bl)) : vs = bs.map V.bl := by
  induction bs generalizing vs with
  | nil => exact r.nil_inv
  | cons n ns ih =>
    obtain ⟨v, ws, e, h, t⟩ := r.cons_split
    rw [e, h.bl_inv, ih t]; rfl
theorem Reps.strs {bs : List Str} (r : Reps K H vs (bs.map D.str)) : vs = bs.map V.str := by
  induction bs generalizing vs with
  | nil => exact r.nil_inv
  | cons n ns ih =>
    obtain ⟨v, ws, e, h, t⟩ := r.cons_split
    rw [e, h.str_inv, ih t]; rfl
theorem reps_ints (ns : List Int) : Reps K H (ns.map V.int) (ns.map D.int) := by
  induction ns with
  | nil => exact .nil
  | cons n ns ih => exact .cons (.int n) ih
theorem reps_strs (ns : List Str) : Reps K H (ns.map V.str) (ns.map D.str) := by
  induction ns with
  | nil => exact .nil
  | cons n ns ih => exact .cons (.str n) ih
end

/-! ### data without lists -/
mutual
def D.free : D → Bool
  | .lst _ => false
  | .ro _ => false
  | .dk _ => false
  | .ob _ _ _ => false
  | .dd _ _ => false
  | .tup xs => freeAll xs
  | _ => true
def freeAll : List D → Bool
  | [] => true
  | x :: xs => x.free && freeAll xs
end
theorem freeAll_get : ∀ {xs : List D} {i : Nat} {d : D}, freeAll xs = true → xs[i]? = some d → d.free = true
  | [], i, d, _, h => by simp at h
  | x :: xs, 0, d, f, h => by
    simp at h; subst h
    unfold freeAll at f
    exact (Bool.and_eq_true_iff.mp f).1
  | x :: xs, i + 1, d, f, h => by
    unfold freeAll at f
    exact freeAll_get (Bool.and_eq_true_iff.mp f).2 (by simpa using h)

/-! ### hiding some lists -/
def mask (H : Hp) (as : List Addr) : Hp := fun b => if b ∈ as then none else H b
def join (M H : Hp) (as : List Addr) : Hp := fun b => if b ∈ as then H b else M b
section
variable {K : PySem.W.Frag} {H H' M : Hp} {as bs : List Addr} {a b : Addr} {o : HO}
theorem mask_in (h : b ∈ as) : mask H as b = none := if_pos h
theorem mask_out (h : b ∉ as) : mask H as b = H b := if_neg h
theorem mask_some (h : mask H as b = some o) : H b = some o ∧ b ∉ as := by
  unfold mask at h
  split at h
  · cases h
  · exact ⟨h, by assumption⟩
theorem mask_same : Same (mask H as) H := fun b o h => (mask_some h).1
theorem mask_sub (hs : ∀ a ∈ as, a ∈ bs) : Same (mask H bs) (mask H as) := fun b o h => by
  obtain ⟨h1, h2⟩ := mask_some h
  rw [mask_out (fun z => h2 (hs b z))]
  exact h1
theorem mask_same_of (s : Same H H') (hf : ∀ a ∈ as, H a = none) : Same H (mask H' as) := fun b o h => by
  rw [mask_out (fun z => by rw [hf b z] at h; cases h)]
  exact s b o h
theorem mask_upd_in (h : a ∈ as) : mask (upd H a o) as = mask H as := by
  funext b
  unfold mask
  split
  · rfl
  · rw [upd_ne (fun z => by subst z; contradiction)]
theorem mask_nil : mask H [] = H := by funext b; unfold mask; simp
theorem join_in (h : b ∈ as) : join M H as b = H b := if_pos h
theorem join_out (h : b ∉ as) : join M H as b = M b := if_neg h
theorem mask_join : mask (join M H as) as = mask M as := by
  funext b
  unfold mask join
  split <;> simp_all
theorem mask_of_none (h : ∀ a ∈ as, M a = none) : mask M as = M := by
  funext b
  unfold mask
  split
  · rw [h b (by assumption)]
  · rfl
theorem Rep.maskF {v : V} {d : D} (r : Rep K H v d) (f : d.free = true) (hl : ∀ a ∈ as, ∀ xs, H a ≠ some (.tup xs)) : Rep K (mask H as) v d := by
  induction r with
  | non => exact .non
  | bl b => exact .bl b
  | int i => exact .int i
  | str s => exact .str s
  | lst h1 h2 h3 ih => simp [D.free] at f
  | tup h1 h2 h3 ih =>
    unfold D.free at f
    refine .tup ?_ h2 (fun i v d q1 q2 => ih i v d q1 q2 (freeAll_get f q2))
    rw [mask_out (fun z => hl _ z _ h1)]
    exact h1
  | ro h1 h2 h3 ih => simp [D.free] at f
  | dk h1 h2 => simp [D.free] at f
  | ob h1 h2 h3 h6 h4 h5 ih => simp [D.free] at f
  | dd h1 h2 h3 h4 h5 ih => simp [D.free] at f
  | raw a => exact .raw a
end

/-! ### expressions over the heap -/
def WE (X : Cx) (e : Expr) (σ : L2.St) (H : Hp) (Q : VK) : Prop :=
  ∀ (pins : List (Addr × Obj)) (s : Shared), Inv X pins σ H s → wpAny (model X.prog X.w) X.A (eval e X.env) (EP X pins σ Q) X.xe s
section
variable {X : Cx} {e : Expr} {σ : L2.St} {H : Hp} {Q Q' : VK} {t : TE}
theorem pe_we : PE X e (WE X e) := ⟨fun pins s σ H Q I h => h pins s I⟩
theorem we_of (h : PE X e t) (q : t σ H Q) : WE X e σ H Q := fun pins s I => h.run pins s σ H Q I q
theorem WE.mono (h : WE X e σ H Q) (m : ∀ v H', Q v H' → Q' v H') : WE X e σ H Q' := fun pins s I =>
  thn (h pins s I) fun u s' ⟨v, H', I', r, q⟩ => ⟨v, H', I', r, m v H' q⟩

/-- what may be put aside: lists, instances with their dicts -/
def Hid (H : Hp) (as : List Addr) : Prop := ∀ a ∈ as, (∃ xs, H a = some (.lst xs)) ∨ (∃ C dx fs, H a = some (.ins C dx fs) ∧ dx ∈ as) ∨ (∃ y C fs, H a = some (.own y) ∧ y ∈ as ∧ H y = some (.ins C a fs))
def cellO : HO → Bool
  | .lst _ => true
  | .ins _ _ _ => true
  | .own _ => true
  | _ => false
theorem Hid.cell {as : List Addr} (h : Hid H as) {a : Addr} (ha : a ∈ as) : ∃ o, H a = some o ∧ cellO o = true := by
  rcases h a ha with ⟨xs, e⟩ | ⟨C, dx, fs, e, _⟩ | ⟨y, C, fs, e, _⟩
  · exact ⟨_, e, rfl⟩
  · exact ⟨_, e, rfl⟩
  · exact ⟨_, e, rfl⟩
theorem Hid.some {as : List Addr} (h : Hid H as) {a : Addr} (ha : a ∈ as) : H a ≠ none := fun e => by
  obtain ⟨o, q, _⟩ := h.cell ha
  rw [e] at q; cases q
theorem Hid.notup {as : List Addr} (h : Hid H as) {a : Addr} (ha : a ∈ as) (xs : List V) : H a ≠ Option.some (.tup xs) := fun e => by
  obtain ⟨o, q, c⟩ := h.cell ha
  rw [e] at q
  obtain rfl := Option.some.inj q
  cases c
theorem Hid.up {as : List Addr} {H' : Hp} (h : Hid H as) (k : ∀ a ∈ as, ∀ u, H a = Option.some u → H' a = Option.some u) : Hid H' as := fun a ha => by
  rcases h a ha with ⟨xs, e⟩ | ⟨C, dx, fs, e, d⟩ | ⟨y, C, fs, e, d, e2⟩
  · exact .inl ⟨xs, k a ha _ e⟩
  · exact .inr (.inl ⟨C, dx, fs, k a ha _ e, d⟩)
  · exact .inr (.inr ⟨y, C, fs, k a ha _ e, d, k y d _ e2⟩)
theorem Hid.nil : Hid H [] := fun a ha => by cases ha
theorem Hid.app {as bs : List Addr} (h : Hid H as) (h2 : Hid H bs) : Hid H (as ++ bs) := fun a ha => by
  rcases List.mem_append.mp ha with ha | ha
  · rcases h a ha with q | ⟨C, dx, fs, e, d⟩ | ⟨y, C, fs, e, d, e2⟩
    · exact .inl q
    · exact .inr (.inl ⟨C, dx, fs, e, List.mem_append_left _ d⟩)
    · exact .inr (.inr ⟨y, C, fs, e, List.mem_append_left _ d, e2⟩)
  · rcases h2 a ha with q | ⟨C, dx, fs, e, d⟩ | ⟨y, C, fs, e, d, e2⟩
    · exact .inl q
    · exact .inr (.inl ⟨C, dx, fs, e, List.mem_append_right _ d⟩)
    · exact .inr (.inr ⟨y, C, fs, e, List.mem_append_right _ d, e2⟩)
theorem Hid.cons {as : List Addr} {a : Addr} {xs : List V} (e : H a = Option.some (.lst xs)) (h : Hid H as) : Hid H (a :: as) := (show Hid H [a] from fun b hb => by
  obtain rfl : b = a := by simpa using hb
  exact .inl ⟨xs, e⟩).app h
theorem Hid.lists {as : List Addr} (h : ∀ a ∈ as, ∃ xs, H a = Option.some (.lst xs)) : Hid H as := fun a ha => .inl (h a ha)
theorem Hid.union {As : List (List Addr)} (h : ∀ A ∈ As, Hid H A) : Hid H As.flatten := by
  induction As with
  | nil => exact Hid.nil
  | cons A As ih => rw [List.flatten_cons]; exact (h A (List.mem_cons_self ..)).app (ih fun B hB => h B (List.mem_cons_of_mem _ hB))
/-- put aside, untracked and pinned -/
theorem Inv.hide {pins : List (Addr × Obj)} {s : Shared} {as : List Addr} (I : Inv X pins σ H s) (hl : Hid H as) :
    ∃ own : List (Addr × Obj), (∀ a ∈ as, ∃ o, (a, o) ∈ own ∧ s.heap.get? a = some o) ∧ (∀ p ∈ own, p.1 ∈ as) ∧ Inv X (pins ++ own) σ (mask H as) s := by
  have hob : ∀ a ∈ as, ∃ o, s.heap.get? a = some o ∧ ∀ v, o.data ≠ .cell v := fun a ha => by
    rcases hl a ha with ⟨xs, e⟩ | ⟨C, dx, fs, e, _⟩ | ⟨y, C, fs, e, d, e2⟩
    · obtain ⟨_, its, n, _, q⟩ := I.hok a _ e
      exact ⟨_, q, fun v z => by cases z⟩
    · obtain ⟨_, _, _, q, _⟩ := I.hok a _ e
      exact ⟨_, q, fun v z => by cases z⟩
    · obtain ⟨_, _, _, _, mA, ⟨od, es, ep, q, c⟩, _⟩ := I.hok y _ e2
      exact ⟨od, q, fun v z => by rw [c.1] at z; cases z⟩
  have some_of : ∀ a ∈ as, H a ≠ none := fun a ha => hl.some ha
  refine ⟨pinsAt as s.heap, fun a ha => ?_, fun p hp => (of_pinsAt hp).1, ?_⟩
  · obtain ⟨o, q, _⟩ := hob a ha
    exact ⟨_, mem_pinsAt ha q, q⟩
  have out : ∀ b o, H b = some o → cellO o = false → b ∉ as := fun b o e ne z => by
    obtain ⟨o', q, c⟩ := hl.cell z
    rw [e] at q
    obtain rfl := Option.some.inj q
    rw [ne] at c; cases c
  have hmask : ∀ b o, H b = some o → cellO o = false → mask H as b = some o := fun b o e ne => by
    rw [mask_out (out b o e ne)]; exact e
  refine ⟨I.ok, I.os, I.bare, ⟨fun b o q n hb hx => I.base.keep b o q n hb hx, fun b o q n hb hx => I.base.slot b o q n hb hx, fun b o q n hx => ?_, I.base.there, fun b xs q => ?_, fun b o u q => ?_, fun b ps q => ?_⟩, I.loc, I.cell, ?_, fun x c q => ?_, fun p hp => ?_, fun b o q => ?_, I.len⟩
  · have := I.base.free b o q n hx
    unfold mask
    split
    · rfl
    · exact this
  · exact hmask _ _ (I.base.tups b xs q) rfl
  · exact hmask _ _ (I.base.frzs b o u q) rfl
  · obtain ⟨m, q'⟩ := I.base.tbls b ps q
    exact ⟨m, hmask _ _ q' rfl⟩
  · have := I.free
    unfold mask
    split
    · rfl
    · exact this
  · have := I.freeC x c q
    unfold mask
    split
    · rfl
    · exact this
  · rcases List.mem_append.mp hp with hp | hp
    · obtain ⟨e, n, r⟩ := I.pin p (List.mem_append_left _ hp)
      refine ⟨e, ?_, r⟩
      unfold mask
      split
      · rfl
      · exact n
    · rcases List.mem_append.mp hp with hp | hp
      · obtain ⟨e, n, r⟩ := I.pin p (List.mem_append_right _ hp)
        refine ⟨e, ?_, r⟩
        unfold mask
        split
        · rfl
        · exact n
      · obtain ⟨hb, e⟩ := of_pinsAt hp
        obtain ⟨o, q, nc⟩ := hob p.1 hb
        rw [e] at q
        refine ⟨e, mask_in hb, fun z => ?_, fun z => ?_, fun v z => ?_⟩
        · exact some_of _ hb (by rw [z, I.free])
        · obtain ⟨_, o, ho, _⟩ := I.ok.funs.mem z
          exact some_of _ hb (I.base.free p.1 o ho (I.ok.frf p.1 z) fun y => I.ok.exfs p.1 y z)
        · rw [Option.some.inj q] at z; exact nc v z
  · obtain ⟨q1, q2⟩ := mask_some q
    refine (I.hok b o q1).stay (fun c u _ z => z) (fun c z => ?_) (fun c xs z => ?_)
    · rw [mask_out (fun y => ?_)]
      · exact z
      · rcases hl c y with ⟨xs, e⟩ | ⟨C, dx, fs, e, _⟩ | ⟨y2, C, fs, e, d, e2⟩
        · rw [z] at e; cases e
        · rw [z] at e; cases e
        · rw [z] at e
          cases e
          exact q2 d
    · exact hmask _ _ z rfl
/-- .. and taken back, as they were -/
theorem Inv.show' {pins own : List (Addr × Obj)} {s s' : Shared} {as : List Addr} {M : Hp} {σ' : L2.St} (I : Inv X pins σ H s) (hl : Hid H as)
    (ho : ∀ a ∈ as, ∃ o, (a, o) ∈ own ∧ s.heap.get? a = some o) (J : Inv X (pins ++ own) σ' M s') : Inv X pins σ' (join M H as) s' ∧ (∀ a ∈ as, M a = none) ∧ Same M (join M H as) := by
  have hpin : ∀ a ∈ as, ∃ o, s.heap.get? a = some o ∧ s'.heap.get? a = some o ∧ M a = none := fun a ha => by
    obtain ⟨o, h1, h2⟩ := ho a ha
    obtain ⟨q1, q2, _⟩ := J.pin (a, o) (List.mem_append_right _ (List.mem_append_right _ h1))
    exact ⟨o, h2, q1, q2⟩
  have hnone : ∀ a ∈ as, M a = none := fun a ha => let ⟨_, _, _, q⟩ := hpin a ha; q
  have hsame : ∀ a ∈ as, ∀ o, s.heap.get? a = some o → s'.heap.get? a = some o := fun a ha o e => by
    obtain ⟨o', h1, h2, _⟩ := hpin a ha
    rw [e] at h1
    rw [Option.some.inj h1]; exact h2
  have up : ∀ b o, M b = some o → join M H as b = some o := fun b o e => by
    rw [join_out (fun z => by rw [hnone b z] at e; cases e)]; exact e
  have none_of : ∀ b, M b = none → H b = none → join M H as b = none := fun b e ne => by
    rw [join_out (fun z => hl.some z ne)]; exact e
  refine ⟨⟨J.ok, J.os, J.bare, ⟨J.base.keep, J.base.slot, fun b o q n hx => ?_, J.base.there, fun b xs q => up _ _ (J.base.tups b xs q), fun b o u q => up _ _ (J.base.frzs b o u q), fun b ps q => ?_⟩, J.loc, J.cell, ?_, fun x c q => ?_, fun p hp => ?_, fun b o q => ?_, J.len⟩, hnone, up⟩
  · exact none_of b (J.base.free b o q n hx) (I.base.free b o q n hx)
  · obtain ⟨m, q'⟩ := J.base.tbls b ps q
    exact ⟨m, up _ _ q'⟩
  · exact none_of _ J.free I.free
  · exact none_of _ (J.freeC x c q) (I.freeC x c q)
  · have hp' : p ∈ X.pn ++ (pins ++ own) := by
      rcases List.mem_append.mp hp with z | z
      · exact List.mem_append_left _ z
      · exact List.mem_append_right _ (List.mem_append_left _ z)
    obtain ⟨e, n, r⟩ := J.pin p hp'
    exact ⟨e, none_of _ n (I.pin p hp).2.1, r⟩
  · by_cases hb : b ∈ as
    · rw [join_in hb] at q
      rcases hl b hb with ⟨xs, e⟩ | ⟨C, dx, fs, e, hdx⟩ | ⟨y, C, fs, e, d, e2⟩
      · rw [e] at q
        obtain rfl := Option.some.inj q
        obtain ⟨z, its, n, rv, g⟩ := I.hok b _ e
        exact ⟨z, its, n, rv, hsame b hb _ g⟩
      · rw [e] at q
        obtain rfl := Option.some.inj q
        obtain ⟨d, z, ne, g, mA, ⟨od, es, ep, g2, c⟩, r⟩ := I.hok b _ e
        exact ⟨by rw [join_in hdx]; exact d, z, ne, hsame b hb _ g, mA, ⟨od, es, ep, hsame dx hdx _ g2, c⟩, r⟩
      · rw [e] at q
        obtain rfl := Option.some.inj q
        obtain ⟨ob, g⟩ := I.hok b _ e
        exact ⟨ob, hsame b hb _ g⟩
    · rw [join_out hb] at q
      exact (J.hok b o q).stay (fun c u _ z => z) (fun c z => up _ _ z) (fun c xs z => up _ _ z)
theorem WE.frame {as : List Addr} (hl : Hid H as) (h : WE X e σ (mask H as) Q) :
    WE X e σ H (fun v H' => ∃ M, Q v M ∧ H' = join M H as ∧ (∀ a ∈ as, M a = none) ∧ Same M H') := fun pins s I => by
  obtain ⟨own, h1, h2, J⟩ := Inv.hide I hl
  refine thn (h _ s J) fun u s' ⟨v, M, J', r, q⟩ => ?_
  obtain ⟨I', n, up⟩ := Inv.show' I hl h1 J'
  exact ⟨v, _, I', r, M, q, rfl, n, up⟩
end
end VL
set_option Elab.async false
set_option linter.all false
set_option maxRecDepth 100000
set_option maxHeartbeats 1000000
/-! value layer, part 2: what an expression is worth -/
namespace VL
open PySem L2

abbrev Rho := List (Option D)
structure EnvS (K : PySem.W.Frag) (σ : L2.St) (H : Hp) (ρ : Rho) : Prop where
  len : σ.length = ρ.length
  get : ∀ (i : Nat) (d : D), ρ[i]? = some (some d) → ∃ v, σ[i]? = some (some v) ∧ Rep K H v d
theorem EnvS.mono {K : PySem.W.Frag} {σ : L2.St} {H H' : Hp} {ρ : Rho} (s : Same H H') (e : EnvS K σ H ρ) : EnvS K σ H' ρ := ⟨e.len, fun i d h =>
  let ⟨v, a, b⟩ := e.get i d h; ⟨v, a, b.mono s⟩⟩
theorem EnvS.set {K : PySem.W.Frag} {σ : L2.St} {H : Hp} {ρ : Rho} {v : V} {d : D} (i : Nat) (e : EnvS K σ H ρ) (r : Rep K H v d) : EnvS K (σ.set i (some v)) H (ρ.set i (some d)) := ⟨by simp [e.len], fun j x h => by
  rw [List.getElem?_set] at h ⊢
  split at h
  · rename_i hij
    rw [if_pos hij]
    split at h
    · rw [if_pos (by rw [e.len]; assumption)]
      have h := Option.some.inj (Option.some.inj h)
      subst h
      exact ⟨v, rfl, r⟩
    · cases h
  · rename_i hij
    rw [if_neg hij]
    exact e.get j x h⟩
theorem EnvS.unset {K : PySem.W.Frag} {σ : L2.St} {H : Hp} {ρ : Rho} (i : Nat) (e : EnvS K σ H ρ) : EnvS K (σ.set i none) H (ρ.set i none) := ⟨by simp [e.len], fun j x h => by
  rw [List.getElem?_set] at h ⊢
  split at h
  · split at h <;> cases h
  · rename_i hij
    rw [if_neg hij]
    exact e.get j x h⟩
theorem EnvS.hide {K : PySem.W.Frag} {σ : L2.St} {H : Hp} {ρ : Rho} (i : Nat) (e : EnvS K σ H ρ) : EnvS K σ H (ρ.set i none) := ⟨by simp [e.len], fun j x h => by
  rw [List.getElem?_set] at h
  split at h
  · split at h <;> cases h
  · exact e.get j x h⟩

/-- own data: lists that nobody else holds (ls), tuples of such (tu), and the rest (sh) -/
inductive O where
  | sh (d : D) | ls (xs : List O) | tu (xs : List O) | ob (C : Addr) (ks : List Str) (xs : List O) | dd (ks : List Key) (xs : List O) | pin (a : Addr) (o : O)
mutual
def O.data : O → D
  | .sh d => d
  | .ls xs => .lst (dataAll xs)
  | .tu xs => .tup (dataAll xs)
  | .ob C ks xs => .ob C ks (dataAll xs)
  | .dd ks xs => .dd ks (dataAll xs)
  | .pin _ o => o.data
def dataAll : List O → List D
  | [] => []
  | x :: xs => x.data :: dataAll xs
end
theorem dataAll_map : ∀ xs : List O, dataAll xs = xs.map O.data
  | [] => by simp [dataAll]
  | x :: xs => by simp [dataAll, dataAll_map xs]
theorem dataAll_sh (ds : List D) : dataAll (ds.map O.sh) = ds := by
  rw [dataAll_map, List.map_map]
  exact (List.map_congr_left (fun d _ => by simp [O.data])).trans (List.map_id ds)

inductive RepO (K : PySem.W.Frag) (H S : Hp) : V → O → List Addr → Prop
  | sh {v : V} {d : D} : Rep K S v d → RepO K H S v (.sh d) []
  | ls {a : Addr} {vs : List V} {os : List O} {As : List (List Addr)} : H a = some (.lst vs) → vs.length = os.length → As.length = os.length →
      (∀ (i : Nat) v o A, vs[i]? = some v → os[i]? = some o → As[i]? = some A → RepO K H S v o A) → RepO K H S (.ref a) (.ls os) (a :: As.flatten)
  | tu {a : Addr} {vs : List V} {os : List O} {As : List (List Addr)} : S a = some (.tup vs) → vs.length = os.length → As.length = os.length →
      (∀ (i : Nat) v o A, vs[i]? = some v → os[i]? = some o → As[i]? = some A → RepO K H S v o A) → RepO K H S (.ref a) (.tu os) As.flatten
  | ob {a C dx : Addr} {fs : List (Str × V)} {ks : List Str} {vs : List V} {os : List O} {As : List (List Addr)} : H a = some (.ins C dx fs) → H dx = some (.own a) → fs.length ≤ ks.length → vs.length = ks.length → (∀ (i : Nat) f v, ks[i]? = some f → vs[i]? = some v → fs.lookup f = some v) → (∀ f, fs.lookup f ≠ none → NoAttr K C f) → vs.length = os.length → As.length = os.length →
      (∀ (i : Nat) v o A, vs[i]? = some v → os[i]? = some o → As[i]? = some A → RepO K H S v o A) → RepO K H S (.ref a) (.ob C ks os) (a :: dx :: As.flatten)
  | dd {a : Addr} {kvs : List (Key × V)} {vs : List V} {ks : List Key} {os : List O} {As : List (List Addr)} : S a = some (.dK kvs) → vs.length = ks.length → (∀ (i : Nat) k v, ks[i]? = some k → vs[i]? = some v → valV kvs k = some v) → vs.length = os.length → As.length = os.length →
      (∀ (i : Nat) v o A, vs[i]? = some v → os[i]? = some o → As[i]? = some A → RepO K H S v o A) → RepO K H S (.ref a) (.dd ks os) As.flatten
  | pin {a : Addr} {o : O} {A : List Addr} : RepO K H S (.ref a) o A → RepO K H S (.ref a) (.pin a o) A
def RepOs (K : PySem.W.Frag) (H S : Hp) (vs : List V) (os : List O) (As : List (List Addr)) : Prop :=
  vs.length = os.length ∧ As.length = os.length ∧ ∀ (i : Nat) v o A, vs[i]? = some v → os[i]? = some o → As[i]? = some A → RepO K H S v o A
section
variable {K : PySem.W.Frag} {H H' S S' : Hp} {v : V} {o : O} {A : List Addr} {vs : List V} {os : List O} {As : List (List Addr)}
theorem RepO.keep (r : RepO K H S v o A) (h' : ∀ a ∈ A, ∀ u, H a = some u → H' a = some u) (s : Same S S') : RepO K H' S' v o A := by
  induction r with
  | sh q => exact .sh (q.mono s)
  | ls h1 h2 h3 h4 ih => exact .ls (h' _ (List.mem_cons_self ..) _ h1) h2 h3 fun i v o A q1 q2 q3 => ih i v o A q1 q2 q3 fun a ha u => h' a (List.mem_cons_of_mem _ (List.mem_flatten.mpr ⟨A, List.mem_of_getElem? q3, ha⟩)) u
  | tu h1 h2 h3 h4 ih => exact .tu (s _ _ h1) h2 h3 fun i v o A q1 q2 q3 => ih i v o A q1 q2 q3 fun a ha u => h' a (List.mem_flatten.mpr ⟨A, List.mem_of_getElem? q3, ha⟩) u
  | ob h1 h2 hz h3 h4 h5 h6 h7 h8 ih => exact .ob (h' _ (List.mem_cons_self ..) _ h1) (h' _ (List.mem_cons_of_mem _ (List.mem_cons_self ..)) _ h2) hz h3 h4 h5 h6 h7 fun i v o A q1 q2 q3 => ih i v o A q1 q2 q3 fun a ha u => h' a (List.mem_cons_of_mem _ (List.mem_cons_of_mem _ (List.mem_flatten.mpr ⟨A, List.mem_of_getElem? q3, ha⟩))) u
  | pin h ih => exact .pin (ih h')
  | dd h1 h2 h3 h4 h5 h6 ih => exact .dd (s _ _ h1) h2 h3 h4 h5 fun i v o A q1 q2 q3 => ih i v o A q1 q2 q3 fun a ha u => h' a (List.mem_flatten.mpr ⟨A, List.mem_of_getElem? q3, ha⟩) u
theorem hid_all {n : Nat} {vs : List V} {os : List O} {As : List (List Addr)} (h1 : vs.length = os.length) (h2 : As.length = os.length) (ih : ∀ (i : Nat) (v : V) (o : O) (A : List Addr), vs[i]? = some v → os[i]? = some o → As[i]? = some A → Hid H A) : Hid H As.flatten := Hid.union fun B hB => by
  obtain ⟨i, hi⟩ := List.getElem?_of_mem hB
  have l := (List.getElem?_eq_some_iff.mp hi).1
  exact ih i _ _ B (List.getElem?_eq_getElem (by omega)) (List.getElem?_eq_getElem (by omega)) hi
theorem RepO.cells (r : RepO K H S v o A) : Hid H A := by
  induction r with
  | sh q => exact Hid.nil
  | ls h1 h2 h3 h4 ih => exact Hid.cons h1 (hid_all (n := 0) h2 h3 ih)
  | tu h1 h2 h3 h4 ih => exact hid_all (n := 0) h2 h3 ih
  | @ob a C dx fs ks vs os As h1 h2 hz h3 h4 h5 h6 h7 h8 ih =>
    have q : Hid H [a, dx] := fun b hb => by
      rcases List.mem_cons.mp hb with e | hb
      · subst e; exact .inr (.inl ⟨C, dx, fs, h1, by simp⟩)
      · have e : b = dx := by simpa using hb
        subst e; exact .inr (.inr ⟨a, C, fs, h2, by simp, h1⟩)
    exact q.app (bs := As.flatten) (hid_all (n := 0) h6 h7 ih)
  | dd h1 h2 h3 h4 h5 h6 ih => exact hid_all (n := 0) h4 h5 ih
  | pin h ih => exact ih
theorem RepO.rep (r : RepO K H S v o A) (s : Same S H) : Rep K H v o.data := by
  induction r with
  | sh q => rw [O.data]; exact q.mono s
  | ls h1 h2 h3 h4 ih =>
    rw [O.data, dataAll_map]
    refine .lst h1 (by simp [h2]) fun i v d q1 q2 => ?_
    rw [List.getElem?_map] at q2
    obtain ⟨o', e, rfl⟩ := Option.map_eq_some_iff.mp q2
    have l := (List.getElem?_eq_some_iff.mp e).1
    exact ih i v o' _ q1 e (List.getElem?_eq_getElem (by omega))
  | tu h1 h2 h3 h4 ih =>
    rw [O.data, dataAll_map]
    refine .tup (s _ _ h1) (by simp [h2]) fun i v d q1 q2 => ?_
    rw [List.getElem?_map] at q2
    obtain ⟨o', e, rfl⟩ := Option.map_eq_some_iff.mp q2
    have l := (List.getElem?_eq_some_iff.mp e).1
    exact ih i v o' _ q1 e (List.getElem?_eq_getElem (by omega))
  | ob h1 h2 hz h3 h4 h5 h6 h7 h8 ih =>
    rw [O.data, dataAll_map]
    refine .ob h1 h3 h4 h5 (by simp [h6]) fun i v d q1 q2 => ?_
    rw [List.getElem?_map] at q2
    obtain ⟨o', e, rfl⟩ := Option.map_eq_some_iff.mp q2
    have l := (List.getElem?_eq_some_iff.mp e).1
    exact ih i v o' _ q1 e (List.getElem?_eq_getElem (by omega))
  | dd h1 h2 h3 h4 h5 h6 ih =>
    rw [O.data, dataAll_map]
    refine .dd (s _ _ h1) h2 h3 (by simp [h4]) fun i v d q1 q2 => ?_
    rw [List.getElem?_map] at q2
    obtain ⟨o', e, rfl⟩ := Option.map_eq_some_iff.mp q2
    have l := (List.getElem?_eq_some_iff.mp e).1
    exact ih i v o' _ q1 e (List.getElem?_eq_getElem (by omega))
  | pin h ih => rw [O.data]; exact ih
theorem RepOs.nil : RepOs K H S [] [] [] := ⟨rfl, rfl, fun i v o A h => by simp at h⟩
theorem RepOs.cons (h : RepO K H S v o A) (t : RepOs K H S vs os As) : RepOs K H S (v :: vs) (o :: os) (A :: As) := by
  refine ⟨by simp [t.1], by simp [t.2.1], fun i w p B h1 h2 h3 => ?_⟩
  cases i with
  | zero => simp at h1 h2 h3; subst h1; subst h2; subst h3; exact h
  | succ i => exact t.2.2 i w p B (by simpa using h1) (by simpa using h2) (by simpa using h3)
theorem RepOs.keep (r : RepOs K H S vs os As) (h : ∀ a ∈ As.flatten, ∀ u, H a = some u → H' a = some u) (s : Same S S') : RepOs K H' S' vs os As :=
  ⟨r.1, r.2.1, fun i v o A h1 h2 h3 => (r.2.2 i v o A h1 h2 h3).keep (fun a ha u => h a (List.mem_flatten.mpr ⟨A, List.mem_of_getElem? h3, ha⟩) u) s⟩
theorem RepOs.cells (r : RepOs K H S vs os As) : Hid H As.flatten := hid_all (n := 0) r.1 r.2.1 fun i v o A h1 h2 h3 => (r.2.2 i v o A h1 h2 h3).cells
theorem repOs_sh {ds : List D} (r : Reps K S vs ds) : RepOs K H S vs (ds.map O.sh) (ds.map fun _ => []) := by
  refine ⟨by simp [r.1], by simp, fun i v o A h1 h2 h3 => ?_⟩
  rw [List.getElem?_map] at h2 h3
  cases e : ds[i]? with
  | none => rw [e] at h2; cases h2
  | some d =>
    rw [e] at h2 h3
    cases h2; cases h3
    exact .sh (r.2 i v d h1 e)
theorem flat_nil : ∀ ds : List D, (ds.map fun _ => ([] : List Addr)).flatten = []
  | [] => rfl
  | d :: ds => by simp
end

section
variable {X : Cx} {ρ : Rho} {e e1 e2 a b : Expr} {d d1 d2 : D} {o : O} {pos : Pos}
structure Ev (X : Cx) (ρ : Rho) (e : Expr) (d : D) : Prop where
  run : ∀ (σ : L2.St) (H : Hp), EnvS X.K σ H ρ → ∀ Q : VK, (∀ v H', Same H H' → Rep X.K H' v d → Q v H') → WE X e σ H Q
/-- .. to own data -/
structure EvO (X : Cx) (ρ : Rho) (e : Expr) (o : O) : Prop where
  run : ∀ (σ : L2.St) (H : Hp), EnvS X.K σ H ρ → ∀ Q : VK, (∀ v H' A, Same H H' → (∀ a ∈ A, H a = none) → A.Nodup → RepO X.K H' (mask H' A) v o A → Q v H') → WE X e σ H Q
/-- arguments -/
def WA (X : Cx) (es : List Expr) (σ : L2.St) (H : Hp) (Q : List V → Hp → Prop) : Prop :=
  ∀ (pos : Pos) (pins : List (Addr × Obj)) (s : Shared), Inv X pins σ H s → wpAny (model X.prog X.w) X.A (spliced (backTo pos (starEach es X.env))) (AP X pins σ Q) X.xe s
theorem pa_wa {es : List Expr} : PA X es (WA X es) := ⟨fun pos pins s σ H Q I h => h pos pins s I⟩
theorem wa_of {es : List Expr} {t : TA} {σ : L2.St} {H : Hp} {Q : List V → Hp → Prop} (h : PA X es t) (q : t σ H Q) : WA X es σ H Q := fun pos pins s I => h.run pos pins s σ H Q I q
structure EvA (X : Cx) (ρ : Rho) (es : List Expr) (ds : List D) : Prop where
  run : ∀ (σ : L2.St) (H : Hp), EnvS X.K σ H ρ → ∀ Q : List V → Hp → Prop, (∀ vs H', Same H H' → Reps X.K H' vs ds → Q vs H') → WA X es σ H Q
structure EvAO (X : Cx) (ρ : Rho) (es : List Expr) (os : List O) : Prop where
  run : ∀ (σ : L2.St) (H : Hp), EnvS X.K σ H ρ → ∀ Q : List V → Hp → Prop, (∀ vs H' As, Same H H' → (∀ a ∈ As.flatten, H a = none) → As.flatten.Nodup → RepOs X.K H' (mask H' As.flatten) vs os As → Q vs H') → WA X es σ H Q
/-- a test -/
def WT (X : Cx) (e : Expr) (σ : L2.St) (H : Hp) (Q : Bool → Hp → Prop) : Prop :=
  ∀ (pins : List (Addr × Obj)) (s : Shared), Inv X pins σ H s → wpAny (model X.prog X.w) X.A (isTrue e X.env (eval e X.env)) (TP X pins σ Q) X.xe s
theorem pt_wt : PT X e (WT X e) := ⟨fun pins s σ H Q I h => h pins s I⟩
theorem wt_of {t : TT} {σ : L2.St} {H : Hp} {Q : Bool → Hp → Prop} (h : PT X e t) (q : t σ H Q) : WT X e σ H Q := fun pins s I => h.run pins s σ H Q I q
structure EvT (X : Cx) (ρ : Rho) (e : Expr) (b : Bool) : Prop where
  run : ∀ (σ : L2.St) (H : Hp), EnvS X.K σ H ρ → ∀ Q : Bool → Hp → Prop, (∀ H', Same H H' → Q b H') → WT X e σ H Q
def WW (X : Cx) (e : Expr) (σ : L2.St) (H : Hp) (Q : Bool → Hp → Prop) : Prop :=
  ∀ (whole : Sem Value) (pins : List (Addr × Obj)) (s : Shared), Inv X pins σ H s → wpAny (model X.prog X.w) X.A (isTrue e X.env whole) (TP X pins σ Q) X.xe s
theorem pw_ww : PW X e (WW X e) := ⟨fun wh pins s σ H Q I h => h wh pins s I⟩
theorem ww_of {t : TT} {σ : L2.St} {H : Hp} {Q : Bool → Hp → Prop} (h : PW X e t) (q : t σ H Q) : WW X e σ H Q := fun wh pins s I => h.run wh pins s σ H Q I q
structure EvW' (X : Cx) (ρ : Rho) (e : Expr) (b : Bool) : Prop where
  run : ∀ (σ : L2.St) (H : Hp), EnvS X.K σ H ρ → ∀ Q : Bool → Hp → Prop, (∀ H', Same H H' → Q b H') → WW X e σ H Q

theorem mask_sameO {H H' : Hp} {A : List Addr} (s : Same H H') (f : ∀ a ∈ A, H a = none) : Same H (mask H' A) := mask_same_of s f
theorem EvO.ev (h : EvO X ρ e o) : Ev X ρ e o.data := ⟨fun σ H en Q q => h.run σ H en Q fun v H' A s f n r => q v H' s (r.rep mask_same)⟩
theorem EvO.ev' (h : EvO X ρ e o) (hd : o.data = d) : Ev X ρ e d := hd ▸ h.ev
theorem Ev.evO (h : Ev X ρ e d) : EvO X ρ e (.sh d) := ⟨fun σ H en Q q => h.run σ H en Q fun v H' s r => q v H' [] s (fun a ha => by cases ha) List.nodup_nil (.sh (by rw [mask_nil]; exact r))⟩
theorem Ev.is (h : Ev X ρ e d) (e' : d = d1) : Ev X ρ e d1 := e' ▸ h
theorem EvO.is {o' : O} (h : EvO X ρ e o) (e' : o = o') : EvO X ρ e o' := e' ▸ h
theorem EvT.is {c c' : Bool} (h : EvT X ρ e c) (e' : c = c') : EvT X ρ e c' := e' ▸ h

/-! ### names, constants -/
theorem Ev.name {x : Str} (i : Nat) (hN : X.N[i]? = some x := by rfl) (hρ : ρ[i]? = some (some d) := by rfl) (hv : Vis X.env.scope x := by first | exact Or.inl rfl | exact Or.inr (Or.inl rfl) | exact Or.inr (Or.inr rfl))
    (hd : (x == ("__debug__" : Str)) = false := by decide) (hcd : (x == ("__classdict__" : Str)) = false := by decide) : Ev X ρ (.Name x pos) d :=
  ⟨fun σ H en Q q => by
    obtain ⟨v, hv', r⟩ := en.get i d hρ
    exact we_of (pe_var hN hv hd hcd) ⟨v, hv', q v H (Same.refl H) r⟩⟩
theorem Ev.int {i : Int} {j} : Ev X ρ (.Constant (.int i) j pos) (.int i) := ⟨fun σ H en Q q => we_of pe_int (q _ H (Same.refl H) (.int i))⟩
theorem Ev.str {x : Str} {j} : Ev X ρ (.Constant (.str x) j pos) (.str x) := ⟨fun σ H en Q q => we_of pe_str (q _ H (Same.refl H) (.str x))⟩
theorem Ev.bl {x : Bool} {j} : Ev X ρ (.Constant (.bool x) j pos) (.bl x) := ⟨fun σ H en Q q => we_of pe_bl (q _ H (Same.refl H) (.bl x))⟩
theorem Ev.non {j} : Ev X ρ (.Constant .none j pos) .non := ⟨fun σ H en Q q => we_of pe_non (q _ H (Same.refl H) .non)⟩

/-! ### operators -/
theorem Ev.op {op : Operator} {r : R2} (ho : OpR X (binaryOp op) r) (ha : Ev X ρ a d1) (hb : Ev X ρ b d2)
    (hr : ∀ x y H, Rep X.K H x d1 → Rep X.K H y d2 → ∀ Q : VK, (∀ v H', Same H H' → Rep X.K H' v d → Q v H') → r x y H Q) : Ev X ρ (.BinOp a op b pos) d :=
  ⟨fun σ H en Q q => we_of (pe_op ho pe_we pe_we) (ha.run σ H en _ fun x H1 s1 r1 => hb.run σ H1 (en.mono s1) _ fun y H2 s2 r2 =>
    hr x y H2 (r1.mono s2) r2 Q fun v H' s3 r3 => q v H' ((s1.trans s2).trans s3) r3)⟩
theorem Ev.opI {op : Operator} {C : Int → Int → Prop} {g : Int → Int → V} {i j : Int} (ho : OpR X (binaryOp op) (rI C g)) (ha : Ev X ρ a (.int i)) (hb : Ev X ρ b (.int j)) (hc : C i j) {k : Int} (hk : g i j = .int k) : Ev X ρ (.BinOp a op b pos) (.int k) :=
  Ev.op ho ha hb fun x y H rx ry Q q => ⟨i, j, rx.int_inv, ry.int_inv, hc, by rw [hk]; exact q _ H (Same.refl H) (.int k)⟩
theorem Ev.opI0 {op : Operator} {g : Int → Int → V} {i j : Int} (ho : OpR X (binaryOp op) (rI0 g)) (ha : Ev X ρ a (.int i)) (hb : Ev X ρ b (.int j)) {k : Int} (hk : g i j = .int k) : Ev X ρ (.BinOp a op b pos) (.int k) :=
  Ev.op ho ha hb fun x y H rx ry Q q => ⟨i, j, rx.int_inv, ry.int_inv, by rw [hk]; exact q _ H (Same.refl H) (.int k)⟩
variable {i j k : Int}
theorem Ev.add (ha : Ev X ρ a (.int i)) (hb : Ev X ρ b (.int j)) : Ev X ρ (.BinOp a .Add b pos) (.int (i + j)) := Ev.opI0 op_add ha hb rfl
theorem Ev.sub (ha : Ev X ρ a (.int i)) (hb : Ev X ρ b (.int j)) : Ev X ρ (.BinOp a .Sub b pos) (.int (i - j)) := Ev.opI0 op_sub ha hb rfl
theorem Ev.mul (ha : Ev X ρ a (.int i)) (hb : Ev X ρ b (.int j)) (hc : CMul i j) : Ev X ρ (.BinOp a .Mult b pos) (.int (i * j)) := Ev.opI op_mul ha hb hc rfl
theorem Ev.div (ha : Ev X ρ a (.int i)) (hb : Ev X ρ b (.int j)) (hc : CDiv i j) : Ev X ρ (.BinOp a .FloorDiv b pos) (.int (i / j)) := Ev.opI op_fdiv ha hb hc rfl
theorem Ev.mod (ha : Ev X ρ a (.int i)) (hb : Ev X ρ b (.int j)) (hc : 0 < j) : Ev X ρ (.BinOp a .Mod b pos) (.int (i % j)) := Ev.opI op_mod ha hb hc rfl
theorem Ev.neg (ha : Ev X ρ a (.int i)) : Ev X ρ (.UnaryOp .USub a pos) (.int (-i)) :=
  ⟨fun σ H en Q q => we_of (pe_un un_neg pe_we) (ha.run σ H en _ fun x H1 s1 r1 => ⟨i, r1.int_inv, q _ H1 s1 (.int _)⟩)⟩
theorem Ev.addS {x y : Str} (ha : Ev X ρ a (.str x)) (hb : Ev X ρ b (.str y)) (hl : x.length + y.length ≤ sizeLine) : Ev X ρ (.BinOp a .Add b pos) (.str (x ++ y)) :=
  Ev.op op_add_str ha hb fun v w H rv rw Q q => ⟨x, y, rv.str_inv, rw.str_inv, hl, q _ H (Same.refl H) (.str _)⟩

/-! ### comparisons -/
theorem Ev.cmpR {op : CmpOp} {r : R2} (ho : OpR X (compareOp op) r) (ha : Ev X ρ a d1) (hb : Ev X ρ b d2) (hm : behindInMarks op b = false)
    (hr : ∀ x y H, Rep X.K H x d1 → Rep X.K H y d2 → ∀ Q : VK, (∀ v H', Same H H' → Rep X.K H' v d → Q v H') → r x y H Q) : Ev X ρ (.Compare a [op] [b] pos) d :=
  ⟨fun σ H en Q q => we_of (pe_cmpR ho pe_we pe_we hm) (ha.run σ H en _ fun x H1 s1 r1 => hb.run σ H1 (en.mono s1) _ fun y H2 s2 r2 =>
    hr x y H2 (r1.mono s2) r2 Q fun v H' s3 r3 => q v H' ((s1.trans s2).trans s3) r3)⟩
theorem EvT.cmpR {op : CmpOp} {r : R2} {c : Bool} (ho : OpR X (compareOp op) r) (ha : Ev X ρ a d1) (hb : Ev X ρ b d2) (hm : behindInMarks op b = false)
    (hr : ∀ x y H, Rep X.K H x d1 → Rep X.K H y d2 → ∀ Q : VK, (∀ v H', Same H H' → Rep X.K H' v (.bl c) → Q v H') → r x y H Q) : EvT X ρ (.Compare a [op] [b] pos) c :=
  ⟨fun σ H en Q q => wt_of (pt_cmpR ho pe_we pe_we hm) (ha.run σ H en _ fun x H1 s1 r1 => hb.run σ H1 (en.mono s1) _ fun y H2 s2 r2 =>
    hr x y H2 (r1.mono s2) r2 _ fun v H' s3 r3 => ⟨c, r3.bl_inv, q H' ((s1.trans s2).trans s3)⟩)⟩
/-- what a comparison of two data is -/
def CmpD (X : Cx) (op : CmpOp) (x y : D) (c : Bool) : Prop :=
  ∃ r : R2, OpR X (compareOp op) r ∧ ∀ v w H, Rep X.K H v x → Rep X.K H w y → ∀ Q : VK, (∀ u H', Same H H' → Rep X.K H' u (.bl c) → Q u H') → r v w H Q
theorem Ev.cmp {op : CmpOp} {c : Bool} (ha : Ev X ρ a d1) (hb : Ev X ρ b d2) (hc : CmpD X op d1 d2 c) (hm : behindInMarks op b = false := by exact nomark _) : Ev X ρ (.Compare a [op] [b] pos) (.bl c) :=
  let ⟨_, ho, hr⟩ := hc; Ev.cmpR ho ha hb hm hr
theorem EvT.cmp {op : CmpOp} {c : Bool} (ha : Ev X ρ a d1) (hb : Ev X ρ b d2) (hc : CmpD X op d1 d2 c) (hm : behindInMarks op b = false := by exact nomark _) : EvT X ρ (.Compare a [op] [b] pos) c :=
  let ⟨_, ho, hr⟩ := hc; EvT.cmpR ho ha hb hm hr
theorem CmpD.int0 {op : CmpOp} {p : Int → Int → Bool} (ho : OpR X (compareOp op) (rI0 fun i j => .bl (p i j))) : CmpD X op (.int i) (.int j) (p i j) :=
  ⟨_, ho, fun v w H rv rw Q q => ⟨i, j, rv.int_inv, rw.int_inv, q _ H (Same.refl H) (.bl _)⟩⟩
theorem CmpD.lt : CmpD X .Lt (.int i) (.int j) (decide (i < j)) := .int0 op_lt
theorem CmpD.le : CmpD X .LtE (.int i) (.int j) (decide (i ≤ j)) := .int0 op_le
theorem CmpD.gt : CmpD X .Gt (.int i) (.int j) (decide (j < i)) := .int0 op_gt
theorem CmpD.ge : CmpD X .GtE (.int i) (.int j) (decide (j ≤ i)) := .int0 op_ge
theorem CmpD.eqI : CmpD X .Eq (.int i) (.int j) (decide (i = j)) :=
  ⟨_, op_eq, fun v w H rv rw Q q => by
    obtain rfl := rv.int_inv
    obtain rfl := rw.int_inv
    exact ⟨rfl, by rw [show decide (V.int i = V.int j) = decide (i = j) by simp]; exact q _ H (Same.refl H) (.bl _)⟩⟩
theorem CmpD.neI : CmpD X .NotEq (.int i) (.int j) (!decide (i = j)) :=
  ⟨_, op_ne, fun v w H rv rw Q q => by
    obtain rfl := rv.int_inv
    obtain rfl := rw.int_inv
    exact ⟨rfl, by rw [show decide (V.int i = V.int j) = decide (i = j) by simp]; exact q _ H (Same.refl H) (.bl _)⟩⟩
theorem CmpD.eqS {x y : Str} : CmpD X .Eq (.str x) (.str y) (decide (x = y)) :=
  ⟨_, op_eq, fun v w H rv rw Q q => by
    obtain rfl := rv.str_inv
    obtain rfl := rw.str_inv
    exact ⟨rfl, by rw [show decide (V.str x = V.str y) = decide (x = y) by simp]; exact q _ H (Same.refl H) (.bl _)⟩⟩
theorem CmpD.neS {x y : Str} : CmpD X .NotEq (.str x) (.str y) (!decide (x = y)) :=
  ⟨_, op_ne, fun v w H rv rw Q q => by
    obtain rfl := rv.str_inv
    obtain rfl := rw.str_inv
    exact ⟨rfl, by rw [show decide (V.str x = V.str y) = decide (x = y) by simp]; exact q _ H (Same.refl H) (.bl _)⟩⟩
theorem CmpD.eqB {x y : Bool} : CmpD X .Eq (.bl x) (.bl y) (decide (x = y)) :=
  ⟨_, op_eq, fun v w H rv rw Q q => by
    obtain rfl := rv.bl_inv
    obtain rfl := rw.bl_inv
    exact ⟨rfl, by rw [show decide (V.bl x = V.bl y) = decide (x = y) by simp]; exact q _ H (Same.refl H) (.bl _)⟩⟩
theorem CmpD.neB {x y : Bool} : CmpD X .NotEq (.bl x) (.bl y) (!decide (x = y)) :=
  ⟨_, op_ne, fun v w H rv rw Q q => by
    obtain rfl := rv.bl_inv
    obtain rfl := rw.bl_inv
    exact ⟨rfl, by rw [show decide (V.bl x = V.bl y) = decide (x = y) by simp]; exact q _ H (Same.refl H) (.bl _)⟩⟩
/-- is None -/
def D.isNon : D → Bool
  | .non => true
  | _ => false
theorem Rep.non_iff {K : PySem.W.Frag} {H : Hp} {v : V} (r : Rep K H v d) : decide (v = .non) = d.isNon := by
  cases r <;> simp [D.isNon]
theorem CmpD.isN : CmpD X .Is d .non d.isNon :=
  ⟨_, op_isN, fun v w H rv rw Q q => ⟨rw.non_inv, by rw [rv.non_iff]; exact q _ H (Same.refl H) (.bl _)⟩⟩
theorem CmpD.isNotN : CmpD X .IsNot d .non (!d.isNon) :=
  ⟨_, op_notN, fun v w H rv rw Q q => ⟨rw.non_inv, by rw [rv.non_iff]; exact q _ H (Same.refl H) (.bl _)⟩⟩
theorem CmpD.isB {x y : Bool} : CmpD X .Is (.bl x) (.bl y) (decide (x = y)) :=
  ⟨_, op_isBl, fun v w H rv rw Q q => ⟨x, y, rv.bl_inv, rw.bl_inv, q _ H (Same.refl H) (.bl _)⟩⟩
theorem CmpD.isNotB {x y : Bool} : CmpD X .IsNot (.bl x) (.bl y) (!decide (x = y)) :=
  ⟨_, op_notBl, fun v w H rv rw Q q => ⟨x, y, rv.bl_inv, rw.bl_inv, q _ H (Same.refl H) (.bl _)⟩⟩

/-! ### == of data -/
mutual
def D.py : D → PyData
  | .non => .none
  | .bl b => .bool b
  | .int i => .int i
  | .str s => .str s
  | .lst xs => .list (pyAll xs)
  | .tup xs => .tuple (pyAll xs)
  | .ro _ => .none
  | .dk _ => .none
  | .ob _ _ _ => .none
  | .dd _ _ => .none
  | .raw _ => .none
def pyAll : List D → List PyData
  | [] => []
  | x :: xs => x.py :: pyAll xs
end
mutual
/-- no dict, no script within -/
def D.plain : D → Bool
  | .lst xs => plainAll xs
  | .tup xs => plainAll xs
  | .ro _ => false
  | .dk _ => false
  | .ob _ _ _ => false
  | .dd _ _ => false
  | .raw _ => false
  | _ => true
def plainAll : List D → Bool
  | [] => true
  | x :: xs => x.plain && plainAll xs
end
theorem rep_dp_all {K : PySem.W.Frag} {H : Hp} : ∀ (ds : List D) (vs : List V), plainAll ds = true → vs.length = ds.length → (∀ (i : Nat) v d, vs[i]? = some v → ds[i]? = some d → d.plain = true → Dp K H v d.py) → DpAll K H vs (pyAll ds)
  | [], vs, _, hl, _ => by
    obtain rfl : vs = [] := by simpa using hl
    rw [pyAll]; exact .nil
  | d :: ds, [], _, hl, _ => by simp at hl
  | d :: ds, v :: vs, hp, hl, h => by
    rw [plainAll] at hp
    obtain ⟨p1, p2⟩ := Bool.and_eq_true_iff.mp hp
    rw [pyAll]
    exact .cons (h 0 v d rfl rfl p1) (rep_dp_all ds vs p2 (by simpa using hl) fun i w e q1 q2 => h (i + 1) w e (by simpa using q1) (by simpa using q2))
theorem Rep.dp {K : PySem.W.Frag} {H : Hp} {v : V} (r : Rep K H v d) (hp : d.plain = true) : Dp K H v d.py := by
  induction r with
  | non => rw [D.py]; exact .non
  | bl b => rw [D.py]; exact .bl b
  | int i => rw [D.py]; exact .int i
  | str s => rw [D.py]; exact .str s
  | lst h1 h2 h3 ih =>
    rw [D.py]
    rw [D.plain] at hp
    exact .lst (SqL.of h1) (rep_dp_all _ _ hp h2 fun i v d q1 q2 q3 => ih i v d q1 q2 q3)
  | tup h1 h2 h3 ih =>
    rw [D.py]
    rw [D.plain] at hp
    exact .tup (SqT.of h1) (rep_dp_all _ _ hp h2 fun i v d q1 q2 q3 => ih i v d q1 q2 q3)
  | ro h1 h2 h3 ih => simp [D.plain] at hp
  | dk h1 h2 => simp [D.plain] at hp
  | ob h1 h2 h3 h6 h4 h5 ih => simp [D.plain] at hp
  | dd h1 h2 h3 h4 h5 ih => simp [D.plain] at hp
  | raw a => simp [D.plain] at hp
def Shp (d : D) : Prop := d.plain = true ∧ SeqAt.shaped d.py = true
def eqvD (x y : D) : Bool := PyData.eqv x.py y.py
theorem CmpD.eqD (hu : X.A.units + 64 < cLine) (h1 : Shp d1) (h2 : Shp d2) : CmpD X .Eq d1 d2 (eqvD d1 d2) :=
  ⟨_, op_eqD hu, fun v w H rv rw Q q => ⟨_, _, rv.dp h1.1, rw.dp h2.1, h1.2, h2.2, q _ H (Same.refl H) (.bl _)⟩⟩
theorem CmpD.neD (hu : X.A.units + 64 < cLine) (h1 : Shp d1) (h2 : Shp d2) : CmpD X .NotEq d1 d2 (!eqvD d1 d2) :=
  ⟨_, op_neD hu, fun v w H rv rw Q q => ⟨_, _, rv.dp h1.1, rw.dp h2.1, h1.2, h2.2, q _ H (Same.refl H) (.bl _)⟩⟩
theorem Rep.dpL {K : PySem.W.Frag} {H : Hp} {v : V} {ds : List D} (r : Rep K H v (.lst ds)) (hp : (D.lst ds).plain = true) : Dp K H v (.list (pyAll ds)) := by
  have := r.dp hp
  rw [D.py] at this
  exact this
theorem CmpD.inD (hu : X.A.units + 65 < cLine) {ds : List D} (h1 : Shp d1) (h2 : Shp (.lst ds)) : CmpD X .In d1 (.lst ds) (ds.any fun z => eqvD z d1) :=
  ⟨_, op_inD hu, fun v w H rv rw Q q => ⟨_, _, rv.dp h1.1, rw.dpL h2.1, h1.2, by have := h2.2; rw [D.py] at this; exact this, by
    have e : ∀ ds : List D, (pyAll ds).any (fun z => PyData.eqv z d1.py) = ds.any fun z => eqvD z d1 := by
      intro ds
      induction ds with
      | nil => simp [pyAll]
      | cons x xs ih => simp [pyAll, eqvD]; rw [ih]; simp [eqvD]
    rw [e]
    exact q _ H (Same.refl H) (.bl _)⟩⟩
theorem CmpD.notInD (hu : X.A.units + 65 < cLine) {ds : List D} (h1 : Shp d1) (h2 : Shp (.lst ds)) : CmpD X .NotIn d1 (.lst ds) (!ds.any fun z => eqvD z d1) :=
  ⟨_, op_notInD hu, fun v w H rv rw Q q => ⟨_, _, rv.dp h1.1, rw.dpL h2.1, h1.2, by have := h2.2; rw [D.py] at this; exact this, by
    have e : ∀ ds : List D, (pyAll ds).any (fun z => PyData.eqv z d1.py) = ds.any fun z => eqvD z d1 := by
      intro ds
      induction ds with
      | nil => simp [pyAll]
      | cons x xs ih => simp [pyAll, eqvD]; rw [ih]; simp [eqvD]
    rw [e]
    exact q _ H (Same.refl H) (.bl _)⟩⟩

/-! ### chains -/
theorem Ev.chain {op op' : CmpOp} {c : Expr} {d3 : D} {p p' : Bool} (ha : Ev X ρ a d1) (hb : Ev X ρ b d2) (hc : Ev X ρ c d3) (h1 : CmpD X op d1 d2 p) (h2 : p = true → CmpD X op' d2 d3 p')
    (hm : lastMarks [op, op'] [b, c] = false := by with_unfolding_all rfl) : Ev X ρ (.Compare a [op, op'] [b, c] pos) (.bl (p && p')) := by
  obtain ⟨r, ho, hr⟩ := h1
  cases p with
  | false =>
    refine ⟨fun σ H en Q q => we_of (pe_chain (r' := fun _ _ _ _ => False) ho (fun pins s σ H x y v u Q I rx ry h => h.elim) pe_we pe_we pe_we hm) (ha.run σ H en _ fun x H1 s1 r1 => hb.run σ H1 (en.mono s1) _ fun y H2 s2 r2 => ?_)⟩
    refine hr x y H2 (r1.mono s2) r2 _ fun v H' s3 r3 => ⟨false, r3.bl_inv, ?_⟩
    exact iteF (q _ H' ((s1.trans s2).trans s3) (.bl _))
  | true =>
    obtain ⟨r', ho', hr'⟩ := h2 rfl
    refine ⟨fun σ H en Q q => we_of (pe_chain ho ho' pe_we pe_we pe_we hm) (ha.run σ H en _ fun x H1 s1 r1 => hb.run σ H1 (en.mono s1) _ fun y H2 s2 r2 => ?_)⟩
    refine hr x y H2 (r1.mono s2) r2 _ fun v H' s3 r3 => ⟨true, r3.bl_inv, ?_⟩
    refine iteT (hc.run σ H' (en.mono ((s1.trans s2).trans s3)) _ fun z H4 s4 r4 => ?_)
    refine hr' y z H4 (r2.mono (s3.trans s4)) r4 Q fun v5 H5 s5 r5 => ?_
    exact q v5 H5 ((((s1.trans s2).trans s3).trans s4).trans s5) r5
theorem EvT.chain {op op' : CmpOp} {c : Expr} {d3 : D} {p p' : Bool} (ha : Ev X ρ a d1) (hb : Ev X ρ b d2) (hc : Ev X ρ c d3) (h1 : CmpD X op d1 d2 p) (h2 : p = true → CmpD X op' d2 d3 p')
    (hm : lastMarks [op, op'] [b, c] = false := by with_unfolding_all rfl) : EvT X ρ (.Compare a [op, op'] [b, c] pos) (p && p') := by
  obtain ⟨r, ho, hr⟩ := h1
  cases p with
  | false =>
    refine ⟨fun σ H en Q q => wt_of (pt_chain (r' := fun _ _ _ _ => False) ho (fun pins s σ H x y v u Q I rx ry h => h.elim) pe_we pe_we pe_we hm) (ha.run σ H en _ fun x H1 s1 r1 => hb.run σ H1 (en.mono s1) _ fun y H2 s2 r2 => ?_)⟩
    refine hr x y H2 (r1.mono s2) r2 _ fun v H' s3 r3 => ⟨false, r3.bl_inv, ?_⟩
    exact iteF ⟨false, rfl, q H' ((s1.trans s2).trans s3)⟩
  | true =>
    obtain ⟨r', ho', hr'⟩ := h2 rfl
    refine ⟨fun σ H en Q q => wt_of (pt_chain ho ho' pe_we pe_we pe_we hm) (ha.run σ H en _ fun x H1 s1 r1 => hb.run σ H1 (en.mono s1) _ fun y H2 s2 r2 => ?_)⟩
    refine hr x y H2 (r1.mono s2) r2 _ fun v H' s3 r3 => ⟨true, r3.bl_inv, ?_⟩
    refine iteT (hc.run σ H' (en.mono ((s1.trans s2).trans s3)) _ fun z H4 s4 r4 => ?_)
    refine hr' y z H4 (r2.mono (s3.trans s4)) r4 _ fun v5 H5 s5 r5 => ?_
    exact ⟨p', r5.bl_inv, q H5 ((((s1.trans s2).trans s3).trans s4).trans s5)⟩

/-! ### tests: not, and, or -/
variable {c c1 c2 : Bool} {rest : List Expr}
theorem EvT.val (h : Ev X ρ e (.bl c)) (he : ∀ whole, isTrue e X.env whole = (do let v ← whole; standAt e.pos; holding [v] (truthy v)) := by intro _; rfl) : EvT X ρ e c :=
  ⟨fun σ H en Q q => wt_of (pt_val pe_we he) (h.run σ H en _ fun v H' s r => ⟨c, r.bl_inv, q H' s⟩)⟩
theorem EvT.not (h : EvT X ρ a c) : EvT X ρ (.UnaryOp .Not a pos) (!c) := ⟨fun σ H en Q q => wt_of (pt_not pt_wt) (h.run σ H en _ fun H' s => q H' s)⟩
theorem EvT.bool (h : EvW' X ρ e c) : EvT X ρ e c := ⟨fun σ H en Q q => wt_of pw_ww.pt (h.run σ H en Q q)⟩
theorem EvW'.and1 (h : EvT X ρ a c) : EvW' X ρ (.BoolOp .And [a] pos) c := ⟨fun σ H en Q q => ww_of (pw_and1 pt_wt) (h.run σ H en Q q)⟩
theorem EvW'.or1 (h : EvT X ρ a c) : EvW' X ρ (.BoolOp .Or [a] pos) c := ⟨fun σ H en Q q => ww_of (pw_or1 pt_wt) (h.run σ H en Q q)⟩
theorem EvW'.and (h1 : EvT X ρ a c1) (h2 : c1 = true → EvW' X ρ (.BoolOp .And (b :: rest) pos) c2) : EvW' X ρ (.BoolOp .And (a :: b :: rest) pos) (c1 && c2) :=
  ⟨fun σ H en Q q => ww_of (pw_and pt_wt pw_ww) (h1.run σ H en _ fun H' s => by
    cases c1 with
    | true => exact iteT ((h2 rfl).run σ H' (en.mono s) Q fun H2 s2 => q H2 (s.trans s2))
    | false => exact iteF (q H' s))⟩
theorem EvW'.or (h1 : EvT X ρ a c1) (h2 : c1 = false → EvW' X ρ (.BoolOp .Or (b :: rest) pos) c2) : EvW' X ρ (.BoolOp .Or (a :: b :: rest) pos) (c1 || c2) :=
  ⟨fun σ H en Q q => ww_of (pw_or pt_wt pw_ww) (h1.run σ H en _ fun H' s => by
    cases c1 with
    | true => exact iteT (q H' s)
    | false => exact iteF ((h2 rfl).run σ H' (en.mono s) Q fun H2 s2 => q H2 (s.trans s2)))⟩
/-- as values -/
theorem Ev.notV (h : Ev X ρ a (.bl c)) : Ev X ρ (.UnaryOp .Not a pos) (.bl (!c)) := ⟨fun σ H en Q q => we_of (pe_not pe_we) (h.run σ H en _ fun v H' s r => ⟨c, r.bl_inv, q _ H' s (.bl _)⟩)⟩
theorem Ev.one {op} (h : Ev X ρ a d) : Ev X ρ (.BoolOp op [a] pos) d := ⟨fun σ H en Q q => we_of (pe_one pe_we) (h.run σ H en Q q)⟩
theorem Ev.and (h1 : Ev X ρ a (.bl c1)) (h2 : c1 = true → Ev X ρ (.BoolOp .And (b :: rest) pos) (.bl c2)) : Ev X ρ (.BoolOp .And (a :: b :: rest) pos) (.bl (c1 && c2)) :=
  ⟨fun σ H en Q q => we_of (pe_and pe_we pe_we) (h1.run σ H en _ fun v H' s r => ⟨c1, r.bl_inv, by
    cases c1 with
    | true => exact iteT ((h2 rfl).run σ H' (en.mono s) Q fun v2 H2 s2 r2 => q v2 H2 (s.trans s2) r2)
    | false => exact iteF (q _ H' s (.bl _))⟩)⟩
theorem Ev.or (h1 : Ev X ρ a (.bl c1)) (h2 : c1 = false → Ev X ρ (.BoolOp .Or (b :: rest) pos) (.bl c2)) : Ev X ρ (.BoolOp .Or (a :: b :: rest) pos) (.bl (c1 || c2)) :=
  ⟨fun σ H en Q q => we_of (pe_or pe_we pe_we) (h1.run σ H en _ fun v H' s r => ⟨c1, r.bl_inv, by
    cases c1 with
    | true => exact iteT (q _ H' s (.bl _))
    | false => exact iteF ((h2 rfl).run σ H' (en.mono s) Q fun v2 H2 s2 r2 => q v2 H2 (s.trans s2) r2)⟩)⟩

/-! ### subscripts -/
theorem Ev.ixL {ds : List D} {z : Int} (ha : Ev X ρ a (.lst ds)) (hb : Ev X ρ b (.int z)) (h : atI ds z = some d) (hs : PlainIx b := by exact fun _ _ => rfl) : Ev X ρ (.Subscript a b pos) d :=
  ⟨fun σ H en Q q => we_of (pe_ix ix_list pe_we pe_we hs) (ha.run σ H en _ fun x H1 s1 r1 => hb.run σ H1 (en.mono s1) _ fun y H2 s2 r2 => by
    obtain ⟨p, vs, rfl, hp, rs⟩ := (r1.mono s2).lst_inv
    obtain rfl := r2.int_inv
    obtain ⟨v, hv, rv⟩ := rs.at h
    exact ⟨p, vs, z, v, rfl, rfl, SqL.of hp, hv, q v H2 (s1.trans s2) rv⟩)⟩
theorem Ev.ixRo {ds : List D} {z : Int} (ha : Ev X ρ a (.ro ds)) (hb : Ev X ρ b (.int z)) (h : atI ds z = some d) (hs : PlainIx b := by exact fun _ _ => rfl) : Ev X ρ (.Subscript a b pos) d :=
  ⟨fun σ H en Q q => we_of (pe_ix ix_list pe_we pe_we hs) (ha.run σ H en _ fun x H1 s1 r1 => hb.run σ H1 (en.mono s1) _ fun y H2 s2 r2 => by
    obtain ⟨p, vs, rfl, hp, rs⟩ := (r1.mono s2).ro_inv
    obtain rfl := r2.int_inv
    obtain ⟨v, hv, rv⟩ := rs.at h
    exact ⟨p, vs, z, v, rfl, rfl, hp, hv, q v H2 (s1.trans s2) rv⟩)⟩
theorem Ev.ixT {ds : List D} {z : Int} (ha : Ev X ρ a (.tup ds)) (hb : Ev X ρ b (.int z)) (h : atI ds z = some d) (hs : PlainIx b := by exact fun _ _ => rfl) : Ev X ρ (.Subscript a b pos) d :=
  ⟨fun σ H en Q q => we_of (pe_ix ix_tup pe_we pe_we hs) (ha.run σ H en _ fun x H1 s1 r1 => hb.run σ H1 (en.mono s1) _ fun y H2 s2 r2 => by
    obtain ⟨p, vs, rfl, hp, rs⟩ := (r1.mono s2).tup_inv
    obtain rfl := r2.int_inv
    obtain ⟨v, hv, rv⟩ := rs.at h
    exact ⟨p, vs, z, v, rfl, rfl, SqT.of hp, hv, q v H2 (s1.trans s2) rv⟩)⟩

/-! ### arguments, displays -/
theorem EvA.nil : EvA X ρ [] [] := ⟨fun σ H en Q q => wa_of pa_nil (q [] H (Same.refl H) .nil)⟩
theorem EvA.cons {es : List Expr} {ds : List D} (h : Ev X ρ e d) (t : EvA X ρ es ds) (hs : starEach (e :: es) X.env = (false, eval e X.env) :: starEach es X.env := by rfl) : EvA X ρ (e :: es) (d :: ds) :=
  ⟨fun σ H en Q q => wa_of (pa_cons pe_we pa_wa hs) (h.run σ H en _ fun v H1 s1 r1 => t.run σ H1 (en.mono s1) _ fun vs H2 s2 r2 => q _ H2 (s1.trans s2) (.cons (r1.mono s2) r2))⟩
theorem Ev.tup {es : List Expr} {ds : List D} {x1} (h : EvA X ρ es ds) (hl : ds.length ≤ 1000 := by simp) : Ev X ρ (.Tuple es x1 pos) (.tup ds) :=
  ⟨fun σ H en Q q => we_of (pe_tup pa_wa) (h.run σ H en _ fun vs H1 s1 r1 => ⟨by rw [r1.1]; exact Nat.le_trans hl (by decide), fun p hp =>
    have s2 : Same H1 (upd H1 p (.tup vs)) := fun c u z => by rw [upd_ne (ne_of_none z hp)]; exact z
    q _ _ (s1.trans s2) (.tup' upd_same (r1.mono s2))⟩)⟩
theorem Same.new {H : Hp} {p : Addr} {u : HO} (hp : H p = none) : Same H (upd H p u) := fun c o z => by rw [upd_ne (ne_of_none z hp)]; exact z
theorem rep_new_list {K : PySem.W.Frag} {H : Hp} {p : Addr} {vs : List V} {ds : List D} (hp : H p = none) (r : Reps K H vs ds) : RepO K (upd H p (.lst vs)) (mask (upd H p (.lst vs)) [p]) (.ref p) (.ls (ds.map O.sh)) [p] := by
  have hs : Same H (mask (upd H p (.lst vs)) [p]) := mask_same_of (Same.new hp) (fun a ha => by
    obtain rfl : a = p := by simpa using ha
    exact hp)
  have q := repOs_sh (K := K) (H := upd H p (.lst vs)) (r.mono hs)
  have := RepO.ls (K := K) (S := mask (upd H p (.lst vs)) [p]) (upd_same (H := H) (a := p) (o := .lst vs)) q.1 q.2.1 q.2.2
  rw [flat_nil] at this
  exact this
/-- a new list of shared items -/
def oL (ds : List D) : O := .ls (ds.map O.sh)
theorem oL_data (ds : List D) : (oL ds).data = .lst ds := by unfold oL; rw [O.data, dataAll_sh]
theorem EvO.newl {ds : List D} (h : ∀ (σ : L2.St) (H : Hp), EnvS X.K σ H ρ → ∀ Q : VK, (∀ p vs H', Same H H' → H' p = none → Reps X.K H' vs ds → Q (.ref p) (upd H' p (.lst vs))) → WE X e σ H Q) : EvO X ρ e (oL ds) :=
  ⟨fun σ H en Q q => h σ H en Q fun p vs H' s hp r => q _ _ [p] (s.trans (Same.new hp)) (fun a ha => by
    obtain rfl : a = p := by simpa using ha
    exact s.free hp) (by simp) (rep_new_list hp r)⟩
theorem EvO.list {es : List Expr} {ds : List D} (h : EvA X ρ es ds) (hl : ds.length ≤ 1000 := by simp) : EvO X ρ (.List es pos) (oL ds) :=
  .newl fun σ H en Q q => we_of (pe_lst pa_wa) (h.run σ H en _ fun vs H1 s1 r1 => ⟨by rw [r1.1]; exact Nat.le_trans hl (by decide), fun p hp => q p vs H1 s1 hp r1⟩)
theorem Ev.list {es : List Expr} {ds : List D} (h : EvA X ρ es ds) (hl : ds.length ≤ 1000 := by simp) : Ev X ρ (.List es pos) (.lst ds) := (EvO.list h hl).ev' (oL_data _)
/-- + of lists -/
theorem EvO.cat {xs ys : List D} (ha : Ev X ρ a (.lst xs)) (hb : Ev X ρ b (.lst ys)) (hl : xs.length + ys.length ≤ sizeLine) : EvO X ρ (.BinOp a .Add b pos) (oL (xs ++ ys)) :=
  .newl fun σ H en Q q => we_of (pe_op op_cat pe_we pe_we) (ha.run σ H en _ fun x H1 s1 r1 => hb.run σ H1 (en.mono s1) _ fun y H2 s2 r2 => by
    obtain ⟨p1, vs, rfl, h1, rs⟩ := (r1.mono s2).lst_inv
    obtain ⟨p2, ws, rfl, h2, rt⟩ := r2.lst_inv
    exact ⟨p1, p2, vs, ws, rfl, rfl, h1, h2, by rw [rs.1, rt.1]; exact hl, fun p hp => q p _ H2 (s1.trans s2) hp (rs.append rt)⟩)
theorem EvO.rep {xs : List D} {k : Int} (ha : Ev X ρ a (.lst xs)) (hb : Ev X ρ b (.int k)) (hk : -(2 ^ 63) ≤ k ∧ k < 2 ^ 63) (hl : xs.length * k.toNat ≤ sizeLine) : EvO X ρ (.BinOp a .Mult b pos) (oL (List.replicate k.toNat xs).flatten) :=
  .newl fun σ H en Q q => we_of (pe_op op_rep pe_we pe_we) (ha.run σ H en _ fun x H1 s1 r1 => hb.run σ H1 (en.mono s1) _ fun y H2 s2 r2 => by
    obtain ⟨p1, vs, rfl, h1, rs⟩ := (r1.mono s2).lst_inv
    obtain rfl := r2.int_inv
    exact ⟨p1, k, vs, rfl, rfl, h1, hk.1, hk.2, by rw [rs.1]; exact hl, fun p hp => q p _ H2 (s1.trans s2) hp (rs.rep _)⟩)
/-- slices -/
structure EvP (X : Cx) (ρ : Rho) (e : Option Expr) (o : Option Int) : Prop where
  run : ∃ t : TO, PO X e t ∧ ∀ (σ : L2.St) (H : Hp), EnvS X.K σ H ρ → ∀ Q : Option Int → Hp → Prop, (∀ H', Same H H' → Q o H') → t σ H Q
theorem EvP.none : EvP X ρ Option.none Option.none := ⟨_, po_none, fun σ H en Q q => q H (Same.refl H)⟩
theorem EvP.some {z : Int} (h : Ev X ρ e (.int z)) : EvP X ρ (Option.some e) (Option.some z) := ⟨_, po_some pe_we, fun σ H en Q q => h.run σ H en _ fun v H' s r => ⟨z, r.int_inv, q H' s⟩⟩
theorem EvO.slice {xs : List D} {el eh : Option Expr} {lo hi : Option Int} {p2 : Pos} (ha : Ev X ρ a (.lst xs)) (hl : EvP X ρ el lo) (hh : EvP X ρ eh hi) : EvO X ρ (.Subscript a (.Slice el eh Option.none p2) pos) (oL (cutD xs lo hi)) := by
  obtain ⟨tl, pl, ql⟩ := hl.run
  obtain ⟨th, ph, qh⟩ := hh.run
  exact .newl fun σ H en Q q => we_of (pe_slice sl_list pe_we pl ph) (ha.run σ H en _ fun x H1 s1 r1 => ql σ H1 (en.mono s1) _ fun H2 s2 => qh σ H2 (en.mono (s1.trans s2)) _ fun H3 s3 => by
    obtain ⟨p1, vs, rfl, h1, rs⟩ := (r1.mono (s2.trans s3)).lst_inv
    exact ⟨p1, vs, rfl, SqL.of h1, fun p hp => q p _ H3 ((s1.trans s2).trans s3) hp (rs.cut lo hi)⟩)
/-- xs[::-1] -/
theorem EvO.rev {xs : List D} {k : Nat} {p1 p2 p3 : Pos} (ha : Ev X ρ a (.lst xs)) : EvO X ρ (.Subscript a (.Slice Option.none Option.none (Option.some (.UnaryOp .USub (.Constant (.int 1) k p1) p2)) p3) pos) (oL xs.reverse) :=
  .newl fun σ H en Q q => we_of (pe_revL pe_we) (ha.run σ H en _ fun x H1 s1 r1 => by
    obtain ⟨p1, vs, rfl, h1, rs⟩ := r1.lst_inv
    exact ⟨p1, vs, rfl, SqL.of h1, fun p hp => q p _ H1 s1 hp rs.reverse⟩)
end
end VL
set_option Elab.async false
set_option linter.all false
set_option maxRecDepth 100000
set_option maxHeartbeats 1000000
/-! value layer, part 3: built-in calls, what is walked, comprehensions -/
namespace VL
open PySem L2
section
variable {X : Cx} {ρ : Rho} {e e1 e2 a b : Expr} {d d1 d2 : D} {o : O} {p pos : Pos} {es : List Expr} {ds : List D}
/-! ### built-ins by name -/
theorem Ev.callB {x : Str} {id : String} {r : List V → Hp → VK → Prop} (hc : CallR X (.builtin id) r) (hg : Gl X x) (hm : X.mg x = none) (hv : bootBuiltins x = some (.builtin id)) (ha : EvA X ρ (e :: es) ds)
    (hr : ∀ vs H, Reps X.K H vs ds → ∀ Q : VK, (∀ v H', Same H H' → Rep X.K H' v d → Q v H') → r vs H Q) (hn : x ≠ "__name__" := by decide) (hdb : (x == ("__debug__" : Str)) = false := by decide)
    (he : starEach (e :: es) X.env = (false, eval e X.env) :: starEach es X.env := by rfl) (hpl : (backTo pos (starEach es X.env)).any (·.1) = false := by rfl) : Ev X ρ (.Call (.Name x p) (e :: es) [] pos) d :=
  ⟨fun σ H en Q q => we_of (pe_callB hc hg hm hv pa_wa hn hdb he hpl) (ha.run σ H en _ fun vs H1 s1 r1 => hr vs H1 r1 Q fun v H2 s2 r2 => q v H2 (s1.trans s2) r2)⟩
theorem Ev.callTy {x : Str} {T : String} {r : List V → Hp → VK → Prop} (hc : CallR X (.type T) r) (hg : Gl X x) (hm : X.mg x = none) (hv : bootBuiltins x = some (.type T)) (ha : EvA X ρ (e :: es) ds)
    (hr : ∀ vs H, Reps X.K H vs ds → ∀ Q : VK, (∀ v H', Same H H' → Rep X.K H' v d → Q v H') → r vs H Q) (hn : x ≠ "__name__" := by decide) (hdb : (x == ("__debug__" : Str)) = false := by decide)
    (he : starEach (e :: es) X.env = (false, eval e X.env) :: starEach es X.env := by rfl) (hpl : (backTo pos (starEach es X.env)).any (·.1) = false := by rfl) : Ev X ρ (.Call (.Name x p) (e :: es) [] pos) d :=
  ⟨fun σ H en Q q => we_of (pe_callTy hc hg hm hv pa_wa hn hdb he hpl) (ha.run σ H en _ fun vs H1 s1 r1 => hr vs H1 r1 Q fun v H2 s2 r2 => q v H2 (s1.trans s2) r2)⟩
theorem EvO.callB {x : Str} {id : String} {r : List V → Hp → VK → Prop} {ys : List D} (hc : CallR X (.builtin id) r) (hg : Gl X x) (hm : X.mg x = none) (hv : bootBuiltins x = some (.builtin id)) (ha : EvA X ρ (e :: es) ds)
    (hr : ∀ vs H, Reps X.K H vs ds → ∀ Q : VK, (∀ p ws, H p = none → Reps X.K H ws ys → Q (.ref p) (upd H p (.lst ws))) → r vs H Q) (hn : x ≠ "__name__" := by decide) (hdb : (x == ("__debug__" : Str)) = false := by decide)
    (he : starEach (e :: es) X.env = (false, eval e X.env) :: starEach es X.env := by rfl) (hpl : (backTo pos (starEach es X.env)).any (·.1) = false := by rfl) : EvO X ρ (.Call (.Name x p) (e :: es) [] pos) (oL ys) :=
  .newl fun σ H en Q q => we_of (pe_callB hc hg hm hv pa_wa hn hdb he hpl) (ha.run σ H en _ fun vs H1 s1 r1 => hr vs H1 r1 Q fun p ws hp r2 => q p ws H1 s1 hp r2)
theorem EvO.callTy {x : Str} {T : String} {r : List V → Hp → VK → Prop} {ys : List D} (hc : CallR X (.type T) r) (hg : Gl X x) (hm : X.mg x = none) (hv : bootBuiltins x = some (.type T)) (ha : EvA X ρ (e :: es) ds)
    (hr : ∀ vs H, Reps X.K H vs ds → ∀ Q : VK, (∀ p ws, H p = none → Reps X.K H ws ys → Q (.ref p) (upd H p (.lst ws))) → r vs H Q) (hn : x ≠ "__name__" := by decide) (hdb : (x == ("__debug__" : Str)) = false := by decide)
    (he : starEach (e :: es) X.env = (false, eval e X.env) :: starEach es X.env := by rfl) (hpl : (backTo pos (starEach es X.env)).any (·.1) = false := by rfl) : EvO X ρ (.Call (.Name x p) (e :: es) [] pos) (oL ys) :=
  .newl fun σ H en Q q => we_of (pe_callTy hc hg hm hv pa_wa hn hdb he hpl) (ha.run σ H en _ fun vs H1 s1 r1 => hr vs H1 r1 Q fun p ws hp r2 => q p ws H1 s1 hp r2)
theorem Reps.one {K : PySem.W.Frag} {H : Hp} {vs : List V} (r : Reps K H vs [d]) : ∃ v, vs = [v] ∧ Rep K H v d := by
  obtain ⟨v, ws, rfl, h, t⟩ := r.cons_split
  obtain rfl := t.nil_inv
  exact ⟨v, rfl, h⟩
theorem Reps.two {K : PySem.W.Frag} {H : Hp} {vs : List V} (r : Reps K H vs [d1, d2]) : ∃ v w, vs = [v, w] ∧ Rep K H v d1 ∧ Rep K H w d2 := by
  obtain ⟨v, ws, rfl, h, t⟩ := r.cons_split
  obtain ⟨w, rfl, h2⟩ := t.one
  exact ⟨v, w, rfl, h, h2⟩
theorem EvA.one (h : Ev X ρ e d) (hs : starEach [e] X.env = (false, eval e X.env) :: starEach [] X.env := by rfl) : EvA X ρ [e] [d] := .cons h .nil hs
theorem EvA.two (h : Ev X ρ e1 d1) (h2 : Ev X ρ e2 d2) (hs : starEach [e1, e2] X.env = (false, eval e1 X.env) :: starEach [e2] X.env := by rfl) (hs2 : starEach [e2] X.env = (false, eval e2 X.env) :: starEach [] X.env := by rfl) : EvA X ρ [e1, e2] [d1, d2] := .cons h (.cons h2 .nil hs2) hs
theorem Ev.lenL (hm : X.mg "len" = none) (h : Ev X ρ e (.lst ds)) (hg : Gl X "len" := by rfl) (hs : starEach [e] X.env = (false, eval e X.env) :: starEach [] X.env := by rfl) (hpl : (backTo pos (starEach [] X.env)).any (·.1) = false := by rfl) : Ev X ρ (.Call (.Name "len" p) [e] [] pos) (.int ds.length) :=
  Ev.callB call_len_seq hg hm boot_len (.one h hs) (fun vs H r0 Q q => by
    obtain ⟨v, rfl, r⟩ := r0.one
    obtain ⟨a, ws, rfl, h, rs⟩ := r.lst_inv
    exact ⟨a, ws, rfl, .inl (SqL.of h), by rw [rs.1]; exact q _ H (Same.refl H) (.int _)⟩) (by decide) (by decide) hs hpl
theorem Ev.lenRo (hm : X.mg "len" = none) (h : Ev X ρ e (.ro ds)) (hg : Gl X "len" := by rfl) (hs : starEach [e] X.env = (false, eval e X.env) :: starEach [] X.env := by rfl) (hpl : (backTo pos (starEach [] X.env)).any (·.1) = false := by rfl) : Ev X ρ (.Call (.Name "len" p) [e] [] pos) (.int ds.length) :=
  Ev.callB call_len_seq hg hm boot_len (.one h hs) (fun vs H r0 Q q => by
    obtain ⟨v, rfl, r⟩ := r0.one
    obtain ⟨a, ws, rfl, h, rs⟩ := r.ro_inv
    exact ⟨a, ws, rfl, .inl h, by rw [rs.1]; exact q _ H (Same.refl H) (.int _)⟩) (by decide) (by decide) hs hpl
theorem Ev.lenT (hm : X.mg "len" = none) (h : Ev X ρ e (.tup ds)) (hg : Gl X "len" := by rfl) (hs : starEach [e] X.env = (false, eval e X.env) :: starEach [] X.env := by rfl) (hpl : (backTo pos (starEach [] X.env)).any (·.1) = false := by rfl) : Ev X ρ (.Call (.Name "len" p) [e] [] pos) (.int ds.length) :=
  Ev.callB call_len_seq hg hm boot_len (.one h hs) (fun vs H r0 Q q => by
    obtain ⟨v, rfl, r⟩ := r0.one
    obtain ⟨a, ws, rfl, h, rs⟩ := r.tup_inv
    exact ⟨a, ws, rfl, .inr (SqT.of h), by rw [rs.1]; exact q _ H (Same.refl H) (.int _)⟩) (by decide) (by decide) hs hpl
theorem Ev.lenS {x : Str} (hm : X.mg "len" = none) (h : Ev X ρ e (.str x)) (hl : x.length ≤ sizeLine) (hg : Gl X "len" := by rfl) (hs : starEach [e] X.env = (false, eval e X.env) :: starEach [] X.env := by rfl) (hpl : (backTo pos (starEach [] X.env)).any (·.1) = false := by rfl) : Ev X ρ (.Call (.Name "len" p) [e] [] pos) (.int x.length) :=
  Ev.callB call_len_str hg hm boot_len (.one h hs) (fun vs H r0 Q q => by
    obtain ⟨v, rfl, r⟩ := r0.one
    obtain rfl := r.str_inv
    exact ⟨x, rfl, hl, q _ H (Same.refl H) (.int _)⟩) (by decide) (by decide) hs hpl
variable {i j : Int}
theorem Ev.min2 (hc : X.calm = true) (hm : X.mg "min" = none) (h : Ev X ρ e1 (.int i)) (h2 : Ev X ρ e2 (.int j)) (hg : Gl X "min" := by rfl) (hs : starEach [e1, e2] X.env = (false, eval e1 X.env) :: starEach [e2] X.env := by rfl) (hs2 : starEach [e2] X.env = (false, eval e2 X.env) :: starEach [] X.env := by rfl)
    (hpl : (backTo pos (starEach [e2] X.env)).any (·.1) = false := by rfl) : Ev X ρ (.Call (.Name "min" p) [e1, e2] [] pos) (.int (min i j)) :=
  Ev.callB (call_min2 hc) hg hm (by decide +kernel) (.two h h2 hs hs2) (fun vs H r0 Q q => by
    obtain ⟨v, w, rfl, r1, r2⟩ := r0.two
    obtain rfl := r1.int_inv
    obtain rfl := r2.int_inv
    refine ⟨i, j, rfl, ?_⟩
    rw [show (if j < i then j else i) = min i j by split <;> omega]
    exact q _ H (Same.refl H) (.int _)) (by decide) (by decide) hs hpl
theorem Ev.max2 (hc : X.calm = true) (hm : X.mg "max" = none) (h : Ev X ρ e1 (.int i)) (h2 : Ev X ρ e2 (.int j)) (hg : Gl X "max" := by rfl) (hs : starEach [e1, e2] X.env = (false, eval e1 X.env) :: starEach [e2] X.env := by rfl) (hs2 : starEach [e2] X.env = (false, eval e2 X.env) :: starEach [] X.env := by rfl)
    (hpl : (backTo pos (starEach [e2] X.env)).any (·.1) = false := by rfl) : Ev X ρ (.Call (.Name "max" p) [e1, e2] [] pos) (.int (max i j)) :=
  Ev.callB (call_max2 hc) hg hm (by decide +kernel) (.two h h2 hs hs2) (fun vs H r0 Q q => by
    obtain ⟨v, w, rfl, r1, r2⟩ := r0.two
    obtain rfl := r1.int_inv
    obtain rfl := r2.int_inv
    refine ⟨i, j, rfl, ?_⟩
    rw [show (if j > i then j else i) = max i j by split <;> omega]
    exact q _ H (Same.refl H) (.int _)) (by decide) (by decide) hs hpl
theorem Ev.abs (hm : X.mg "abs" = none) (h : Ev X ρ e (.int i)) (hg : Gl X "abs" := by rfl) (hs : starEach [e] X.env = (false, eval e X.env) :: starEach [] X.env := by rfl) (hpl : (backTo pos (starEach [] X.env)).any (·.1) = false := by rfl) : Ev X ρ (.Call (.Name "abs" p) [e] [] pos) (.int (if i < 0 then -i else i)) :=
  Ev.callB call_abs hg hm (by decide +kernel) (.one h hs) (fun vs H r0 Q q => by
    obtain ⟨v, rfl, r⟩ := r0.one
    obtain rfl := r.int_inv
    exact ⟨i, rfl, q _ H (Same.refl H) (.int _)⟩) (by decide) (by decide) hs hpl
def b2i (c : Bool) : Int := if c then 1 else 0
theorem Ev.intB {c : Bool} (hm : X.mg "int" = none) (h : Ev X ρ e (.bl c)) (hg : Gl X "int" := by rfl) (hs : starEach [e] X.env = (false, eval e X.env) :: starEach [] X.env := by rfl) (hpl : (backTo pos (starEach [] X.env)).any (·.1) = false := by rfl) : Ev X ρ (.Call (.Name "int" p) [e] [] pos) (.int (b2i c)) :=
  Ev.callTy call_int1 hg hm (by decide +kernel) (.one h hs) (fun vs H r0 Q q => by
    obtain ⟨v, rfl, r⟩ := r0.one
    obtain rfl := r.bl_inv
    exact .inr ⟨c, rfl, q _ H (Same.refl H) (.int _)⟩) (by decide) (by decide) hs hpl
theorem EvO.listL (hm : X.mg "list" = none) (h : Ev X ρ e (.lst ds)) (hg : Gl X "list" := by rfl) (hs : starEach [e] X.env = (false, eval e X.env) :: starEach [] X.env := by rfl) (hpl : (backTo pos (starEach [] X.env)).any (·.1) = false := by rfl) : EvO X ρ (.Call (.Name "list" p) [e] [] pos) (oL ds) :=
  EvO.callTy call_list_of hg hm (by decide +kernel) (.one h hs) (fun vs H r0 Q q => by
    obtain ⟨v, rfl, r⟩ := r0.one
    obtain ⟨a, ws, rfl, h, rs⟩ := r.lst_inv
    exact ⟨a, ws, rfl, .inl (SqL.of h), fun l hl => q l ws hl rs⟩) (by decide) (by decide) hs hpl
theorem Ev.allB {bs : List Bool} (hc : X.calm = true) (hm : X.mg "all" = none) (h : Ev X ρ e (.lst (bs.map D.bl))) (hg : Gl X "all" := by rfl) (hs : starEach [e] X.env = (false, eval e X.env) :: starEach [] X.env := by rfl) (hpl : (backTo pos (starEach [] X.env)).any (·.1) = false := by rfl) :
    Ev X ρ (.Call (.Name "all" p) [e] [] pos) (.bl (bs.all id)) :=
  Ev.callB (cr_all hc) hg hm (by decide +kernel) (.one h hs) (fun vs H r0 Q q => by
    obtain ⟨v, rfl, r⟩ := r0.one
    obtain ⟨a, ws, rfl, h, rs⟩ := r.lst_inv
    obtain rfl := rs.bls
    exact ⟨a, bs, rfl, SqL.of h, q _ H (Same.refl H) (.bl _)⟩) (by decide) (by decide) hs hpl
def sortI (ns : List Int) : List Int := ns.mergeSort (fun a b => decide (a ≤ b))
theorem perm_sorted_unique : ∀ {l m : List Int}, l.Perm m → l.Pairwise (· ≤ ·) → m.Pairwise (· ≤ ·) → l = m
  | [], m, hp, _, _ => (List.nil_perm.mp hp).symm
  | a :: l, [], hp, _, _ => by have := hp.length_eq; simp at this
  | a :: l, b :: m, hp, h1, h2 => by
    have e : a = b := by
      have ha : a ∈ b :: m := hp.subset (List.mem_cons_self ..)
      have hb : b ∈ a :: l := hp.symm.subset (List.mem_cons_self ..)
      rcases List.mem_cons.mp ha with e | ha
      · exact e
      · rcases List.mem_cons.mp hb with e | hb
        · exact e.symm
        · have q1 := (List.pairwise_cons.mp h2).1 a ha
          have q2 := (List.pairwise_cons.mp h1).1 b hb
          omega
    subst e
    rw [perm_sorted_unique (List.perm_cons a |>.mp hp) (List.pairwise_cons.mp h1).2 (List.pairwise_cons.mp h2).2]
theorem sortI_perm (ns : List Int) : (sortI ns).Perm ns := List.mergeSort_perm ns _
theorem sortI_pw (ns : List Int) : (sortI ns).Pairwise (· ≤ ·) := by
  have := List.pairwise_mergeSort (le := fun a b : Int => decide (a ≤ b)) (by intro a b c; simp; omega) (by intro a b; simp; omega) ns
  exact this.imp (by intro a b h; simpa using h)
theorem EvO.sortedI {ns : List Int} (hm : X.mg "sorted" = none) (h : Ev X ρ e (.lst (ns.map D.int))) (hg : Gl X "sorted" := by rfl) (hs : starEach [e] X.env = (false, eval e X.env) :: starEach [] X.env := by rfl) (hpl : (backTo pos (starEach [] X.env)).any (·.1) = false := by rfl) :
    EvO X ρ (.Call (.Name "sorted" p) [e] [] pos) (oL ((sortI ns).map D.int)) :=
  EvO.callB cr_sortedI hg hm (by decide +kernel) (.one h hs) (fun vs H r0 Q q => by
    obtain ⟨v, rfl, r⟩ := r0.one
    obtain ⟨a, ws, rfl, h, rs⟩ := r.lst_inv
    obtain rfl := rs.ints
    refine ⟨a, ns, rfl, SqL.of h, fun ns' p h1 h2 hp => ?_⟩
    obtain rfl : ns' = sortI ns := perm_sorted_unique (h1.trans (sortI_perm ns).symm) h2 (sortI_pw ns)
    exact q p _ hp (reps_ints _)) (by decide) (by decide) hs hpl
/-- isinstance -/
def tyD : D → String
  | .non => "NoneType" | .bl _ => "bool" | .int _ => "int" | .str _ => "str" | .lst _ => "list" | .tup _ => "tuple" | .ro _ => "list" | .dk _ => "dict" | .ob _ _ _ => "?" | .dd _ _ => "dict" | .raw _ => "?"
def D.isOb : D → Bool
  | .ob _ _ _ => true
  | .raw _ => true
  | _ => false
theorem Rep.ty {K : PySem.W.Frag} {H : Hp} {v : V} (r : Rep K H v d) (hob : d.isOb = false) : TyX K H v (.type (tyD d)) := by
  cases r with
  | non => exact .base .non
  | bl b => exact .base (.bl b)
  | int i => exact .base (.int i)
  | str s => exact .base (.str s)
  | lst h1 h2 h3 => exact .base (.lst h1)
  | tup h1 h2 h3 => exact .base (.tup h1)
  | ro h1 h2 h3 =>
    rcases h1 with (h | ⟨o, h⟩) | ⟨o, its, n, h, hc, _⟩
    · exact .base (.lst h)
    · exact .base (.frz h)
    · exact .kList h hc
  | dk h1 h2 => exact .base (.dK h1)
  | ob h1 h2 h3 h6 h4 h5 => cases hob
  | dd h1 h2 h3 h4 h5 => exact .base (.dK h1)
  | raw a => cases hob
theorem Ev.isi {T : Str} {T' : String} {c : Bool} {q1 : Pos} (hm : X.mg "isinstance" = none) (hmT : X.mg T = none) (h : Ev X ρ e d) (hk : kitB (tyD d) T' = some c := by decide +kernel) (hob : d.isOb = false := by rfl) (hb : bootBuiltins T = some (.type T') := by decide +kernel)
    (hg : Gl X "isinstance" := by rfl) (hgT : Gl X T := by rfl) (hn : T ≠ "__name__" := by decide) (hd : (T == ("__debug__" : Str)) = false := by decide)
    (hs : starEach [e, .Name T q1] X.env = (false, eval e X.env) :: starEach [.Name T q1] X.env := by rfl) (hs2 : starEach [.Name T q1] X.env = (false, eval (.Name T q1) X.env) :: starEach [] X.env := by rfl)
    (hpl : (backTo pos (starEach [.Name T q1] X.env)).any (·.1) = false := by rfl) : Ev X ρ (.Call (.Name "isinstance" p) [e, .Name T q1] [] pos) (.bl c) :=
  ⟨fun σ H en Q q => we_of (pe_callB call_isi hg hm (by decide +kernel) (pa_cons pe_we (pa_cons (pe_bltn (v := .ty T') hgT hmT hb rfl hn hd) pa_nil hs2) hs) (by decide) (by decide) hs hpl)
    (h.run σ H en _ fun v H1 s1 r1 => ⟨v, .ty T', _, _, c, rfl, .ty T', r1.ty hob, kit_ty hk, q _ H1 s1 (.bl c)⟩)⟩

/-! ### what is walked -/
def WI (X : Cx) (tg iter : Expr) (σ : L2.St) (H : Hp) (R : It → Hp → Prop) : Prop :=
  ∀ (pins : List (Addr × Obj)) (s : Shared), Inv X pins σ H s → wpAny (model X.prog X.w) X.A (eval iter X.env) (fun v s1 => wpAny (model X.prog X.w) X.A (pyIter v) (PIE X pins σ tg R) X.xe s1) X.xe s
variable {tg iter : Expr} {σ : L2.St} {H : Hp} {R : It → Hp → Prop}
theorem pi_wi : PI X tg iter (WI X tg iter) := ⟨fun pins s σ H R I h => h pins s I⟩
theorem wi_of {t : TI} (h : PI X tg iter t) (q : t σ H R) : WI X tg iter σ H R := fun pins s I => h.run pins s σ H R I q
/-- the items of a walk from the heap H on -/
structure Src (K : PySem.W.Frag) (H : Hp) (J : It) (items : List D) : Prop where
  go : ∃ (G : Hp → Prop) (Y : Nat → Hp → V → Hp → Prop), Walk J items.length G Y ∧ (∀ H', Same H H' → G H') ∧
    ∀ (i : Nat) (H1 : Hp) (x : V) (H2 : Hp), i < items.length → Same H H1 → Y i H1 x H2 → Same H1 H2 ∧ ∃ d, items[i]? = some d ∧ ∀ as : List Addr, (∀ a ∈ as, H a = none ∧ H1 a ≠ none) → Rep K (mask H2 as) x d
structure EvI (X : Cx) (ρ : Rho) (tg iter : Expr) (items : List D) : Prop where
  run : ∀ (σ : L2.St) (H : Hp), EnvS X.K σ H ρ → ∀ R : It → Hp → Prop, (∀ J H', Same H H' → Src X.K H' J items → R J H') → WI X tg iter σ H R
theorem EvI.is {i1 i2 : List D} (h : EvI X ρ tg iter i1) (e : i1 = i2) : EvI X ρ tg iter i2 := e ▸ h
theorem src_seq {K : PySem.W.Frag} {J : It} {vs : List V} {G : Hp → Prop} (w : Walk J vs.length G (YAt vs)) (r : Reps K H vs ds) (hG : ∀ H', Same H H' → G H') : Src K H J ds :=
  ⟨G, YAt vs, by rw [← r.1]; exact w, hG, fun i H1 x H2 hi s y => by
    obtain ⟨rfl, y⟩ := y
    obtain ⟨d, hd, rd⟩ := r.getV y
    exact ⟨Same.refl _, d, hd, fun as ha => rd.mono (mask_same_of s fun a h => (ha a h).1)⟩⟩
theorem EvI.list (h : Ev X ρ iter (.lst ds)) : EvI X ρ tg iter ds :=
  ⟨fun σ H en R q => wi_of (pi_list pe_we) (h.run σ H en _ fun v H1 s1 r1 => by
    obtain ⟨a, vs, rfl, h1, rs⟩ := r1.lst_inv
    exact ⟨a, rfl, ⟨vs, SqL.of h1⟩, q _ H1 s1 (src_seq walk_list rs fun H' s => s.seq (SqL.of h1))⟩)⟩
theorem Same.seqT {K : PySem.W.Frag} {H H' : Hp} {a : Addr} {xs : List V} (e : Same H H') (h : SqT K H a xs) : SqT K H' a xs := by
  rcases h with (h | ⟨o, h⟩) | h
  · exact .inl (.inl (e _ _ h))
  · exact .inl (.inr ⟨o, e _ _ h⟩)
  · exact .inr h
theorem EvI.tup (h : Ev X ρ iter (.tup ds)) : EvI X ρ tg iter ds :=
  ⟨fun σ H en R q => wi_of (pi_tup pe_we) (h.run σ H en _ fun v H1 s1 r1 => by
    obtain ⟨a, vs, rfl, h1, rs⟩ := r1.tup_inv
    exact ⟨a, rfl, ⟨vs, SqT.of h1⟩, q _ H1 s1 (src_seq walk_tup rs fun H' s => Same.seqT s (SqT.of h1))⟩)⟩
def rangeD (lo : Int) (n : Nat) : List D := (List.range n).map fun (k : Nat) => D.int (lo + (k : Int))
theorem src_range {K : PySem.W.Frag} {lo : Int} {n : Nat} : Src K H (Itr lo n) (rangeD lo n) :=
  ⟨fun _ => True, YFn fun i => .int (lo + i), by have := walk_range (lo := lo) (n := n); unfold rangeD; simpa using this, fun _ _ => trivial, fun i H1 x H2 hi s y => by
    obtain ⟨rfl, rfl⟩ := y
    have hi' : i < n := by unfold rangeD at hi; simpa using hi
    exact ⟨Same.refl _, .int (lo + i), by unfold rangeD; simp [hi'], fun _ _ => .int _⟩⟩
theorem EvI.range1 (hm : X.mg "range" = none) (h : Ev X ρ a (.int j)) (hj : -(2 ^ 62) ≤ j ∧ j < 2 ^ 62) (hg : Gl X "range" := by rfl) (hs : starEach [a] X.env = [(false, eval a X.env)] := by rfl) : EvI X ρ tg (.Call (.Name "range" p) [a] [] pos) (rangeD 0 j.toNat) :=
  ⟨fun σ H en R q => wi_of (pi_range1 hg hm pa_wa hs) ((EvA.one h (by rw [hs]; rfl)).run σ H en _ fun vs H1 s1 r1 => by
    obtain ⟨v, rfl, r⟩ := r1.one
    obtain rfl := r.int_inv
    exact ⟨j, rfl, hj.1, hj.2, q _ H1 s1 src_range⟩)⟩
theorem EvI.range2 (hm : X.mg "range" = none) (h : Ev X ρ a (.int i)) (h2 : Ev X ρ b (.int j)) (hi : (-(2 ^ 62) ≤ i ∧ i < 2 ^ 62) ∧ -(2 ^ 62) ≤ j ∧ j < 2 ^ 62) (hg : Gl X "range" := by rfl)
    (hs : starEach [a, b] X.env = [(false, eval a X.env), (false, eval b X.env)] := by rfl) (hs2 : starEach [b] X.env = [(false, eval b X.env)] := by rfl) : EvI X ρ tg (.Call (.Name "range" p) [a, b] [] pos) (rangeD i (j - i).toNat) :=
  ⟨fun σ H en R q => wi_of (pi_range2 hg hm pa_wa hs hs2) ((EvA.two h h2 (by rw [hs, hs2]) (by rw [hs2]; rfl)).run σ H en _ fun vs H1 s1 r1 => by
    obtain ⟨v, w, rfl, r, r'⟩ := r1.two
    obtain rfl := r.int_inv
    obtain rfl := r'.int_inv
    exact ⟨i, j, rfl, ⟨hi.1.1, hi.1.2, hi.2.1, hi.2.2⟩, q _ H1 s1 src_range⟩)⟩
def enumD (ds : List D) : List D := ds.zipIdx.map fun q => D.tup [.int (q.2 : Int), q.1]
theorem enumD_get (ds : List D) (i : Nat) : (enumD ds)[i]? = ds[i]?.map fun d => D.tup [.int (i : Int), d] := by
  unfold enumD
  rw [List.getElem?_map, List.getElem?_zipIdx]
  cases ds[i]? <;> simp
theorem EvI.enum {elts : List Expr} {kk : Nat} {tpos : Pos} (hm : X.mg "enumerate" = none) (h : Ev X ρ e (.lst ds)) (hg : Gl X "enumerate" := by rfl) (hs : starEach [e] X.env = [(false, eval e X.env)] := by rfl) :
    EvI X ρ (.Tuple elts kk tpos) (.Call (.Name "enumerate" p) [e] [] pos) (enumD ds) :=
  ⟨fun σ H en R q => wi_of (pi_enum hg hm pa_wa hs) ((EvA.one h (by rw [hs]; rfl)).run σ H en _ fun vs H1 s1 r1 => by
    obtain ⟨v, rfl, r⟩ := r1.one
    obtain ⟨a, ws, rfl, h1, rs⟩ := r.lst_inv
    refine ⟨a, ws, rfl, SqL.of h1, q _ H1 s1 ⟨fun H' => SqL X.K H' a ws, YPair (fun i => some (.int (i : Nat))) (fun i => ws[i]?), ?_, fun H' s => s.seq (SqL.of h1), fun i H2 x H3 hi s y => ?_⟩⟩
    · have := walk_enum (K := X.K) (a := a) (xs := ws)
      rw [show (enumD ds).length = ws.length by unfold enumD; simp [rs.1]]
      exact this
    · obtain ⟨T, x1, y1, rfl, hT, rfl, e1, e2⟩ := y
      obtain ⟨d, hd, rd⟩ := rs.getV e2
      cases e1
      refine ⟨Same.new hT, D.tup [.int (i : Int), d], by rw [enumD_get, hd]; rfl, fun as ha => ?_⟩
      have sm : Same H1 (mask (upd H2 T (.tup [V.int (i : Int), y1])) as) := mask_same_of (s.trans (Same.new hT)) fun a h => (ha a h).1
      exact .tup' (by rw [mask_out (fun z => (ha T z).2 hT)]; exact upd_same) (.cons (.int _) (.cons (rd.mono sm) .nil)))⟩
def zipD (xs ys : List D) : List D := (xs.zip ys).map fun q => D.tup [q.1, q.2]
theorem EvI.zip {xs ys : List D} {elts : List Expr} {kk : Nat} {tpos : Pos} (hm : X.mg "zip" = none) (h : Ev X ρ e1 (.lst xs)) (h2 : Ev X ρ e2 (.lst ys)) (hg : Gl X "zip" := by rfl)
    (hs : starEach [e1, e2] X.env = [(false, eval e1 X.env), (false, eval e2 X.env)] := by rfl) (hs2 : starEach [e2] X.env = [(false, eval e2 X.env)] := by rfl) :
    EvI X ρ (.Tuple elts kk tpos) (.Call (.Name "zip" p) [e1, e2] [] pos) (zipD xs ys) :=
  ⟨fun σ H en R q => wi_of (pi_zip hg hm pa_wa (by rw [hs, hs2]) (by rw [hs2]; rfl)) ((EvA.two h h2 (by rw [hs, hs2]) (by rw [hs2]; rfl)).run σ H en _ fun vs H1 s1 r1 => by
    obtain ⟨v, w, rfl, r, r'⟩ := r1.two
    obtain ⟨a, ws, rfl, h1, rs⟩ := r.lst_inv
    obtain ⟨b, us, rfl, h2, rt⟩ := r'.lst_inv
    refine ⟨a, b, ws, us, rfl, SqL.of h1, SqL.of h2, q _ H1 s1 ⟨fun H' => SqL X.K H' a ws ∧ SqL X.K H' b us, YPair (fun i => ws[i]?) (fun i => us[i]?), ?_, fun H' s => ⟨s.seq (SqL.of h1), s.seq (SqL.of h2)⟩, fun i H2 x H3 hi s y => ?_⟩⟩
    · exact walk_zip (K := X.K) (a := a) (b := b) (xs := ws) (ys := us) (by unfold zipD; simp [rs.1, rt.1])
    · obtain ⟨T, x1, y1, rfl, hT, rfl, e1, e2⟩ := y
      obtain ⟨d, hd, rd⟩ := rs.getV e1
      obtain ⟨d', hd', rd'⟩ := rt.getV e2
      refine ⟨Same.new hT, D.tup [d, d'], ?_, fun as ha => ?_⟩
      rotate_left
      · have sm : Same H1 (mask (upd H2 T (.tup [x1, y1])) as) := mask_same_of (s.trans (Same.new hT)) fun a h => (ha a h).1
        exact .tup' (by rw [mask_out (fun z => (ha T z).2 hT)]; exact upd_same) (.cons (rd.mono sm) (.cons (rd'.mono sm) .nil))
      · unfold zipD
        rw [List.getElem?_map, (List.getElem?_zip_eq_some (z := (d, d'))).mpr ⟨hd, hd'⟩]
        rfl)⟩

/-! ### targets -/
def WG (X : Cx) (tg : Expr) (v : V) (σ : L2.St) (H : Hp) (Q : L2.St → Hp → Prop) : Prop :=
  ∀ (pins : List (Addr × Obj)) (s : Shared) (u : Value), Inv X pins σ H s → RelV v u → wpAny (model X.prog X.w) X.A (assign tg X.env u) (fun _ s' => ∃ σ' H', Inv X pins σ' H' s' ∧ Q σ' H') X.xe s
theorem pg_wg : PG X tg (WG X tg) := ⟨fun pins s σ H v u Q I r h => h pins s u I r⟩
theorem wg_of {t : TG} {v : V} {Q : L2.St → Hp → Prop} (h : PG X tg t) (q : t v σ H Q) : WG X tg v σ H Q := fun pins s u I r => h.run pins s σ H v u Q I r q
def setAll (σ : L2.St) : List Nat → List V → L2.St
  | i :: is, v :: vs => setAll (σ.set i (some v)) is vs
  | _, _ => σ
def setD (ρ : Rho) : List Nat → List D → Rho
  | i :: is, d :: ds => setD (ρ.set i (some d)) is ds
  | _, _ => ρ
theorem EnvS.setAll' {K : PySem.W.Frag} : ∀ {is : List Nat} {vs : List V} {ds : List D} {σ : L2.St} {ρ : Rho}, EnvS K σ H ρ → Reps K H vs ds → EnvS K (setAll σ is vs) H (setD ρ is ds)
  | [], vs, ds, σ, ρ, en, r => by unfold VL.setAll setD; exact en
  | i :: is, [], [], σ, ρ, en, r => by unfold VL.setAll setD; exact en
  | i :: is, [], d :: ds, σ, ρ, en, r => by have := r.1; simp at this
  | i :: is, v :: vs, [], σ, ρ, en, r => by have := r.1; simp at this
  | i :: is, v :: vs, d :: ds, σ, ρ, en, r => by
    unfold VL.setAll setD
    exact EnvS.setAll' (en.set i r.cons_inv.1) r.cons_inv.2
/-- binding d at the target stores ds at the places is -/
structure EvG (X : Cx) (tg : Expr) (d : D) (is : List Nat) (ds : List D) : Prop where
  len : is.length = ds.length
  run : ∀ (σ : L2.St) (H M : Hp) (v : V), Same M H → Rep X.K M v d → ∀ Q : L2.St → Hp → Prop, (∀ vs, Reps X.K M vs ds → Q (setAll σ is vs) H) → WG X tg v σ H Q
theorem EvG.name {x : Str} (i : Nat) (hN : X.N.Nodup) (hi : X.N[i]? = some x := by rfl) (hx : Loc X.env.scope x := by first | exact Or.inl rfl | exact Or.inr rfl) (hf : X.fn x = true ∨ X.env.scope.names.lookup x = some .local := by first | exact .inl rfl | exact .inr rfl) : EvG X (.Name x pos) d [i] [d] :=
  ⟨rfl, fun σ H M v sm r Q q => wg_of (pg_name hN hi hx hf) (q [v] (.cons r .nil))⟩
/-- two, three or four names -/
theorem EvG.two {x y : Str} (i j : Nat) {k : Nat} {p1 p2 : Pos} (hc : X.calm = true) (hN : X.N.Nodup) (hi : X.N[i]? = some x := by rfl) (hj : X.N[j]? = some y := by rfl) (hx : Loc X.env.scope x := by first | exact Or.inl rfl | exact Or.inr rfl) (hy : Loc X.env.scope y := by first | exact Or.inl rfl | exact Or.inr rfl)
    (hfx : X.fn x = true ∨ X.env.scope.names.lookup x = some .local := by first | exact .inl rfl | exact .inr rfl) (hfy : X.fn y = true ∨ X.env.scope.names.lookup y = some .local := by first | exact .inl rfl | exact .inr rfl)
    (h1 : (assignEach [.Name x p1, .Name y p2] X.env).map (·.2) = assign (.Name x p1) X.env :: (assignEach [.Name y p2] X.env).map (·.2) := by rfl) (h2 : (assignEach [.Name y p2] X.env).map (·.2) = assign (.Name y p2) X.env :: (assignEach [] X.env).map (·.2) := by rfl)
    (hn : (assignEach [.Name x p1, .Name y p2] X.env).length = 2 := by rfl) (hst : (assignEach [.Name x p1, .Name y p2] X.env).findIdx? (·.1) = none := by rfl) : EvG X (.Tuple [.Name x p1, .Name y p2] k pos) (.tup [d1, d2]) [i, j] [d1, d2] :=
  ⟨rfl, fun σ H M v sm r Q q => wg_of (pg_tup hc (pgs_cons (pg_name hN hi hx hfx) (pgs_cons (pg_name hN hj hy hfy) pgs_nil h2) h1) hn hst) (by
    obtain ⟨a, ws, rfl, h, rs⟩ := r.tup_inv
    obtain ⟨v, w, rfl, r1, r2⟩ := rs.two
    exact ⟨a, _, rfl, SqT.of (sm _ _ h), rfl, v, [w], rfl, w, [], rfl, rfl, q [v, w] rs⟩)⟩

/-! ### comprehensions -/
def wipeD (ρ : Rho) : List Nat → Rho
  | [] => ρ
  | i :: is => (wipeD ρ is).set i none
theorem EnvS.wipe {K : PySem.W.Frag} {σ : L2.St} {ρ : Rho} (en : EnvS K σ H ρ) : ∀ is : List Nat, EnvS K (wipe σ is) H (wipeD ρ is)
  | [] => en
  | i :: is => by
    unfold L2.wipe wipeD
    exact (EnvS.wipe en is).unset i
theorem wipe_get {σ : L2.St} : ∀ {vs : List Nat} {i : Nat}, i ∈ vs → i < σ.length → (wipe σ vs)[i]? = some none
  | v :: vs, i, h, hl => by
    unfold wipe
    by_cases e : v = i
    · subst e
      rw [List.getElem?_set_self (by rw [wipe_length]; exact hl)]
    · rw [List.getElem?_set_ne e]
      exact wipe_get ((List.mem_cons.mp h).resolve_left fun z => e z.symm) hl
theorem wipe_out {σ : L2.St} : ∀ {vs : List Nat} {i : Nat}, i ∉ vs → (wipe σ vs)[i]? = σ[i]?
  | [], i, h => rfl
  | v :: vs, i, h => by
    unfold wipe
    rw [List.getElem?_set_ne (fun z => h (by simp [z]))]
    exact wipe_out fun z => h (List.mem_cons_of_mem _ z)
theorem wipe_ext {σ τ : L2.St} {vs : List Nat} (hl : σ.length = τ.length) (h : ∀ i, i ∉ vs → σ[i]? = τ[i]?) : wipe σ vs = wipe τ vs := by
  apply List.ext_getElem?
  intro i
  by_cases hi : i ∈ vs
  · by_cases hlt : i < σ.length
    · rw [wipe_get hi hlt, wipe_get hi (by rw [← hl]; exact hlt)]
    · rw [List.getElem?_eq_none (by rw [wipe_length]; omega), List.getElem?_eq_none (by rw [wipe_length]; omega)]
  · rw [wipe_out hi, wipe_out hi, h i hi]
theorem setAll_length : ∀ {is : List Nat} {vs : List V} {σ : L2.St}, (setAll σ is vs).length = σ.length
  | [], vs, σ => by unfold setAll; rfl
  | i :: is, [], σ => by unfold setAll; rfl
  | i :: is, v :: vs, σ => by unfold setAll; rw [setAll_length]; simp
theorem setAll_out : ∀ {is : List Nat} {vs : List V} {σ : L2.St} {j : Nat}, j ∉ is → (setAll σ is vs)[j]? = σ[j]?
  | [], vs, σ, j, h => by unfold setAll; rfl
  | i :: is, [], σ, j, h => by unfold setAll; rfl
  | i :: is, v :: vs, σ, j, h => by
    unfold setAll
    rw [setAll_out (fun z => h (List.mem_cons_of_mem _ z)), List.getElem?_set_ne (fun z => h (by simp [z]))]
theorem wipe_setAll {σ : L2.St} {vs is : List Nat} {ws : List V} (h : ∀ i ∈ is, i ∈ vs) : wipe (setAll (wipe σ vs) is ws) vs = wipe σ vs :=
  wipe_ext (by rw [setAll_length, wipe_length]) fun i hi => by rw [setAll_out (fun z => hi (h i z)), wipe_out hi]
end
end VL
set_option Elab.async false
set_option linter.all false
set_option maxRecDepth 100000
set_option maxHeartbeats 1000000
/-! value layer, part 4: comprehensions, calls of defs -/
namespace VL
open PySem L2
section
variable {K : PySem.W.Frag} {H H' S S' : Hp} {v : V} {o : O} {A : List Addr} {vs : List V} {os : List O} {As : List (List Addr)}
theorem RepOs.snoc (r : RepOs K H S vs os As) (h : RepO K H S v o A) : RepOs K H S (vs ++ [v]) (os ++ [o]) (As ++ [A]) := by
  refine ⟨by simp [r.1], by simp [r.2.1], fun i w p B h1 h2 h3 => ?_⟩
  have l1 := r.1
  have l2 := r.2.1
  by_cases hi : i < os.length
  · rw [List.getElem?_append_left (by omega)] at h1 h2 h3
    exact r.2.2 i w p B h1 h2 h3
  · rw [List.getElem?_append_right (by omega)] at h1 h2 h3
    have hl := (List.getElem?_eq_some_iff.mp h2).1
    simp at hl
    have e : i = os.length := by omega
    subst e
    rw [l1] at h1
    rw [l2] at h3
    simp at h1 h2 h3
    subst h1; subst h2; subst h3
    exact h
end
/-- the tests of a clause -/
def WTs (X : Cx) (ifs : List Expr) (σ : L2.St) (H : Hp) (Q : Bool → Hp → Prop) : Prop :=
  ∀ (pins : List (Addr × Obj)) (s : Shared), Inv X pins σ H s →
    wpAny (model X.prog X.w) X.A (forIn ifs true fun c r => if r = true then do let ok ← isTrue c X.env (eval c X.env); pure (ForInStep.yield ok) else pure (ForInStep.yield r)) (TP X pins σ Q) X.xe s
theorem pts_wts {X : Cx} {ifs : List Expr} : PTs X ifs (WTs X ifs) := ⟨fun pins s σ H Q I h => h pins s I⟩
theorem wts_of {X : Cx} {ifs : List Expr} {t : TT} {σ : L2.St} {H : Hp} {Q : Bool → Hp → Prop} (h : PTs X ifs t) (q : t σ H Q) : WTs X ifs σ H Q := fun pins s I => h.run pins s σ H Q I q
structure EvTs (X : Cx) (ρ : Rho) (ifs : List Expr) (b : Bool) : Prop where
  run : ∀ (σ : L2.St) (H : Hp), EnvS X.K σ H ρ → ∀ Q : Bool → Hp → Prop, (∀ H', Same H H' → Q b H') → WTs X ifs σ H Q
theorem EvTs.nil {X : Cx} {ρ : Rho} : EvTs X ρ [] true := ⟨fun σ H en Q q => wts_of pts_nil (q H (Same.refl H))⟩
theorem EvTs.one {X : Cx} {ρ : Rho} {c : Expr} {b : Bool} (h : EvT X ρ c b) : EvTs X ρ [c] b := ⟨fun σ H en Q q => wts_of (pts_one pt_wt) (h.run σ H en Q q)⟩

theorem join_some {M H : Hp} {as : List Addr} {b : Addr} (h : b ∈ as) : join M H as b = H b := join_in h
def blkG (X : Cx) (scope : Scope) (tg : Expr) : TG := fun v σ' H' Q' => ∀ (s : Shared) (H0 : Hp) (C : Addr) (cl : List (Str × Addr)) (fp : List Addr), WG (X.blk s H0 scope (compEnvC scope cl C X.env) fp) tg v σ' H' Q'
def blkT (X : Cx) (scope : Scope) (ifs : List Expr) : TT := fun σ' H' Q' => ∀ (s : Shared) (H0 : Hp) (C : Addr) (cl : List (Str × Addr)) (fp : List Addr), WTs (X.blk s H0 scope (compEnvC scope cl C X.env) fp) ifs σ' H' Q'
def blkE (X : Cx) (scope : Scope) (elt : Expr) : TE := fun σ' H' Q' => ∀ (s : Shared) (H0 : Hp) (C : Addr) (cl : List (Str × Addr)) (fp : List Addr), WE (X.blk s H0 scope (compEnvC scope cl C X.env) fp) elt σ' H' Q'
section
variable {X : Cx} {ρ : Rho} {pos : Pos}
theorem compF_read {α : Type} {elt tg iter : Expr} {ifs : List Expr} {scope : Scope} {own : List (Str × Nat)} (L : List α) (h : α → D) (f : α → Bool) (g : α → O) (is : List Nat) (bs : α → List D)
    (hi : EvI X ρ tg iter (L.map h)) (his : ∀ i ∈ is, i ∈ own.map (·.2))
    (hg : ∀ x ∈ L, ∀ (s : Shared) (H : Hp) (C : Addr) (cl : List (Str × Addr)) (fp : List Addr), EvG (X.blk s H scope (compEnvC scope cl C X.env) fp) tg (h x) is (bs x))
    (ht : ∀ x ∈ L, ∀ (s : Shared) (H : Hp) (C : Addr) (cl : List (Str × Addr)) (fp : List Addr), EvTs (X.blk s H scope (compEnvC scope cl C X.env) fp) (setD (wipeD ρ (own.map (·.2))) is (bs x)) ifs (f x))
    (he : ∀ x ∈ L, f x = true → ∀ (s : Shared) (H : Hp) (C : Addr) (cl : List (Str × Addr)) (fp : List Addr), EvO (X.blk s H scope (compEnvC scope cl C X.env) fp) (setD (wipeD ρ (own.map (·.2))) is (bs x)) elt (g x))
    (hl : L.length < sizeLine) (σ : L2.St) (H : Hp) (en : EnvS X.K σ H ρ) (Q : VK) (q : ∀ v H' A, Same H H' → (∀ a ∈ A, H a = none) → A.Nodup → RepO X.K H' (mask H' A) v (.ls ((L.filter f).map g)) A → Q v H') :
    tLc (WI X tg iter) (blkG X scope tg) (blkT X scope ifs) (blkE X scope elt) (own.map (·.2)) σ H Q := by
  refine hi.run σ H en _ fun J H1 s1 src => ?_
  intro Dl hD
  obtain ⟨G, Y, wk, hG, hY⟩ := src.go
  rw [List.length_map] at wk hY
  let Pv : Nat → Hp → Prop := fun i H' => ∃ (acc : List V) (As : List (List Addr)), H' Dl = some (.lst acc) ∧ Same H1 H' ∧ (Dl :: As.flatten).Nodup ∧ (∀ a ∈ As.flatten, H1 a = none) ∧
    RepOs X.K H' (mask H' (Dl :: As.flatten)) acc (((L.take i).filter f).map g) As
  refine lc_it (g := blkG X scope tg) (tt := blkT X scope ifs) (te := blkE X scope elt) (vs := own.map (·.2)) (σ := σ) (H1 := H1) (D := Dl) (Qd := fun H => Q (.ref Dl) H) wk Pv ?_ ?_ ?_ ?_
  · exact ⟨[], [], upd_same, Same.new hD, by simp, by simp, by simpa using RepOs.nil⟩
  · rintro i H' _ ⟨acc, As, _, s, _⟩
    exact hG H' s
  · rintro i x H2 H3 hlt ⟨acc, As, hacc, s2, nd, fr, ro⟩ y
    have hlt' : i < L.length := hlt
    obtain ⟨s3, d, hd, rd⟩ := hY i H2 x H3 hlt s2 y
    rw [List.getElem?_map, List.getElem?_eq_getElem hlt'] at hd
    obtain rfl := Option.some.inj hd
    generalize hx : L[i] = z at rd
    have hz : z ∈ L := by rw [← hx]; exact List.getElem_mem hlt'
    have fr1 : ∀ a ∈ Dl :: As.flatten, H1 a = none := fun a ha => (List.mem_cons.mp ha).elim (fun e => e ▸ hD) (fr a)
    have lst2 : Hid H2 (Dl :: As.flatten) := Hid.cons hacc ro.cells
    have rd' : Rep X.K (mask H3 (Dl :: As.flatten)) x (h z) := rd _ fun a ha => ⟨fr1 a ha, fun e => lst2.some ha e⟩
    have s13 : Same H1 H3 := s2.trans s3
    have enM : EnvS X.K (wipe σ (own.map (·.2))) (mask H3 (Dl :: As.flatten)) (wipeD ρ (own.map (·.2))) := ((en.mono s1).mono (mask_same_of s13 fr1)).wipe _
    intro s H0 C cl fp
    refine (hg z hz s H0 C cl fp).run (wipe σ (own.map (·.2))) H3 _ x mask_same rd' _ fun ws rws => ?_
    refine ⟨wipe_setAll his, ?_⟩
    have en2 : EnvS X.K (setAll (wipe σ (own.map (·.2))) is ws) (mask H3 (Dl :: As.flatten)) (setD (wipeD ρ (own.map (·.2))) is (bs z)) := enM.setAll' rws
    intro s' H0' C' cl' fp'
    refine (ht z hz s' H0' C' cl' fp').run _ H3 (en2.mono mask_same) _ fun H5 s5 => ?_
    have s25 : Same H2 H5 := s3.trans s5
    have s15 : Same H1 H5 := s2.trans s25
    have tk : (L.take (i + 1)).filter f = (L.take i).filter f ++ (if f z = true then [z] else []) := by
      rw [List.take_add_one, List.filter_append, List.getElem?_eq_getElem hlt', hx]
      by_cases hf : f z = true <;> simp [hf]
    have ro5 : RepOs X.K H5 (mask H5 (Dl :: As.flatten)) acc (((L.take i).filter f).map g) As :=
      ro.keep (fun a ha u e => s25 a u e) fun b u e => by
        obtain ⟨e1, e2⟩ := mask_some e
        rw [mask_out e2]
        exact s25 b u e1
    by_cases hf : f z = true
    · rw [hf]
      refine iteT ?_
      intro s6 H06 C6 cl6 fp6
      have lst5 : Hid H5 (Dl :: As.flatten) := lst2.up fun a _ u e => s25 a u e
      have en5 : EnvS X.K (setAll (wipe σ (own.map (·.2))) is ws) (mask H5 (Dl :: As.flatten)) (setD (wipeD ρ (own.map (·.2))) is (bs z)) := en2.mono fun b u e => by
        obtain ⟨e1, e2⟩ := mask_some e
        rw [mask_out e2]
        exact s5 b u e1
      refine (WE.frame lst5 ((he z hz hf s6 H06 C6 cl6 fp6).run _ (mask H5 (Dl :: As.flatten)) en5 (fun v M => ∃ A, Same (mask H5 (Dl :: As.flatten)) M ∧ (∀ a ∈ A, mask H5 (Dl :: As.flatten) a = none) ∧ A.Nodup ∧ RepO X.K M (mask M A) v (g z) A) fun v M A q1 q2 q3 q4 => ⟨A, q1, q2, q3, q4⟩)).mono ?_
      rintro v H6 ⟨M, ⟨A, q1, q2, q3, q4⟩, rfl, q5, q6⟩
      have hD6 : join M H5 (Dl :: As.flatten) Dl = some (.lst acc) := by
        rw [join_in (List.mem_cons_self ..)]
        exact s25 _ _ hacc
      have nA : ∀ a ∈ A, a ∉ Dl :: As.flatten := fun a ha z => by
        exact q4.cells.some ha (q5 a z)
      have hlen : acc.length < sizeLine := by
        rw [ro.1, List.length_map]
        have h1 := List.length_filter_le f (L.take i)
        have h2 : (L.take i).length ≤ L.length := by rw [List.length_take]; omega
        omega
      refine ⟨acc, hD6, hlen, acc ++ [v], As ++ [A], upd_same, ?_, ?_, ?_, ?_⟩
      · intro b u e
        have hb : b ∉ Dl :: As.flatten := fun z => by rw [fr1 b z] at e; cases e
        rw [upd_ne (fun z => hb (by simp [z])), join_out hb]
        refine q1 b u ?_
        rw [mask_out hb]
        exact s15 b u e
      · rw [List.flatten_append, List.flatten_singleton]
        rw [← List.cons_append]
        refine List.nodup_append.mpr ⟨nd, q3, fun a ha b hb e => nA b hb (e ▸ ha)⟩
      · intro a ha
        rw [List.flatten_append, List.flatten_singleton] at ha
        rcases List.mem_append.mp ha with ha | ha
        · exact fr a ha
        · have hb := nA a ha
          have e := q2 a ha
          rw [mask_out hb] at e
          exact s15.free e
      · rw [tk, if_pos hf, List.map_append]
        have upM : ∀ b u, M b = some u → (upd (join M H5 (Dl :: As.flatten)) Dl (.lst (acc ++ [v]))) b = some u := fun b u e => by
          have hb : b ∉ Dl :: As.flatten := fun z => by rw [q5 b z] at e; cases e
          rw [upd_ne (fun z => hb (by simp [z])), join_out hb]
          exact e
        refine RepOs.snoc (ro5.keep (fun a ha u e => ?_) fun b u e => ?_) (q4.keep (fun a ha u e => upM a u e) fun b u e => ?_)
        · rw [upd_ne (fun z : a = Dl => (List.nodup_cons.mp nd).1 (by rw [← z]; exact ha)), join_in (List.mem_cons_of_mem _ ha)]
          exact e
        · obtain ⟨e1, e2⟩ := mask_some e
          have hbA : b ∉ A := fun z => by have := q2 b z; rw [this] at e; cases e
          rw [mask_out (by rw [List.flatten_append, List.flatten_singleton, ← List.cons_append]; exact fun z => (List.mem_append.mp z).elim e2 hbA)]
          exact upM b u (q1 b u e)
        · obtain ⟨e1, e2⟩ := mask_some e
          have hb : b ∉ Dl :: As.flatten := fun z => by rw [q5 b z] at e1; cases e1
          rw [mask_out (by rw [List.flatten_append, List.flatten_singleton, ← List.cons_append]; exact fun z => (List.mem_append.mp z).elim hb e2)]
          exact upM b u e1
    · have hf' : f z = false := by simpa using hf
      rw [hf']
      refine iteF ⟨acc, As, s25 _ _ hacc, s15, nd, fr, ?_⟩
      rw [tk, if_neg hf, List.append_nil]
      exact ro5
  · rintro H' ⟨acc, As, hacc, s2, nd, fr, ro⟩
    rw [List.take_length] at ro
    refine q _ _ _ (s1.trans s2) (fun a ha => ?_) nd (.ls hacc ro.1 ro.2.1 ro.2.2)
    rcases List.mem_cons.mp ha with rfl | ha
    · exact s1.free hD
    · exact s1.free (fr a ha)
theorem EvO.compF {α : Type} {elt tg iter : Expr} {ifs : List Expr} {scope : Scope} {own : List (Str × Nat)} (L : List α) (h : α → D) (f : α → Bool) (g : α → O) (is : List Nat) (bs : α → List D)
    (hc : X.calm = true) (hN : X.N.Nodup) (hi : EvI X ρ tg iter (L.map h)) (ok : BlkOk X.N X.env.scope scope own) (his : ∀ i ∈ is, i ∈ own.map (·.2))
    (hg : ∀ x ∈ L, ∀ (s : Shared) (H : Hp) (C : Addr) (cl : List (Str × Addr)) (fp : List Addr), EvG (X.blk s H scope (compEnvC scope cl C X.env) fp) tg (h x) is (bs x))
    (ht : ∀ x ∈ L, ∀ (s : Shared) (H : Hp) (C : Addr) (cl : List (Str × Addr)) (fp : List Addr), EvTs (X.blk s H scope (compEnvC scope cl C X.env) fp) (setD (wipeD ρ (own.map (·.2))) is (bs x)) ifs (f x))
    (he : ∀ x ∈ L, f x = true → ∀ (s : Shared) (H : Hp) (C : Addr) (cl : List (Str × Addr)) (fp : List Addr), EvO (X.blk s H scope (compEnvC scope cl C X.env) fp) (setD (wipeD ρ (own.map (·.2))) is (bs x)) elt (g x))
    (hl : L.length < sizeLine) (hs : ∀ x, foldedSetIterable iter X.env x = pure x := by intro _; rfl) : EvO X ρ (.ListComp elt [⟨tg, iter, ifs, 0⟩] scope pos) (.ls ((L.filter f).map g)) :=
  ⟨fun σ H en Q q => we_of (pe_lc (g := blkG X scope tg) (tt := blkT X scope ifs) (te := blkE X scope elt)
    hc hN pi_wi ok (fun s H0 C cl fp => ⟨fun pins s' σ' H' v u Q' I r w => w s H0 C cl fp pins s' u I r⟩) (fun s H0 C cl fp => ⟨fun pins s' σ' H' Q' I w => w s H0 C cl fp pins s' I⟩) (fun s H0 C cl fp => ⟨fun pins s' σ' H' Q' I w => w s H0 C cl fp pins s' I⟩) hs)
    (compF_read L h f g is bs hi his hg ht he hl σ H en Q q)⟩
/-- no tests -/
theorem EvO.comp {α : Type} {elt tg iter : Expr} {scope : Scope} {own : List (Str × Nat)} (L : List α) (h : α → D) (g : α → O) (is : List Nat) (bs : α → List D)
    (hc : X.calm = true) (hN : X.N.Nodup) (hi : EvI X ρ tg iter (L.map h)) (ok : BlkOk X.N X.env.scope scope own) (his : ∀ i ∈ is, i ∈ own.map (·.2))
    (hg : ∀ x ∈ L, ∀ (s : Shared) (H : Hp) (C : Addr) (cl : List (Str × Addr)) (fp : List Addr), EvG (X.blk s H scope (compEnvC scope cl C X.env) fp) tg (h x) is (bs x))
    (he : ∀ x ∈ L, ∀ (s : Shared) (H : Hp) (C : Addr) (cl : List (Str × Addr)) (fp : List Addr), EvO (X.blk s H scope (compEnvC scope cl C X.env) fp) (setD (wipeD ρ (own.map (·.2))) is (bs x)) elt (g x))
    (hl : L.length < sizeLine) (hs : ∀ x, foldedSetIterable iter X.env x = pure x := by intro _; rfl) : EvO X ρ (.ListComp elt [⟨tg, iter, [], 0⟩] scope pos) (.ls (L.map g)) := by
  have := EvO.compF (pos := pos) L h (fun _ => true) g is bs hc hN hi ok his hg (fun x _ s H C cl fp => EvTs.nil) (fun x hx _ => he x hx) hl hs
  rw [List.filter_eq_self.mpr (fun _ _ => rfl)] at this
  exact this
end

/-! ### defs: what a call of x with the data ds is worth -/
def spV (K : PySem.W.Frag) (ds : List D) (post : O → Prop) : Sp := fun vs H Q _ => Reps K H vs ds ∧
  ∀ o v H' A, post o → Same H H' → (∀ a ∈ A, H a = none) → A.Nodup → RepO K H' (mask H' A) v o A → Q v H'
structure VF (P : Program) (w : World) (K : PySem.W.Frag) (mg : Str → Option Value) (base : Heap) (k : Nat) (x : Str) (ds : List D) (post : O → Prop) : Prop where
  ex : ∃ (f : Addr) (fd : FuncData) (ps : List Str), mg x = some (.ref f) ∧ PySem.W.keepIn K (.ref f) = true ∧ Binds K fd ps [] ∧ FnOk P w K mg base CX0 k f fd ps (spV K ds post)
theorem VF.mono {P : Program} {w : World} {K : PySem.W.Frag} {mg : Str → Option Value} {base : Heap} {j k : Nat} {x : Str} {ds : List D} {post post' : O → Prop} (F : VF P w K mg base j x ds post) (h : j ≤ k) (hp : ∀ o, post o → post' o) : VF P w K mg base k x ds post' := by
  obtain ⟨f, fd, ps, h1, h2, h3, h4⟩ := F.ex
  exact ⟨f, fd, ps, h1, h2, h3, (h4.mono h).imp fun vs H Q E q => ⟨q.1, fun o v H' A p => q.2 o v H' A (hp o p)⟩⟩
section
variable {X : Cx} {ρ : Rho} {pos p : Pos} {e : Expr} {es : List Expr} {ds : List D} {k : Nat} {x : Str} {post : O → Prop} {o : O} {d : D}
theorem EvO.call (F : VF X.prog X.w X.K X.mg X.base k x ds post) (hr : Room k X.A) (ha : EvA X ρ (e :: es) ds) (hp : ∀ o', post o' → o' = o) (hg : Gl X x := by rfl) (hdb : (x == ("__debug__" : Str)) = false := by decide)
    (he : starEach (e :: es) X.env = (false, eval e X.env) :: starEach es X.env := by rfl) (hpl : (backTo pos (starEach es X.env)).any (·.1) = false := by rfl) : EvO X ρ (.Call (.Name x p) (e :: es) [] pos) o := by
  obtain ⟨f, fd, ps, h1, h2, h3, h4⟩ := F.ex
  refine ⟨fun σ H en Q q => we_of (pe_call (E := E0) h4 hr hg h1 h2 h3 .nil pass0 pa_wa hdb he hpl) (ha.run σ H en _ fun vs H1 s1 r1 => ?_)⟩
  rw [List.append_nil]
  exact ⟨r1, fun o' v H' A po s2 fr nd ro => q v H' A (s1.trans s2) (fun a ha => s1.free (fr a ha)) nd (hp o' po ▸ ro)⟩
theorem Ev.call (F : VF X.prog X.w X.K X.mg X.base k x ds post) (hr : Room k X.A) (ha : EvA X ρ (e :: es) ds) (hp : ∀ o', post o' → o'.data = d) (hg : Gl X x := by rfl) (hdb : (x == ("__debug__" : Str)) = false := by decide)
    (he : starEach (e :: es) X.env = (false, eval e X.env) :: starEach es X.env := by rfl) (hpl : (backTo pos (starEach es X.env)).any (·.1) = false := by rfl) : Ev X ρ (.Call (.Name x p) (e :: es) [] pos) d := by
  obtain ⟨f, fd, ps, h1, h2, h3, h4⟩ := F.ex
  refine ⟨fun σ H en Q q => we_of (pe_call (E := E0) h4 hr hg h1 h2 h3 .nil pass0 pa_wa hdb he hpl) (ha.run σ H en _ fun vs H1 s1 r1 => ?_)⟩
  rw [List.append_nil]
  exact ⟨r1, fun o' v H' A po s2 fr nd ro => q v H' (s1.trans s2) (by rw [← hp o' po]; exact ro.rep mask_same)⟩
/-- some value of the promise -/
structure EvN (X : Cx) (ρ : Rho) (e : Expr) (post : O → Prop) : Prop where
  run : ∀ (σ : L2.St) (H : Hp), EnvS X.K σ H ρ → ∀ Q : VK, (∀ o v H' A, post o → Same H H' → (∀ a ∈ A, H a = none) → A.Nodup → RepO X.K H' (mask H' A) v o A → Q v H') → WE X e σ H Q
theorem EvN.call (F : VF X.prog X.w X.K X.mg X.base k x ds post) (hr : Room k X.A) (ha : EvA X ρ (e :: es) ds) (hg : Gl X x := by rfl) (hdb : (x == ("__debug__" : Str)) = false := by decide)
    (he : starEach (e :: es) X.env = (false, eval e X.env) :: starEach es X.env := by rfl) (hpl : (backTo pos (starEach es X.env)).any (·.1) = false := by rfl) : EvN X ρ (.Call (.Name x p) (e :: es) [] pos) post := by
  obtain ⟨f, fd, ps, h1, h2, h3, h4⟩ := F.ex
  refine ⟨fun σ H en Q q => we_of (pe_call (E := E0) h4 hr hg h1 h2 h3 .nil pass0 pa_wa hdb he hpl) (ha.run σ H en _ fun vs H1 s1 r1 => ?_)⟩
  rw [List.append_nil]
  exact ⟨r1, fun o' v H' A po s2 fr nd ro => q o' v H' A po (s1.trans s2) (fun a ha => s1.free (fr a ha)) nd ro⟩
theorem EvO.evN (h : EvO X ρ e o) (hp : post o) : EvN X ρ e post := ⟨fun σ H en Q q => h.run σ H en Q fun v H' A s f n r => q o v H' A hp s f n r⟩
end
end VL
set_option Elab.async false
set_option linter.all false
set_option maxRecDepth 100000
set_option maxHeartbeats 1000000
/-! value layer, part 5: slots that own their lists -/
namespace VL
open PySem L2

inductive W where
  | sh (d : D) | ow (o : O) (d : D)
abbrev RhoW := List (Option W)
def W.toO : W → O
  | .sh d => .sh d
  | .ow o _ => o
def RepW (K : PySem.W.Frag) (H S : Hp) (v : V) : W → List Addr → Prop
  | .sh d, A => Rep K S v d ∧ A = []
  | .ow o d, A => o.data = d ∧ RepO K H S v o A
def hideW : Option W → Option D
  | some (.sh d) => some d
  | _ => none
def borW : Option W → Option D
  | some (.sh d) => some d
  | some (.ow _ d) => some d
  | none => none
def hide (ρ : RhoW) : Rho := ρ.map hideW
def bor (ρ : RhoW) : Rho := ρ.map borW
mutual
def O.free : O → Bool
  | .sh d => d.free
  | .ls xs => freeO xs
  | .tu xs => freeO xs
  | .ob _ _ xs => freeO xs
  | .dd _ xs => freeO xs
  | .pin _ o => o.free
def freeO : List O → Bool
  | [] => true
  | x :: xs => x.free && freeO xs
end
theorem freeO_get : ∀ {xs : List O} {i : Nat} {o : O}, freeO xs = true → xs[i]? = some o → o.free = true
  | [], i, d, _, h => by simp at h
  | x :: xs, 0, d, f, h => by
    simp at h; subst h
    unfold freeO at f
    exact (Bool.and_eq_true_iff.mp f).1
  | x :: xs, i + 1, d, f, h => by
    unfold freeO at f
    exact freeO_get (Bool.and_eq_true_iff.mp f).2 (by simpa using h)
section
variable {K : PySem.W.Frag} {H0 H H' S S' M : Hp} {v : V} {w : W} {o : O} {d : D} {A B as bs : List Addr} {σ σ' : L2.St} {ρ ρ' : RhoW}
theorem RepO.maskF (r : RepO K H (mask H as) v o A) (f : o.free = true) (hl : Hid H bs) (hs : ∀ a ∈ as, a ∈ bs) : RepO K H (mask H bs) v o A := by
  generalize hS : mask H as = S at r
  induction r with
  | sh q =>
    unfold O.free at f
    subst hS
    exact .sh ((q.mono mask_same).maskF f fun a ha => hl.notup ha)
  | ls h1 h2 h3 h4 ih =>
    unfold O.free at f
    exact .ls h1 h2 h3 fun i v o A q1 q2 q3 => ih i v o A q1 q2 q3 (freeO_get f q2)
  | tu h1 h2 h3 h4 ih =>
    unfold O.free at f
    subst hS
    have h1' := (mask_some h1).1
    refine .tu ?_ h2 h3 fun i v o A q1 q2 q3 => ih i v o A q1 q2 q3 (freeO_get f q2)
    rw [mask_out (fun z => hl.notup z _ h1')]
    exact h1'
  | ob h1 h2 hz h3 h4 h5 h6 h7 h8 ih =>
    unfold O.free at f
    exact .ob h1 h2 hz h3 h4 h5 h6 h7 fun i v o A q1 q2 q3 => ih i v o A q1 q2 q3 (freeO_get f q2)
  | dd h1 h2 h3 h4 h5 h6 ih =>
    unfold O.free at f
    subst hS
    have h1' := (mask_some h1).1
    refine .dd ?_ h2 h3 h4 h5 fun i v o A q1 q2 q3 => ih i v o A q1 q2 q3 (freeO_get f q2)
    rw [mask_out (fun z => ?_)]
    · exact h1'
    · obtain ⟨o, e, c⟩ := hl.cell z
      rw [h1'] at e
      obtain rfl := Option.some.inj e
      cases c
  | pin h ih =>
    unfold O.free at f
    exact .pin (ih f)
theorem RepO.sh_inv (r : RepO K H S v (.sh d) A) : A = [] ∧ Rep K S v d := by
  cases r with
  | sh q => exact ⟨rfl, q⟩
theorem RepW.keep (r : RepW K H S v w A) (h : ∀ a ∈ A, ∀ u, H a = some u → H' a = some u) (s : Same S S') : RepW K H' S' v w A := by
  cases w with
  | sh d => exact ⟨r.1.mono s, r.2⟩
  | ow o d => exact ⟨r.1, RepO.keep r.2 h s⟩
theorem RepW.toO (r : RepW K H S v w A) : RepO K H S v w.toO A := by
  cases w with
  | sh d =>
    obtain ⟨r1, rfl⟩ := r
    exact .sh r1
  | ow o d => exact r.2
theorem RepW.cells (r : RepW K H S v w A) : Hid H A := r.toO.cells
theorem RepO.into (r : RepO K H S v o A) (h : ∀ a ∈ A, ∀ u, H a = some u → M a = some u) (s : Same S M) : Rep K M v o.data := (r.keep (H' := M) (S' := M) h s).rep (Same.refl M)

def allOf (A : Nat → List Addr) (n : Nat) : List Addr := (List.range n).flatMap A
theorem mem_allOf {A : Nat → List Addr} {n : Nat} {a : Addr} : a ∈ allOf A n ↔ ∃ i, i < n ∧ a ∈ A i := by
  unfold allOf
  simp [List.mem_flatMap]
structure EnvA (K : PySem.W.Frag) (H0 : Hp) (σ : L2.St) (H : Hp) (ρ : RhoW) (A : Nat → List Addr) : Prop where
  len : σ.length = ρ.length
  nd : ∀ i, (A i).Nodup
  dj : ∀ i j a, a ∈ A i → a ∈ A j → i = j
  fresh : ∀ a ∈ allOf A ρ.length, H0 a = none
  same : Same H0 H
  get : ∀ (i : Nat) (w : W), ρ[i]? = some (some w) → ∃ v, σ[i]? = some (some v) ∧ RepW K H (mask H (allOf A ρ.length)) v w (A i)
  off : ∀ i, (∀ w, ρ[i]? ≠ some (some w)) → A i = []
def EnvW (K : PySem.W.Frag) (H0 : Hp) (σ : L2.St) (H : Hp) (ρ : RhoW) : Prop := ∃ A, EnvA K H0 σ H ρ A
variable {F : Nat → List Addr}
theorem EnvA.mem (E : EnvA K H0 σ H ρ F) {a : Addr} {i : Nat} (h : a ∈ F i) : a ∈ allOf F ρ.length := by
  refine mem_allOf.mpr ⟨i, ?_, h⟩
  by_cases hi : i < ρ.length
  · exact hi
  · rw [E.off i (fun w e => by rw [List.getElem?_eq_none (by omega)] at e; cases e)] at h
    cases h
theorem EnvA.cells (E : EnvA K H0 σ H ρ F) : Hid H (allOf F ρ.length) := by
  have each : ∀ i, Hid H (F i) := fun i => by
    cases e : ρ[i]? with
    | none => rw [E.off i (fun w z => by rw [e] at z; cases z)]; exact Hid.nil
    | some q =>
      cases q with
      | none => rw [E.off i (fun w z => by rw [e] at z; cases z)]; exact Hid.nil
      | some w =>
        obtain ⟨v, _, r⟩ := E.get i w e
        exact r.cells
  intro a ha
  obtain ⟨i, hi, h⟩ := mem_allOf.mp ha
  rcases each i a h with q | ⟨C, dx, fs, e, d⟩ | ⟨y, C, fs, e, d, e2⟩
  · exact .inl q
  · exact .inr (.inl ⟨C, dx, fs, e, E.mem d⟩)
  · exact .inr (.inr ⟨y, C, fs, e, E.mem d, e2⟩)
theorem EnvA.notup (E : EnvA K H0 σ H ρ F) : ∀ a ∈ allOf F ρ.length, ∀ xs, H a ≠ some (.tup xs) := fun a ha xs => E.cells.notup ha xs
theorem EnvA.envH (E : EnvA K H0 σ H ρ F) : EnvS K σ (mask H (allOf F ρ.length)) (hide ρ) := ⟨by unfold hide; rw [List.length_map]; exact E.len, fun i d h => by
  unfold hide at h
  rw [List.getElem?_map] at h
  obtain ⟨q, e, hq⟩ := Option.map_eq_some_iff.mp h
  cases q with
  | none => cases hq
  | some w =>
    cases w with
    | sh d' =>
      have : d' = d := Option.some.inj hq
      subst this
      obtain ⟨v, h1, r⟩ := E.get i _ e
      exact ⟨v, h1, r.1⟩
    | ow o d' => cases hq⟩
theorem EnvA.envB (E : EnvA K H0 σ H ρ F) : EnvS K σ H (bor ρ) := ⟨by unfold bor; rw [List.length_map]; exact E.len, fun i d h => by
  unfold bor at h
  rw [List.getElem?_map] at h
  obtain ⟨q, e, hq⟩ := Option.map_eq_some_iff.mp h
  cases q with
  | none => cases hq
  | some w =>
    obtain ⟨v, h1, r⟩ := E.get i _ e
    refine ⟨v, h1, ?_⟩
    cases w with
    | sh d' =>
      have : d' = d := Option.some.inj hq
      subst this
      exact r.1.mono mask_same
    | ow o d' =>
      have : d' = d := Option.some.inj hq
      subst this
      rw [← r.1]
      exact RepO.rep r.2 mask_same⟩
/-- one more slot at the end -/
theorem EnvA.push (E : EnvA K H0 σ H ρ F) (keep : ∀ a ∈ allOf F ρ.length, ∀ u, H a = some u → H' a = some u) (sm : Same (mask H (allOf F ρ.length)) (mask H' (allOf F ρ.length ++ B)))
    (fr : ∀ b ∈ B, H b = none) (nd : B.Nodup) (r : RepW K H' (mask H' (allOf F ρ.length ++ B)) v w B) : EnvA K H0 (σ ++ [some v]) H' (ρ ++ [some w]) (fun j => if j = ρ.length then B else F j) := by
  have offn : F ρ.length = [] := E.off _ fun w e => by rw [List.getElem?_eq_none (Nat.le_refl _)] at e; cases e
  have hall : ∀ a, a ∈ allOf (fun j => if j = ρ.length then B else F j) (ρ ++ [some w]).length ↔ a ∈ allOf F ρ.length ++ B := fun a => by
    rw [mem_allOf, List.mem_append, mem_allOf]
    constructor
    · rintro ⟨i, hi, h⟩
      simp only [List.length_append, List.length_singleton] at hi
      by_cases e : i = ρ.length
      · rw [if_pos e] at h; exact .inr h
      · rw [if_neg e] at h; exact .inl ⟨i, by omega, h⟩
    · rintro (⟨i, hi, h⟩ | h)
      · exact ⟨i, by simp; omega, by rw [if_neg (by omega)]; exact h⟩
      · exact ⟨ρ.length, by simp, by rw [if_pos rfl]; exact h⟩
  have hmask : mask H' (allOf (fun j => if j = ρ.length then B else F j) (ρ ++ [some w]).length) = mask H' (allOf F ρ.length ++ B) := by
    funext b
    unfold mask
    by_cases hb : b ∈ allOf F ρ.length ++ B
    · rw [if_pos hb, if_pos ((hall b).mpr hb)]
    · rw [if_neg hb, if_neg (fun z => hb ((hall b).mp z))]
  have apart : ∀ a i, a ∈ B → a ∈ F i → False := fun a i h1 h2 => by
    exact E.cells.some (E.mem h2) (fr a h1)
  refine ⟨by simp [E.len], fun i => ?_, fun i j a h1 h2 => ?_, fun a ha => ?_, fun b u e => ?_, fun i x h => ?_, fun i h => ?_⟩
  · try dsimp only
    split
    · exact nd
    · exact E.nd i
  · try dsimp only at h1 h2
    split at h1 <;> split at h2
    · omega
    · exact (apart a j h1 h2).elim
    · exact (apart a i h2 h1).elim
    · exact E.dj i j a h1 h2
  · rcases List.mem_append.mp ((hall a).mp ha) with h | h
    · exact E.fresh a h
    · exact E.same.free (fr a h)
  · have hb : b ∉ allOf F ρ.length := fun z => by rw [E.fresh b z] at e; cases e
    exact (mask_some (sm b u (by rw [mask_out hb]; exact E.same b u e))).1
  · rw [hmask]
    by_cases hi : i < ρ.length
    · rw [List.getElem?_append_left hi] at h
      obtain ⟨v', e, r'⟩ := E.get i x h
      refine ⟨v', by rw [List.getElem?_append_left (by rw [E.len]; exact hi)]; exact e, ?_⟩
      try dsimp only
      rw [if_neg (by omega)]
      exact r'.keep (fun a ha u q => keep a (E.mem ha) u q) sm
    · have hi2 := (List.getElem?_eq_some_iff.mp h).1
      simp at hi2
      have e : i = ρ.length := by omega
      subst e
      rw [List.getElem?_append_right (Nat.le_refl _)] at h
      simp at h
      subst h
      refine ⟨v, by rw [← E.len]; simp, ?_⟩
      try dsimp only
      rw [if_pos rfl]
      exact r
  · try dsimp only
    split
    · rename_i e
      subst e
      exact absurd (by simp) (h w)
    · refine E.off i fun x e => h x ?_
      have hi2 := (List.getElem?_eq_some_iff.mp e).1
      rw [List.getElem?_append_left hi2]
      exact e
/-- slots taken elsewhere, or dropped -/
theorem EnvW.remap (m : Nat → Option Nat) (E : EnvW K H0 σ H ρ) (hlen : σ'.length = ρ'.length) (h : ∀ j w, ρ'[j]? = some (some w) → ∃ i, m j = some i ∧ ρ[i]? = some (some w) ∧ σ'[j]? = σ[i]?)
    (inj : ∀ j j' i, m j = some i → m j' = some i → j = j') : EnvW K H0 σ' H ρ' := by
  obtain ⟨F, E⟩ := E
  let G : Nat → List Addr := fun j => match ρ'[j]? with
    | some (some _) => (match m j with | some i => F i | none => [])
    | _ => []
  have hG : ∀ j a, a ∈ G j → ∃ i w, m j = some i ∧ ρ'[j]? = some (some w) ∧ a ∈ F i := fun j a ha => by
    dsimp only [G] at ha
    split at ha
    · split at ha
      · exact ⟨_, _, by assumption, by assumption, ha⟩
      · cases ha
    · cases ha
  have hG2 : ∀ j i w, m j = some i → ρ'[j]? = some (some w) → G j = F i := fun j i w h1 h2 => by
    dsimp only [G]
    rw [h2, h1]
  have sub : ∀ a ∈ allOf G ρ'.length, a ∈ allOf F ρ.length := fun a ha => by
    obtain ⟨j, _, h1⟩ := mem_allOf.mp ha
    obtain ⟨i, w, _, _, h2⟩ := hG j a h1
    exact E.mem h2
  refine ⟨G, hlen, fun j => ?_, fun j j' a h1 h2 => ?_, fun a ha => E.fresh a (sub a ha), E.same, fun j w hw => ?_, fun j hj => ?_⟩
  · dsimp only [G]
    split
    · split
      · exact E.nd _
      · exact List.nodup_nil
    · exact List.nodup_nil
  · obtain ⟨i, w, e1, _, q1⟩ := hG j a h1
    obtain ⟨i', w', e2, _, q2⟩ := hG j' a h2
    have e := E.dj i i' a q1 q2
    subst e
    exact inj j j' i e1 e2
  · obtain ⟨i, e1, e2, e3⟩ := h j w hw
    obtain ⟨v, e4, r⟩ := E.get i w e2
    refine ⟨v, by rw [e3]; exact e4, ?_⟩
    rw [hG2 j i w e1 hw]
    exact r.keep (fun _ _ _ z => z) (mask_sub sub)
  · dsimp only [G]
    split
    · rename_i w e
      exact absurd e (hj w)
    · rfl
theorem EnvW.len (E : EnvW K H0 σ H ρ) : σ.length = ρ.length := let ⟨_, E⟩ := E; E.len
/-- the last slot goes to i -/
theorem EnvW.into (E : EnvW K H0 (σ ++ [some v]) H (ρ ++ [some w])) (i : Nat) : EnvW K H0 (σ.set i (some v)) H (ρ.set i (some w)) := by
  have hl : σ.length = ρ.length := by have := E.len; simpa using this
  refine E.remap (fun j => if j = i then some ρ.length else if j < ρ.length then some j else none) (by simp [hl]) (fun j x h => ?_) fun j j' k h1 h2 => ?_
  · rw [List.getElem?_set] at h
    by_cases e : i = j
    · subst e
      rw [if_pos rfl] at h
      split at h
      · rename_i hi
        refine ⟨ρ.length, by simp, by simp; exact Option.some.inj (Option.some.inj h), ?_⟩
        rw [List.getElem?_set, if_pos rfl, if_pos (by omega), ← hl]
        simp
      · cases h
    · rw [if_neg e] at h
      have hj := (List.getElem?_eq_some_iff.mp h).1
      refine ⟨j, by simp [Ne.symm e, hj], by rw [List.getElem?_append_left hj]; exact h, ?_⟩
      rw [List.getElem?_set_ne e, List.getElem?_append_left (by omega)]
  · try dsimp only at h1 h2
    split at h1 <;> split at h2
    · omega
    · split at h2
      · cases h1; cases h2; omega
      · cases h2
    · split at h1
      · cases h1; cases h2; omega
      · cases h1
    · split at h1 <;> split at h2 <;> first | (cases h1; cases h2; rfl) | (cases h2; done) | (cases h1; done)
/-- the last slot is dropped -/
theorem EnvW.pop (E : EnvW K H0 (σ ++ [some v]) H (ρ ++ [some w])) : EnvW K H0 σ H ρ := by
  have hl : σ.length = ρ.length := by have := E.len; simpa using this
  refine E.remap (fun j => if j < ρ.length then some j else none) hl (fun j x h => ?_) fun j j' k h1 h2 => ?_
  · have hj := (List.getElem?_eq_some_iff.mp h).1
    exact ⟨j, by simp [hj], by rw [List.getElem?_append_left hj]; exact h, by rw [List.getElem?_append_left (by omega)]⟩
  · try dsimp only at h1 h2
    split at h1 <;> split at h2 <;> first | (cases h1; cases h2; rfl) | (cases h2; done) | (cases h1; done)
/-- slot i's value at the end, slot i empty -/
theorem EnvW.moved (E : EnvW K H0 σ H ρ) {i : Nat} (hi : ρ[i]? = some (some w)) (hv : σ[i]? = some (some v)) : EnvW K H0 (σ ++ [some v]) H (ρ.set i none ++ [some w]) := by
  have hl := E.len
  have hi' := (List.getElem?_eq_some_iff.mp hi).1
  refine E.remap (fun j => if j = ρ.length then some i else if j = i then none else some j) (by simp [hl]) (fun j x h => ?_) fun j j' k h1 h2 => ?_
  · by_cases hj : j < ρ.length
    · rw [List.getElem?_append_left (by simpa using hj), List.getElem?_set] at h
      by_cases e : i = j
      · subst e
        rw [if_pos rfl, if_pos hj] at h
        cases h
      · rw [if_neg e] at h
        exact ⟨j, by simp [Ne.symm e]; omega, h, by rw [List.getElem?_append_left (by omega)]⟩
    · have hj2 := (List.getElem?_eq_some_iff.mp h).1
      simp at hj2
      have e : j = ρ.length := by omega
      subst e
      rw [List.getElem?_append_right (by simp)] at h
      simp at h
      subst h
      refine ⟨i, by simp, hi, ?_⟩
      rw [hv, ← hl]
      simp
  · try dsimp only at h1 h2
    split at h1 <;> split at h2
    · omega
    · split at h2
      · cases h2
      · cases h1; cases h2; contradiction
    · split at h1
      · cases h1
      · cases h1; cases h2; contradiction
    · split at h1 <;> split at h2 <;> first | (cases h1; cases h2; rfl) | (cases h2; done) | (cases h1; done)
/-- the heap has grown -/
theorem EnvW.grow (E : EnvW K H0 σ H ρ) (s : Same H H') : EnvW K H0 σ H' ρ := by
  obtain ⟨F, E⟩ := E
  have sm : Same (mask H (allOf F ρ.length)) (mask H' (allOf F ρ.length)) := fun b u e => by
    obtain ⟨e1, e2⟩ := mask_some e
    rw [mask_out e2]
    exact s b u e1
  exact ⟨F, E.len, E.nd, E.dj, E.fresh, E.same.trans s, fun i w h => let ⟨v, h1, r⟩ := E.get i w h; ⟨v, h1, r.keep (fun a _ u e => s a u e) sm⟩, E.off⟩
/-- an owned slot is shared from now on -/
theorem EnvW.share (E : EnvW K H0 σ H ρ) {i : Nat} (hi : ρ[i]? = some (some (.ow o d))) : EnvW K H0 σ H (ρ.set i (some (.sh d))) := by
  obtain ⟨F, E⟩ := E
  have hi' := (List.getElem?_eq_some_iff.mp hi).1
  let G : Nat → List Addr := fun j => if j = i then [] else F j
  have sub : ∀ a ∈ allOf G (ρ.set i (some (.sh d))).length, a ∈ allOf F ρ.length ∧ a ∉ F i := fun a ha => by
    obtain ⟨j, hj, h1⟩ := mem_allOf.mp ha
    dsimp only [G] at h1
    split at h1
    · cases h1
    · exact ⟨E.mem h1, fun z => by have := E.dj _ _ _ h1 z; contradiction⟩
  refine ⟨G, by simp [E.len], fun j => ?_, fun j j' a h1 h2 => ?_, fun a ha => E.fresh a (sub a ha).1, E.same, fun j w hw => ?_, fun j hj => ?_⟩
  · dsimp only [G]
    split
    · exact List.nodup_nil
    · exact E.nd j
  · dsimp only [G] at h1 h2
    split at h1
    · cases h1
    · split at h2
      · cases h2
      · exact E.dj j j' a h1 h2
  · rw [List.getElem?_set] at hw
    by_cases e : i = j
    · subst e
      rw [if_pos rfl, if_pos hi'] at hw
      obtain rfl := Option.some.inj (Option.some.inj hw)
      obtain ⟨v, h1, r⟩ := E.get i _ hi
      have rr := RepO.into (M := mask H (allOf G (ρ.set i (some (.sh d))).length)) r.2 (fun a ha u e => by rw [mask_out (fun z => (sub a z).2 ha)]; exact e) (mask_sub fun a ha => (sub a ha).1)
      rw [r.1] at rr
      exact ⟨v, h1, rr, by dsimp only [G]; rw [if_pos rfl]⟩
    · rw [if_neg e] at hw
      obtain ⟨v, h1, r⟩ := E.get j w hw
      refine ⟨v, h1, ?_⟩
      dsimp only [G]
      rw [if_neg (Ne.symm e)]
      exact r.keep (fun _ _ _ z => z) (mask_sub fun a ha => (sub a ha).1)
  · dsimp only [G]
    split
    · rfl
    · rename_i e
      refine E.off j fun w z => hj w ?_
      rw [List.getElem?_set_ne (Ne.symm e)]
      exact z
/-- a flat list of one's own -/
theorem EnvA.flat (E : EnvA K H0 σ H ρ F) {i : Nat} {ds : List D} {d1 : D} (hi : ρ[i]? = some (some (.ow (oL ds) d1))) : ∃ a vs, σ[i]? = some (some (.ref a)) ∧ H a = some (.lst vs) ∧ F i = [a] ∧ Reps K (mask H (allOf F ρ.length)) vs ds := by
  obtain ⟨v, h1, r⟩ := E.get i _ hi
  have r' : RepO K H (mask H (allOf F ρ.length)) v (.ls (ds.map O.sh)) (F i) := r.2
  generalize hFi : F i = Fi at r'
  cases r' with
  | @ls a vs _ As q1 q2 q3 q4 =>
    have hnil : ∀ B ∈ As, B = [] := fun B hB => by
      obtain ⟨k, hk⟩ := List.getElem?_of_mem hB
      have l := (List.getElem?_eq_some_iff.mp hk).1
      simp at q2 q3
      have e1 : vs[k]? = some vs[k] := List.getElem?_eq_getElem (by omega)
      have e2 : (ds.map O.sh)[k]? = some (O.sh (ds[k]'(by omega))) := by simp [show k < ds.length by omega]
      exact (q4 k _ _ B e1 e2 hk).sh_inv.1
    have hflat : As.flatten = [] := by
      rw [List.flatten_eq_nil_iff]
      exact hnil
    rw [hflat] at hFi ⊢
    refine ⟨a, vs, h1, q1, rfl, by simpa using q2, fun k v d e1 e2 => ?_⟩
    have l := (List.getElem?_eq_some_iff.mp e2).1
    simp at q2 q3
    exact (q4 k v (.sh d) As[k] e1 (by simp [e2]) (List.getElem?_eq_getElem (by omega))).sh_inv.2
/-- .. is changed -/
theorem EnvA.mutF (E : EnvA K H0 σ H ρ F) {i : Nat} {ds : List D} {d1 : D} {a : Addr} (hi : ρ[i]? = some (some (.ow (oL ds) d1))) (h1 : σ[i]? = some (some (.ref a))) (hFi : F i = [a]) {vs' : List V} {ds' : List D} (rs : Reps K (mask H (allOf F ρ.length)) vs' ds') :
    EnvA K H0 σ (upd H a (.lst vs')) (ρ.set i (some (.ow (oL ds') (.lst ds')))) F ∧ mask (upd H a (.lst vs')) (allOf F (ρ.set i (some (.ow (oL ds') (.lst ds')))).length) = mask H (allOf F ρ.length) := by
  have hi' := (List.getElem?_eq_some_iff.mp hi).1
  have ha : a ∈ allOf F ρ.length := E.mem (i := i) (by rw [hFi]; simp)
  have hm : mask (upd H a (.lst vs')) (allOf F ρ.length) = mask H (allOf F ρ.length) := mask_upd_in ha
  refine ⟨⟨by simp [E.len], E.nd, E.dj, by rw [List.length_set]; exact E.fresh, fun b u e => ?_, fun j w hw => ?_, fun j hj => ?_⟩, by rw [List.length_set]; exact hm⟩
  · rw [upd_ne (fun z => by subst z; rw [E.fresh _ ha] at e; cases e)]
    exact E.same b u e
  · rw [List.length_set, hm]
    rw [List.getElem?_set] at hw
    by_cases e : i = j
    · subst e
      rw [if_pos rfl, if_pos hi'] at hw
      obtain rfl := Option.some.inj (Option.some.inj hw)
      refine ⟨_, h1, ?_⟩
      have rr := repOs_sh (K := K) (H := upd H a (.lst vs')) rs
      have := RepO.ls (K := K) (S := mask H (allOf F ρ.length)) (upd_same (H := H) (a := a) (o := .lst vs')) rr.1 rr.2.1 rr.2.2
      rw [flat_nil] at this
      refine ⟨oL_data ds', ?_⟩
      rw [hFi]
      exact this
    · rw [if_neg e] at hw
      obtain ⟨v, e1, r⟩ := E.get j w hw
      refine ⟨v, e1, r.keep (fun b hb u z => ?_) (Same.refl _)⟩
      rw [upd_ne (fun y => by subst y; exact e (E.dj i j _ (by rw [hFi]; simp) hb))]
      exact z
  · refine E.off j fun w z => ?_
    by_cases e : i = j
    · subst e
      exact hj (.ow (oL ds') (.lst ds')) (by rw [List.getElem?_set, if_pos rfl, if_pos hi'])
    · exact hj w (by rw [List.getElem?_set_ne e]; exact z)
theorem EnvA.pushS (E : EnvA K H0 σ H ρ F) (r : Rep K (mask H (allOf F ρ.length)) v d) : EnvA K H0 (σ ++ [some v]) H (ρ ++ [some (.sh d)]) (fun j => if j = ρ.length then [] else F j) :=
  E.push (B := []) (fun _ _ _ e => e) (by rw [List.append_nil]; exact Same.refl _) (by simp) (by simp) ⟨by rw [List.append_nil]; exact r, rfl⟩
end
end VL
set_option Elab.async false
set_option linter.all false
set_option maxRecDepth 100000
set_option maxHeartbeats 1000000
/-! value layer, part 6: statements -/
namespace VL
open PySem L2

section
variable {X : Cx} {ρ ρ' : RhoW} {e e1 e2 c : Expr} {d : D} {o : O} {pos p : Pos} {Ψ : W → RhoW → Prop}
/-- under owned slots: the value comes as one more slot -/
structure EvW (X : Cx) (ρ : RhoW) (e : Expr) (Ψ : W → RhoW → Prop) : Prop where
  run : ∀ (H0 : Hp) (σ : L2.St) (H : Hp), EnvW X.K H0 σ H ρ → ∀ Q : VK, (∀ v H' w ρ', Ψ w ρ' → ρ'.length = ρ.length → EnvW X.K H0 (σ ++ [some v]) H' (ρ' ++ [some w]) → Q v H') → WE X e σ H Q
theorem EvW.sh (h : Ev X (hide ρ) e d) (k : Ψ (.sh d) ρ) : EvW X ρ e Ψ := ⟨fun H0 σ H ⟨F, E⟩ Q q => by
  refine (WE.frame E.cells (h.run σ (mask H (allOf F ρ.length)) E.envH (fun v M => Same (mask H (allOf F ρ.length)) M ∧ Rep X.K M v d) fun v M s r => ⟨s, r⟩)).mono ?_
  rintro v H' ⟨M, ⟨s, r⟩, rfl, n, up⟩
  refine q v _ (.sh d) ρ k rfl ⟨_, E.push (B := []) (fun a ha u e => by rw [join_in ha]; exact e) ?_ (by simp) (by simp) ⟨?_, rfl⟩⟩
  · rw [List.append_nil, mask_join, mask_of_none n]; exact s
  · rw [List.append_nil, mask_join, mask_of_none n]; exact r⟩
theorem EnvA.pushO {K : PySem.W.Frag} {H0 H M : Hp} {σ : L2.St} {F : Nat → List Addr} {v : V} {A : List Addr} (E : EnvA K H0 σ H ρ F) (s : Same (mask H (allOf F ρ.length)) M) (n : ∀ a ∈ allOf F ρ.length, M a = none) (f : ∀ a ∈ A, mask H (allOf F ρ.length) a = none) (nd : A.Nodup)
    (r : RepO K M (mask M A) v o A) (hd : o.data = d) : EnvW K H0 (σ ++ [some v]) (join M H (allOf F ρ.length)) (ρ ++ [some (.ow o d)]) := by
  have nA : ∀ a ∈ A, a ∉ allOf F ρ.length := fun a ha z => by
    exact r.cells.some ha (n a z)
  have hm : ∀ b u, M b = some u → b ∉ A → mask (join M H (allOf F ρ.length)) (allOf F ρ.length ++ A) b = some u := fun b u e hb => by
    have hb2 : b ∉ allOf F ρ.length := fun z => by rw [n b z] at e; cases e
    rw [mask_out (fun z => (List.mem_append.mp z).elim hb2 hb), join_out hb2]
    exact e
  refine ⟨_, E.push (B := A) (fun a ha u e => by rw [join_in ha]; exact e) (fun b u e => ?_) (fun a ha => ?_) nd ?_⟩
  · have hbA : b ∉ A := fun z => by rw [f b z] at e; cases e
    exact hm b u (s b u e) hbA
  · have := f a ha
    rw [mask_out (nA a ha)] at this
    exact this
  · exact ⟨hd, RepO.keep r (fun a ha u e => by rw [join_out (nA a ha)]; exact e) fun b u e => let ⟨e1, e2⟩ := mask_some e; hm b u e1 e2⟩
theorem EvW.evN {post : O → Prop} (f' : O → D) (h : EvN X (hide ρ) e post) (hd : ∀ o, post o → o.data = f' o) (k : ∀ o, post o → Ψ (.ow o (f' o)) ρ) : EvW X ρ e Ψ := ⟨fun H0 σ H ⟨F, E⟩ Q q => by
  refine (WE.frame E.cells (h.run σ (mask H (allOf F ρ.length)) E.envH (fun v M => ∃ o A, post o ∧ Same (mask H (allOf F ρ.length)) M ∧ (∀ a ∈ A, mask H (allOf F ρ.length) a = none) ∧ A.Nodup ∧ RepO X.K M (mask M A) v o A) fun o v M A po s f n r => ⟨o, A, po, s, f, n, r⟩)).mono ?_
  rintro v H' ⟨M, ⟨o, A, po, s, f, nd, r⟩, rfl, n, up⟩
  exact q v _ (.ow o (f' o)) ρ (k o po) rfl (E.pushO s n f nd r (hd o po))⟩
theorem EvW.own (h : EvO X (hide ρ) e o) (hd : o.data = d) (k : Ψ (.ow o d) ρ) : EvW X ρ e Ψ := .evN (fun _ => d) (h.evN (post := fun o' => o' = o) rfl) (fun o' e => e ▸ hd) fun o' e => e ▸ k
theorem EvW.bor (h : Ev X (VL.bor ρ) e d) (f : d.free = true) (k : Ψ (.sh d) ρ) : EvW X ρ e Ψ := ⟨fun H0 σ H ⟨F, E⟩ Q q => by
  refine h.run σ H E.envB _ fun v H' s r => q v H' (.sh d) ρ k rfl ⟨_, E.push (B := []) (fun a ha u e => s a u e) ?_ (by simp) (by simp) ⟨?_, rfl⟩⟩
  · rw [List.append_nil]
    intro b u e
    obtain ⟨e1, e2⟩ := mask_some e
    rw [mask_out e2]
    exact s b u e1
  · rw [List.append_nil]
    refine r.maskF f fun a ha xs e => ?_
    exact (E.cells.up fun a _ u e => s a u e).notup ha xs e⟩
theorem EvW.borN {post : O → Prop} (f' : O → D) (h : EvN X (VL.bor ρ) e post) (hf : ∀ o, post o → o.free = true) (hd : ∀ o, post o → o.data = f' o) (k : ∀ o, post o → Ψ (.ow o (f' o)) ρ) : EvW X ρ e Ψ := ⟨fun H0 σ H ⟨F, E⟩ Q q => by
  refine h.run σ H E.envB _ fun o v H' A po s f nd r => ?_
  have nA : ∀ a ∈ A, a ∉ allOf F ρ.length := fun a ha z => by
    exact E.cells.some z (f a ha)
  refine q v H' (.ow o (f' o)) ρ (k o po) rfl ⟨_, E.push (B := A) (fun a ha u e => s a u e) (fun b u e => ?_) f nd ?_⟩
  · obtain ⟨e1, e2⟩ := mask_some e
    have hbA : b ∉ A := fun z => by rw [f b z] at e1; cases e1
    rw [mask_out (fun z => (List.mem_append.mp z).elim e2 hbA)]
    exact s b u e1
  · exact ⟨hd o po, RepO.maskF r (hf o po) ((E.cells.up fun a _ u e => s a u e).app r.cells) fun a ha => List.mem_append_right _ ha⟩⟩
theorem EvW.borO (h : EvO X (VL.bor ρ) e o) (hf : o.free = true) (hd : o.data = d) (k : Ψ (.ow o d) ρ) : EvW X ρ e Ψ := .borN (fun _ => d) (h.evN (post := fun o' => o' = o) rfl) (fun o' e => e ▸ hf) (fun o' e => e ▸ hd) fun o' e => e ▸ k
/-- an owned slot is handed over -/
theorem EvW.move {x : Str} (i : Nat) {o : O} (hN : X.N[i]? = some x := by rfl) (hρ : ρ[i]? = some (some (.ow o d)) := by rfl) (k : Ψ (.ow o d) (ρ.set i none)) (hv : Vis X.env.scope x := by first | exact Or.inl rfl | exact Or.inr (Or.inl rfl) | exact Or.inr (Or.inr rfl))
    (hd : (x == ("__debug__" : Str)) = false := by decide) (hcd : (x == ("__classdict__" : Str)) = false := by decide) : EvW X ρ (.Name x pos) Ψ :=
  ⟨fun H0 σ H E Q q => by
    obtain ⟨F, E'⟩ := id E
    obtain ⟨v, hv', r⟩ := E'.get i _ hρ
    exact we_of (pe_var hN hv hd hcd) ⟨v, hv', q v H (.ow o d) (ρ.set i none) k (by simp) (E.moved hρ hv')⟩⟩
theorem EnvW.pair {K : PySem.W.Frag} {H0 H : Hp} {σ : L2.St} {v1 v2 : V} {w1 w2 : W} {q : Addr} {d1 d2 : D} (E : EnvW K H0 (σ ++ [some v1] ++ [some v2]) H (ρ ++ [some w1] ++ [some w2])) (hq : H q = none) (h1 : w1.toO.data = d1) (h2 : w2.toO.data = d2) :
    EnvW K H0 (σ ++ [some (.ref q)]) (upd H q (.tup [v1, v2])) (ρ ++ [some (.ow (.tu [w1.toO, w2.toO]) (.tup [d1, d2]))]) := by
  obtain ⟨F, E⟩ := E
  have hl : σ.length = ρ.length := by have := E.len; simpa using this
  let G : Nat → List Addr := fun k => if k = ρ.length then F ρ.length ++ F (ρ.length + 1) else if k = ρ.length + 1 then [] else F k
  have hall : ∀ a, a ∈ allOf G (ρ ++ [some (W.ow (.tu [w1.toO, w2.toO]) (.tup [d1, d2]))]).length ↔ a ∈ allOf F (ρ ++ [some w1] ++ [some w2]).length := fun a => by
    rw [mem_allOf, mem_allOf]
    constructor
    · rintro ⟨i, hi, h⟩
      dsimp only [G] at h
      simp at hi
      split at h
      · rcases List.mem_append.mp h with h | h
        · exact ⟨ρ.length, by simp, h⟩
        · exact ⟨ρ.length + 1, by simp, h⟩
      · rw [if_neg (by omega)] at h
        exact ⟨i, by simp; omega, h⟩
    · rintro ⟨i, hi, h⟩
      simp at hi
      by_cases e1 : i = ρ.length
      · subst e1
        exact ⟨ρ.length, by simp, by dsimp only [G]; rw [if_pos rfl]; exact List.mem_append_left _ h⟩
      · by_cases e2 : i = ρ.length + 1
        · subst e2
          exact ⟨ρ.length, by simp, by dsimp only [G]; rw [if_pos rfl]; exact List.mem_append_right _ h⟩
        · exact ⟨i, by simp; omega, by dsimp only [G]; rw [if_neg e1, if_neg e2]; exact h⟩
  have hmask : ∀ J : Hp, mask J (allOf G (ρ ++ [some (W.ow (.tu [w1.toO, w2.toO]) (.tup [d1, d2]))]).length) = mask J (allOf F (ρ ++ [some w1] ++ [some w2]).length) := fun J => by
    funext b
    unfold mask
    by_cases hb : b ∈ allOf F (ρ ++ [some w1] ++ [some w2]).length
    · rw [if_pos hb, if_pos ((hall b).mpr hb)]
    · rw [if_neg hb, if_neg (fun z => hb ((hall b).mp z))]
  have hqa : q ∉ allOf F (ρ ++ [some w1] ++ [some w2]).length := fun z => by
    exact E.cells.some z hq
  have sn : Same H (upd H q (.tup [v1, v2])) := Same.new hq
  have sm : Same (mask H (allOf F (ρ ++ [some w1] ++ [some w2]).length)) (mask (upd H q (.tup [v1, v2])) (allOf F (ρ ++ [some w1] ++ [some w2]).length)) := fun b u e => by
    obtain ⟨e1, e2⟩ := mask_some e
    rw [mask_out e2]
    exact sn b u e1
  obtain ⟨u1, g1, r1⟩ := E.get ρ.length w1 (by simp)
  obtain ⟨u2, g2, r2⟩ := E.get (ρ.length + 1) w2 (by simp)
  have eu1 : u1 = v1 := by rw [← hl] at g1; simp at g1; exact g1.symm
  have eu2 : u2 = v2 := by rw [← hl] at g2; simp at g2; exact g2.symm
  subst eu1 eu2
  refine ⟨G, by simp [hl], fun k => ?_, fun j k a h1 h2 => ?_, fun a ha => E.fresh a ((hall a).mp ha), E.same.trans sn, fun i w h => ?_, fun i h => ?_⟩
  · dsimp only [G]
    split
    · refine List.nodup_append.mpr ⟨E.nd _, E.nd _, fun a ha b hb e => ?_⟩
      subst e
      have := E.dj _ _ _ ha hb
      omega
    · split
      · exact List.nodup_nil
      · exact E.nd k
  · dsimp only [G] at h1 h2
    split at h1
    · split at h2
      · omega
      · split at h2
        · cases h2
        · rcases List.mem_append.mp h1 with z | z
          · have := E.dj _ _ _ z h2; omega
          · have := E.dj _ _ _ z h2; omega
    · split at h1
      · cases h1
      · split at h2
        · rcases List.mem_append.mp h2 with z | z
          · have := E.dj _ _ _ h1 z; omega
          · have := E.dj _ _ _ h1 z; omega
        · split at h2
          · cases h2
          · exact E.dj _ _ _ h1 h2
  · rw [hmask]
    by_cases hi : i < ρ.length
    · rw [List.getElem?_append_left hi] at h
      obtain ⟨v', e, r'⟩ := E.get i w (by rw [List.append_assoc, List.getElem?_append_left hi]; exact h)
      rw [List.append_assoc, List.getElem?_append_left (by omega)] at e
      refine ⟨v', by rw [List.getElem?_append_left (by omega)]; exact e, ?_⟩
      dsimp only [G]
      rw [if_neg (by omega), if_neg (by omega)]
      exact r'.keep (fun a _ u e => sn a u e) sm
    · have hi2 := (List.getElem?_eq_some_iff.mp h).1
      simp at hi2
      have e : i = ρ.length := by omega
      subst e
      rw [List.getElem?_append_right (Nat.le_refl _)] at h
      simp at h
      subst h
      refine ⟨.ref q, by rw [← hl]; simp, by rw [O.data, dataAll, dataAll, dataAll, h1, h2], ?_⟩
      dsimp only [G]
      rw [if_pos rfl]
      have t := RepO.tu (K := K) (H := upd H q (.tup [u1, u2])) (S := mask (upd H q (.tup [u1, u2])) (allOf F (ρ ++ [some w1] ++ [some w2]).length)) (a := q) (vs := [u1, u2]) (os := [w1.toO, w2.toO]) (As := [F ρ.length, F (ρ.length + 1)]) (by rw [mask_out hqa]; exact upd_same) rfl rfl
        (((RepOs.nil.cons ((r2.keep (fun a _ u e => sn a u e) sm).toO)).cons ((r1.keep (fun a _ u e => sn a u e) sm).toO)).2.2)
      simpa using t
  · dsimp only [G]
    split
    · rename_i e
      subst e
      exact absurd (by simp) (h (.ow (.tu [w1.toO, w2.toO]) (.tup [d1, d2])))
    · split
      · rfl
      · refine E.off i fun x e => ?_
        have hi2 := (List.getElem?_eq_some_iff.mp e).1
        simp at hi2
        refine h x ?_
        rw [List.append_assoc, List.getElem?_append_left (by omega)] at e
        rw [List.getElem?_append_left (by omega)]
        exact e
/-- (x, y), two owned slots handed over -/
theorem EvW.tup2 {x y : Str} (i j : Nat) {o1 o2 : O} {d1 d2 : D} {k1 : Nat} {p1 p2 : Pos} (hij : i ≠ j) (k : Ψ (.ow (.tu [o1, o2]) (.tup [d1, d2])) ((ρ.set i none).set j none)) (hd1 : o1.data = d1) (hd2 : o2.data = d2)
    (hρi : ρ[i]? = some (some (.ow o1 d1)) := by rfl) (hρj : ρ[j]? = some (some (.ow o2 d2)) := by rfl)
    (hpe : PE X (.Tuple [.Name x p1, .Name y p2] k1 pos) (tTup (tCons (tVar i) (tCons (tVar j) tNil))) := by exact pe_tup (pa_cons (pv _) (pa_cons (pv _) pa_nil))) : EvW X ρ (.Tuple [.Name x p1, .Name y p2] k1 pos) Ψ :=
  ⟨fun H0 σ H E Q q => we_of hpe (by
    obtain ⟨F, E'⟩ := id E
    obtain ⟨v1, h1, _⟩ := E'.get i _ hρi
    obtain ⟨v2, h2, _⟩ := E'.get j _ hρj
    refine ⟨v1, h1, v2, h2, by show 2 ≤ sizeLine; decide, fun t ht => ?_⟩
    have hj : j < ρ.length := (List.getElem?_eq_some_iff.mp hρj).1
    have E1 := E.moved hρi h1
    have E2 := E1.moved (i := j) (w := .ow o2 d2) (v := v2) (by rw [List.getElem?_append_left (by simpa using hj), List.getElem?_set_ne hij]; exact hρj) (by rw [List.getElem?_append_left (by rw [E.len]; exact hj)]; exact h2)
    rw [List.set_append_left _ _ (by simpa using hj)] at E2
    exact q (.ref t) _ (.ow (.tu [o1, o2]) (.tup [d1, d2])) _ k (by simp) (E2.pair ht hd1 hd2))⟩
theorem EvW.mono {Ψ' : W → RhoW → Prop} (h : EvW X ρ e Ψ) (m : ∀ w ρ', Ψ w ρ' → Ψ' w ρ') : EvW X ρ e Ψ' := ⟨fun H0 σ H E Q q => h.run H0 σ H E Q fun v H' w ρ' p => q v H' w ρ' (m w ρ' p)⟩

/-! ### statements over the heap -/
def WS (X : Cx) (st : Stmt) (σ : L2.St) (H : Hp) (D : Ends) : Prop :=
  ∀ (pins : List (Addr × Obj)) (s : Shared), Inv X pins σ H s → wpAny (model X.prog X.w) X.A (exec st X.env) (SP X pins D) X.xe s
def WSs (X : Cx) (st : List Stmt) (σ : L2.St) (H : Hp) (D : Ends) : Prop :=
  ∀ (pins : List (Addr × Obj)) (s : Shared), Inv X pins σ H s → wpAny (model X.prog X.w) X.A (execs st X.env) (SP X pins D) X.xe s
variable {st : Stmt} {rest body orelse : List Stmt}
theorem ps_ws : PS X st (fun D σ H => WS X st σ H D) := ⟨fun pins s σ H D I h => h pins s I⟩
theorem pss_wss {sts : List Stmt} : PSs X sts (fun D σ H => WSs X sts σ H D) := ⟨fun pins s σ H D I h => h pins s I⟩
theorem ws_of {t : TS} {σ : L2.St} {H : Hp} {D : Ends} (h : PS X st t) (q : t D σ H) : WS X st σ H D := fun pins s I => h.run pins s σ H D I q
theorem wss_of {sts : List Stmt} {t : TS} {σ : L2.St} {H : Hp} {D : Ends} (h : PSs X sts t) (q : t D σ H) : WSs X sts σ H D := fun pins s I => h.run pins s σ H D I q
theorem WSs.cons {σ : L2.St} {H : Hp} {D : Ends} (h : WS X st σ H { D with nx := fun σ' H' => WSs X rest σ' H' D }) : WSs X (st :: rest) σ H D := wss_of (pss_cons ps_ws pss_wss) h
/-- a statement that only goes on, with lists put aside -/
theorem WS.frame {σ : L2.St} {H : Hp} {as : List Addr} {N : L2.St → Hp → Prop} {D : Ends} (hl : Hid H as) (h : WS X st σ (mask H as) { nx := N, rt := fun _ _ => False })
    (k : ∀ σ' M, N σ' M → (∀ a ∈ as, M a = none) → Same M (join M H as) → D.nx σ' (join M H as)) : WS X st σ H D := fun pins s I => by
  obtain ⟨own, h1, h2, J⟩ := Inv.hide I hl
  refine thn (h _ s J) fun f s' q => ?_
  cases f with
  | next =>
    obtain ⟨σ', M, J', n⟩ := q
    obtain ⟨I', hn, up⟩ := Inv.show' I hl h1 J'
    exact ⟨σ', _, I', k σ' M n hn up⟩
  | brk => obtain ⟨_, _, _, q⟩ := q; exact q.elim
  | cont => obtain ⟨_, _, _, q⟩ := q; exact q.elim
  | ret u => obtain ⟨_, _, _, _, _, q⟩ := q; exact q.elim

/-! ### what a block is to reach -/
structure Post where
  nx : RhoW → Prop
  rt : O → Prop
  bk : RhoW → Prop := fun _ => False
  ct : RhoW → Prop := fun _ => False
  rs : RhoW → W → Prop := fun _ _ => False
  /-- the classes that may be raised, and what is wished of a raised thing -/
  xs : Value → Prop := fun _ => False
  xw : WX := fun _ _ _ _ => False
structure EndsOk (K : PySem.W.Frag) (H0 : Hp) (n : Nat) (Φ : Post) (D : Ends) : Prop where
  nx : ∀ σ H ρ, Φ.nx ρ → ρ.length = n → EnvW K H0 σ H ρ → D.nx σ H
  bk : ∀ σ H ρ, Φ.bk ρ → ρ.length = n → EnvW K H0 σ H ρ → D.bk σ H
  ct : ∀ σ H ρ, Φ.ct ρ → ρ.length = n → EnvW K H0 σ H ρ → D.ct σ H
  rt : ∀ o v H A, Φ.rt o → Same H0 H → (∀ a ∈ A, H0 a = none) → A.Nodup → RepO K H (mask H A) v o A → D.rt v H
  rs : ∀ σ v w H ρ, Φ.rs ρ w → ρ.length = n → EnvW K H0 (σ ++ [some v]) H (ρ ++ [some w]) → D.rt v H := by intro _ _ _ _ _ h; exact h.elim
  ex : ∀ c σ H, Φ.xs c → σ.length = n → Same H0 H → Φ.xw c none σ H := by intro _ _ _ h; exact h.elim
structure Ws (X : Cx) (ρ : RhoW) (sts : List Stmt) (Φ : Post) : Prop where
  run : ∀ (H0 : Hp) (σ : L2.St) (H : Hp) (D : Ends), EnvW X.K H0 σ H ρ → EndsOk X.K H0 ρ.length Φ D → WSs X sts σ H D
variable {Φ : Post}
theorem Ws.nil (h : Φ.nx ρ) : Ws X ρ [] Φ := ⟨fun H0 σ H D E k => wss_of pss_nil (k.nx σ H ρ h rfl E)⟩
theorem Ws.mono {Φ' : Post} (h : Ws X ρ body Φ) (h1 : ∀ ρ, Φ.nx ρ → Φ'.nx ρ) (h2 : ∀ o, Φ.rt o → Φ'.rt o) (h3 : ∀ ρ, Φ.bk ρ → Φ'.bk ρ) (h4 : ∀ ρ, Φ.ct ρ → Φ'.ct ρ) (h5 : ∀ ρ w, Φ.rs ρ w → Φ'.rs ρ w := by intro _ _ h; exact h) (h6 : ∀ c, Φ.xs c → Φ'.xs c := by intro _ h; exact h) (h7 : Φ'.xw = Φ.xw := by rfl) : Ws X ρ body Φ' :=
  ⟨fun H0 σ H D E k => h.run H0 σ H D E ⟨fun σ H ρ q => k.nx σ H ρ (h1 ρ q), fun σ H ρ q => k.bk σ H ρ (h3 ρ q), fun σ H ρ q => k.ct σ H ρ (h4 ρ q), fun o v H A q => k.rt o v H A (h2 o q), fun σ v w H ρ q => k.rs σ v w H ρ (h5 ρ w q), fun c σ H q l s => h7 ▸ k.ex c σ H (h6 c q) l s⟩⟩
/-- the rest of a block as a wish -/
abbrev Post.then (Φ : Post) (X : Cx) (rest : List Stmt) : Post := { Φ with nx := fun ρ => Ws X ρ rest Φ }
theorem EndsOk.then {K : PySem.W.Frag} {H0 : Hp} {n : Nat} {D : Ends} (hK : X.K = K) (k : EndsOk K H0 n Φ D) : EndsOk K H0 n (Φ.then X rest) { D with nx := fun σ' H' => WSs X rest σ' H' D } :=
  ⟨fun σ H ρ q l E => q.run H0 σ H D (hK ▸ E) (by rw [l, hK]; exact k), k.bk, k.ct, k.rt, k.rs, k.ex⟩
theorem EndsOk.cast {K : PySem.W.Frag} {H0 : Hp} {n m : Nat} {D : Ends} (k : EndsOk K H0 n Φ D) (e : n = m) : EndsOk K H0 m Φ D := e ▸ k

/-- a statement that binds slot i -/
structure Bind (X : Cx) (ρ : RhoW) (st : Stmt) (i : Nat) (Ψ : W → RhoW → Prop) : Prop where
  run : ∀ (H0 : Hp) (σ : L2.St) (H : Hp), EnvW X.K H0 σ H ρ → ∀ D : Ends, (∀ v H' w ρ', Ψ w ρ' → ρ'.length = ρ.length → EnvW X.K H0 (σ ++ [some v]) H' (ρ' ++ [some w]) → D.nx (σ.set i (some v)) H') → WS X st σ H D
theorem Ws.bind {i : Nat} (h : Bind X ρ st i fun w ρ' => Ws X (ρ'.set i (some w)) rest Φ) : Ws X ρ (st :: rest) Φ := ⟨fun H0 σ H D E k =>
  WSs.cons (h.run H0 σ H E _ fun v H' w ρ' q l E' => q.run H0 _ H' D (E'.into i) (k.cast (by simp [l])))⟩
theorem Bind.asg {x : Str} (i : Nat) {pos' : Pos} (hN : X.N.Nodup) (h : EvW X ρ e Ψ) (hi : X.N[i]? = some x := by rfl) (hx : Loc X.env.scope x := by first | exact Or.inl rfl | exact Or.inr rfl)
    (hs : swapsWith e (some (.Name x pos')) pos.line X.env = pure false := by rfl) (hf : X.fn x = true ∨ X.env.scope.names.lookup x = some .local := by first | exact .inl rfl | exact .inr rfl) : Bind X ρ (.Assign [.Name x pos'] e pos) i Ψ :=
  ⟨fun H0 σ H E D k => ws_of (ps_set hN hi hx pe_we hs hf) (h.run H0 σ H E _ fun v H' w ρ' q l E' => k v H' w ρ' q l E')⟩
theorem Ws.asg {x : Str} (i : Nat) {pos' : Pos} (hN : X.N.Nodup) (h : EvW X ρ e fun w ρ' => Ws X (ρ'.set i (some w)) rest Φ) (hi : X.N[i]? = some x := by rfl) (hx : Loc X.env.scope x := by first | exact Or.inl rfl | exact Or.inr rfl)
    (hs : swapsWith e (some (.Name x pos')) pos.line X.env = pure false := by rfl) (hf : X.fn x = true ∨ X.env.scope.names.lookup x = some .local := by first | exact .inl rfl | exact .inr rfl) : Ws X ρ (.Assign [.Name x pos'] e pos :: rest) Φ :=
  .bind (i := i) (.asg i hN h hi hx hs hf)
theorem Ws.if {b : Bool} (h : EvT X (bor ρ) c b) (h1 : b = true → Ws X ρ body (Φ.then X rest)) (h2 : b = false → Ws X ρ orelse (Φ.then X rest)) : Ws X ρ (.If c body orelse pos :: rest) Φ := ⟨fun H0 σ H D E k =>
  WSs.cons (ws_of (ps_if pt_wt pss_wss pss_wss) (by
    obtain ⟨F, E'⟩ := id E
    refine h.run σ H E'.envB _ fun H' s => ?_
    cases b with
    | true => exact iteT ((h1 rfl).run H0 σ H' _ (E.grow s) (k.then rfl))
    | false => exact iteF ((h2 rfl).run H0 σ H' _ (E.grow s) (k.then rfl))))⟩
theorem rt_of {K : PySem.W.Frag} {H0 H : Hp} {σ : L2.St} {v : V} {w : W} {R : VK} (k : ∀ o v H A, Φ.rt o → Same H0 H → (∀ a ∈ A, H0 a = none) → A.Nodup → RepO K H (mask H A) v o A → R v H) (h : Φ.rt w.toO) (E : EnvW K H0 (σ ++ [some v]) H (ρ ++ [some w])) : R v H := by
  obtain ⟨F, E⟩ := E
  have hl : σ.length = ρ.length := by have := E.len; simpa using this
  obtain ⟨v', e, r⟩ := E.get ρ.length w (by simp)
  have ev : v' = v := by rw [← hl] at e; simp at e; exact e.symm
  subst ev
  exact k _ _ _ _ h E.same (fun a ha => E.fresh a (E.mem ha)) (E.nd _) (r.toO.keep (fun _ _ _ z => z) (mask_sub fun a ha => E.mem ha))
theorem Ws.ret (h : EvW X ρ e fun w _ => Φ.rt w.toO) : Ws X ρ (.Return (some e) pos :: rest) Φ := ⟨fun H0 σ H D E k =>
  WSs.cons (ws_of (ps_ret pe_we) (h.run H0 σ H E _ fun v H' w ρ' q l E' => rt_of k.rt q E'))⟩
/-- .. and what stands in the slots is told -/
theorem Ws.retS (h : EvW X ρ e fun w ρ' => Φ.rs ρ' w) : Ws X ρ (.Return (some e) pos :: rest) Φ := ⟨fun H0 σ H D E k =>
  WSs.cons (ws_of (ps_ret pe_we) (h.run H0 σ H E _ fun v H' w ρ' q l E' => k.rs σ v w H' ρ' q l E'))⟩
theorem Ws.retN (h : Φ.rt (.sh .non)) : Ws X ρ (.Return none pos :: rest) Φ := ⟨fun H0 σ H D E k =>
  WSs.cons (ws_of ps_retN (by
    obtain ⟨F, E⟩ := E
    exact k.rt _ _ _ [] h E.same (by simp) (by simp) (.sh .non)))⟩
theorem Ws.expr (h : EvW X ρ e fun _ ρ' => Ws X ρ' rest Φ) (hs : swapsWith e none pos.line X.env = pure false := by rfl) : Ws X ρ (.Expr e pos :: rest) Φ := ⟨fun H0 σ H D E k =>
  WSs.cons (ws_of (ps_expr pe_we hs) (h.run H0 σ H E _ fun v H' w ρ' q l E' => q.run H0 σ H' D E'.pop (k.cast l.symm)))⟩
theorem Ws.pass (h : Ws X ρ rest Φ) : Ws X ρ (.Pass pos :: rest) Φ := ⟨fun H0 σ H D E k => WSs.cons (ws_of ps_pass (h.run H0 σ H D E k))⟩
theorem Ws.break (h : Φ.bk ρ) : Ws X ρ (.Break pos :: rest) Φ := ⟨fun H0 σ H D E k => WSs.cons (ws_of ps_break (k.bk σ H ρ h rfl E))⟩
theorem Ws.continue (h : Φ.ct ρ) : Ws X ρ (.Continue pos :: rest) Φ := ⟨fun H0 σ H D E k => WSs.cons (ws_of ps_continue (k.ct σ H ρ h rfl E))⟩
/-- shared from now on -/
theorem Ws.share {i : Nat} (hi : ρ[i]? = some (some (.ow o d))) (h : Ws X (ρ.set i (some (.sh d))) body Φ) : Ws X ρ body Φ := ⟨fun H0 σ H D E k => h.run H0 σ H D (E.share hi) (k.cast (by simp))⟩

/-- y = [elt for ..] -/
theorem Ws.asgCF {α : Type} {y : Str} {py spos : Pos} {elt tg iter : Expr} {ifs : List Expr} {scope : Scope} {own : List (Str × Nat)} (i : Nat) (L : List α) (h : α → D) (f : α → Bool) (g : α → O) (is : List Nat) (bs : α → List D) (d : D)
    (hc : X.calm = true) (hN : X.N.Nodup) (hi : EvI X (hide ρ) tg iter (L.map h)) (ok : BlkOk X.N X.env.scope scope own) (his : ∀ i ∈ is, i ∈ own.map (·.2))
    (hg : ∀ x ∈ L, ∀ (s : Shared) (H : Hp) (C : Addr) (cl : List (Str × Addr)) (fp : List Addr), EvG (X.blk s H scope (compEnvC scope cl C X.env) fp) tg (h x) is (bs x))
    (ht : ∀ x ∈ L, ∀ (s : Shared) (H : Hp) (C : Addr) (cl : List (Str × Addr)) (fp : List Addr), EvTs (X.blk s H scope (compEnvC scope cl C X.env) fp) (setD (wipeD (hide ρ) (own.map (·.2))) is (bs x)) ifs (f x))
    (he : ∀ x ∈ L, f x = true → ∀ (s : Shared) (H : Hp) (C : Addr) (cl : List (Str × Addr)) (fp : List Addr), EvO (X.blk s H scope (compEnvC scope cl C X.env) fp) (setD (wipeD (hide ρ) (own.map (·.2))) is (bs x)) elt (g x))
    (hl : L.length < sizeLine) (hd : (O.ls ((L.filter f).map g)).data = d) (k : Ws X (ρ.set i (some (.ow (.ls ((L.filter f).map g)) d))) rest Φ)
    (hy : X.N[i]? = some y := by rfl) (hyl : X.env.scope.names.lookup y = some .local := by rfl) (hsw : swapsWith (.ListComp elt [⟨tg, iter, ifs, 0⟩] scope pos) (some (.Name y py)) spos.line X.env = pure true := by exact sw_true rfl rfl rfl (by decide +kernel))
    (hs : ∀ x, foldedSetIterable iter X.env x = pure x := by intro _; rfl) : Ws X ρ (.Assign [.Name y py] (.ListComp elt [⟨tg, iter, ifs, 0⟩] scope pos) spos :: rest) Φ := ⟨fun H0 σ H D ⟨F, E⟩ kk =>
  WSs.cons (WS.frame E.cells (N := fun σ' M => ∃ v A, σ' = σ.set i (some v) ∧ Same (mask H (allOf F ρ.length)) M ∧ (∀ a ∈ A, mask H (allOf F ρ.length) a = none) ∧ A.Nodup ∧ RepO X.K M (mask M A) v (.ls ((L.filter f).map g)) A)
    (ws_of (ps_setLc (g := blkG X scope tg) (tt := blkT X scope ifs) (te := blkE X scope elt) hc hN hy hyl hsw pi_wi ok (fun s H0 C cl fp => ⟨fun pins s' σ' H' v u Q' I r w => w s H0 C cl fp pins s' u I r⟩) (fun s H0 C cl fp => ⟨fun pins s' σ' H' Q' I w => w s H0 C cl fp pins s' I⟩) (fun s H0 C cl fp => ⟨fun pins s' σ' H' Q' I w => w s H0 C cl fp pins s' I⟩) hs)
      (compF_read L h f g is bs hi his hg ht he hl σ (mask H (allOf F ρ.length)) E.envH _ fun v M A s fr nd r => ⟨v, A, rfl, s, fr, nd, r⟩))
    (by
      rintro σ' M ⟨v, A, rfl, s, fr, nd, r⟩ n up
      exact k.run H0 _ _ D ((E.pushO s n fr nd r hd).into i) (kk.cast (by simp))))⟩
theorem Ws.asgC {α : Type} {y : Str} {py spos : Pos} {elt tg iter : Expr} {scope : Scope} {own : List (Str × Nat)} (i : Nat) (L : List α) (h : α → D) (g : α → O) (is : List Nat) (bs : α → List D) (d : D)
    (hc : X.calm = true) (hN : X.N.Nodup) (hi : EvI X (hide ρ) tg iter (L.map h)) (ok : BlkOk X.N X.env.scope scope own) (his : ∀ i ∈ is, i ∈ own.map (·.2))
    (hg : ∀ x ∈ L, ∀ (s : Shared) (H : Hp) (C : Addr) (cl : List (Str × Addr)) (fp : List Addr), EvG (X.blk s H scope (compEnvC scope cl C X.env) fp) tg (h x) is (bs x))
    (he : ∀ x ∈ L, ∀ (s : Shared) (H : Hp) (C : Addr) (cl : List (Str × Addr)) (fp : List Addr), EvO (X.blk s H scope (compEnvC scope cl C X.env) fp) (setD (wipeD (hide ρ) (own.map (·.2))) is (bs x)) elt (g x))
    (hl : L.length < sizeLine) (hd : (O.ls (L.map g)).data = d) (k : Ws X (ρ.set i (some (.ow (.ls (L.map g)) d))) rest Φ)
    (hy : X.N[i]? = some y := by rfl) (hyl : X.env.scope.names.lookup y = some .local := by rfl) (hsw : swapsWith (.ListComp elt [⟨tg, iter, [], 0⟩] scope pos) (some (.Name y py)) spos.line X.env = pure true := by exact sw_true rfl rfl rfl (by decide +kernel))
    (hs : ∀ x, foldedSetIterable iter X.env x = pure x := by intro _; rfl) : Ws X ρ (.Assign [.Name y py] (.ListComp elt [⟨tg, iter, [], 0⟩] scope pos) spos :: rest) Φ := by
  have e : (L.filter fun _ => true) = L := List.filter_eq_self.mpr fun _ _ => rfl
  exact Ws.asgCF i L h (fun _ => true) g is bs d hc hN hi ok his hg (fun _ _ _ _ _ _ _ => .nil) (fun x hx _ => he x hx) hl (by rw [e]; exact hd) (by rw [e]; exact k) hy hyl hsw hs
theorem EnvW.unpair {K : PySem.W.Frag} {H0 H : Hp} {σ : L2.St} {v : V} {o1 o2 : O} (E : EnvW K H0 (σ ++ [some v]) H (ρ ++ [some (.ow (.tu [o1, o2]) d)])) :
    ∃ q v1 v2, v = .ref q ∧ H q = some (.tup [v1, v2]) ∧ EnvW K H0 (σ ++ [some v1] ++ [some v2]) H (ρ ++ [some (.ow o1 o1.data)] ++ [some (.ow o2 o2.data)]) := by
  obtain ⟨F, E⟩ := E
  have hl : σ.length = ρ.length := by have := E.len; simpa using this
  obtain ⟨u, g, r⟩ := E.get ρ.length (.ow (.tu [o1, o2]) d) (by simp)
  have eu : u = v := by rw [← hl] at g; simp at g; exact g.symm
  subst eu
  have r' : RepO K H (mask H (allOf F (ρ ++ [some (W.ow (.tu [o1, o2]) d)]).length)) u (.tu [o1, o2]) (F ρ.length) := r.2
  generalize hS : mask H (allOf F (ρ ++ [some (W.ow (.tu [o1, o2]) d)]).length) = S at r'
  generalize hFn : F ρ.length = Fn at r'
  cases r' with
  | @tu q vs _ As q1 q2 q3 q4 =>
    obtain ⟨v1, v2, rfl⟩ : ∃ v1 v2, vs = [v1, v2] := by
      match vs, q2 with
      | [v1, v2], _ => exact ⟨v1, v2, rfl⟩
    obtain ⟨A1, A2, rfl⟩ : ∃ A1 A2, As = [A1, A2] := by
      match As, q3 with
      | [A1, A2], _ => exact ⟨A1, A2, rfl⟩
    have r1 := q4 0 v1 o1 A1 rfl rfl rfl
    have r2 := q4 1 v2 o2 A2 rfl rfl rfl
    simp at hFn
    have hq : H q = some (.tup [v1, v2]) := by rw [← hS] at q1; exact (mask_some q1).1
    let G : Nat → List Addr := fun k => if k = ρ.length then A1 else if k = ρ.length + 1 then A2 else F k
    have offn : F (ρ.length + 1) = [] := E.off _ fun w e => by rw [List.getElem?_eq_none (by simp)] at e; cases e
    have hall : ∀ a, a ∈ allOf G (ρ ++ [some (W.ow o1 o1.data)] ++ [some (W.ow o2 o2.data)]).length ↔ a ∈ allOf F (ρ ++ [some (W.ow (.tu [o1, o2]) d)]).length := fun a => by
      rw [mem_allOf, mem_allOf]
      constructor
      · rintro ⟨i, hi, h⟩
        dsimp only [G] at h
        simp at hi
        split at h
        · exact ⟨ρ.length, by simp, by rw [hFn]; exact List.mem_append_left _ h⟩
        · split at h
          · exact ⟨ρ.length, by simp, by rw [hFn]; exact List.mem_append_right _ h⟩
          · exact ⟨i, by simp; omega, h⟩
      · rintro ⟨i, hi, h⟩
        simp at hi
        by_cases e1 : i = ρ.length
        · subst e1
          rw [hFn] at h
          rcases List.mem_append.mp h with h | h
          · exact ⟨ρ.length, by simp, by dsimp only [G]; rw [if_pos rfl]; exact h⟩
          · exact ⟨ρ.length + 1, by simp, by dsimp only [G]; rw [if_neg (by omega), if_pos rfl]; exact h⟩
        · exact ⟨i, by simp; omega, by dsimp only [G]; rw [if_neg e1, if_neg (by omega)]; exact h⟩
    have hmask : mask H (allOf G (ρ ++ [some (W.ow o1 o1.data)] ++ [some (W.ow o2 o2.data)]).length) = S := by
      rw [← hS]
      funext b
      unfold mask
      by_cases hb : b ∈ allOf F (ρ ++ [some (W.ow (.tu [o1, o2]) d)]).length
      · rw [if_pos hb, if_pos ((hall b).mpr hb)]
      · rw [if_neg hb, if_neg (fun z => hb ((hall b).mp z))]
    have nd := E.nd ρ.length
    rw [hFn] at nd
    obtain ⟨nd1, nd2, nd3⟩ := List.nodup_append.mp nd
    have inn : ∀ a, a ∈ A1 ∨ a ∈ A2 → a ∈ F ρ.length := fun a h => by rw [hFn]; exact List.mem_append.mpr h
    refine ⟨q, v1, v2, rfl, hq, G, by simp [hl], fun k => ?_, fun j k a h1 h2 => ?_, fun a ha => E.fresh a ((hall a).mp ha), E.same, fun i w h => ?_, fun i h => ?_⟩
    · dsimp only [G]
      split
      · exact nd1
      · split
        · exact nd2
        · exact E.nd k
    · dsimp only [G] at h1 h2
      split at h1
      · split at h2
        · omega
        · split at h2
          · exact absurd rfl (nd3 a h1 a h2)
          · have := E.dj _ _ _ (inn a (.inl h1)) h2; omega
      · split at h1
        · split at h2
          · exact absurd rfl (nd3 a h2 a h1)
          · split at h2
            · omega
            · have := E.dj _ _ _ (inn a (.inr h1)) h2; omega
        · split at h2
          · have := E.dj _ _ _ (inn a (.inl h2)) h1; omega
          · split at h2
            · have := E.dj _ _ _ (inn a (.inr h2)) h1; omega
            · exact E.dj _ _ _ h1 h2
    · rw [hmask]
      by_cases hi : i < ρ.length
      · rw [List.append_assoc, List.getElem?_append_left hi] at h
        obtain ⟨v', e, r'⟩ := E.get i w (by rw [List.getElem?_append_left hi]; exact h)
        rw [List.getElem?_append_left (by omega)] at e
        refine ⟨v', by rw [List.append_assoc, List.getElem?_append_left (by omega)]; exact e, ?_⟩
        dsimp only [G]
        rw [if_neg (by omega), if_neg (by omega), ← hS]
        exact r'
      · have hi2 := (List.getElem?_eq_some_iff.mp h).1
        simp at hi2
        by_cases e : i = ρ.length
        · subst e
          simp at h
          subst h
          refine ⟨v1, by rw [← hl]; simp, rfl, ?_⟩
          dsimp only [G]
          rw [if_pos rfl]
          exact r1
        · have e2 : i = ρ.length + 1 := by omega
          subst e2
          simp at h
          subst h
          refine ⟨v2, by rw [← hl]; simp, rfl, ?_⟩
          dsimp only [G]
          rw [if_neg (by omega), if_pos rfl]
          exact r2
    · dsimp only [G]
      split
      · rename_i e
        subst e
        exact absurd (by simp) (h (.ow o1 o1.data))
      · split
        · rename_i e
          subst e
          exact absurd (by simp) (h (.ow o2 o2.data))
        · refine E.off i fun x e => ?_
          have hi2 := (List.getElem?_eq_some_iff.mp e).1
          simp at hi2
          refine h x ?_
          rw [List.getElem?_append_left (by omega)] at e
          rw [List.append_assoc, List.getElem?_append_left (by omega)]
          exact e
/-- x, y = e, e two own things -/
theorem Ws.unpack2 {x y : Str} (i j : Nat) {k1 : Nat} {p1 p2 tp : Pos} (hc : X.calm = true) (hN : X.N.Nodup) (h : EvW X ρ e fun w ρ' => ∃ o1 o2 d, w = .ow (.tu [o1, o2]) d ∧ Ws X ((ρ'.set i (some (.ow o1 o1.data))).set j (some (.ow o2 o2.data))) rest Φ) (hij : i ≠ j) (hjd : decide (j < ρ.length) = true := by rfl)
    (hps : ∀ {te}, X.N.Nodup → PE X e te → PS X (.Assign [.Tuple [.Name x p1, .Name y p2] k1 tp] e pos) (tAsg te (gTup X.K 2 (gCons (gName i) (gCons (gName j) gNil)))) := by
      intro te hN ht; exact ps_asg ht (pg_tup rfl (pgs_cons (pg_name hN rfl (by first | exact Or.inl rfl | exact Or.inr rfl)) (pgs_cons (pg_name hN rfl (by first | exact Or.inl rfl | exact Or.inr rfl)) pgs_nil)))) :
    Ws X ρ (.Assign [.Tuple [.Name x p1, .Name y p2] k1 tp] e pos :: rest) Φ := ⟨fun H0 σ H D E kk =>
  WSs.cons (ws_of (hps hN pe_we) (h.run H0 σ H E _ fun v H' w ρ' q l E' => by
    have hj : j < ρ.length := of_decide_eq_true hjd
    obtain ⟨o1, o2, d, rfl, q⟩ := q
    obtain ⟨a, v1, v2, rfl, ha, E2⟩ := E'.unpair
    refine ⟨a, [v1, v2], rfl, SqT.of ha, rfl, v1, [v2], rfl, v2, [], rfl, rfl, ?_⟩
    have E3 := E2.into j
    have hl : σ.length = ρ'.length := by have := E'.len; simpa using this
    rw [List.set_append_left _ _ (by omega), List.set_append_left _ _ (by omega)] at E3
    have E4 := E3.into i
    rw [List.set_comm _ _ hij.symm, List.set_comm _ _ hij.symm] at E4
    exact q.run H0 _ H' D E4 (kk.cast (by simp [l]))))⟩

/-! ### lists changed in place -/
/-- the value is shared data -/
def shD (d : D) (ρ : RhoW) : W → RhoW → Prop := fun w ρ' => w = .sh d ∧ ρ' = ρ
/-- x.append(e) -/
theorem Ws.append {x : Str} (i : Nat) {ds : List D} (ds' : List D) {d1 : D} {q1 q2 : Pos} (h : EvW X ρ e (shD d ρ)) (hL : ds ++ [d] = ds') (k : Ws X (ρ.set i (some (.ow (oL ds') (.lst ds')))) rest Φ) (hN : X.N[i]? = some x := by rfl) (hρ : ρ[i]? = some (some (.ow (oL ds) d1)) := by rfl)
    (hz : ds.length < 100000 := by first | omega | (simp; done) | (simp; omega)) (hpe : ∀ {t}, PE X e t → PE X (.Call (.Attribute (.Name x q1) "append" q2) [e] [] p) (tBM X.K "list" rAppend (tVar i) (tCons t tNil)) := by
      intro t ht; exact pe_bm PySem.F.plainAttrs_list PySem.F.slot_list_append PySem.F.type_list_append mt_append (pv _) (pa_cons ht pa_nil))
    (hs : swapsWith (.Call (.Attribute (.Name x q1) "append" q2) [e] [] p) none pos.line X.env = pure false := by rfl) : Ws X ρ (.Expr (.Call (.Attribute (.Name x q1) "append" q2) [e] [] p) pos :: rest) Φ := ⟨fun H0 σ H D E kk =>
  WSs.cons (ws_of (ps_expr (hpe pe_we) hs) (by
    obtain ⟨F, E1⟩ := id E
    obtain ⟨a, vs, hσ, ha, _, _⟩ := E1.flat hρ
    refine ⟨.ref a, hσ, .inl ⟨rfl, vs, SqL.of ha⟩, h.run H0 σ H E _ fun v H' w ρ' q l E' => ?_⟩
    obtain ⟨rfl, rfl⟩ := q
    have hi := (List.getElem?_eq_some_iff.mp hρ).1
    have hl := E.len
    obtain ⟨F', E2⟩ := E'
    have hρ' : (ρ' ++ [some (W.sh d)])[i]? = some (some (.ow (oL ds) d1)) := by rw [List.getElem?_append_left hi]; exact hρ
    obtain ⟨a', vs', hσ', ha', hF, rs'⟩ := E2.flat hρ'
    have eav : a' = a := by
      rw [List.getElem?_append_left (by omega), hσ] at hσ'
      simpa using hσ'.symm
    subst eav
    obtain ⟨v', hv', rv⟩ := E2.get ρ'.length (.sh d) (by simp)
    have ev : v' = v := by rw [← hl] at hv'; simp at hv'; exact hv'.symm
    subst ev
    refine ⟨a', vs', v', rfl, rfl, ha', by rw [rs'.1]; exact Nat.lt_of_lt_of_le hz (by decide), ?_⟩
    have En := (E2.mutF hρ' hσ' hF (rs'.append (.cons rv.1 .nil))).1
    rw [List.set_append_left _ _ hi, hL] at En
    exact k.run H0 σ _ D (EnvW.pop ⟨_, En⟩) (kk.cast (by simp))))⟩
/-- x.name(e, ..), x an owned flat list: any method -/
theorem EvW.meth {name x : Str} {es : List Expr} {q1 q2 : Pos} {ds args : List D} {dr d1 : D} (i : Nat) (ds' : List D) {r : V → List V → Hp → VK → Prop} (hρ : ρ[i]? = some (some (.ow (oL ds) d1))) (ha : EvA X (VL.bor ρ) es args) (hf : freeAll args = true)
    (hpe : ∀ {t : TA}, PA X es t → PE X (.Call (.Attribute (.Name x q1) name q2) es [] p) (tBM X.K "list" r (tVar i) t))
    (hr : ∀ (K : PySem.W.Frag) (a : Addr) (vs ws : List V) (H M : Hp) (Q : VK), H a = some (.lst vs) → Reps K M vs ds → Reps K M ws args → (∀ v vs', Rep K M v dr → Reps K M vs' ds' → Q v (upd H a (.lst vs'))) → r (.ref a) ws H Q)
    (k : Ψ (.sh dr) (ρ.set i (some (.ow (oL ds') (.lst ds'))))) : EvW X ρ (.Call (.Attribute (.Name x q1) name q2) es [] p) Ψ := ⟨fun H0 σ H E Q q => we_of (hpe pa_wa) (by
  obtain ⟨F, E'⟩ := id E
  obtain ⟨a, vs, hσ, hv, _, _⟩ := E'.flat hρ
  refine ⟨.ref a, hσ, .inl ⟨rfl, vs, SqL.of hv⟩, ha.run σ H E'.envB _ fun ws H1 s1 rw => ?_⟩
  obtain ⟨F1, E1⟩ := E.grow s1
  obtain ⟨a', vs', hσ', hv', hF, rs'⟩ := E1.flat hρ
  have ea : a' = a := by rw [hσ] at hσ'; simpa using hσ'.symm
  subst ea
  have rwM : Reps X.K (mask H1 (allOf F1 ρ.length)) ws args := ⟨rw.1, fun k v d e1 e2 => (rw.2 k v d e1 e2).maskF (freeAll_get hf e2) E1.notup⟩
  refine hr X.K a' vs' ws H1 _ Q hv' rs' rwM fun v vs2 rv r2 => ?_
  obtain ⟨E2, hm⟩ := E1.mutF hρ hσ' hF r2
  exact q v _ (.sh dr) _ k (by simp) ⟨_, E2.pushS (by rw [hm]; exact rv)⟩)⟩
/-- x.name() -/
theorem EvW.meth0 {name x : Str} {q1 q2 : Pos} {ds : List D} {dr d1 : D} (i : Nat) (ds' : List D) {r : V → List V → Hp → VK → Prop} (hρ : ρ[i]? = some (some (.ow (oL ds) d1)))
    (hpe : PE X (.Call (.Attribute (.Name x q1) name q2) [] [] p) (tBM0 X.K "list" r (tVar i)))
    (hr : ∀ (K : PySem.W.Frag) (a : Addr) (vs : List V) (H M : Hp) (Q : VK), H a = some (.lst vs) → Reps K M vs ds → (∀ v vs', Rep K M v dr → Reps K M vs' ds' → Q v (upd H a (.lst vs'))) → r (.ref a) [] H Q)
    (k : Ψ (.sh dr) (ρ.set i (some (.ow (oL ds') (.lst ds'))))) : EvW X ρ (.Call (.Attribute (.Name x q1) name q2) [] [] p) Ψ := ⟨fun H0 σ H E Q q => we_of hpe (by
  obtain ⟨F, E1⟩ := id E
  obtain ⟨a', vs', hσ', hv', hF, rs'⟩ := E1.flat hρ
  refine ⟨.ref a', hσ', .inl ⟨rfl, vs', SqL.of hv'⟩, ?_⟩
  refine hr X.K a' vs' H _ Q hv' rs' fun v vs2 rv r2 => ?_
  obtain ⟨E2, hm⟩ := E1.mutF hρ hσ' hF r2
  exact q v _ (.sh dr) _ k (by simp) ⟨_, E2.pushS (by rw [hm]; exact rv)⟩)⟩
/-- x[i] = e -/
theorem Ws.setItem {x : Str} (i : Nat) {ds : List D} {z : Int} {j : Nat} (ds' : List D) {d1 : D} {q1 q2 : Pos} {ei : Expr} (he : Ev X (VL.bor ρ) e d) (hf : d.free = true) (hz : Ev X (VL.bor ρ) ei (.int z)) (hj : ixN ds.length z = some j) (hL : ds.set j d = ds')
    (k : Ws X (ρ.set i (some (.ow (oL ds') (.lst ds')))) rest Φ) (hN : X.N[i]? = some x := by rfl) (hρ : ρ[i]? = some (some (.ow (oL ds) d1)) := by rfl)
    (hps : ∀ {te ti}, PE X e te → PE X ei ti → PS X (.Assign [.Subscript (.Name x q1) ei q2] e pos) (tAsg te (gSub (tVar i) ti rSetL)) := by intro te ti h1 h2; exact ps_asg h1 (pg_sub (pv _) h2 set_list)) :
    Ws X ρ (.Assign [.Subscript (.Name x q1) ei q2] e pos :: rest) Φ := ⟨fun H0 σ H D E kk =>
  WSs.cons (ws_of (hps pe_we pe_we) (by
    obtain ⟨F, E1⟩ := id E
    refine he.run σ H E1.envB _ fun v H1 s1 rv => ?_
    obtain ⟨F1, E2⟩ := E.grow s1
    obtain ⟨a, vs, hσ, hv, _, _⟩ := E2.flat hρ
    refine ⟨.ref a, hσ, hz.run σ H1 E2.envB _ fun u H2 s2 ru => ?_⟩
    obtain rfl := ru.int_inv
    obtain ⟨F3, E3⟩ := (E.grow s1).grow s2
    obtain ⟨a', vs', hσ', hv', hF, rs'⟩ := E3.flat hρ
    have ea : a' = a := by rw [hσ] at hσ'; simpa using hσ'.symm
    subst ea
    refine ⟨a', vs', z, j, rfl, rfl, hv', by rw [rs'.1]; exact hj, ?_⟩
    have En := (E3.mutF hρ hσ' hF (rs'.set j ((rv.mono s2).maskF hf E3.notup))).1
    rw [hL] at En
    exact k.run H0 σ _ D ⟨_, En⟩ (kk.cast (by simp))))⟩

/-! ### loops -/
theorem WI.frame {tg iter : Expr} {σ : L2.St} {H : Hp} {as : List Addr} {R : It → Hp → Prop} (hl : Hid H as) (h : WI X tg iter σ (mask H as) R) :
    WI X tg iter σ H (fun J H' => ∃ M, R J M ∧ H' = join M H as ∧ (∀ a ∈ as, M a = none) ∧ Same M H') := fun pins s I => by
  obtain ⟨own, h1, h2, J⟩ := Inv.hide I hl
  refine thn (h _ s J) fun u s' q => thn q fun itv s2 ⟨it, fp, tn, J', M, e, I2, T, st, f, r⟩ => ?_
  obtain ⟨I', n, up⟩ := Inv.show' I hl h1 I2
  refine ⟨it, fp, tn, J', _, e, I', T, st, fun b hb => ?_, M, r, rfl, n, up⟩
  obtain ⟨f0, f1, f2, f3, f4, f5⟩ := f b hb
  have nb : b ∉ as := fun z => by
    obtain ⟨o, q1, _⟩ := h1 b z
    exact f5 (b, o) (List.mem_append_right _ (List.mem_append_right _ q1)) rfl
  exact ⟨by rw [join_out nb]; exact f0, f1, f2, f3, f4, fun p hp => f5 p (by
    rcases List.mem_append.mp hp with z | z
    · exact List.mem_append_left _ z
    · exact List.mem_append_right _ (List.mem_append_left _ z))⟩
def setW (ρ : RhoW) : List Nat → List D → RhoW
  | i :: is, d :: ds => setW (ρ.set i (some (.sh d))) is ds
  | _, _ => ρ
theorem setW_length : ∀ {is : List Nat} {ds : List D} {ρ : RhoW}, (setW ρ is ds).length = ρ.length
  | [], ds, ρ => by unfold setW; rfl
  | i :: is, [], ρ => by unfold setW; rfl
  | i :: is, d :: ds, ρ => by unfold setW; rw [setW_length]; simp
/-- shared values are stored -/
theorem EnvW.store {K : PySem.W.Frag} {H0 H M : Hp} : ∀ {is : List Nat} {vs : List V} {ds : List D} {σ : L2.St} {ρ : RhoW} {F : Nat → List Addr}, EnvA K H0 σ H ρ F → Same M (mask H (allOf F ρ.length)) → Reps K M vs ds → EnvW K H0 (setAll σ is vs) H (setW ρ is ds)
  | [], vs, ds, σ, ρ, F, E, s, r => by unfold setAll setW; exact ⟨F, E⟩
  | i :: is, [], [], σ, ρ, F, E, s, r => by unfold setAll setW; exact ⟨F, E⟩
  | i :: is, [], d :: ds, σ, ρ, F, E, s, r => by have := r.1; simp at this
  | i :: is, v :: vs, [], σ, ρ, F, E, s, r => by have := r.1; simp at this
  | i :: is, v :: vs, d :: ds, σ, ρ, F, E, s, r => by
    unfold setAll setW
    let G : Nat → List Addr := fun j => if j = i then [] else F j
    have sub : ∀ a ∈ allOf G (ρ.set i (some (.sh d))).length, a ∈ allOf F ρ.length := fun a ha => by
      obtain ⟨j, hj, h1⟩ := mem_allOf.mp ha
      dsimp only [G] at h1
      split at h1
      · cases h1
      · exact E.mem h1
    have E' : EnvA K H0 (σ.set i (some v)) H (ρ.set i (some (.sh d))) G := by
      refine ⟨by simp [E.len], fun j => ?_, fun j j' a h1 h2 => ?_, fun a ha => E.fresh a (sub a ha), E.same, fun j w hw => ?_, fun j hj => ?_⟩
      · dsimp only [G]
        split
        · exact List.nodup_nil
        · exact E.nd j
      · dsimp only [G] at h1 h2
        split at h1
        · cases h1
        · split at h2
          · cases h2
          · exact E.dj j j' a h1 h2
      · rw [List.getElem?_set] at hw
        by_cases e : i = j
        · subst e
          rw [if_pos rfl] at hw
          split at hw
          · rename_i hi
            obtain rfl := Option.some.inj (Option.some.inj hw)
            refine ⟨v, by rw [List.getElem?_set, if_pos rfl, if_pos (by rw [E.len]; exact hi)], ⟨r.cons_inv.1.mono (s.trans (mask_sub sub)), by dsimp only [G]; rw [if_pos rfl]⟩⟩
          · cases hw
        · rw [if_neg e] at hw
          obtain ⟨v', h1, r'⟩ := E.get j w hw
          refine ⟨v', by rw [List.getElem?_set_ne e]; exact h1, ?_⟩
          dsimp only [G]
          rw [if_neg (Ne.symm e)]
          exact r'.keep (fun _ _ _ z => z) (mask_sub sub)
      · dsimp only [G]
        split
        · rfl
        · rename_i e
          refine E.off j fun w z => hj w ?_
          rw [List.getElem?_set_ne (Ne.symm e)]
          exact z
    exact EnvW.store E' (s.trans (mask_sub sub)) r.cons_inv.2
/-- the heap ahead taken as what was there -/
theorem EnvA.rebase {K : PySem.W.Frag} {H0 H : Hp} {σ : L2.St} {F : Nat → List Addr} (E : EnvA K H0 σ H ρ F) : EnvA K (mask H (allOf F ρ.length)) σ H ρ F :=
  ⟨E.len, E.nd, E.dj, fun a ha => mask_in ha, mask_same, E.get, E.off⟩
theorem EnvW.unbase {K : PySem.W.Frag} {H0 H1 H : Hp} {σ : L2.St} (E : EnvW K H1 σ H ρ) (s : Same H0 H1) : EnvW K H0 σ H ρ :=
  let ⟨F, E⟩ := E; ⟨F, E.len, E.nd, E.dj, fun a ha => s.free (E.fresh a ha), s.trans E.same, E.get, E.off⟩
theorem Ws.for {tg iter : Expr} {items : List D} (Iv : Nat → RhoW → Prop) (is : List Nat) (bs : Nat → List D) (hp : PassesOwn (model X.prog X.w) X.A X.env X.xe) (hc : X.calm = true) (hi : EvI X (hide ρ) tg iter items)
    (hg : ∀ i d, items[i]? = some d → EvG X tg d is (bs i)) (h0 : Iv 0 ρ)
    (hb : ∀ i d ρ', items[i]? = some d → Iv i ρ' → ρ'.length = ρ.length → Ws X (setW ρ' is (bs i)) body { nx := Iv (i + 1), rt := Φ.rt, bk := fun ρ => Ws X ρ rest Φ, ct := Iv (i + 1), rs := Φ.rs, xs := Φ.xs, xw := Φ.xw })
    (hd : ∀ ρ', Iv items.length ρ' → ρ'.length = ρ.length → Ws X ρ' rest Φ) (hs : ∀ x, foldedSetIterable iter X.env x = pure x := by intro _; rfl) : Ws X ρ (.For tg iter body [] pos :: rest) Φ := ⟨fun H0 σ H D ⟨F, E⟩ k => by
  refine WSs.cons (ws_of (ps_for hp hc pi_wi pg_wg pss_wss hs) ?_)
  refine (show WI X tg iter σ H _ from ?_)
  have fr := WI.frame E.cells (hi.run σ (mask H (allOf F ρ.length)) E.envH (fun J M => Same (mask H (allOf F ρ.length)) M ∧ Src X.K M J items) fun J M s r => ⟨s, r⟩)
  intro pins s I
  refine thn (fr pins s I) fun u s' q => thn q fun itv s2 ⟨it, fp, tn, J, H1, e, I2, T, st, f, M, ⟨s1, src⟩, e2, n, up⟩ => ⟨it, fp, tn, J, H1, e, I2, T, st, f, ?_⟩
  subst e2
  obtain ⟨G, Y, wk, hG, hY⟩ := src.go
  -- the state at the loop's start
  have keep : ∀ a ∈ allOf F ρ.length, ∀ u, H a = some u → (join M H (allOf F ρ.length)) a = some u := fun a ha u e => by rw [join_in ha]; exact e
  have mM : mask (join M H (allOf F ρ.length)) (allOf F ρ.length) = M := by rw [mask_join, mask_of_none n]
  have E1 : EnvA X.K H0 σ (join M H (allOf F ρ.length)) ρ F :=
    ⟨E.len, E.nd, E.dj, E.fresh, fun b u e => by
      have hb : b ∉ allOf F ρ.length := fun z => by rw [E.fresh b z] at e; cases e
      rw [join_out hb]
      exact s1 b u (by rw [mask_out hb]; exact E.same b u e), fun i w h => let ⟨v, h1, r⟩ := E.get i w h; ⟨v, h1, r.keep (fun a ha u q => keep a (E.mem ha) u q) (by rw [mM]; exact s1)⟩, E.off⟩
  have E2 : EnvA X.K M σ (join M H (allOf F ρ.length)) ρ F := by have := E1.rebase; rw [mM] at this; exact this
  have s0 : Same H0 M := fun b u e => by
    have hb : b ∉ allOf F ρ.length := fun z => by rw [E.fresh b z] at e; cases e
    exact s1 b u (by rw [mask_out hb]; exact E.same b u e)
  refine for_it (g := WG X tg) (tb := fun D σ H => WSs X body σ H D) (D := { D with nx := fun σ' H' => WSs X rest σ' H' D }) wk (fun i σ' H' => ∃ ρ', Iv i ρ' ∧ ρ'.length = ρ.length ∧ EnvW X.K M σ' H' ρ') ⟨ρ, h0, rfl, F, E2⟩ (fun i σ' H' _ ⟨ρ', _, _, E'⟩ => ?_) (fun i x σ' H' H2 hlt ⟨ρ', iv, lr, E'⟩ y => ?_) (fun σ' H' ⟨ρ', iv, lr, E'⟩ => ?_)
  · obtain ⟨F', E'⟩ := E'
    exact hG H' E'.same
  · obtain ⟨F', E'⟩ := E'
    obtain ⟨s2, d, hd', rd⟩ := hY i H' x H2 hlt E'.same y
    have rd' := rd (allOf F' ρ'.length) fun a ha => ⟨E'.fresh a ha, fun z => E'.cells.some ha z⟩
    have E3 : EnvA X.K M σ' H2 ρ' F' := ⟨E'.len, E'.nd, E'.dj, E'.fresh, E'.same.trans s2, fun j w h => let ⟨v, h1, r⟩ := E'.get j w h; ⟨v, h1, r.keep (fun a _ u e => s2 a u e) fun b u e => by
      obtain ⟨e1, e2⟩ := mask_some e
      rw [mask_out e2]
      exact s2 b u e1⟩, E'.off⟩
    show WG X tg x σ' H2 _
    refine (hg i d hd').run σ' H2 _ x mask_same rd' _ fun vs rs => ?_
    have E4 : EnvW X.K M (setAll σ' is vs) H2 (setW ρ' is (bs i)) := EnvW.store E3 (Same.refl _) rs
    refine (hb i d ρ' hd' iv lr).run M _ H2 _ E4 ⟨fun σ H ρ'' q l E => ⟨ρ'', q, by rw [l, setW_length, lr], E⟩, fun σ H ρ'' q l E => ?_, fun σ H ρ'' q l E => ⟨ρ'', q, by rw [l, setW_length, lr], E⟩, fun o v H A q s f nd r => ?_, fun σ v w H ρ'' q l E => ?_, fun c σ H q l s => k.ex c σ H q (by rw [l, setW_length, lr]) (s0.trans s)⟩
    · exact q.run H0 σ H D (E.unbase s0) (k.cast (by rw [l, setW_length, lr]))
    · exact k.rt o v H A q (s0.trans s) (fun a ha => s0.free (f a ha)) nd r
    · exact k.rs σ v w H ρ'' q (by rw [l, setW_length, lr]) (E.unbase s0)
  · exact (hd ρ' iv lr).run H0 σ' H' D (E'.unbase s0) (k.cast lr.symm)⟩
theorem Ws.while {c : Expr} (Iv : Nat → RhoW → Prop) (hp : PassesOwn (model X.prog X.w) X.A X.env X.xe) (m : Nat) (h0 : Iv m ρ)
    (hb : ∀ m ρ', Iv m ρ' → ρ'.length = ρ.length → ∃ b, EvT X (bor ρ') c b ∧ (b = true → Ws X ρ' body { nx := fun ρ'' => ∃ m', m' < m ∧ Iv m' ρ'', rt := Φ.rt, bk := fun ρ => Ws X ρ rest Φ, ct := fun ρ'' => ∃ m', m' < m ∧ Iv m' ρ'', rs := Φ.rs, xs := Φ.xs, xw := Φ.xw }) ∧ (b = false → Ws X ρ' rest Φ)) :
    Ws X ρ (.While c body [] pos :: rest) Φ := ⟨fun H0 σ H D E k => by
  refine WSs.cons (ws_of (ps_while hp pt_wt pss_wss) ?_)
  refine ⟨fun m σ' H' => ∃ ρ', Iv m ρ' ∧ ρ'.length = ρ.length ∧ EnvW X.K H0 σ' H' ρ', ⟨m, ρ, h0, rfl, E⟩, ?_⟩
  rintro m σ' H' ⟨ρ', iv, lr, E'⟩
  obtain ⟨b, ht, hT, hF⟩ := hb m ρ' iv lr
  obtain ⟨F, E2⟩ := id E'
  refine ht.run σ' H' E2.envB _ fun H2 s => ?_
  cases b with
  | true =>
    refine iteT ⟨fun σ H => ∃ m', m' < m ∧ ∃ ρ', Iv m' ρ' ∧ ρ'.length = ρ.length ∧ EnvW X.K H0 σ H ρ', fun σ H h => h, ?_⟩
    refine (hT rfl).run H0 σ' H2 _ (E'.grow s) ⟨fun σ H ρ'' q l E => ?_, fun σ H ρ'' q l E => ?_, fun σ H ρ'' q l E => ?_, fun o v H A q s f nd r => k.rt o v H A q s f nd r, fun σ v w H ρ'' q l E => k.rs σ v w H ρ'' q (by rw [l, lr]) E, fun c σ H q l s => k.ex c σ H q (by rw [l, lr]) s⟩
    · obtain ⟨m', hm, q⟩ := q
      exact ⟨m', hm, ρ'', q, by rw [l, lr], E⟩
    · exact q.run H0 σ H D E (k.cast (by rw [l, lr]))
    · obtain ⟨m', hm, q⟩ := q
      exact ⟨m', hm, ρ'', q, by rw [l, lr], E⟩
  | false => exact iteF ((hF rfl).run H0 σ' H2 D (E'.grow s) (k.cast lr.symm))⟩
end
end VL
set_option Elab.async false
set_option linter.all false
set_option maxRecDepth 100000
set_option maxHeartbeats 1000000
/-! value layer, part 7: a def by its body, the law -/
namespace VL
open PySem L2 PySem.Spec
/-- a def of the text as the top leaves it -/
structure Df (K : PySem.W.Frag) (mg : Str → Option Value) (x : Str) (st : Stmt) (ps : List Str) : Prop where
  ex : ∃ (f : Addr) (fd : FuncData), mg x = some (.ref f) ∧ Fun K x x st f fd ∧ Binds K fd ps []
def startW (n : Nat) (ds : List D) : RhoW := ds.map (fun d => some (W.sh d)) ++ List.replicate (n - ds.length) none
section
variable {P : Program} {w : World} {K : PySem.W.Frag} {mg : Str → Option Value} {base : Heap}
theorem start_env {H : Hp} {N : List Str} {vs : List V} {ds : List D} (r : Reps K H vs ds) : EnvW K H (L2.start N vs) H (startW N.length ds) := by
  have hall : allOf (fun _ => []) (startW N.length ds).length = [] := by unfold allOf; simp
  refine ⟨fun _ => [], ?_, fun _ => List.nodup_nil, fun i j a h => (by cases h), fun a ha => (by rw [hall] at ha; cases ha), Same.refl H, fun i x h => ?_, fun _ _ => rfl⟩
  · unfold L2.start startW; simp [r.1]
  · rw [hall, mask_nil]
    unfold startW at h
    have hi : i < ds.length := by
      by_cases hi : i < ds.length
      · exact hi
      · rw [List.getElem?_append_right (by simpa using hi), List.getElem?_replicate] at h
        split at h <;> cases h
    rw [List.getElem?_append_left (by simpa using hi), List.getElem?_map, List.getElem?_eq_getElem hi] at h
    obtain rfl := Option.some.inj (Option.some.inj h)
    obtain ⟨v, e, rv⟩ := r.get (List.getElem?_eq_getElem hi)
    refine ⟨v, ?_, rv, rfl⟩
    unfold L2.start
    have hv := (List.getElem?_eq_some_iff.mp e).1
    rw [List.getElem?_append_left (by simpa using hv), List.getElem?_map, e]
    rfl
theorem fnOk_of {x qual : Str} {st : Stmt} {f : Addr} {fd : FuncData} {N ps : List Str} {k : Nat} {ds : List D} {post : O → Prop} {ρ : RhoW} (F : Fun K x qual st f fd) (S : FnScope N ps (defScope st)) (hl : ps.length = ds.length) (hρ : startW N.length ds = ρ)
    (h : ∀ (cdv : Value) (A : Around) (outer : List Env) (s : Shared) (H : Hp) (E : XK), Room k (cxOf CX0 P w K mg base N qual (defScope st) f cdv A outer s H E).A →
      Ws (cxOf CX0 P w K mg base N qual (defScope st) f cdv A outer s H E).nox ρ (defBody st) { nx := fun _ => post (.sh .non), rt := post }) : FnOk P w K mg base CX0 (k + 1) f fd ps (spV K ds post) := by
  refine F.ok S (fun vs H Q E q => by rw [hl]; exact q.1.1) fun cdv A outer s H vs Q E hr q => ?_
  obtain ⟨r, q⟩ := q
  refine ⟨_, pss_wss, ?_⟩
  refine (h cdv A outer s H E hr).run H (L2.start N vs) H _ (hρ ▸ start_env r) ⟨fun σ H' ρ' p l E' => ?_, fun σ H' ρ' p l E' => p.elim, fun σ H' ρ' p l E' => p.elim, fun o v H' A p s f nd r => q o v H' A p s f nd r, fun _ _ _ _ _ p => p.elim, fun _ _ _ p => p.elim⟩
  obtain ⟨F', E'⟩ := E'
  exact q (.sh .non) .non H' [] p E'.same (by simp) (by simp) (.sh .non)
theorem VF.of {x : Str} {st : Stmt} {N ps : List Str} {k : Nat} {ds : List D} {post : O → Prop} {ρ : RhoW} (F : Df K mg x st ps) (S : FnScope N ps (defScope st)) (hρ : startW N.length ds = ρ)
    (h : ∀ (f : Addr) (cdv : Value) (A : Around) (outer : List Env) (s : Shared) (H : Hp) (E : XK), Room k (cxOf CX0 P w K mg base N x (defScope st) f cdv A outer s H E).A →
      Ws (cxOf CX0 P w K mg base N x (defScope st) f cdv A outer s H E).nox ρ (defBody st) { nx := fun _ => post (.sh .non), rt := post }) (hl : ps.length = ds.length := by rfl) : VF P w K mg base (k + 1) x ds post := by
  obtain ⟨f, fd, h1, h2, h3⟩ := F.ex
  exact ⟨f, fd, ps, h1, h2.kp, h3, fnOk_of h2 S hl hρ (h f)⟩

/-! ### the law -/
def spLaw (K : PySem.W.Frag) : Sp := fun vs H Q _ => ∃ (a : Addr) (ns : List Int), vs = [.ref a] ∧ SqL K H a (ns.map V.int) ∧ ns.length ≤ 63 ∧ ∀ H', Q (.bl true) H'
theorem law_of {f : Addr} {fd : FuncData} {ps : List Str} {k : Nat} (hl : ps.length = 1) (h : ∀ ns : List Int, ns.length ≤ 63 → FnOk P w K mg base CX0 k f fd ps (spV K [.ro (ns.map D.int)] fun o => o = .sh (.bl true))) : FnOk P w K mg base CX0 k f fd ps (spLaw K) := by
  refine ⟨fun vs H Q E q => ?_, fun A outer s H args us vs Q E hr he hb hv q => ?_⟩
  · obtain ⟨a, ns, rfl, _⟩ := q
    rw [hl]; rfl
  · obtain ⟨a, ns, rfl, hS, hn, q⟩ := q
    refine (h ns hn).run A outer s H args us [.ref a] Q E hr he hb hv ⟨.cons (.ro hS (by simp) (fun i v d h1 h2 => (reps_ints ns).2 i v d h1 h2)) .nil, ?_⟩
    intro o v H' A' ho s' f' nd r
    subst ho
    cases r with
    | sh r => rw [r.bl_inv]; exact q H'
end
end VL
set_option Elab.async false
set_option linter.all false
set_option maxRecDepth 100000
set_option maxHeartbeats 1000000
/-! value layer, part 8: typed lists -/
namespace VL
open PySem L2
def dI (L : List Int) : D := .lst (L.map D.int)
def oI (L : List Int) : O := oL (L.map D.int)
def mkD (b : Bool) : D := .str (if b then "valley" else "hill")
def dM (M : List Bool) : D := .lst (M.map mkD)
def oM (M : List Bool) : O := oL (M.map mkD)
/-- Python's xs[z] -/
def pyget {α : Type} [Inhabited α] (L : List α) (z : Int) : α := L.getD (if 0 ≤ z then z else L.length + z).toNat default
theorem pyget_nat {α : Type} [Inhabited α] (L : List α) (k : Nat) : pyget L (k : Int) = L.getD k default := by unfold pyget; rw [if_pos (by omega)]; simp
theorem atI_map {α β : Type} [Inhabited α] (L : List α) (h : α → β) {z : Int} (hz : -(L.length : Int) ≤ z ∧ z < L.length) : atI (L.map h) z = some (h (pyget L z)) := by
  unfold atI ixN pyget
  rw [List.length_map]
  by_cases h0 : 0 ≤ z
  · rw [if_pos h0, if_pos hz.2, if_pos h0]
    show (L.map h)[z.toNat]? = _
    rw [List.getElem?_map, List.getElem?_eq_getElem (by omega : z.toNat < L.length), List.getD_eq_getElem?_getD, List.getElem?_eq_getElem (by omega : z.toNat < L.length)]
    rfl
  · rw [if_neg h0, if_pos hz.1, if_neg h0]
    have e : (z + (L.length : Int)).toNat = ((L.length : Int) + z).toNat := by omega
    show (L.map h)[(z + (L.length : Int)).toNat]? = _
    rw [e, List.getElem?_map, List.getElem?_eq_getElem (by omega : ((L.length : Int) + z).toNat < L.length), List.getD_eq_getElem?_getD, List.getElem?_eq_getElem (by omega : ((L.length : Int) + z).toNat < L.length)]
    rfl
section
variable {X : Cx} {ρ : Rho} {a b e tg iter : Expr} {pos p : Pos} {z i j : Int} {L : List Int} {M : List Bool} {x y : D}
theorem Ev.ixMap {α : Type} [Inhabited α] {L : List α} {h : α → D} (ha : Ev X ρ a (.lst (L.map h))) (hb : Ev X ρ b (.int z)) (hz : -(L.length : Int) ≤ z ∧ z < L.length) (hs : PlainIx b := by exact fun _ _ => rfl) : Ev X ρ (.Subscript a b pos) (h (pyget L z)) :=
  .ixL ha hb (atI_map L h hz) hs
theorem Ev.ixI (ha : Ev X ρ a (dI L)) (hb : Ev X ρ b (.int z)) (hz : -(L.length : Int) ≤ z ∧ z < L.length) (hs : PlainIx b := by exact fun _ _ => rfl) : Ev X ρ (.Subscript a b pos) (.int (pyget L z)) := .ixMap ha hb hz hs
theorem Ev.ixM (ha : Ev X ρ a (dM M)) (hb : Ev X ρ b (.int z)) (hz : -(M.length : Int) ≤ z ∧ z < M.length) (hs : PlainIx b := by exact fun _ _ => rfl) : Ev X ρ (.Subscript a b pos) (mkD (pyget M z)) := .ixMap ha hb hz hs
theorem Ev.ixRoI (ha : Ev X ρ a (.ro (L.map D.int))) (hb : Ev X ρ b (.int z)) (hz : -(L.length : Int) ≤ z ∧ z < L.length) (hs : PlainIx b := by exact fun _ _ => rfl) : Ev X ρ (.Subscript a b pos) (.int (pyget L z)) := .ixRo ha hb (atI_map L _ hz) hs
/-- [x, y][z], z one of 0, 1 -/
theorem Ev.ix2 (ha : Ev X ρ a (.lst [x, y])) (hb : Ev X ρ b (.int z)) (hz : 0 ≤ z ∧ z < 2) (hs : PlainIx b := by exact fun _ _ => rfl) : Ev X ρ (.Subscript a b pos) (if z = 0 then x else y) :=
  .ixL ha hb (by
    have : z = 0 ∨ z = 1 := by omega
    rcases this with rfl | rfl <;> rfl) hs
/-- t[0], t[1] of a tuple -/
theorem Ev.ixT0 {xs : List D} (ha : Ev X ρ a (.tup (x :: xs))) {k : Nat} {q : Pos} (hs : PlainIx (.Constant (.int 0) k q) := by exact fun _ _ => rfl) : Ev X ρ (.Subscript a (.Constant (.int 0) k q) pos) x :=
  .ixT ha .int (by unfold atI ixN; rw [if_pos (by omega), if_pos (by simp <;> omega)]; rfl) hs
theorem Ev.ixT1 {xs : List D} (ha : Ev X ρ a (.tup (x :: y :: xs))) {k : Nat} {q : Pos} (hs : PlainIx (.Constant (.int 1) k q) := by exact fun _ _ => rfl) : Ev X ρ (.Subscript a (.Constant (.int 1) k q) pos) y :=
  .ixT ha .int (by unfold atI ixN; rw [if_pos (by omega), if_pos (by simp <;> omega)]; rfl) hs
theorem Ev.lenMap {α : Type} {L : List α} {h : α → D} (hm : X.mg "len" = none) (ha : Ev X ρ e (.lst (L.map h))) (hg : Gl X "len" := by rfl) (hs : starEach [e] X.env = (false, eval e X.env) :: starEach [] X.env := by rfl) (hpl : (backTo pos (starEach [] X.env)).any (·.1) = false := by rfl) :
    Ev X ρ (.Call (.Name "len" p) [e] [] pos) (.int L.length) := by
  have := Ev.lenL (p := p) (pos := pos) hm ha hg hs hpl
  rwa [List.length_map] at this
theorem Ev.lenI (hm : X.mg "len" = none) (ha : Ev X ρ e (dI L)) (hg : Gl X "len" := by rfl) (hs : starEach [e] X.env = (false, eval e X.env) :: starEach [] X.env := by rfl) (hpl : (backTo pos (starEach [] X.env)).any (·.1) = false := by rfl) : Ev X ρ (.Call (.Name "len" p) [e] [] pos) (.int L.length) := .lenMap hm ha hg hs hpl
theorem Ev.lenM (hm : X.mg "len" = none) (ha : Ev X ρ e (dM M)) (hg : Gl X "len" := by rfl) (hs : starEach [e] X.env = (false, eval e X.env) :: starEach [] X.env := by rfl) (hpl : (backTo pos (starEach [] X.env)).any (·.1) = false := by rfl) : Ev X ρ (.Call (.Name "len" p) [e] [] pos) (.int M.length) := .lenMap hm ha hg hs hpl
theorem Ev.lenRoI (hm : X.mg "len" = none) (ha : Ev X ρ e (.ro (L.map D.int))) (hg : Gl X "len" := by rfl) (hs : starEach [e] X.env = (false, eval e X.env) :: starEach [] X.env := by rfl) (hpl : (backTo pos (starEach [] X.env)).any (·.1) = false := by rfl) : Ev X ρ (.Call (.Name "len" p) [e] [] pos) (.int L.length) := by
  have := Ev.lenRo (p := p) (pos := pos) hm ha hg hs hpl
  rwa [List.length_map] at this
theorem enumD_map {α : Type} [Inhabited α] {L : List α} {h : α → D} {k : Nat} {d : D} (e : (enumD (L.map h))[k]? = some d) : k < L.length ∧ d = .tup [.int (k : Int), h (L.getD k default)] := by
  rw [enumD_get, List.getElem?_map] at e
  by_cases hk : k < L.length
  · rw [List.getElem?_eq_getElem hk] at e
    refine ⟨hk, ?_⟩
    rw [List.getD_eq_getElem?_getD, List.getElem?_eq_getElem hk]
    exact (Option.some.inj e).symm
  · rw [List.getElem?_eq_none (by omega)] at e; cases e
theorem enumD_length (ds : List D) : (enumD ds).length = ds.length := by unfold enumD; simp
theorem rangeD_get {lo : Int} {n k : Nat} {d : D} (e : (rangeD lo n)[k]? = some d) : k < n ∧ d = .int (lo + k) := by
  unfold rangeD at e
  rw [List.getElem?_map] at e
  by_cases hk : k < n
  · rw [List.getElem?_range hk] at e
    exact ⟨hk, (Option.some.inj e).symm⟩
  · rw [List.getElem?_eq_none (by simpa using hk)] at e; cases e
theorem rangeD_length (lo : Int) (n : Nat) : (rangeD lo n).length = n := by unfold rangeD; simp
theorem map_get {α : Type} [Inhabited α] {L : List α} {h : α → D} {k : Nat} {d : D} (e : (L.map h)[k]? = some d) : k < L.length ∧ d = h (L.getD k default) := by
  rw [List.getElem?_map] at e
  by_cases hk : k < L.length
  · rw [List.getElem?_eq_getElem hk] at e
    refine ⟨hk, ?_⟩
    rw [List.getD_eq_getElem?_getD, List.getElem?_eq_getElem hk]
    exact (Option.some.inj e).symm
  · rw [List.getElem?_eq_none (by omega)] at e; cases e
theorem oI_data (L : List Int) : (oI L).data = dI L := oL_data _
theorem oM_data (M : List Bool) : (oM M).data = dM M := oL_data _
/-- an owned flat list -/
abbrev W.ol (ds : List D) : W := .ow (oL ds) (.lst ds)
abbrev W.oi (L : List Int) : W := .ow (oI L) (dI L)
abbrev W.om (M : List Bool) : W := .ow (oM M) (dM M)
end
end VL
set_option Elab.async false
set_option linter.all false
set_option maxRecDepth 100000
set_option maxHeartbeats 1000000
/-! value layer, part 9: lists changed by their methods -/
namespace VL
open PySem L2
section
variable {X : Cx} {ρ : RhoW} {e a b : Expr} {es : List Expr} {p q1 q2 pos : Pos} {x : Str} {Ψ : W → RhoW → Prop} {rest : List Stmt} {Φ : Post} {d d1 : D} {ds : List D}
def rInsert : V → List V → Hp → VK → Prop := fun x vs H Q => ∃ (l : Addr) (xs : List V) (i : Int) (y : V), x = .ref l ∧ vs = [.int i, y] ∧ H l = some (.lst xs) ∧ xs.length < sizeLine ∧ 0 ≤ i ∧ i < 2 ^ 63 ∧ Q .non (upd H l (.lst (xs.take i.toNat ++ [y] ++ xs.drop i.toNat)))
theorem mt_ins : MtR X "list.insert" rInsert := mt_insert
theorem Reps.insert {K : PySem.W.Frag} {H : Hp} {vs : List V} {v : V} (r : Reps K H vs ds) (h : Rep K H v d) (n : Nat) : Reps K H (vs.take n ++ [v] ++ vs.drop n) (ds.take n ++ [d] ++ ds.drop n) := ((r.take n).append (.cons h .nil)).append (r.drop n)
theorem Ws.insert (i : Nat) {z : Int} (ds' : List D) {ei : Expr} (hi : Ev X (VL.bor ρ) ei (.int z)) (he : Ev X (VL.bor ρ) e d) (hf : d.free = true) (hz : 0 ≤ z ∧ z < 2 ^ 62) (hl : ds.length < 100000) (hL : ds.take z.toNat ++ [d] ++ ds.drop z.toNat = ds')
    (k : Ws X (ρ.set i (some (.ow (oL ds') (.lst ds')))) rest Φ) (hN : X.N[i]? = some x := by rfl) (hρ : ρ[i]? = some (some (.ow (oL ds) d1)) := by rfl)
    (ha : ∀ {ρ' : Rho} {d1 d2}, Ev X ρ' ei d1 → Ev X ρ' e d2 → EvA X ρ' [ei, e] [d1, d2] := by intro ρ' d1 d2 h1 h2; exact EvA.two h1 h2)
    (hpe : ∀ {t : TA}, PA X [ei, e] t → PE X (.Call (.Attribute (.Name x q1) "insert" q2) [ei, e] [] p) (tBM X.K "list" rInsert (tVar i) t) := by
      intro t ht; exact pe_bm PySem.F.plainAttrs_list PySem.F.slot_list_insert PySem.F.type_list_insert mt_ins (pv _) ht)
    (hs : swapsWith (.Call (.Attribute (.Name x q1) "insert" q2) [ei, e] [] p) none pos.line X.env = pure false := by rfl) : Ws X ρ (.Expr (.Call (.Attribute (.Name x q1) "insert" q2) [ei, e] [] p) pos :: rest) Φ :=
  .expr (.meth i ds' (dr := .non) hρ (ha hi he) (by simp [freeAll, D.free, hf]) hpe (fun K a vs ws H M Q hv rs rw q => by
    obtain ⟨v, w, rfl, r1, r2⟩ := rw.two
    obtain rfl := r1.int_inv
    refine ⟨a, vs, z, w, rfl, rfl, hv, by rw [rs.1]; exact Nat.lt_of_lt_of_le hl (by decide), hz.1, by have := hz.2; omega, ?_⟩
    exact q .non _ .non (hL ▸ rs.insert r2 _)) k) hs
theorem EvW.popAt (i : Nat) {z : Int} {j : Nat} (ds' : List D) (hz : Ev X (VL.bor ρ) e (.int z)) (hj : seqIndex? z ds.length = some j) (hd : ds[j]? = some d) (hb : -(2 ^ 63) ≤ z ∧ z < 2 ^ 63) (hL : ds.eraseIdx j = ds') (k : Ψ (.sh d) (ρ.set i (some (.ow (oL ds') (.lst ds')))))
    (hN : X.N[i]? = some x := by rfl) (hρ : ρ[i]? = some (some (.ow (oL ds) d1)) := by rfl)
    (ha : ∀ {ρ' : Rho} {d1}, Ev X ρ' e d1 → EvA X ρ' [e] [d1] := by intro ρ' d1 h1; exact EvA.one h1)
    (hpe : ∀ {t : TA}, PA X [e] t → PE X (.Call (.Attribute (.Name x q1) "pop" q2) [e] [] p) (tBM X.K "list" rPopAt (tVar i) t) := by
      intro t ht; exact pe_bm PySem.F.plainAttrs_list PySem.F.slot_list_pop PySem.F.type_list_pop mt_popAt (pv _) ht) : EvW X ρ (.Call (.Attribute (.Name x q1) "pop" q2) [e] [] p) Ψ :=
  .meth i ds' (dr := d) hρ (ha hz) (by simp [freeAll, D.free]) hpe (fun K a vs ws H M Q hv rs rw q => by
    obtain ⟨v, rfl, r1⟩ := rw.one
    obtain rfl := r1.int_inv
    obtain ⟨u, hu, ru⟩ := rs.get hd
    refine ⟨a, vs, z, j, u, rfl, rfl, hv, hb.1, hb.2, by rw [rs.1]; exact hj, hu, q u _ ru ?_⟩
    subst hL
    refine ⟨by rw [List.length_eraseIdx, List.length_eraseIdx, rs.1], fun k v d e1 e2 => ?_⟩
    rw [List.getElem?_eraseIdx] at e1 e2
    split at e1
    · rename_i hk
      rw [if_pos hk] at e2
      exact rs.2 _ v d e1 e2
    · rename_i hk
      rw [if_neg hk] at e2
      exact rs.2 _ v d e1 e2) k
theorem Ws.reverse (i : Nat) (ds' : List D) (hL : ds.reverse = ds') (k : Ws X (ρ.set i (some (.ow (oL ds') (.lst ds')))) rest Φ)
    (hN : X.N[i]? = some x := by rfl) (hρ : ρ[i]? = some (some (.ow (oL ds) d1)) := by rfl)
    (hpe : PE X (.Call (.Attribute (.Name x q1) "reverse" q2) [] [] p) (tBM0 X.K "list" rReverse (tVar i)) := by
      exact pe_bm0 PySem.F.plainAttrs_list PySem.F.slot_list_reverse PySem.F.type_list_reverse mt_reverse (pv _))
    (hs : swapsWith (.Call (.Attribute (.Name x q1) "reverse" q2) [] [] p) none pos.line X.env = pure false := by rfl) : Ws X ρ (.Expr (.Call (.Attribute (.Name x q1) "reverse" q2) [] [] p) pos :: rest) Φ :=
  .expr (.meth0 i ds' (dr := .non) hρ hpe (fun K a vs H M Q hv rs q => ⟨a, vs, rfl, rfl, hv, q .non _ .non (hL ▸ rs.reverse)⟩) k) hs
theorem Ws.clear (i : Nat) (k : Ws X (ρ.set i (some (.ow (oL []) (.lst [])))) rest Φ)
    (hN : X.N[i]? = some x := by rfl) (hρ : ρ[i]? = some (some (.ow (oL ds) d1)) := by rfl)
    (hpe : PE X (.Call (.Attribute (.Name x q1) "clear" q2) [] [] p) (tBM0 X.K "list" rClear (tVar i)) := by
      exact pe_bm0 PySem.F.plainAttrs_list PySem.F.slot_list_clear PySem.F.type_list_clear mt_clear (pv _))
    (hs : swapsWith (.Call (.Attribute (.Name x q1) "clear" q2) [] [] p) none pos.line X.env = pure false := by rfl) : Ws X ρ (.Expr (.Call (.Attribute (.Name x q1) "clear" q2) [] [] p) pos :: rest) Φ :=
  .expr (.meth0 i [] (dr := .non) hρ hpe (fun K a vs H M Q hv rs q => ⟨a, vs, rfl, rfl, hv, q .non _ .non .nil⟩) k) hs
end
/-! ### slices of typed lists -/
def cutL {α : Type} (xs : List α) (lo hi : Option Int) : List α := (xs.drop (HT.sIx xs.length 0 lo)).take (HT.sIx xs.length xs.length hi - HT.sIx xs.length 0 lo)
theorem cutD_map {α : Type} (xs : List α) (h : α → D) (lo hi : Option Int) : cutD (xs.map h) lo hi = (cutL xs lo hi).map h := by
  unfold cutD cutL
  rw [List.length_map, List.map_take, List.map_drop]
theorem cutL_to {α : Type} (xs : List α) (k : Nat) : cutL xs none (some (k : Int)) = xs.take k := by
  unfold cutL
  rw [HT.sIx_none, HT.sIx_nat, List.drop_zero, Nat.sub_zero]
  by_cases h : k ≤ xs.length
  · rw [Nat.min_eq_left h]
  · rw [Nat.min_eq_right (by omega), List.take_length, List.take_of_length_le (by omega)]
theorem cutL_from {α : Type} (xs : List α) (k : Nat) : cutL xs (some (k : Int)) none = xs.drop k := by
  unfold cutL
  rw [HT.sIx_none, HT.sIx_nat]
  by_cases h : k ≤ xs.length
  · rw [Nat.min_eq_left h, List.take_of_length_le (by simp)]
  · rw [Nat.min_eq_right (by omega), Nat.sub_self, List.take_zero, List.drop_eq_nil_of_le (by omega)]
theorem cutL_mid {α : Type} (xs : List α) (k j : Nat) : cutL xs (some (k : Int)) (some (j : Int)) = (xs.drop k).take (j - k) := by
  unfold cutL
  rw [HT.sIx_nat, HT.sIx_nat]
  by_cases h : k ≤ xs.length
  · rw [Nat.min_eq_left h]
    by_cases h2 : j ≤ xs.length
    · rw [Nat.min_eq_left h2]
    · rw [Nat.min_eq_right (by omega), List.take_of_length_le (by simp), List.take_of_length_le (by simp; omega)]
  · rw [Nat.min_eq_right (show xs.length ≤ k by omega), List.drop_length, List.take_nil, List.drop_eq_nil_of_le (by omega), List.take_nil]
theorem sIx_neg {n d k : Nat} (hk : 0 < k) : HT.sIx n d (some (-(k : Int))) = n - k := by
  unfold HT.sIx
  simp [hk]
  omega
theorem cutL_to_neg {α : Type} (xs : List α) (k : Nat) (hk : 0 < k) : cutL xs none (some (-(k : Int))) = xs.take (xs.length - k) := by
  unfold cutL
  rw [HT.sIx_none, sIx_neg hk, List.drop_zero, Nat.sub_zero]

section
variable {X : Cx} {ρ : Rho} {a b e : Expr} {pos p2 : Pos} {el eh : Option Expr} {lo hi : Option Int} {xs ys : List D} {L L' : List Int} {M M' : List Bool}
theorem Ev.slice (ha : Ev X ρ a (.lst xs)) (hl : EvP X ρ el lo) (hh : EvP X ρ eh hi) : Ev X ρ (.Subscript a (.Slice el eh Option.none p2) pos) (.lst (cutD xs lo hi)) := (EvO.slice ha hl hh).ev' (oL_data _)
theorem Ev.cat (ha : Ev X ρ a (.lst xs)) (hb : Ev X ρ b (.lst ys)) (hl : xs.length + ys.length ≤ 100000) : Ev X ρ (.BinOp a .Add b pos) (.lst (xs ++ ys)) := (EvO.cat ha hb (Nat.le_trans hl (by decide))).ev' (oL_data _)
theorem Ev.sliceI (ha : Ev X ρ a (dI L)) (hl : EvP X ρ el lo) (hh : EvP X ρ eh hi) : Ev X ρ (.Subscript a (.Slice el eh Option.none p2) pos) (dI (cutL L lo hi)) := (Ev.slice ha hl hh).is (by rw [cutD_map]; rfl)
theorem Ev.sliceM (ha : Ev X ρ a (dM M)) (hl : EvP X ρ el lo) (hh : EvP X ρ eh hi) : Ev X ρ (.Subscript a (.Slice el eh Option.none p2) pos) (dM (cutL M lo hi)) := (Ev.slice ha hl hh).is (by rw [cutD_map]; rfl)
theorem Ev.catI (ha : Ev X ρ a (dI L)) (hb : Ev X ρ b (dI L')) (hl : L.length + L'.length ≤ 100000) : Ev X ρ (.BinOp a .Add b pos) (dI (L ++ L')) := (Ev.cat ha hb (by simpa using hl)).is (by rw [← List.map_append]; rfl)
theorem Ev.catM (ha : Ev X ρ a (dM M)) (hb : Ev X ρ b (dM M')) (hl : M.length + M'.length ≤ 100000) : Ev X ρ (.BinOp a .Add b pos) (dM (M ++ M')) := (Ev.cat ha hb (by simpa using hl)).is (by rw [← List.map_append]; rfl)
theorem EvO.sliceI (ha : Ev X ρ a (dI L)) (hl : EvP X ρ el lo) (hh : EvP X ρ eh hi) : EvO X ρ (.Subscript a (.Slice el eh Option.none p2) pos) (oI (cutL L lo hi)) := (EvO.slice ha hl hh).is (by rw [cutD_map]; rfl)
theorem EvO.sliceM (ha : Ev X ρ a (dM M)) (hl : EvP X ρ el lo) (hh : EvP X ρ eh hi) : EvO X ρ (.Subscript a (.Slice el eh Option.none p2) pos) (oM (cutL M lo hi)) := (EvO.slice ha hl hh).is (by rw [cutD_map]; rfl)
theorem EvO.catI (ha : Ev X ρ a (dI L)) (hb : Ev X ρ b (dI L')) (hl : L.length + L'.length ≤ 100000) : EvO X ρ (.BinOp a .Add b pos) (oI (L ++ L')) := (EvO.cat ha hb (Nat.le_trans (by simpa using hl) (show 100000 ≤ sizeLine by decide))).is (by rw [← List.map_append]; rfl)
theorem EvO.catM (ha : Ev X ρ a (dM M)) (hb : Ev X ρ b (dM M')) (hl : M.length + M'.length ≤ 100000) : EvO X ρ (.BinOp a .Add b pos) (oM (M ++ M')) := (EvO.cat ha hb (Nat.le_trans (by simpa using hl) (show 100000 ≤ sizeLine by decide))).is (by rw [← List.map_append]; rfl)
end
theorem freeO_sh : ∀ ds : List D, freeO (ds.map O.sh) = freeAll ds
  | [] => by simp [freeO, freeAll]
  | d :: ds => by simp [freeO, freeAll, O.free, freeO_sh ds]
theorem oL_free {ds : List D} (h : freeAll ds = true) : (oL ds).free = true := by unfold oL; rw [O.free, freeO_sh]; exact h
theorem freeAll_map {α : Type} {h : α → D} (hh : ∀ x, (h x).free = true) : ∀ L : List α, freeAll (L.map h) = true
  | [] => by simp [freeAll]
  | x :: L => by simp [freeAll, hh x, freeAll_map hh L]
theorem oI_free (L : List Int) : (oI L).free = true := oL_free (freeAll_map (fun x => by simp [D.free]) L)
theorem oM_free (M : List Bool) : (oM M).free = true := oL_free (freeAll_map (fun x => by simp [mkD, D.free]) M)
theorem cutL_length {α : Type} (xs : List α) (lo hi : Option Int) : (cutL xs lo hi).length ≤ xs.length := by
  unfold cutL
  rw [List.length_take, List.length_drop]
  omega

/-! ### == of typed lists -/
theorem strOk_hill : PyData.strOk "hill" = true := by decide +kernel
theorem strOk_valley : PyData.strOk "valley" = true := by decide +kernel
theorem pyAll_map : ∀ xs : List D, pyAll xs = xs.map D.py
  | [] => by simp [pyAll]
  | x :: xs => by simp [pyAll, pyAll_map xs]
/-! data that may be compared, to a depth -/
mutual
def D.good : D → Bool
  | .str s => PyData.strOk s
  | .lst xs => goodAll xs
  | .tup xs => goodAll xs
  | .ro _ => false
  | .dk _ => false
  | .ob _ _ _ => false
  | .dd _ _ => false
  | .raw _ => false
  | _ => true
def goodAll : List D → Bool
  | [] => true
  | x :: xs => x.good && goodAll xs
end
mutual
def D.deep : D → Nat
  | .lst xs => deepAll xs + 1
  | .tup xs => deepAll xs + 1
  | _ => 0
def deepAll : List D → Nat
  | [] => 0
  | x :: xs => max x.deep (deepAll xs)
end
mutual
theorem good_plain : ∀ d : D, d.good = true → d.plain = true ∧ d.py.canLay0 = true ∧ d.py.depth = d.deep
  | .non, _ => by simp [D.plain, D.py, PyData.canLay0, PyData.depth, D.deep]
  | .bl _, _ => by simp [D.plain, D.py, PyData.canLay0, PyData.depth, D.deep]
  | .int _, _ => by simp [D.plain, D.py, PyData.canLay0, PyData.depth, D.deep]
  | .str s, h => by simp [D.good] at h; simp [D.plain, D.py, PyData.canLay0, PyData.depth, D.deep, h]
  | .lst xs, h => by
    simp [D.good] at h
    obtain ⟨h1, h2, h3⟩ := goodAll_plain xs h
    simp [D.plain, D.py, PyData.canLay0, PyData.depth, D.deep, h1, h2, h3]
  | .tup xs, h => by
    simp [D.good] at h
    obtain ⟨h1, h2, h3⟩ := goodAll_plain xs h
    simp [D.plain, D.py, PyData.canLay0, PyData.depth, D.deep, h1, h2, h3]
  | .ro _, h => by simp [D.good] at h
  | .dk _, h => by simp [D.good] at h
  | .ob _ _ _, h => by simp [D.good] at h
  | .dd _ _, h => by simp [D.good] at h
  | .raw _, h => by simp [D.good] at h
theorem goodAll_plain : ∀ xs : List D, goodAll xs = true → plainAll xs = true ∧ PyData.canLayAll0 (pyAll xs) = true ∧ PyData.depthAll (pyAll xs) = deepAll xs
  | [], _ => by simp [plainAll, pyAll, PyData.canLayAll0, PyData.depthAll, deepAll]
  | x :: xs, h => by
    simp [goodAll] at h
    obtain ⟨h1, h2, h3⟩ := good_plain x h.1
    obtain ⟨q1, q2, q3⟩ := goodAll_plain xs h.2
    simp [plainAll, pyAll, PyData.canLayAll0, PyData.depthAll, deepAll, h1, h2, h3, q1, q2, q3]
end
theorem shp_of {d : D} (h : d.good = true) (hd : d.deep ≤ 64) : Shp d := by
  obtain ⟨h1, h2, h3⟩ := good_plain d h
  exact ⟨h1, by unfold SeqAt.shaped; rw [h2, h3, decide_eq_true hd]; rfl⟩
theorem goodAll_map {α : Type} {h : α → D} (hh : ∀ x, (h x).good = true) : ∀ L : List α, goodAll (L.map h) = true
  | [] => by simp [goodAll]
  | x :: L => by simp [goodAll, hh x, goodAll_map hh L]
theorem deepAll_map {α : Type} {h : α → D} {n : Nat} (hh : ∀ x, (h x).deep ≤ n) : ∀ L : List α, deepAll (L.map h) ≤ n
  | [] => by simp [deepAll]
  | x :: L => by
    have h1 := hh x
    have h2 := deepAll_map hh L
    simp [deepAll]
    omega
theorem good_dI (L : List Int) : (dI L).good = true := by unfold dI; rw [D.good]; exact goodAll_map (fun x => by simp [D.good]) L
theorem deep_dI (L : List Int) : (dI L).deep ≤ 1 := by
  unfold dI
  rw [D.deep]
  have := deepAll_map (h := D.int) (n := 0) (fun x => by simp [D.deep]) L
  omega
theorem good_mkD (b : Bool) : (mkD b).good = true := by
  unfold mkD
  rw [D.good]
  cases b
  · exact strOk_hill
  · exact strOk_valley
theorem good_dM (M : List Bool) : (dM M).good = true := by unfold dM; rw [D.good]; exact goodAll_map good_mkD M
theorem deep_dM (M : List Bool) : (dM M).deep ≤ 1 := by
  unfold dM
  rw [D.deep]
  have := deepAll_map (h := mkD) (n := 0) (fun x => by simp [mkD, D.deep]) M
  omega
theorem shp_dI (L : List Int) : Shp (dI L) := shp_of (good_dI L) (by have := deep_dI L; omega)
theorem shp_dM (M : List Bool) : Shp (dM M) := shp_of (good_dM M) (by have := deep_dM M; omega)
theorem shp_nil : Shp (.lst []) := shp_of (by simp [D.good, goodAll]) (by simp [D.deep, deepAll])
theorem eqvD_nil (xs : List D) : eqvD (.lst xs) (.lst []) = xs.isEmpty := by
  unfold eqvD
  rw [D.py, D.py, PyData.eqv]
  cases xs <;> simp [pyAll, PyData.eqvAll]
theorem eqv_mkD (a b : Bool) : eqvD (mkD a) (mkD b) = decide (a = b) := by
  unfold eqvD mkD
  rw [D.py, D.py, PyData.eqv]
  cases a <;> cases b <;> decide +kernel
theorem CmpD.eqM {X : Cx} {a b : Bool} : CmpD X .Eq (mkD a) (mkD b) (decide (a = b)) := by
  have h : CmpD X .Eq (mkD a) (mkD b) _ := CmpD.eqS
  have e : decide ((if a then ("valley" : Str) else "hill") = (if b then ("valley" : Str) else "hill")) = decide (a = b) := by cases a <;> cases b <;> decide +kernel
  rw [e] at h
  exact h
theorem CmpD.neM {X : Cx} {a b : Bool} : CmpD X .NotEq (mkD a) (mkD b) (!decide (a = b)) := by
  have h : CmpD X .NotEq (mkD a) (mkD b) _ := CmpD.neS
  have e : decide ((if a then ("valley" : Str) else "hill") = (if b then ("valley" : Str) else "hill")) = decide (a = b) := by cases a <;> cases b <;> decide +kernel
  rw [e] at h
  exact h
theorem CmpD.eqMh {X : Cx} {a : Bool} : CmpD X .Eq (mkD a) (.str "hill") (!a) := by have h : CmpD X .Eq (mkD a) (mkD false) _ := CmpD.eqM; cases a <;> exact h
theorem CmpD.eqMv {X : Cx} {a : Bool} : CmpD X .Eq (mkD a) (.str "valley") a := by have h : CmpD X .Eq (mkD a) (mkD true) _ := CmpD.eqM; cases a <;> exact h
theorem CmpD.neNil {X : Cx} {xs : List D} (hu : X.A.units + 64 < cLine) (h : Shp (.lst xs)) : CmpD X .NotEq (.lst xs) (.lst []) (!xs.isEmpty) := by
  have := CmpD.neD hu h shp_nil
  rwa [eqvD_nil] at this
theorem CmpD.eqNil {X : Cx} {xs : List D} (hu : X.A.units + 64 < cLine) (h : Shp (.lst xs)) : CmpD X .Eq (.lst xs) (.lst []) xs.isEmpty := by
  have := CmpD.eqD hu h shp_nil
  rwa [eqvD_nil] at this
theorem ixN_of {n : Nat} {z : Int} (h : 0 ≤ z ∧ z < n) : ixN n z = some z.toNat := by unfold ixN; rw [if_pos h.1, if_pos h.2]

/-! ### comprehensions that make typed lists -/
theorem rangeD0 (n : Nat) : rangeD 0 n = (List.range n).map fun (k : Nat) => D.int (k : Int) := by
  unfold rangeD
  exact List.map_congr_left fun k _ => by rw [Int.zero_add]
theorem oI_of {α : Type} (L : List α) (gi : α → Int) : O.ls (L.map fun x => O.sh (.int (gi x))) = oI (L.map gi) := by unfold oI oL; rw [List.map_map, List.map_map]; rfl
theorem oM_of {α : Type} (L : List α) (gi : α → Bool) : O.ls (L.map fun x => O.sh (mkD (gi x))) = oM (L.map gi) := by unfold oM oL; rw [List.map_map, List.map_map]; rfl
theorem oL_of {α : Type} (L : List α) (gi : α → D) : O.ls (L.map fun x => O.sh (gi x)) = oL (L.map gi) := by unfold oL; rw [List.map_map]; rfl
section
variable {X : Cx} {ρ : Rho} {ρw : RhoW} {Φ : Post} {rest : List Stmt} {tg iter a : Expr} {p pos : Pos} {j : Int}
theorem EvI.rangeN (hm : X.mg "range" = none) (h : Ev X ρ a (.int j)) (hj : -(2 ^ 62) ≤ j ∧ j < 2 ^ 62) (hg : Gl X "range" := by rfl) (hs : starEach [a] X.env = [(false, eval a X.env)] := by rfl) : EvI X ρ tg (.Call (.Name "range" p) [a] [] pos) ((List.range j.toNat).map fun (k : Nat) => D.int (k : Int)) :=
  (EvI.range1 hm h hj hg hs).is (rangeD0 _)
/-- y = [an int for x in ..], one name -/
theorem Ws.asgCI {α : Type} {y n : Str} {py spos np : Pos} {elt : Expr} {scope : Scope} (Nl : List Str) (sc : Scope) (i t : Nat) (L : List α) (h : α → D) (g : α → Int)
    (hc : X.calm = true) (hN : X.N.Nodup) (hi : EvI X (hide ρw) (.Name n np) iter (L.map h)) (hl : L.length < 100000)
    (he : ∀ x ∈ L, ∀ (s : Shared) (H : Hp) (C : Addr) (cl : List (Str × Addr)) (fp : List Addr), Ev (X.blk s H scope (compEnvC scope cl C X.env) fp) ((wipeD (hide ρw) [t]).set t (some (h x))) elt (.int (g x)))
    (k : Ws X (ρw.set i (some (.oi (L.map g)))) rest Φ)
    (ok : blkC Nl sc scope [(n, t)] = true := by decide +kernel) (hNl : Nl = X.N := by rfl) (hsc : sc = X.env.scope := by rfl)
    (hg : ∀ d, ∀ (s : Shared) (H : Hp) (C : Addr) (cl : List (Str × Addr)) (fp : List Addr), X.N.Nodup → EvG (X.blk s H scope (compEnvC scope cl C X.env) fp) (.Name n np) d [t] [d] := by intro d s H C cl fp hN; exact EvG.name _ hN)
    (hy : X.N[i]? = some y := by rfl) (hyl : X.env.scope.names.lookup y = some .local := by rfl) (hsw : swapsWith (.ListComp elt [⟨.Name n np, iter, [], 0⟩] scope pos) (some (.Name y py)) spos.line X.env = pure true := by exact sw_true rfl rfl rfl (by decide +kernel))
    (hs : ∀ x, foldedSetIterable iter X.env x = pure x := by intro _; rfl) : Ws X ρw (.Assign [.Name y py] (.ListComp elt [⟨.Name n np, iter, [], 0⟩] scope pos) spos :: rest) Φ :=
  .asgC (own := [(n, t)]) i L h (fun x => .sh (.int (g x))) [t] (fun x => [h x]) (dI (L.map g)) hc hN hi (by subst hNl hsc; exact blkOk_by ok) (by simp) (fun x _ s H C cl fp => hg _ s H C cl fp hN) (fun x hx s H C cl fp => (he x hx s H C cl fp).evO) (Nat.lt_of_lt_of_le hl (by decide)) (by rw [oI_of]; exact oI_data _) (by rw [oI_of]; exact k) hy hyl hsw hs
theorem Ws.asgCM {α : Type} {y n : Str} {py spos np : Pos} {elt : Expr} {scope : Scope} (Nl : List Str) (sc : Scope) (i t : Nat) (L : List α) (h : α → D) (g : α → Bool)
    (hc : X.calm = true) (hN : X.N.Nodup) (hi : EvI X (hide ρw) (.Name n np) iter (L.map h)) (hl : L.length < 100000)
    (he : ∀ x ∈ L, ∀ (s : Shared) (H : Hp) (C : Addr) (cl : List (Str × Addr)) (fp : List Addr), Ev (X.blk s H scope (compEnvC scope cl C X.env) fp) ((wipeD (hide ρw) [t]).set t (some (h x))) elt (mkD (g x)))
    (k : Ws X (ρw.set i (some (.om (L.map g)))) rest Φ)
    (ok : blkC Nl sc scope [(n, t)] = true := by decide +kernel) (hNl : Nl = X.N := by rfl) (hsc : sc = X.env.scope := by rfl)
    (hg : ∀ d, ∀ (s : Shared) (H : Hp) (C : Addr) (cl : List (Str × Addr)) (fp : List Addr), X.N.Nodup → EvG (X.blk s H scope (compEnvC scope cl C X.env) fp) (.Name n np) d [t] [d] := by intro d s H C cl fp hN; exact EvG.name _ hN)
    (hy : X.N[i]? = some y := by rfl) (hyl : X.env.scope.names.lookup y = some .local := by rfl) (hsw : swapsWith (.ListComp elt [⟨.Name n np, iter, [], 0⟩] scope pos) (some (.Name y py)) spos.line X.env = pure true := by exact sw_true rfl rfl rfl (by decide +kernel))
    (hs : ∀ x, foldedSetIterable iter X.env x = pure x := by intro _; rfl) : Ws X ρw (.Assign [.Name y py] (.ListComp elt [⟨.Name n np, iter, [], 0⟩] scope pos) spos :: rest) Φ :=
  .asgC (own := [(n, t)]) i L h (fun x => .sh (mkD (g x))) [t] (fun x => [h x]) (dM (L.map g)) hc hN hi (by subst hNl hsc; exact blkOk_by ok) (by simp) (fun x _ s H C cl fp => hg _ s H C cl fp hN) (fun x hx s H C cl fp => (he x hx s H C cl fp).evO) (Nat.lt_of_lt_of_le hl (by decide)) (by rw [oM_of]; exact oM_data _) (by rw [oM_of]; exact k) hy hyl hsw hs
end

/-! ### a loop that only tests -/
def wipeW (ρ : RhoW) : List Nat → RhoW
  | [] => ρ
  | i :: is => (wipeW ρ is).set i none
theorem wipeW_length (ρ : RhoW) : ∀ is : List Nat, (wipeW ρ is).length = ρ.length
  | [] => rfl
  | i :: is => by unfold wipeW; rw [List.length_set, wipeW_length ρ is]
theorem wipeW_get {ρ : RhoW} {w : W} : ∀ {is : List Nat} {j : Nat}, (wipeW ρ is)[j]? = some (some w) → ρ[j]? = some (some w) ∧ j ∉ is
  | [], j, h => ⟨h, by simp⟩
  | i :: is, j, h => by
    unfold wipeW at h
    rw [List.getElem?_set] at h
    split at h
    · split at h <;> cases h
    · rename_i e
      obtain ⟨h1, h2⟩ := wipeW_get h
      exact ⟨h1, by simp only [List.mem_cons, not_or]; exact ⟨fun z => e z.symm, h2⟩⟩
theorem EnvW.wiped {K : PySem.W.Frag} {H0 H : Hp} {σ : L2.St} {ρ : RhoW} (E : EnvW K H0 σ H ρ) (is : List Nat) {σ' : L2.St} (hl : σ'.length = σ.length) (h : ∀ j, j ∉ is → σ'[j]? = σ[j]?) : EnvW K H0 σ' H (wipeW ρ is) :=
  E.remap (fun j => some j) (by rw [hl, wipeW_length, E.len]) (fun j w hw => let ⟨h1, h2⟩ := wipeW_get hw; ⟨j, rfl, h1, h j h2⟩) (fun j j' k h1 h2 => by cases h1; cases h2; rfl)
theorem wipeD_length (ρ : Rho) : ∀ is : List Nat, (wipeD ρ is).length = ρ.length
  | [] => rfl
  | i :: is => by unfold wipeD; rw [List.length_set, wipeD_length ρ is]
theorem wipeD_get {ρ : Rho} {d : D} : ∀ {is : List Nat} {j : Nat}, (wipeD ρ is)[j]? = some (some d) → ρ[j]? = some (some d) ∧ j ∉ is
  | [], j, h => ⟨h, by simp⟩
  | i :: is, j, h => by
    unfold wipeD at h
    rw [List.getElem?_set] at h
    split at h
    · split at h <;> cases h
    · rename_i e
      obtain ⟨h1, h2⟩ := wipeD_get h
      exact ⟨h1, by simp only [List.mem_cons, not_or]; exact ⟨fun z => e z.symm, h2⟩⟩
section
variable {X : Cx} {ρ : RhoW} {Φ : Post} {rest th : List Stmt} {tg iter c : Expr} {pos p : Pos} {items : List D}
theorem Ws.forTest (is : List Nat) (bs : Nat → List D) (hp : PassesOwn (model X.prog X.w) X.A X.env X.xe) (hc : X.calm = true) (hi : EvI X (bor ρ) tg iter items)
    (hg : ∀ i d, items[i]? = some d → EvG X tg d is (bs i))
    (hb : ∀ i d, items[i]? = some d → EvT X (setD (wipeD (bor ρ) is) is (bs i)) c false)
    (hd : Ws X (wipeW ρ is) rest Φ) (hs : ∀ x, foldedSetIterable iter X.env x = pure x := by intro _; rfl) : Ws X ρ (.For tg iter [.If c th [] p] [] pos :: rest) Φ := ⟨fun H0 σ H D E k => by
  obtain ⟨F, E1⟩ := id E
  refine WSs.cons (ws_of (ps_for hp hc pi_wi pg_wg pss_wss hs) ?_)
  refine hi.run σ H E1.envB _ fun J H1 s1 src => ?_
  obtain ⟨G, Y, wk, hG, hY⟩ := src.go
  have en1 : EnvS X.K σ H1 (bor ρ) := E1.envB.mono s1
  refine for_it (g := WG X tg) (tb := fun D σ H => WSs X [.If c th [] p] σ H D) (D := { D with nx := fun σ' H' => WSs X rest σ' H' D }) wk (fun i σ' H' => Same H1 H' ∧ σ'.length = σ.length ∧ ∀ j, j ∉ is → σ'[j]? = σ[j]?) ⟨Same.refl _, rfl, fun _ _ => rfl⟩ (fun i σ' H' _ ⟨s, _⟩ => hG H' s) (fun i x σ' H' H2 hlt ⟨s, hl, hj⟩ y => ?_) (fun σ' H' ⟨s, hl, hj⟩ => ?_)
  · obtain ⟨s2, d, hd', rd⟩ := hY i H' x H2 hlt s y
    have rd' : Rep X.K H2 x d := by have := rd [] (fun a ha => by cases ha); rwa [mask_nil] at this
    show WG X tg x σ' H2 _
    refine (hg i d hd').run σ' H2 H2 x (Same.refl _) rd' _ fun vs rs => ?_
    have en : EnvS X.K (setAll σ' is vs) H2 (setD (wipeD (bor ρ) is) is (bs i)) := by
      have e0 : EnvS X.K σ' H2 (wipeD (bor ρ) is) := by
        refine ⟨by rw [hl, en1.len, wipeD_length], fun j d hjd => ?_⟩
        obtain ⟨h1, h2⟩ := wipeD_get hjd
        obtain ⟨v, e, r⟩ := en1.get j d h1
        exact ⟨v, by rw [hj j h2]; exact e, r.mono (s.trans s2)⟩
      exact e0.setAll' rs
    refine wss_of (pss_one (ps_if pt_wt pss_wss pss_nil)) ?_
    refine (hb i d hd').run _ H2 en _ fun H3 s3 => iteF ?_
    exact ⟨(s.trans s2).trans s3, by rw [setAll_length, hl], fun j h => by rw [setAll_out h, hj j h]⟩
  · have E2 := (E.grow (s1.trans s)).wiped is hl hj
    exact hd.run H0 σ' H' D E2 (k.cast (wipeW_length ρ is).symm)⟩
end
theorem eqvD_refl {d : D} (h : d.good = true) : eqvD d d = true := SeqAt.eqv_refl _ (good_plain d h).2.1
end VL
set_option Elab.async false
set_option linter.all false
set_option maxRecDepth 100000
set_option maxHeartbeats 1000000
/-! value layer, part 10: lists of ints, ranges, unpacking lists, extend, index -/
namespace VL
open PySem L2

/-! ### least and greatest -/
def loI : List Int → Int
  | [] => 0
  | x :: xs => xs.foldl min x
def hiI : List Int → Int
  | [] => 0
  | x :: xs => xs.foldl max x
theorem foldl_min : ∀ (xs : List Int) (x : Int), (xs.foldl min x = x ∨ xs.foldl min x ∈ xs) ∧ xs.foldl min x ≤ x ∧ ∀ y ∈ xs, xs.foldl min x ≤ y
  | [], x => ⟨.inl rfl, Int.le_refl _, fun y h => by cases h⟩
  | z :: xs, x => by
    obtain ⟨h1, h2, h3⟩ := foldl_min xs (min x z)
    simp only [List.foldl_cons]
    refine ⟨?_, by omega, fun y hy => ?_⟩
    · rcases h1 with h1 | h1
      · rw [h1]
        by_cases h : x ≤ z
        · exact .inl (by omega)
        · exact .inr (by simp; omega)
      · exact .inr (List.mem_cons_of_mem _ h1)
    · rcases List.mem_cons.mp hy with rfl | hy
      · omega
      · exact h3 y hy
theorem foldl_max : ∀ (xs : List Int) (x : Int), (xs.foldl max x = x ∨ xs.foldl max x ∈ xs) ∧ x ≤ xs.foldl max x ∧ ∀ y ∈ xs, y ≤ xs.foldl max x
  | [], x => ⟨.inl rfl, Int.le_refl _, fun y h => by cases h⟩
  | z :: xs, x => by
    obtain ⟨h1, h2, h3⟩ := foldl_max xs (max x z)
    simp only [List.foldl_cons]
    refine ⟨?_, by omega, fun y hy => ?_⟩
    · rcases h1 with h1 | h1
      · rw [h1]
        by_cases h : z ≤ x
        · exact .inl (by omega)
        · exact .inr (by simp; omega)
      · exact .inr (List.mem_cons_of_mem _ h1)
    · rcases List.mem_cons.mp hy with rfl | hy
      · omega
      · exact h3 y hy
theorem loI_mem {L : List Int} (h : L ≠ []) : loI L ∈ L := by
  cases L with
  | nil => exact absurd rfl h
  | cons x xs => rcases (foldl_min xs x).1 with e | e <;> simp [loI, e]
theorem hiI_mem {L : List Int} (h : L ≠ []) : hiI L ∈ L := by
  cases L with
  | nil => exact absurd rfl h
  | cons x xs => rcases (foldl_max xs x).1 with e | e <;> simp [hiI, e]
theorem loI_le {L : List Int} {y : Int} (h : y ∈ L) : loI L ≤ y := by
  cases L with
  | nil => cases h
  | cons x xs =>
    rcases List.mem_cons.mp h with rfl | h
    · exact (foldl_min xs y).2.1
    · exact (foldl_min xs x).2.2 y h
theorem hiI_le {L : List Int} {y : Int} (h : y ∈ L) : y ≤ hiI L := by
  cases L with
  | nil => cases h
  | cons x xs =>
    rcases List.mem_cons.mp h with rfl | h
    · exact (foldl_max xs y).2.1
    · exact (foldl_max xs x).2.2 y h
section
variable {X : Cx} {ρ : Rho} {e e1 e2 a b o : Expr} {p p2 pos pos2 q1 : Pos} {L : List Int} {i j : Int}
theorem Ev.minL (hc : X.calm = true) (hm : X.mg "min" = none) (h : Ev X ρ e (dI L)) (hL : L ≠ []) (hg : Gl X "min" := by rfl) (hs : starEach [e] X.env = (false, eval e X.env) :: starEach [] X.env := by rfl) (hpl : (backTo pos (starEach [] X.env)).any (·.1) = false := by rfl) : Ev X ρ (.Call (.Name "min" p) [e] [] pos) (.int (loI L)) :=
  Ev.callB (cr_min hc) hg hm (by decide +kernel) (.one h hs) (fun vs H r0 Q q => by
    obtain ⟨v, rfl, r⟩ := r0.one
    obtain ⟨a, ws, rfl, h, rs⟩ := r.lst_inv
    obtain rfl := rs.ints
    refine ⟨a, L, rfl, SqL.of h, List.length_pos_iff.mpr hL, fun m hm hle => ?_⟩
    have := hle _ (loI_mem hL)
    have := loI_le hm
    obtain rfl : m = loI L := by omega
    exact q _ H (Same.refl H) (.int _)) (by decide) (by decide) hs hpl
theorem Ev.maxL (hc : X.calm = true) (hm : X.mg "max" = none) (h : Ev X ρ e (dI L)) (hL : L ≠ []) (hg : Gl X "max" := by rfl) (hs : starEach [e] X.env = (false, eval e X.env) :: starEach [] X.env := by rfl) (hpl : (backTo pos (starEach [] X.env)).any (·.1) = false := by rfl) : Ev X ρ (.Call (.Name "max" p) [e] [] pos) (.int (hiI L)) :=
  Ev.callB (cr_max hc) hg hm (by decide +kernel) (.one h hs) (fun vs H r0 Q q => by
    obtain ⟨v, rfl, r⟩ := r0.one
    obtain ⟨a, ws, rfl, h, rs⟩ := r.lst_inv
    obtain rfl := rs.ints
    refine ⟨a, L, rfl, SqL.of h, List.length_pos_iff.mpr hL, fun m hm hle => ?_⟩
    have := hle _ (hiI_mem hL)
    have := hiI_le hm
    obtain rfl : m = hiI L := by omega
    exact q _ H (Same.refl H) (.int _)) (by decide) (by decide) hs hpl
/-- list(range(..)) -/
theorem rgV_ints (i j : Int) : rgV i j = (((List.range (j - i).toNat).map fun (k : Nat) => i + (k : Int)).map V.int) := by unfold rgV; rw [List.map_map]; rfl
theorem EvO.listRg1 (hc : X.calm = true) (hm : X.mg "list" = none) (hm2 : X.mg "range" = none) (h : Ev X ρ a (.int j)) (hj : 0 ≤ j ∧ j ≤ 100000) (hg : Gl X "list" := by rfl) (hg2 : Gl X "range" := by rfl)
    (hs2 : starEach [a] X.env = (false, eval a X.env) :: starEach [] X.env := by rfl)
    (hs : starEach [.Call (.Name "range" p2) [a] [] pos2] X.env = (false, eval (.Call (.Name "range" p2) [a] [] pos2) X.env) :: starEach [] X.env := by rfl) :
    EvO X ρ (.Call (.Name "list" p) [.Call (.Name "range" p2) [a] [] pos2] [] pos) (oI ((List.range j.toNat).map fun (k : Nat) => (k : Int))) := by
  have e : oI ((List.range j.toNat).map fun (k : Nat) => (k : Int)) = oL (((List.range (j - 0).toNat).map fun (k : Nat) => 0 + (k : Int)).map D.int) := by
    unfold oI; rw [Int.sub_zero]; simp
  rw [e]
  exact .newl fun σ H en Q q => we_of (pe_listRg hc hg hm (prg_1 hg2 hm2 pe_we hs2) hs) (h.run σ H en _ fun x H1 s1 r1 => by
    obtain rfl := r1.int_inv
    exact ⟨j, rfl, RgOk.of_le (by omega) (by omega) (by omega) (by omega), fun pp hp => by rw [rgV_ints]; exact q pp _ H1 s1 hp (reps_ints _)⟩)
theorem EvO.listRg2 (hc : X.calm = true) (hm : X.mg "list" = none) (hm2 : X.mg "range" = none) (h : Ev X ρ a (.int i)) (h2 : Ev X ρ b (.int j)) (hi : 0 ≤ i ∧ i ≤ 100000) (hj : 0 ≤ j ∧ j ≤ 100000) (hg : Gl X "list" := by rfl) (hg2 : Gl X "range" := by rfl)
    (hs2 : starEach [a, b] X.env = (false, eval a X.env) :: starEach [b] X.env := by rfl) (hs3 : starEach [b] X.env = (false, eval b X.env) :: starEach [] X.env := by rfl) (hp2 : (backTo pos2 (starEach [b] X.env)).any (·.1) = false := by rfl)
    (hs : starEach [.Call (.Name "range" p2) [a, b] [] pos2] X.env = (false, eval (.Call (.Name "range" p2) [a, b] [] pos2) X.env) :: starEach [] X.env := by rfl) :
    EvO X ρ (.Call (.Name "list" p) [.Call (.Name "range" p2) [a, b] [] pos2] [] pos) (oI ((List.range (j - i).toNat).map fun (k : Nat) => i + (k : Int))) := by
  exact .newl fun σ H en Q q => we_of (pe_listRg hc hg hm (prg_2 hg2 hm2 pe_we pe_we hs2 hs3 hp2) hs) (h.run σ H en _ fun x H1 s1 r1 => h2.run σ H1 (en.mono s1) _ fun y H2 s2 r2 => by
    obtain rfl := r1.int_inv
    obtain rfl := r2.int_inv
    exact ⟨i, j, rfl, rfl, RgOk.of_le (by omega) (by omega) (by omega) (by omega), fun pp hp => by rw [rgV_ints]; exact q pp _ H2 (s1.trans s2) hp (reps_ints _)⟩)
/-- xs.index(k) -/
theorem flat_ints (ns : List Int) : (ns.map V.int).all flatV = true := by rw [List.all_map]; exact List.all_eq_true.mpr fun x _ => rfl
theorem Ev.indexI {z : Int} {k : Nat} (ha : Ev X ρ o (dI L)) (hb : Ev X ρ e (.int z)) (hk : L[k]? = some z) (hno : ∀ m, m < k → L[m]? ≠ some z)
    (hpe : ∀ {t t2}, PE X o t → PE X e t2 → PE X (.Call (.Attribute o "index" q1) [e] [] pos) (tBM X.K "list" (rIndex X.K) t (tCons t2 tNil)) := by
      intro t t2 h1 h2; exact pe_bm PySem.F.plainAttrs_list PySem.F.slot_list_index PySem.F.type_list_index mt_index h1 (pa_cons h2 pa_nil)) : Ev X ρ (.Call (.Attribute o "index" q1) [e] [] pos) (.int (k : Int)) :=
  ⟨fun σ H en Q q => we_of (hpe pe_we pe_we) (ha.run σ H en _ fun x H1 s1 r1 => by
    obtain ⟨a, vs, rfl, h1, rs⟩ := id r1.lst_inv
    refine ⟨.inl ⟨rfl, vs, SqL.of h1⟩, hb.run σ H1 (en.mono s1) _ fun y H2 s2 r2 => ?_⟩
    obtain rfl := r2.int_inv
    obtain rfl := rs.ints
    refine ⟨a, L.map V.int, .int z, k, .int z, rfl, rfl, (s2.seq (SqL.of h1)), rfl, flat_ints L, by rw [List.getElem?_map, hk]; rfl, by simp [eqV], fun m z' hm hz' => ?_, q _ H2 (s1.trans s2) (.int _)⟩
    rw [List.getElem?_map] at hz'
    obtain ⟨w, e1, rfl⟩ := Option.map_eq_some_iff.mp hz'
    have hw : w ≠ z := fun e => hno m hm (by rw [e1, e])
    simp [eqV, hw])⟩
end
section
variable {X : Cx} {ρ : RhoW} {Φ : Post} {rest : List Stmt} {e : Expr} {p pos : Pos} {d d2 : D}
/-- x, y = e, e a new list of two shared things -/
theorem Ws.unpackL2 {x y : Str} (i j : Nat) {k1 : Nat} {p1 p2 tp : Pos} (hc : X.calm = true) (hN : X.N.Nodup) (h : EvW X ρ e fun w ρ' => (∃ d', w = .ow (oL [d, d2]) d') ∧ Ws X (setW ρ' [i, j] [d, d2]) rest Φ)
    (hps : ∀ {te}, X.N.Nodup → PE X e te → PS X (.Assign [.Tuple [.Name x p1, .Name y p2] k1 tp] e pos) (tAsg te (gLst X.K 2 (gCons (gName i) (gCons (gName j) gNil)))) := by
      intro te hN ht; exact ps_asg ht (pg_lst rfl (pgs_cons (pg_name hN rfl (by first | exact Or.inl rfl | exact Or.inr rfl)) (pgs_cons (pg_name hN rfl (by first | exact Or.inl rfl | exact Or.inr rfl)) pgs_nil)))) 
    (hij : (decide (i < ρ.length) && decide (j < ρ.length)) = true := by rfl) :
    Ws X ρ (.Assign [.Tuple [.Name x p1, .Name y p2] k1 tp] e pos :: rest) Φ := ⟨fun H0 σ H D E kk =>
  WSs.cons (ws_of (hps hN pe_we) (h.run H0 σ H E _ fun v H' w ρ' q l E' => by
    have hij := Bool.and_eq_true_iff.mp hij
    have hi : i < ρ.length := of_decide_eq_true hij.1
    have hj : j < ρ.length := of_decide_eq_true hij.2
    obtain ⟨⟨d', rfl⟩, q⟩ := q
    have hl : σ.length = ρ'.length := by have := E'.len; simpa using this
    have E2 := E'.share (i := ρ'.length) (o := oL [d, d2]) (d := d') (by simp)
    rw [List.set_append_right _ _ (Nat.le_refl _), Nat.sub_self, List.set_cons_zero] at E2
    obtain ⟨F, E3⟩ := id E'
    have hd : d' = .lst [d, d2] := by
      obtain ⟨v', _, r⟩ := E3.get ρ'.length (.ow (oL [d, d2]) d') (by simp)
      rw [← r.1, oL_data]
    subst hd
    obtain ⟨F, E3⟩ := E2
    obtain ⟨v', hv', r⟩ := E3.get ρ'.length (.sh (.lst [d, d2])) (by simp)
    obtain rfl : v' = v := by rw [← hl] at hv'; simp at hv'; exact hv'.symm
    obtain ⟨a, vs, rfl, ha, rs⟩ := r.1.lst_inv
    obtain ⟨v1, t1, rfl, r1, rs1⟩ := id rs.cons_split
    obtain ⟨v2, t2, rfl, r2, rs2⟩ := id rs1.cons_split
    obtain rfl := rs2.nil_inv
    refine ⟨a, [v1, v2], rfl, SqL.of (mask_some ha).1, rfl, v1, [v2], rfl, v2, [], rfl, rfl, ?_⟩
    have E4 := EnvW.store (is := [i, j]) E3 (Same.refl _) rs
    simp only [setAll, setW] at E4
    rw [List.set_append_left _ _ (by omega), List.set_append_left _ _ (by simp; omega), List.set_append_left _ _ (by omega), List.set_append_left _ _ (by simp; omega)] at E4
    refine q.run H0 _ H' D ?_ (kk.cast (by simp [setW, l]))
    exact EnvW.pop E4))⟩
/-- x.extend(e), e shared -/
theorem Ws.extend {x : Str} (i : Nat) {ds es : List D} (ds' : List D) {d1 : D} {q1 q2 : Pos} (h : EvW X ρ e (shD (.lst es) ρ)) (hL : ds ++ es = ds') (k : Ws X (ρ.set i (some (.ow (oL ds') (.lst ds')))) rest Φ) (hz : ds.length + es.length ≤ 100000) (hN : X.N[i]? = some x := by rfl) (hρ : ρ[i]? = some (some (.ow (oL ds) d1)) := by rfl)
    (hpe : ∀ {t}, PE X e t → PE X (.Call (.Attribute (.Name x q1) "extend" q2) [e] [] p) (tBM X.K "list" rExtend (tVar i) (tCons t tNil)) := by
      intro t ht; exact pe_bm PySem.F.plainAttrs_list PySem.F.slot_list_extend PySem.F.type_list_extend mt_extend (pv _) (pa_cons ht pa_nil))
    (hs : swapsWith (.Call (.Attribute (.Name x q1) "extend" q2) [e] [] p) none pos.line X.env = pure false := by rfl) : Ws X ρ (.Expr (.Call (.Attribute (.Name x q1) "extend" q2) [e] [] p) pos :: rest) Φ := ⟨fun H0 σ H D E kk =>
  WSs.cons (ws_of (ps_expr (hpe pe_we) hs) (by
    obtain ⟨F, E1⟩ := id E
    obtain ⟨a, vs, hσ, ha, _, _⟩ := E1.flat hρ
    refine ⟨.ref a, hσ, .inl ⟨rfl, vs, SqL.of ha⟩, h.run H0 σ H E _ fun v H' w ρ' q l E' => ?_⟩
    obtain ⟨rfl, rfl⟩ := q
    have hi := (List.getElem?_eq_some_iff.mp hρ).1
    have hl := E.len
    obtain ⟨F', E2⟩ := E'
    have hρ' : (ρ' ++ [some (W.sh (.lst es))])[i]? = some (some (.ow (oL ds) d1)) := by rw [List.getElem?_append_left hi]; exact hρ
    obtain ⟨a', vs', hσ', ha', hF, rs'⟩ := E2.flat hρ'
    have eav : a' = a := by
      rw [List.getElem?_append_left (by omega), hσ] at hσ'
      simpa using hσ'.symm
    subst eav
    obtain ⟨v', hv', rv⟩ := E2.get ρ'.length (.sh (.lst es)) (by simp)
    have ev : v' = v := by rw [← hl] at hv'; simp at hv'; exact hv'.symm
    subst ev
    obtain ⟨b, ws, rfl, hb, rb⟩ := rv.1.lst_inv
    refine ⟨a', b, vs', ws, rfl, rfl, ha', (mask_some hb).1, by rw [rs'.1, rb.1]; exact Nat.le_trans hz (by decide), ?_⟩
    have En := (E2.mutF hρ' hσ' hF (rs'.append rb)).1
    rw [List.set_append_left _ _ hi, hL] at En
    exact k.run H0 σ _ D (EnvW.pop ⟨_, En⟩) (kk.cast (by simp))))⟩
end
end VL
set_option Elab.async false
set_option linter.all false
set_option maxRecDepth 100000
set_option maxHeartbeats 1000000
/-! value layer, part 11: own things within own things -/
namespace VL
open PySem L2

/-! ### displays of own things -/
section
variable {X : Cx} {ρ : Rho} {e : Expr} {es : List Expr} {o : O} {os : List O} {pos : Pos} {σ : L2.St} {H : Hp} {d : D}
theorem WA.mono {Q Q' : List V → Hp → Prop} (h : WA X es σ H Q) (m : ∀ v H', Q v H' → Q' v H') : WA X es σ H Q' := fun pos pins s I =>
  thn (h pos pins s I) fun u s' ⟨v, H', I', r, q⟩ => ⟨v, H', I', r, m v H' q⟩
theorem WA.frame {as : List Addr} {Q : List V → Hp → Prop} (hl : Hid H as) (h : WA X es σ (mask H as) Q) :
    WA X es σ H (fun v H' => ∃ M, Q v M ∧ H' = join M H as ∧ (∀ a ∈ as, M a = none) ∧ Same M H') := fun pos pins s I => by
  obtain ⟨own, h1, h2, J⟩ := Inv.hide I hl
  refine thn (h pos _ s J) fun u s' ⟨v, M, J', r, q⟩ => ?_
  obtain ⟨I', n, up⟩ := Inv.show' I hl h1 J'
  exact ⟨v, _, I', r, M, q, rfl, n, up⟩
theorem EvAO.nil : EvAO X ρ [] [] := ⟨fun σ H en Q q => wa_of pa_nil (q [] H [] (Same.refl H) (by simp) (by simp) .nil)⟩
theorem EvAO.cons (h : EvO X ρ e o) (t : EvAO X ρ es os) (hs : starEach (e :: es) X.env = (false, eval e X.env) :: starEach es X.env := by rfl) : EvAO X ρ (e :: es) (o :: os) :=
  ⟨fun σ H en Q q => wa_of (pa_cons pe_we pa_wa hs) (h.run σ H en _ fun v H1 A s1 f1 nd1 r1 => by
    refine (WA.frame r1.cells (t.run σ (mask H1 A) (en.mono (mask_same_of s1 f1)) (fun vs M => ∃ As : List (List Addr), Same (mask H1 A) M ∧ (∀ a ∈ As.flatten, mask H1 A a = none) ∧ As.flatten.Nodup ∧ RepOs X.K M (mask M As.flatten) vs os As) fun vs M As s f n r => ⟨As, s, f, n, r⟩)).mono ?_
    rintro vs H2 ⟨M, ⟨As, s, f, nd, r⟩, rfl, n, up⟩
    have hdis : ∀ a, a ∈ A → a ∈ As.flatten → False := fun a h1 h2 => by
      exact r.cells.some h2 (n a h1)
    refine q (v :: vs) _ (A :: As) (fun b u z => ?_) (fun a ha => ?_) ?_ (.cons (r1.keep (fun a ha u z => ?_) fun b u z => ?_) (r.keep (fun a ha u z => ?_) fun b u z => ?_))
    · have hb : b ∉ A := fun y => by rw [f1 b y] at z; cases z
      exact up _ _ (s _ _ (by rw [mask_out hb]; exact s1 _ _ z))
    · rw [List.flatten_cons] at ha
      rcases List.mem_append.mp ha with ha | ha
      · exact f1 a ha
      · have hA : a ∉ A := fun y => hdis a y ha
        have := f a ha
        rw [mask_out hA] at this
        cases hh : H a with
        | none => rfl
        | some u => rw [s1 _ _ hh] at this; cases this
    · rw [List.flatten_cons]
      exact List.nodup_append.mpr ⟨nd1, nd, fun a h1 b h2 e => hdis a h1 (e ▸ h2)⟩
    · rw [join_in ha]; exact z
    · obtain ⟨z1, z2⟩ := mask_some z
      have hM := s _ _ z
      have hf : b ∉ As.flatten := fun y => by rw [f b y] at z; cases z
      rw [List.flatten_cons, mask_out (fun y => (List.mem_append.mp y).elim z2 hf)]
      exact up _ _ hM
    · rw [join_out (fun y => hdis a y ha)]; exact z
    · obtain ⟨z1, z2⟩ := mask_some z
      have hA : b ∉ A := fun y => by rw [n b y] at z1; cases z1
      rw [List.flatten_cons, mask_out (fun y => (List.mem_append.mp y).elim hA z2)]
      exact up _ _ z1)⟩
theorem EvO.tupO (h : EvAO X ρ es os) {x1} (hl : os.length ≤ 1000 := by simp) : EvO X ρ (.Tuple es x1 pos) (.tu os) :=
  ⟨fun σ H en Q q => we_of (pe_tup pa_wa) (h.run σ H en _ fun vs H1 As s1 f1 nd r1 => ⟨by rw [r1.1]; exact Nat.le_trans hl (by decide), fun p hp => by
    have hpA : p ∉ As.flatten := fun y => r1.cells.some y hp
    have s2 : Same (mask H1 As.flatten) (mask (upd H1 p (.tup vs)) As.flatten) := fun b u z => by
      obtain ⟨z1, z2⟩ := mask_some z
      rw [mask_out z2, upd_ne (ne_of_none z1 hp)]
      exact z1
    have r2 := r1.keep (H' := upd H1 p (.tup vs)) (fun a ha u z => by rw [upd_ne (ne_of_none z hp)]; exact z) s2
    exact q _ _ As.flatten (s1.trans (Same.new hp)) f1 nd (.tu (by rw [mask_out hpA]; exact upd_same) r2.1 r2.2.1 r2.2.2)⟩)⟩
theorem EvO.pairO {e1 e2 : Expr} {o1 o2 : O} {x1} (h : EvO X ρ e1 o1) (h2 : EvO X ρ e2 o2) (hs : starEach [e1, e2] X.env = (false, eval e1 X.env) :: starEach [e2] X.env := by rfl) (hs2 : starEach [e2] X.env = (false, eval e2 X.env) :: starEach [] X.env := by rfl) : EvO X ρ (.Tuple [e1, e2] x1 pos) (.tu [o1, o2]) :=
  .tupO (.cons h (.cons h2 .nil hs2) hs)
end

/-! ### paths -/
inductive Pe where
  | ix (k : Nat) | fld (C : Addr) (k : Nat) (f : Str) | key (k : Nat) (x : Key) | pin
def Pe.n : Pe → Nat
  | .ix k => k
  | .fld _ k _ => k
  | .key k _ => k
  | .pin => 0
def stepV (H : Hp) (v : V) (w : V) : Pe → Prop
  | .ix k => ∃ b vs, v = .ref b ∧ (H b = some (.lst vs) ∨ H b = some (.tup vs)) ∧ vs[k]? = some w
  | .fld C _ f => ∃ b dx fs, v = .ref b ∧ H b = some (.ins C dx fs) ∧ fs.lookup f = some w
  | .key _ x => ∃ b kvs, v = .ref b ∧ H b = some (.dK kvs) ∧ valV kvs x = some w
  | .pin => w = v
theorem stepV.det {H H' : Hp} {v w w' : V} {q : Pe} (s : Same H H') (h : stepV H v w q) (h' : stepV H' v w' q) : w' = w := by
  cases q with
  | ix k =>
    obtain ⟨b, vs, rfl, h1, h2⟩ := h
    obtain ⟨b', vs', e, h1', h2'⟩ := h'
    obtain rfl : b = b' := by simpa using e
    have : vs' = vs := by
      rcases h1 with h1 | h1 <;> rcases h1' with h1' | h1' <;> rw [s _ _ h1] at h1' <;> simp at h1' <;> exact h1'.symm
    subst this
    rw [h2] at h2'
    exact (Option.some.inj h2').symm
  | fld C k f =>
    obtain ⟨b, dx, fs, rfl, h1, h2⟩ := h
    obtain ⟨b', dx', fs', e, h1', h2'⟩ := h'
    obtain rfl : b = b' := by simpa using e
    rw [s _ _ h1] at h1'
    cases h1'
    rw [h2] at h2'
    exact (Option.some.inj h2').symm
  | key k x =>
    obtain ⟨b, kvs, rfl, h1, h2⟩ := h
    obtain ⟨b', kvs', e, h1', h2'⟩ := h'
    obtain rfl : b = b' := by simpa using e
    rw [s _ _ h1] at h1'
    cases h1'
    rw [h2] at h2'
    exact (Option.some.inj h2').symm
  | pin => rw [show w = v from h]; exact h'
def At (H : Hp) (u : V) : List Pe → V → Prop
  | [], v => v = u
  | q :: p, v => ∃ w, stepV H v w q ∧ At H u p w
theorem At.snoc {H : Hp} {u : V} {q : Pe} : ∀ {p : List Pe} {v : V}, At H u (p ++ [q]) v → ∃ w, At H w p v ∧ stepV H w u q
  | [], v, h => by
    obtain ⟨w, h1, h2⟩ := h
    have h2 : w = u := h2
    subst h2
    exact ⟨v, rfl, h1⟩
  | j :: p, v, h => by
    obtain ⟨w, h1, h2⟩ := h
    obtain ⟨x, q1, q2⟩ := At.snoc h2
    exact ⟨x, ⟨w, h1, q1⟩, q2⟩
theorem At.det {H H' : Hp} {u u' : V} (s : Same H H') : ∀ {p : List Pe} {v : V}, At H u p v → At H' u' p v → u' = u
  | [], v, h, h' => by rw [show v = u from h] at h'; exact (show u = u' from h').symm
  | q :: p, v, ⟨w, h1, h2⟩, ⟨w', h1', h2'⟩ => by
    obtain rfl := h1.det s h1'
    exact At.det s h2 h2'
def O.kid : O → Nat → Option O
  | .ls xs, k => xs[k]?
  | .tu xs, k => xs[k]?
  | .ob _ _ xs, k => xs[k]?
  | .dd _ xs, k => xs[k]?
  | .pin _ o, 0 => some o
  | _, _ => none
def O.sub (o : O) : List Pe → Option O
  | [] => some o
  | q :: p => (o.kid q.n).bind fun x => x.sub p
def O.setKid : O → Nat → O → O
  | .ls xs, k, x => .ls (xs.set k x)
  | .tu xs, k, x => .tu (xs.set k x)
  | .ob C ks xs, k, x => .ob C ks (xs.set k x)
  | .dd ks xs, k, x => .dd ks (xs.set k x)
  | .pin a _, _, x => .pin a x
  | o, _, _ => o
def O.put (o n : O) : List Pe → O
  | [] => n
  | q :: p => match o.kid q.n with
    | some x => o.setKid q.n (x.put n p)
    | none => o
/-- the path's words are the thing's -/
def O.okK : O → Pe → Prop
  | .ls _, .ix _ => True
  | .tu _, .ix _ => True
  | .ob C ks _, .fld C' k f => C' = C ∧ ks[k]? = some f
  | .dd ks _, .key k x => ks[k]? = some x
  | .pin _ _, .pin => True
  | _, _ => False
def O.okP (o : O) : List Pe → Prop
  | [] => True
  | q :: p => o.okK q ∧ ∀ x, o.kid q.n = some x → x.okP p
/-- where a reference to the own list at a place of slot i comes from -/
structure Rcv (X : Cx) (e : Expr) (i : Nat) (p : List Pe) : Prop where
  run : ∀ (σ : L2.St) (H : Hp) (v u : V) (Q : VK), σ[i]? = some (some v) → At H u p v → Q u H → WE X e σ H Q
section
variable {X : Cx} {e : Expr} {i : Nat} {p : List Pe} {pos : Pos}
theorem Rcv.name (i : Nat) {x : Str} (hN : X.N[i]? = some x := by rfl) (hv : Vis X.env.scope x := by first | exact Or.inl rfl | exact Or.inr (Or.inl rfl) | exact Or.inr (Or.inr rfl)) (hd : (x == ("__debug__" : Str)) = false := by decide)
    (hcd : (x == ("__classdict__" : Str)) = false := by decide) : Rcv X (.Name x pos) i [] :=
  ⟨fun σ H v u Q h1 h2 q => we_of (pv i hN hv hd hcd) ⟨v, h1, by obtain rfl := h2; exact q⟩⟩
theorem Rcv.ix (h : Rcv X e i p) (k : Nat) {n : Nat} {q : Pos} {z : Int} (hz : z = (k : Int) := by rfl) (hs : PlainIx (.Constant (.int z) n q) := by exact fun _ _ => rfl) : Rcv X (.Subscript e (.Constant (.int z) n q) pos) i (p ++ [.ix k]) :=
  ⟨fun σ H v u Q h1 h2 q => by
    subst hz
    obtain ⟨w, q1, b, vs, rfl, q2, q3⟩ := h2.snoc
    have hk := (List.getElem?_eq_some_iff.mp q3).1
    have hat : atI vs (k : Int) = some u := by
      unfold atI ixN
      rw [if_pos (by omega), if_pos (by omega)]
      exact q3
    rcases q2 with q2 | q2
    · exact we_of (pe_ix ix_list pe_we pe_int hs) (h.run σ H v (.ref b) _ h1 q1 ⟨b, vs, _, u, rfl, rfl, SqL.of q2, hat, q⟩)
    · exact we_of (pe_ix ix_tup pe_we pe_int hs) (h.run σ H v (.ref b) _ h1 q1 ⟨b, vs, _, u, rfl, rfl, SqT.of q2, hat, q⟩)⟩
theorem Rcv.fld (h : Rcv X e i p) (C : Addr) (k : Nat) {f : Str} (hc : Cls X.K C) (hn : NoAttr X.K C f) (hb : attributeBase e f X.env (eval e X.env) = eval e X.env := by rfl) : Rcv X (.Attribute e f pos) i (p ++ [.fld C k f]) :=
  ⟨fun σ H v u Q h1 h2 q => by
    obtain ⟨w, q1, b, dx, fs, rfl, q2, q3⟩ := h2.snoc
    exact we_of (pe_fld pe_we hb) (h.run σ H v (.ref b) _ h1 q1 ⟨b, C, dx, fs, u, rfl, q2, hc, hn, q3, q⟩)⟩
theorem Rcv.pin (h : Rcv X e i p) : Rcv X e i (p ++ [.pin]) :=
  ⟨fun σ H v u Q h1 h2 q => by
    obtain ⟨w, q1, q2⟩ := h2.snoc
    have q2 : u = w := q2
    subst q2
    exact h.run σ H v u Q h1 q1 q⟩
theorem Rcv.key (h : Rcv X e i p) (k : Nat) {x : Str} {n : Nat} {q : Pos} (hu : X.A.units + 1 < cLine) (hs : NoSl (.Constant (.str x) n q) := by exact fun _ _ => rfl) : Rcv X (.Subscript e (.Constant (.str x) n q) pos) i (p ++ [.key k (.inr x)]) :=
  ⟨fun σ H v u Q h1 h2 q => by
    obtain ⟨w, q1, b, kvs, rfl, q2, q3⟩ := h2.snoc
    exact we_of (pe_dget hu pe_we pe_str hs) (h.run σ H v (.ref b) _ h1 q1 ⟨b, u, rfl, q3 ▸ DGet.k (k := .inr x) q2, q⟩)⟩
end
section
variable {K : PySem.W.Frag} {H0 H S : Hp} {v : V} {o : O} {d : D} {A : List Addr} {ds : List D}
theorem RepO.flat (r : RepO K H S v (oL ds) A) : ∃ a vs, v = .ref a ∧ H a = some (.lst vs) ∧ A = [a] ∧ Reps K S vs ds := by
  unfold oL at r
  cases r with
  | @ls a vs _ As q1 q2 q3 q4 =>
    have hnil : ∀ B ∈ As, B = [] := fun B hB => by
      obtain ⟨k, hk⟩ := List.getElem?_of_mem hB
      have l := (List.getElem?_eq_some_iff.mp hk).1
      simp at q2 q3
      have e1 : vs[k]? = some vs[k] := List.getElem?_eq_getElem (by omega)
      have e2 : (ds.map O.sh)[k]? = some (O.sh (ds[k]'(by omega))) := by simp [show k < ds.length by omega]
      exact (q4 k _ _ B e1 e2 hk).sh_inv.1
    have hflat : As.flatten = [] := List.flatten_eq_nil_iff.mpr hnil
    rw [hflat]
    refine ⟨a, vs, rfl, q1, rfl, by simpa using q2, fun k v d e1 e2 => ?_⟩
    have l := (List.getElem?_eq_some_iff.mp e2).1
    simp at q2 q3
    exact (q4 k v (.sh d) As[k] e1 (by simp [e2]) (List.getElem?_eq_getElem (by omega))).sh_inv.2
theorem repO_flat {a : Addr} {vs : List V} (h : H a = some (.lst vs)) (r : Reps K S vs ds) : RepO K H S (.ref a) (oL ds) [a] := by
  have rr := repOs_sh (K := K) (H := H) r
  have := RepO.ls (K := K) (S := S) h rr.1 rr.2.1 rr.2.2
  rw [flat_nil] at this
  exact this
theorem flat_split {As : List (List Addr)} {k : Nat} {B : List Addr} (h : As[k]? = some B) : As.flatten = (As.take k).flatten ++ (B ++ (As.drop (k + 1)).flatten) := by
  have hk := (List.getElem?_eq_some_iff.mp h)
  obtain ⟨hk, rfl⟩ := hk
  have e : (As.take k ++ (As[k] :: As.drop (k + 1))).flatten = As.flatten := by rw [← List.drop_eq_getElem_cons hk, List.take_append_drop]
  rw [← e, List.flatten_append, List.flatten_cons]
theorem flat_other {As : List (List Addr)} (nd : As.flatten.Nodup) {j k : Nat} {B C : List Addr} (h : As[k]? = some B) (h2 : As[j]? = some C) (hjk : j ≠ k) {a : Addr} (ha : a ∈ B) : a ∉ C := fun hc => by
  rw [flat_split h] at nd
  obtain ⟨_, n2, n3⟩ := List.nodup_append.mp nd
  obtain ⟨_, _, n4⟩ := List.nodup_append.mp n2
  by_cases hlt : j < k
  · have : C ∈ As.take k := by
      refine List.mem_of_getElem? (i := j) ?_
      rw [List.getElem?_take, if_pos hlt]; exact h2
    exact n3 a (List.mem_flatten.mpr ⟨C, this, hc⟩) a (List.mem_append_left _ ha) rfl
  · have : C ∈ As.drop (k + 1) := by
      refine List.mem_of_getElem? (i := j - (k + 1)) ?_
      rw [List.getElem?_drop, show k + 1 + (j - (k + 1)) = j by omega]; exact h2
    exact n4 a ha a (List.mem_flatten.mpr ⟨C, this, hc⟩) rfl
theorem RepO.at : ∀ {p : List Pe} {v : V} {o : O} {A : List Addr}, RepO K H S v o A → Same S H → A.Nodup → o.okP p → o.sub p = some (oL ds) →
    ∃ a vs, At H (.ref a) p v ∧ H a = some (.lst vs) ∧ Reps K S vs ds ∧ a ∈ A ∧ ∀ vs' ds', Reps K S vs' ds' → RepO K (upd H a (.lst vs')) S v (o.put (oL ds') p) A
  | [], v, o, A, r, s, nd, _, h => by
    obtain rfl := Option.some.inj h
    obtain ⟨a, vs, rfl, h1, rfl, h2⟩ := r.flat
    exact ⟨a, vs, rfl, h1, h2, by simp, fun vs' ds' r' => repO_flat upd_same r'⟩
  | q :: p, v, o, A, r, s, nd, ok, h => by
    unfold O.sub at h
    obtain ⟨x, hx, h⟩ := Option.bind_eq_some_iff.mp h
    obtain ⟨ok1, ok2⟩ := ok
    have ok2 := ok2 x hx
    have key : ∀ (vs : List V) (xs : List O) (As : List (List Addr)), vs.length = xs.length → As.length = xs.length →
        (∀ (i : Nat) v o A, vs[i]? = some v → xs[i]? = some o → As[i]? = some A → RepO K H S v o A) → xs[q.n]? = some x → As.flatten.Nodup →
        ∃ a ws w, vs[q.n]? = some w ∧ At H (.ref a) p w ∧ H a = some (.lst ws) ∧ Reps K S ws ds ∧ a ∈ As.flatten ∧
          ∀ vs' ds', Reps K S vs' ds' → ∀ (i : Nat) v o A, vs[i]? = some v → (xs.set q.n (x.put (oL ds') p))[i]? = some o → As[i]? = some A → RepO K (upd H a (.lst vs')) S v o A := by
      intro vs xs As l1 l2 hr hxk hnd
      have hk := (List.getElem?_eq_some_iff.mp hxk).1
      have hw : vs[q.n]? = some vs[q.n] := List.getElem?_eq_getElem (by omega)
      have hB : As[q.n]? = some As[q.n] := List.getElem?_eq_getElem (by omega)
      have ndB : As[q.n].Nodup := by
        rw [flat_split hB] at hnd
        exact (List.nodup_append.mp (List.nodup_append.mp hnd).2.1).1
      obtain ⟨a, ws, q1, q2, q3, q4, q5⟩ := RepO.at (hr q.n _ _ _ hw hxk hB) s ndB ok2 h
      refine ⟨a, ws, _, hw, q1, q2, q3, List.mem_flatten.mpr ⟨_, List.mem_of_getElem? hB, q4⟩, fun vs' ds' r' i v o A e1 e2 e3 => ?_⟩
      by_cases hik : i = q.n
      · subst hik
        rw [hw] at e1
        rw [hB] at e3
        obtain rfl := Option.some.inj e1
        obtain rfl := Option.some.inj e3
        rw [List.getElem?_set_self (by omega)] at e2
        obtain rfl := Option.some.inj e2
        exact q5 vs' ds' r'
      · rw [List.getElem?_set_ne (Ne.symm hik)] at e2
        refine (hr i v o A e1 e2 e3).keep (fun c hc u z => ?_) (Same.refl S)
        rw [upd_ne (fun y => by subst y; exact flat_other hnd hB e3 hik q4 hc)]
        exact z
    cases r with
    | sh q => cases hx
    | @ls b vs xs As h1 h2 h3 h4 =>
      cases q with
      | ix k =>
        obtain ⟨nb, nd'⟩ := List.nodup_cons.mp nd
        obtain ⟨a, ws, w, q0, q1, q2, q3, q4, q5⟩ := key vs xs As h2 h3 h4 hx nd'
        refine ⟨a, ws, ⟨w, ⟨b, vs, rfl, .inl h1, q0⟩, q1⟩, q2, q3, List.mem_cons_of_mem _ q4, fun vs' ds' r' => ?_⟩
        unfold O.put
        rw [hx]
        refine .ls (vs := vs) ?_ (by simp [h2]) (by simp [h3]) (q5 vs' ds' r')
        rw [upd_ne (fun y => by subst y; exact nb q4)]
        exact h1
      | fld C k f => exact ok1.elim
      | key k y => exact ok1.elim
      | pin => exact ok1.elim
    | @tu b vs xs As h1 h2 h3 h4 =>
      cases q with
      | ix k =>
        obtain ⟨a, ws, w, q0, q1, q2, q3, q4, q5⟩ := key vs xs As h2 h3 h4 hx nd
        refine ⟨a, ws, ⟨w, ⟨b, vs, rfl, .inr (s _ _ h1), q0⟩, q1⟩, q2, q3, q4, fun vs' ds' r' => ?_⟩
        unfold O.put
        rw [hx]
        exact .tu (vs := vs) h1 (by simp [h2]) (by simp [h3]) (q5 vs' ds' r')
      | fld C k f => exact ok1.elim
      | key k y => exact ok1.elim
      | pin => exact ok1.elim
    | @pin a o A h1 =>
      cases q with
      | ix k => exact ok1.elim
      | fld C k f => exact ok1.elim
      | key k y => exact ok1.elim
      | pin =>
        obtain rfl : x = o := (Option.some.inj hx).symm
        obtain ⟨c, ws, q1, q2, q3, q4, q5⟩ := RepO.at h1 s nd (ok2 x rfl) h
        refine ⟨c, ws, ⟨_, rfl, q1⟩, q2, q3, q4, fun vs' ds' r' => ?_⟩
        unfold O.put
        rw [hx]
        exact .pin (q5 vs' ds' r')
    | @ob b C dx fs ks vs xs As h1 h2 hz h3 h4 h5 h6 h7 h8 =>
      cases q with
      | ix k => exact ok1.elim
      | key k y => exact ok1.elim
      | pin => exact ok1.elim
      | fld C' k f =>
        obtain ⟨rfl, hf⟩ := ok1
        obtain ⟨nb, nd1⟩ := List.nodup_cons.mp nd
        obtain ⟨nb2, nd'⟩ := List.nodup_cons.mp nd1
        obtain ⟨a, ws, w, q0, q1, q2, q3, q4, q5⟩ := key vs xs As h6 h7 h8 hx nd'
        refine ⟨a, ws, ⟨w, ⟨b, dx, fs, rfl, h1, h4 k f w hf q0⟩, q1⟩, q2, q3, List.mem_cons_of_mem _ (List.mem_cons_of_mem _ q4), fun vs' ds' r' => ?_⟩
        unfold O.put
        rw [hx]
        refine .ob (vs := vs) ?_ ?_ hz h3 h4 h5 (by simp [h6]) (by simp [h7]) (q5 vs' ds' r')
        · rw [upd_ne (fun y => by subst y; exact nb (List.mem_cons_of_mem _ q4))]
          exact h1
        · rw [upd_ne (fun y => by subst y; exact nb2 q4)]
          exact h2
    | @dd b kvs vs ks xs As h1 h2 h3 h4 h5 h6 =>
      cases q with
      | ix k => exact ok1.elim
      | fld C k f => exact ok1.elim
      | pin => exact ok1.elim
      | key k y =>
        obtain ⟨a, ws, w, q0, q1, q2, q3, q4, q5⟩ := key vs xs As h4 h5 h6 hx nd
        refine ⟨a, ws, ⟨w, ⟨b, kvs, rfl, s _ _ h1, h3 k y w ok1 q0⟩, q1⟩, q2, q3, q4, fun vs' ds' r' => ?_⟩
        unfold O.put
        rw [hx]
        exact .dd (vs := vs) h1 h2 h3 (by simp [h4]) (by simp [h5]) (q5 vs' ds' r')
/-- a list within an own thing is changed -/
theorem EnvA.mutP {σ : L2.St} {ρ : RhoW} {F : Nat → List Addr} (E : EnvA K H0 σ H ρ F) {i : Nat} {p : List Pe} {d1 d' : D} (hi : ρ[i]? = some (some (.ow o d1))) (hp : o.okP p) (hs : o.sub p = some (oL ds)) :
    ∃ v a vs, σ[i]? = some (some v) ∧ At H (.ref a) p v ∧ H a = some (.lst vs) ∧ Reps K (mask H (allOf F ρ.length)) vs ds ∧
      ∀ vs' ds', Reps K (mask H (allOf F ρ.length)) vs' ds' → (o.put (oL ds') p).data = d' →
        EnvA K H0 σ (upd H a (.lst vs')) (ρ.set i (some (.ow (o.put (oL ds') p) d'))) F ∧ mask (upd H a (.lst vs')) (allOf F (ρ.set i (some (.ow (o.put (oL ds') p) d'))).length) = mask H (allOf F ρ.length) := by
  have hi' := (List.getElem?_eq_some_iff.mp hi).1
  obtain ⟨v, h1, r⟩ := E.get i _ hi
  obtain ⟨a, vs, q1, q2, q3, q4, q5⟩ := RepO.at r.2 mask_same (E.nd i) hp hs
  refine ⟨v, a, vs, h1, q1, q2, q3, fun vs' ds' rs hd => ?_⟩
  have ha : a ∈ allOf F ρ.length := E.mem q4
  have hm : mask (upd H a (.lst vs')) (allOf F ρ.length) = mask H (allOf F ρ.length) := mask_upd_in ha
  refine ⟨⟨by simp [E.len], E.nd, E.dj, by rw [List.length_set]; exact E.fresh, fun b u e => ?_, fun j w hw => ?_, fun j hj => ?_⟩, by rw [List.length_set]; exact hm⟩
  · rw [upd_ne (fun z => by subst z; rw [E.fresh _ ha] at e; cases e)]
    exact E.same b u e
  · rw [List.length_set, hm]
    rw [List.getElem?_set] at hw
    by_cases e : i = j
    · subst e
      rw [if_pos rfl, if_pos hi'] at hw
      obtain rfl := Option.some.inj (Option.some.inj hw)
      exact ⟨v, h1, hd, q5 vs' ds' rs⟩
    · rw [if_neg e] at hw
      obtain ⟨v, e1, r⟩ := E.get j w hw
      refine ⟨v, e1, r.keep (fun b hb u z => ?_) (Same.refl _)⟩
      rw [upd_ne (fun y => by subst y; exact e (E.dj i j _ q4 hb))]
      exact z
  · refine E.off j fun w z => ?_
    by_cases e : i = j
    · subst e
      exact hj _ (by rw [List.getElem?_set, if_pos rfl, if_pos hi'])
    · exact hj w (by rw [List.getElem?_set_ne e]; exact z)
end
section
variable {X : Cx} {ρ : RhoW} {Φ : Post} {rest : List Stmt} {r e : Expr} {pos cpos apos : Pos} {d d' d1 : D} {o : O} {ds : List D} {p : List Pe}
/-- r.append(e), r at a place of slot i -/
theorem Ws.appendP (i : Nat) (p : List Pe) (hr : Rcv X r i p) (he : Ev X (VL.bor ρ) e d) (hf : d.free = true) (hs : o.sub p = some (oL ds)) (hd : (o.put (oL (ds ++ [d])) p).data = d') (k : Ws X (ρ.set i (some (.ow (o.put (oL (ds ++ [d])) p) d'))) rest Φ)
    (hz : ds.length < 100000) (hρ : ρ[i]? = some (some (.ow o d1)) := by rfl) (hp : o.okP p := by walk_at "okp")
    (hpe : ∀ {t t2}, PE X r t → PE X e t2 → PE X (.Call (.Attribute r "append" apos) [e] [] cpos) (tBM X.K "list" rAppend t (tCons t2 tNil)) := by
      intro t t2 h1 h2; exact pe_bm PySem.F.plainAttrs_list PySem.F.slot_list_append PySem.F.type_list_append mt_append h1 (pa_cons h2 pa_nil))
    (hsw : swapsWith (.Call (.Attribute r "append" apos) [e] [] cpos) none pos.line X.env = pure false := by rfl) : Ws X ρ (.Expr (.Call (.Attribute r "append" apos) [e] [] cpos) pos :: rest) Φ := ⟨fun H0 σ H D E kk =>
  WSs.cons (ws_of (ps_expr (hpe pe_we pe_we) hsw) (by
    obtain ⟨F, E1⟩ := id E
    obtain ⟨v, a, vs, hσ, hat, ha, _⟩ := E1.mutP (d' := d') hρ hp hs
    refine hr.run σ H v (.ref a) _ hσ hat ⟨.inl ⟨rfl, vs, SqL.of ha⟩, he.run σ H E1.envB _ fun u H2 s2 ru => ?_⟩
    obtain ⟨F2, E2⟩ := E.grow s2
    obtain ⟨v', a', vs', hσ', hat', ha', rs', K'⟩ := E2.mutP (d' := d') hρ hp hs
    obtain rfl : v' = v := by rw [hσ] at hσ'; simpa using hσ'.symm
    have ea : a' = a := by have := hat.det s2 hat'; simpa using this
    subst ea
    refine ⟨a', vs', u, rfl, rfl, ha', by rw [rs'.1]; exact Nat.lt_of_lt_of_le hz (by decide), ?_⟩
    have En := (K' _ _ (rs'.append (.cons (ru.maskF hf E2.notup) .nil)) hd).1
    exact k.run H0 σ _ D ⟨_, En⟩ (kk.cast (by simp))))⟩
/-- r.clear() -/
theorem Ws.clearP (i : Nat) (p : List Pe) (hr : Rcv X r i p) (hs : o.sub p = some (oL ds)) (hd : (o.put (oL []) p).data = d') (k : Ws X (ρ.set i (some (.ow (o.put (oL []) p) d'))) rest Φ) (hρ : ρ[i]? = some (some (.ow o d1)) := by rfl) (hp : o.okP p := by walk_at "okp")
    (hpe : ∀ {t}, PE X r t → PE X (.Call (.Attribute r "clear" apos) [] [] cpos) (tBM0 X.K "list" rClear t) := by
      intro t h1; exact pe_bm0 PySem.F.plainAttrs_list PySem.F.slot_list_clear PySem.F.type_list_clear mt_clear h1)
    (hsw : swapsWith (.Call (.Attribute r "clear" apos) [] [] cpos) none pos.line X.env = pure false := by rfl) : Ws X ρ (.Expr (.Call (.Attribute r "clear" apos) [] [] cpos) pos :: rest) Φ := ⟨fun H0 σ H D E kk =>
  WSs.cons (ws_of (ps_expr (hpe pe_we) hsw) (by
    obtain ⟨F, E1⟩ := id E
    obtain ⟨v, a, vs, hσ, hat, ha, _, K'⟩ := E1.mutP (d' := d') hρ hp hs
    refine hr.run σ H v (.ref a) _ hσ hat ⟨.inl ⟨rfl, vs, SqL.of ha⟩, a, vs, rfl, rfl, ha, ?_⟩
    exact k.run H0 σ _ D ⟨_, (K' _ _ .nil hd).1⟩ (kk.cast (by simp))))⟩
end
end VL
set_option Elab.async false
set_option linter.all false
set_option maxRecDepth 100000
set_option maxHeartbeats 1000000
/-! value layer, part 12: dicts of numbers, ranges with a step -/
namespace VL
open PySem L2

/-! ### range(i, j, k) -/
section
variable {X : Cx} {ρ : Rho} {tg a b c o e : Expr} {p pos : Pos} {i j k : Int} {d : D}
theorem src_rangeC {K : PySem.W.Frag} {H : Hp} {lo c : Int} {n : Nat} : Src K H (Itc lo c n) ((List.range n).map fun (t : Nat) => D.int (lo + (t : Int) * c)) :=
  ⟨fun _ => True, YFn fun i => .int (lo + (i : Nat) * c), by rw [List.length_map, List.length_range]; exact walk_rangeC, fun _ _ => trivial, fun i H1 x H2 hi s y => by
    obtain ⟨rfl, rfl⟩ := y
    rw [List.length_map, List.length_range] at hi
    exact ⟨Same.refl _, _, by rw [List.getElem?_map, List.getElem?_range hi]; rfl, fun as _ => .int _⟩⟩
theorem rgC2 {n : Nat} (hn : (n : Int) * 2 = j - i ∨ (n : Int) * 2 = j - i + 1 ∨ (n = 0 ∧ j ≤ i)) (hi : (-(2 ^ 61) ≤ i ∧ i < 2 ^ 61) ∧ -(2 ^ 61) ≤ j ∧ j < 2 ^ 61) : RgC i j 2 n := by
  have hz : Builtin.Range.rangeSize i j 2 = n := by
    unfold Builtin.Range.rangeSize
    rw [if_pos (by decide)]
    split <;> omega
  refine ⟨by decide, by decide, ?_, hz⟩
  unfold Builtin.Range.small
  rw [hz]
  unfold Builtin.Range.rangeFitsLong
  simp
  omega
/-- range(i, j, 2) -/
theorem EvI.rangeS (hm : X.mg "range" = none) (h : Ev X ρ a (.int i)) (h2 : Ev X ρ b (.int j)) (h3 : Ev X ρ c (.int 2)) (n : Nat) (hn : (n : Int) * 2 = j - i ∨ (n : Int) * 2 = j - i + 1 ∨ (n = 0 ∧ j ≤ i)) (hi : (-(2 ^ 61) ≤ i ∧ i < 2 ^ 61) ∧ -(2 ^ 61) ≤ j ∧ j < 2 ^ 61) (hg : Gl X "range" := by rfl)
    (hs : starEach [a, b, c] X.env = (false, eval a X.env) :: starEach [b, c] X.env := by rfl) (hs2 : starEach [b, c] X.env = (false, eval b X.env) :: starEach [c] X.env := by rfl) (hs3 : starEach [c] X.env = (false, eval c X.env) :: starEach [] X.env := by rfl) (hpl : (backTo pos (starEach [b, c] X.env)).any (·.1) = false := by rfl) :
    EvI X ρ tg (.Call (.Name "range" p) [a, b, c] [] pos) ((List.range n).map fun (t : Nat) => D.int (i + (t : Int) * 2)) :=
  ⟨fun σ H en R q => wi_of (pi_range3 hg hm pa_wa hs hpl) ((EvA.cons h (.cons h2 (.cons h3 .nil hs3) hs2) hs).run σ H en _ fun vs H1 s1 r1 => by
    obtain ⟨v1, t1, rfl, ra, q1⟩ := id r1.cons_split
    obtain ⟨v2, t2, rfl, r2, q2⟩ := id q1.cons_split
    obtain ⟨v3, t3, rfl, r3, q3⟩ := id q2.cons_split
    obtain rfl := q3.nil_inv
    obtain rfl := ra.int_inv
    obtain rfl := r2.int_inv
    obtain rfl := r3.int_inv
    exact ⟨i, j, 2, n, rfl, rgC2 hn hi, q _ H1 s1 src_rangeC⟩)⟩
/-! ### dicts of numbers -/
theorem Ev.ixDk {kvs : List (Key × V)} {z r : Int} (hu : X.A.units + 1 < cLine) (ha : Ev X ρ a (.dk kvs)) (hb : Ev X ρ b (.int z)) (hv : valV kvs (.inl z) = some (.int r)) (hs : NoSl b := by exact fun _ _ => rfl) : Ev X ρ (.Subscript a b pos) (.int r) :=
  ⟨fun σ H en Q q => we_of (pe_dget hu pe_we pe_we hs) (ha.run σ H en _ fun x H1 s1 r1 => hb.run σ H1 (en.mono s1) _ fun y H2 s2 r2 => by
    obtain rfl := r2.int_inv
    cases r1.mono s2 with
    | dk h1 h2 => exact ⟨_, .int r, rfl, hv ▸ DGet.k (k := .inl z) h1, q _ H2 (s1.trans s2) (.int r)⟩)⟩
end
/-- the ranks of the first n of L -/
def rkN (L : List Int) : Nat → List (Key × V)
  | 0 => []
  | n + 1 => putK (rkN L n) (.inl (L.getD n 0)) (.int (n : Int))
theorem putK_len {kvs : List (Key × V)} {k : Key} {v : V} : (putK kvs k v).length ≤ kvs.length + 1 := by
  unfold putK
  split
  · simp
  · simp
theorem rkN_len (L : List Int) : ∀ n, (rkN L n).length ≤ n
  | 0 => Nat.le_refl _
  | n + 1 => by unfold rkN; have := putK_len (kvs := rkN L n) (k := .inl (L.getD n 0)) (v := .int (n : Int)); have := rkN_len L n; omega
theorem putK_scl {kvs : List (Key × V)} {k : Key} {v : V} (h : ∀ p ∈ kvs, sclV p.2 = true) (hv : sclV v = true) : ∀ p ∈ putK kvs k v, sclV p.2 = true := by
  intro p hp
  unfold putK at hp
  split at hp
  · obtain ⟨q, hq, rfl⟩ := List.mem_map.mp hp
    split
    · exact hv
    · exact h q hq
  · rcases List.mem_append.mp hp with hp | hp
    · exact h p hp
    · simp at hp; subst hp; exact hv
theorem rkN_scl (L : List Int) : ∀ n, ∀ p ∈ rkN L n, sclV p.2 = true
  | 0 => fun p hp => by cases hp
  | n + 1 => putK_scl (rkN_scl L n) rfl
theorem rkN_get (L : List Int) (nd : L.Nodup) : ∀ (n k : Nat), k < n → n ≤ L.length → valV (rkN L n) (.inl (L.getD k 0)) = some (.int (k : Int))
  | 0, k, h, _ => by omega
  | n + 1, k, h, hn => by
    unfold rkN
    rw [valV_put]
    by_cases hk : k = n
    · subst hk; rw [if_pos rfl]
    · have hne : (Sum.inl (L.getD k 0) : Key) ≠ Sum.inl (L.getD n 0) := fun e => by
        have e := Sum.inl.inj e
        rw [List.getD_eq_getElem?_getD, List.getD_eq_getElem?_getD, List.getElem?_eq_getElem (by omega), List.getElem?_eq_getElem (by omega)] at e
        exact List.pairwise_iff_getElem.mp nd k n (by omega) (by omega) (by omega) (by simpa using e)
      rw [if_neg hne]
      exact rkN_get L nd n k (by omega) (by omega)
section
variable {X : Cx} {ρ : RhoW} {Φ : Post} {rest : List Stmt} {pos pos2 pos3 p1 p2 p3 p4 p5 p6 p7 p8 tp : Pos} {L : List Int}
/-- x = {}; for r, k in enumerate(y): x[k] = r -/
theorem Ws.ranks {x y r k : Str} (i j ir ik : Nat) {k1 : Nat} (hp : PassesOwn (model X.prog X.w) X.A X.env X.xe) (hc : X.calm = true) (hN : X.N.Nodup) (hm : X.mg "enumerate" = none) (hu : X.A.units + 1 < cLine) (hL : L.length ≤ 1000)
    (kt : Ws X ((wipeW ρ [i, ir, ik]).set i (some (.sh (.dk (rkN L L.length))))) rest Φ) (hd : (decide (i < ρ.length) && decide (ir < ρ.length) && decide (ik < ρ.length) && decide (i ≠ j) && decide (ir ≠ j) && decide (ik ≠ j) && decide (i ≠ ir) && decide (i ≠ ik) && decide (ir ≠ ik)) = true := by rfl)
    (hρ : ρ[j]? = some (some (.sh (dI L))) := by rfl) (hi : X.N[i]? = some x := by rfl) (hx : Loc X.env.scope x := by first | exact Or.inl rfl | exact Or.inr rfl) (hf : X.fn x = true ∨ X.env.scope.names.lookup x = some .local := by first | exact .inl rfl | exact .inr rfl)
    (hs : swapsWith (.Dict [] [] p2) (some (.Name x p1)) pos.line X.env = pure false := by rfl)
    (hg : Gl X "enumerate" := by rfl)
    (hpi : PI X (.Tuple [.Name r p3, .Name k p4] k1 tp) (.Call (.Name "enumerate" p5) [.Name y p6] [] p7) (iEnum X.K (tCons (tVar j) tNil)) := by exact pi_enum rfl (by assumption) (pa_cons (pv _) pa_nil))
    (hpg : X.N.Nodup → PG X (.Tuple [.Name r p3, .Name k p4] k1 tp) (gTup X.K 2 (gCons (gName ir) (gCons (gName ik) gNil))) := by
      intro hN; exact pg_tup rfl (pgs_cons (pg_name hN rfl (by first | exact Or.inl rfl | exact Or.inr rfl)) (pgs_cons (pg_name hN rfl (by first | exact Or.inl rfl | exact Or.inr rfl)) pgs_nil)))
    {p9 p10 p11 p12 : Pos} (hpb : X.A.units + 1 < cLine → PS X (.Assign [.Subscript (.Name x p9) (.Name k p10) p11] (.Name r p12) pos3) (sDPut (tVar i) (tVar ik) (tVar ir)) := by
      intro hu; exact ps_dput hu (pv _) (pv _) (pv _) rfl)
    (hfs : ∀ z, foldedSetIterable (.Call (.Name "enumerate" p5) [.Name y p6] [] p7) X.env z = pure z := by intro _; rfl) :
    Ws X ρ (.Assign [.Name x p1] (.Dict [] [] p2) pos :: .For (.Tuple [.Name r p3, .Name k p4] k1 tp) (.Call (.Name "enumerate" p5) [.Name y p6] [] p7) [.Assign [.Subscript (.Name x p9) (.Name k p10) p11] (.Name r p12) pos3] [] pos2 :: rest) Φ := ⟨fun H0 σ H D E kk => by
  simp only [Bool.and_eq_true, decide_eq_true_eq] at hd
  obtain ⟨⟨⟨⟨⟨⟨⟨⟨d1, d2⟩, d3⟩, d4⟩, d5⟩, d6⟩, d7⟩, d8⟩, d9⟩ := hd
  obtain ⟨F, E1⟩ := id E
  have hl := E1.len
  obtain ⟨v, hσ, rv⟩ := E1.get j _ hρ
  obtain ⟨l, vs, rfl, hl0, rs⟩ := rv.1.lst_inv
  obtain rfl := rs.ints
  have hl1 : H l = some (.lst (L.map V.int)) := (mask_some hl0).1
  refine WSs.cons (ws_of (ps_set hN hi hx pe_dnewK hs hf) fun a ha => ?_)
  have hal : l ≠ a := fun e => by subst e; rw [hl1] at ha; cases ha
  refine WSs.cons (ws_of (ps_for hp hc hpi (hpg hN) (pss_one (hpb hu)) hfs) ?_)
  refine ⟨.ref l, by rw [List.getElem?_set_ne d4]; exact hσ, l, L.map V.int, rfl, SqL.of (by rw [upd_ne hal]; exact hl1), ?_⟩
  refine for_it (D := { D with nx := fun σ' H' => WSs X rest σ' H' D }) (walk_enum (K := X.K) (a := l) (xs := L.map V.int)) (fun n σ' H' => H' a = some (.dK (rkN L n)) ∧ (∀ b o, b ≠ a → H b = some o → H' b = some o) ∧ σ'.length = σ.length ∧ σ'[i]? = some (some (.ref a)) ∧ ∀ q, q ≠ i → q ≠ ir → q ≠ ik → σ'[q]? = σ[q]?)
    ⟨upd_same, fun b o hb e => by rw [upd_ne hb]; exact e, by simp, by rw [List.getElem?_set_self (by omega)], fun q q1 _ _ => by rw [List.getElem?_set_ne (Ne.symm q1)]⟩ (fun n σ' H' _ ⟨_, h2, _⟩ => SqL.of (h2 l _ hal hl1)) (fun n v σ' H' H2 hlt ⟨h1, h2, h3, h4, h5⟩ y => ?_) (fun σ' H' ⟨h1, h2, h3, h4, h5⟩ => ?_)
  · obtain ⟨Tt, x1, y1, rfl, hT, rfl, e1, e2⟩ := y
    obtain rfl := Option.some.inj e1
    rw [List.length_map] at hlt
    have e2 : (L.map V.int)[n]? = some y1 := e2
    rw [List.getElem?_map, List.getElem?_eq_getElem hlt] at e2
    obtain rfl := Option.some.inj e2
    have hTa : Tt ≠ a := fun e => by subst e; rw [h1] at hT; cases hT
    refine ⟨Tt, [.int (n : Int), .int L[n]], rfl, SqT.of upd_same, rfl, _, _, rfl, _, _, rfl, rfl, ?_⟩
    refine ⟨.int (n : Int), by rw [List.getElem?_set_ne d9.symm, List.getElem?_set_self (by omega)], .ref a, by rw [List.getElem?_set_ne d8.symm, List.getElem?_set_ne d7.symm]; exact h4, .int L[n], by rw [List.getElem?_set_self (by simp; omega)], a, _, rfl, DPut.k (k := .inl L[n]) (by rw [upd_ne (Ne.symm hTa)]; exact h1) (Nat.lt_of_le_of_lt (rkN_len L n) (Nat.lt_of_lt_of_le (m := 100000) (by omega) (by decide))), ?_⟩
    refine ⟨?_, fun b o hb e => ?_, by simp [h3], by rw [List.getElem?_set_ne d8.symm, List.getElem?_set_ne d7.symm]; exact h4, fun q q1 q2 q3 => by rw [List.getElem?_set_ne (Ne.symm q3), List.getElem?_set_ne (Ne.symm q2)]; exact h5 q q1 q2 q3⟩
    · rw [upd_same]
      show some (HO.dK (putK (rkN L n) (.inl L[n]) (.int (n : Int)))) = some (HO.dK (putK (rkN L n) (.inl (L.getD n 0)) (.int (n : Int))))
      rw [List.getD_eq_getElem?_getD, List.getElem?_eq_getElem hlt]; rfl
    · have := h2 b o hb e
      rw [upd_ne hb, upd_ne (ne_of_none this hT)]
      exact this
  · rw [List.length_map] at h1
    have sH : Same H H' := fun b o e => h2 b o (fun z => by subst z; rw [ha] at e; cases e) e
    have E2 := (E.grow sH).wiped [i, ir, ik] h3 fun q hq => by
      simp only [List.mem_cons, List.not_mem_nil, or_false, not_or] at hq
      exact h5 q hq.1 hq.2.1 hq.2.2
    obtain ⟨F2, E3⟩ := E2
    have haF : a ∉ allOf F2 (wipeW ρ [i, ir, ik]).length := fun z => by
      obtain ⟨o, e, c⟩ := E3.cells.cell z
      rw [h1] at e
      obtain rfl := Option.some.inj e
      cases c
    have rk : Rep X.K (mask H' (allOf F2 (wipeW ρ [i, ir, ik]).length)) (.ref a) (.dk (rkN L L.length)) := .dk (by rw [mask_out haF]; exact h1) (rkN_scl L _)
    have E4 := EnvW.into ⟨_, E3.pushS rk⟩ i
    have e5 : σ'.set i (some (.ref a)) = σ' := by
      obtain ⟨hh, e⟩ := List.getElem?_eq_some_iff.mp h4
      have := List.set_getElem_self hh
      rwa [e] at this
    rw [e5] at E4
    exact kt.run H0 σ' H' D E4 (kk.cast (by simp [wipeW_length]))⟩
end
end VL
set_option Elab.async false
set_option linter.all false
set_option maxRecDepth 100000
set_option maxHeartbeats 1000000
/-! value layer, part 13: list(reversed(xs)) -/
namespace RT
open PySem Spec PyProof.Rows
section
variable {prog : Program} {w : World} {A : Around} {E : Value → Shared → Prop} {s : Shared} {src rit : Addr} {xs : Array Value}
/-- what a new list at S takes over of the items, last first -/
theorem vl_extend {R : Result → Shared → Prop} (quiet : A.handled = none) (hr : s.heap.IsRevIter rit src ((xs.size : Int) - 1)) (hxs : s.heap.IsList src xs) (apart : src ≠ rit) (few : xs.size ≤ sizeLine) {S : Addr} {cap : Nat}
    (new : s.heap.get? S = some { cls := .type "list", data := .seq #[] cap }) (nr : S ≠ rit) (ns : S ≠ src)
    (hR : ∀ hp tk acc cap', (∀ b o, b ≠ S → b ≠ rit → s.heap.get? b = some o → hp.get? b = some o) → hp.get? S = some { cls := .type "list", dict := none, data := .seq acc cap', slots := #[] } →
      ItemsOf (fun i v => xs[xs.size - 1 - i]? = some v) acc xs.size → R (.ok (.ret .none)) { s with heap := hp, toks := tk }) :
    wpAny (model prog w) A.in1 (Builtin.List.listExtendWith (.ref S) (.ref rit) .none) (fun fin s' => match fin with
      | .done f => R (.ok f) s'
      | .again c' => c'.quiet = true ∧ codeAny (model prog w) A c' R s') (fun e s' => R (.error e) s') s := by
  have ty : s.TypeIs (.ref rit) "list_reverseiterator" := hr.typeIs
  have other : Builtin.List.listSameRef (.ref S) (.ref rit) = false := by simp [Builtin.List.listSameRef, nr]
  have off : S ∉ [rit, src] := by simp [nr, ns]
  have Wk := (Walks.listRev (prog := prog) (w := w) (A := A.in1) quiet rit src apart xs).toS
  unfold Builtin.List.listExtendWith; refine wpAny_bind (wpAny_typeOf ty ?_)
  rw [if_neg (by rw [other]; decide)]
  refine wpAny_bind (wpAny_pyIter_revIter hr ?_)
  refine wpAny_bind (wpAny_holding ?_); unfold Builtin.List.listLengthHint
  refine wpAny_bind (wpAny_specialOf ty nolen_lri ?_)
  show wpAny _ A.in1 (specialOf (.ref rit) _ >>= _) _ _ _
  refine wpAny_bind (wpAny_specialOf ty hint_lri ?_)
  generalize hq : ("list_reverseiterator.__length_hint__" : String) = nm
  wp_delta
  rw [show splitId nm = some ("list_reverseiterator", "__length_hint__") from by
    subst hq; decide +kernel]
  subst hq
  refine wpAny_bind (wpAny_isInstance (b := true) ty (by
    rw [isSubtype_type]; kernel_rfl) ?_)
  refine wpAny_pure ?_
  rw [if_neg (by decide)]
  have z : ((xs.size : Nat) : Int) - 1 - ((0 : Nat) : Int) = (xs.size : Int) - 1 := by omega
  refine wpAny_pure ⟨plainId_quiet F.plain_extend_loop _, codeAny_extend_loopS Wk few _ off _ xs.size 0 _ _ _ rfl (Nat.zero_le _) ⟨Nat.zero_le _, by
    rw [z]; exact hr, hxs⟩ new (ItemsOf.nil _) fun s' acc cap' mv at' got => ?_⟩
  rw [Moved.eq_with mv]
  refine hR s'.heap s'.toks acc cap' (fun b o b1 b2 e => mv.heap b o (fun m => ?_) e) at' got
  rcases List.mem_cons.mp m with e' | m
  · exact b1 e'
  · exact b2 (List.mem_singleton.mp m)
/-- list(the walker) -/
theorem vl_call {Q : Value → Shared → Prop} (quiet : A.handled = none) (hr : s.heap.IsRevIter rit src ((xs.size : Int) - 1)) (hxs : s.heap.IsList src xs) (apart : src ≠ rit) (few : xs.size ≤ sizeLine)
    (hQ : ∀ hp tk acc cap', (∀ b o, b ≠ rit → s.heap.get? b = some o → hp.get? b = some o) → hp.get? s.heap.objs.size = some { cls := .type "list", dict := none, data := .seq acc cap', slots := #[] } →
      ItemsOf (fun i v => xs[xs.size - 1 - i]? = some v) acc xs.size → Q (.ref s.heap.objs.size) { s with heap := hp, toks := tk }) : wpAny (model prog w) A (call (.type "list") [.ref rit]) Q E s := by
  obtain ⟨o1, g1, _⟩ := id hr
  obtain ⟨o2, g2, _⟩ := id hxs
  have n1 : s.heap.objs.size ≠ rit := Nat.ne_of_gt (Heap.lt_size g1)
  have n2 : s.heap.objs.size ≠ src := Nat.ne_of_gt (Heap.lt_size g2)
  refine callType_codes (Q₁ := fun v s₁ => v = .ref s.heap.objs.size ∧ s₁ = { s with heap := s.heap.push { cls := .type "list", data := .seq #[] } }) F.called_list (F.typeCall_list_1 _) F.entry_list_init
    (code_list_new _ ⟨rfl, rfl⟩) fun v s₁ e₁ => ?_
  obtain ⟨rfl, rfl⟩ := e₁
  have fresh : (s.heap.push { cls := .type "list", data := .seq #[] }).get? s.heap.objs.size = some { cls := .type "list", data := .seq #[] } :=
    Heap.get?_push_size _ rfl
  refine ⟨⟨_, fresh, rfl⟩, F.args_list_init_2 _ _, ?_⟩
  show wpAny _ _ (Builtin.List.listItems _ >>= fun old => Builtin.List.listUpdate _ (fun _ => #[]) >>= fun _ => letGo old.toList.reverse >>= fun _ => Builtin.List.listExtendWith _ (.ref rit) .none) _ _ _
  refine wpAny_bind ?_
  unfold Builtin.List.listItems
  refine wpAny_bind (wpAny_seqItems fresh rfl (wpAny_pure ?_))
  show wpAny _ _ (updateSeq _ (fun _ => #[]) >>= fun _ => letGo _ >>= fun _ => Builtin.List.listExtendWith _ (.ref rit) .none) _ _ _
  refine wpAny_bind (wpAny_updateSeq fresh rfl ?_)
  have empty := Heap.get?_update_self (Obj.mapSeq (fun _ => (#[] : Array Value))) fresh rfl
  have rest : ∀ b o, b ≠ s.heap.objs.size → s.heap.get? b = some o → ((s.heap.push { cls := .type "list", data := .seq #[] }).update s.heap.objs.size (Obj.mapSeq (fun _ => (#[] : Array Value)))).get? b = some o :=
    fun b o hb e => (Heap.get?_update_other _ _ (Ne.symm hb)).trans (Heap.get?_push_of_some _ e)
  refine wpAny_bind (wpAny_letGo ?_); refine vl_extend (s := { s with heap := (s.heap.push { cls := .type "list", data := .seq #[] }).update s.heap.objs.size (Obj.mapSeq (fun _ => (#[] : Array Value))) }) (A := A.in1) quiet (hr.at fun o e => rest _ _ (Ne.symm n1) e) (let ⟨o, e, c, d⟩ := hxs; ⟨o, rest _ _ (Ne.symm n2) e, c, d⟩) apart few empty n1 n2 fun hp tk acc cap' k a' got => ?_
  exact ⟨rfl, hQ hp tk acc cap' (fun b o hb e => k b o (Nat.ne_of_lt (Heap.lt_size e)) hb (rest b o (Nat.ne_of_lt (Heap.lt_size e)) e)) a' got⟩
end
end RT
namespace VL
open PySem Spec PyProof.Rows L2
/-- list(reversed(e)) of a list -/
def tLstRev (K : PySem.W.Frag) (te : TE) : TE := fun σ H Q => te σ H fun v H1 => ∃ (a : Addr) (xs : List V), v = .ref a ∧ SqL K H1 a xs ∧ ∀ q, H1 q = none → Q (.ref q) (upd H1 q (.lst xs.reverse))
section
variable {X : Cx} {e : Expr} {te : TE} {p p2 pos pos2 : Pos} {ρ : Rho} {ds : List D} {L : List Int}
theorem pe_lstRev (hc : X.calm = true) (hg : Gl X "list") (hm : X.mg "list" = none) (hg2 : Gl X "reversed") (hm2 : X.mg "reversed" = none) (he : PE X e te)
    (hs : starEach [e] X.env = (false, eval e X.env) :: starEach [] X.env := by rfl) (hs2 : starEach [.Call (.Name "reversed" p2) [e] [] pos2] X.env = (false, eval (.Call (.Name "reversed" p2) [e] [] pos2) X.env) :: starEach [] X.env := by rfl) :
    PE X (.Call (.Name "list" p) [.Call (.Name "reversed" p2) [e] [] pos2] [] pos) (tLstRev X.K te) := by
  refine ⟨fun pins s σ H R I h => ?_⟩
  refine Call_ (ld_blt I hg hm PyProof.Rows.boot_list (PyProof.Rows.callWith_type1 (args_cons (Call_ (ld_blt I hg2 hm2 PyProof.Rows.boot_reversed
    (PyProof.Rows.callWith_type1 (args_cons (thn (he.run pins s σ H _ I h) fun u s1 ⟨v, H1, I1, rr, q1⟩ => args_nil ?_) hs) hs rfl))) hs2) hs2 rfl))
  obtain ⟨a, xs, rfl, hq, q⟩ := q1
  obtain rfl : u = Value.ref a := rr
  obtain ⟨its, rv, pl, hz⟩ := I1.list hq
  refine call_reversed_list pl.isList (args_nil ?_)
  have hl := pl.isList
  obtain ⟨ol, hol, _⟩ := id hl
  have few : its.toArray.size ≤ sizeLine := by rw [List.size_toArray, ← rv.length]; exact hz
  refine RT.vl_call (s := { s1 with heap := s1.heap.push (revObj a ((its.toArray.size : Int) - 1)) }) (I1.ok.hd hc) ⟨_, Heap.get?_push_size _ rfl, rfl, rfl⟩ (hl.push _) (Nat.ne_of_lt (Heap.lt_size hol)) few fun hp tk acc cap' k at' got => ?_
  have hsz : s1.heap.objs.size < (s1.heap.push (revObj a ((its.toArray.size : Int) - 1))).objs.size := Heap.lt_size (Heap.get?_push_size _ rfl)
  have hf : H1 (s1.heap.push (revObj a ((its.toArray.size : Int) - 1))).objs.size = none := I1.hok.fresh (Nat.le_of_lt hsz)
  refine ⟨.ref _, upd H1 _ (.lst xs.reverse), I1.laid (t' := tk) (fun b u e => k b u (Nat.ne_of_lt (Heap.lt_size e)) (Heap.get?_push_of_some _ e)) (Nat.le_of_lt hsz) ?_, rfl, q _ hf⟩
  exact ⟨by rw [List.length_reverse]; exact hz, acc.toList, cap', RT.vals_rev rv got, by rw [Array.toArray_toList]; exact at'⟩
theorem EvO.listRev (hc : X.calm = true) (hm : X.mg "list" = none) (hm2 : X.mg "reversed" = none) (h : Ev X ρ e (.lst ds)) (hg : Gl X "list" := by rfl) (hg2 : Gl X "reversed" := by rfl)
    (hs : starEach [e] X.env = (false, eval e X.env) :: starEach [] X.env := by rfl) (hs2 : starEach [.Call (.Name "reversed" p2) [e] [] pos2] X.env = (false, eval (.Call (.Name "reversed" p2) [e] [] pos2) X.env) :: starEach [] X.env := by rfl) :
    EvO X ρ (.Call (.Name "list" p) [.Call (.Name "reversed" p2) [e] [] pos2] [] pos) (oL ds.reverse) :=
  .newl fun σ H en Q q => we_of (pe_lstRev hc hg hm hg2 hm2 pe_we hs hs2) (h.run σ H en _ fun x H1 s1 r1 => by
    obtain ⟨a, vs, rfl, h1, rs⟩ := r1.lst_inv
    exact ⟨a, vs, rfl, SqL.of h1, fun pp hp => q pp _ H1 s1 hp rs.reverse⟩)
end
end VL
set_option Elab.async false
set_option linter.all false
set_option maxRecDepth 100000
set_option maxHeartbeats 1000000
/-! value layer, part 14: dicts of texts -/
namespace VL
open PySem L2
section
variable {X : Cx} {ρ : Rho} {e a b : Expr} {p pos : Pos} {kvs : List (Key × V)} {z y : Str}
/-- D[e], D a dict of the module -/
theorem Ev.ixG {x : Str} {c : Addr} (hm : X.mg x = some (.ref c)) (h : Ev X ρ e (.str z)) (hd : KDct X.K X.w c z (.str y)) (hg : Gl X x := by rfl) (hdb : (x == ("__debug__" : Str)) = false := by decide) (hs : PlainIx e := by exact fun _ _ => rfl) : Ev X ρ (.Subscript (.Name x p) e pos) (.str y) :=
  ⟨fun σ H en Q q => we_of (pe_ix ix_kdict (pe_glob (v := .ref c) hg hm rfl hdb) pe_we hs) (h.run σ H en _ fun v H1 s1 r1 => by
    obtain rfl := r1.str_inv
    exact ⟨c, z, .str y, rfl, rfl, hd, q _ H1 s1 (.str y)⟩)⟩
/-- {'..': '..', '..': '..'} -/
theorem Ev.dict2 {k1 v1 k2 v2 : Str} {j1 j2 j3 j4 : Nat} {p1 p2 p3 p4 : Pos} (hne : k1 ≠ k2) : Ev X ρ (.Dict [some (.Constant (.str k1) j1 p1), some (.Constant (.str k2) j2 p2)] [.Constant (.str v1) j3 p3, .Constant (.str v2) j4 p4] pos) (.dk [(.inr k1, .str v1), (.inr k2, .str v2)]) :=
  ⟨fun σ H en Q q => we_of (pe_disp (pps_cons pe_str pe_str (pps_cons pe_str pe_str pps_nil)) rfl rfl (by simp) (by simp)) fun c hc => ⟨upd_same, [(.inr k1, .str v1), (.inr k2, .str v2)], rfl, by simp, by
    have e : mergeK [] [((.inr k1 : Key), V.str v1), (.inr k2, .str v2)] = [(.inr k1, .str v1), (.inr k2, .str v2)] := by
      have hk : ¬ (Sum.inr k1 : Key) = Sum.inr k2 := fun z => hne (Sum.inr.inj z)
      simp [mergeK, putK, hk]
    rw [e]
    refine q _ _ (fun d o z => ?_) (.dk upd_same (by simp [sclV]))
    rw [upd_ne (ne_of_none z hc), upd_ne (ne_of_none z hc)]
    exact z⟩⟩
theorem Ev.ixDkS (hu : X.A.units + 1 < cLine) (ha : Ev X ρ a (.dk kvs)) (hb : Ev X ρ b (.str z)) (hv : valV kvs (.inr z) = some (.str y)) (hs : NoSl b := by exact fun _ _ => rfl) : Ev X ρ (.Subscript a b pos) (.str y) :=
  ⟨fun σ H en Q q => we_of (pe_dget hu pe_we pe_we hs) (ha.run σ H en _ fun x H1 s1 r1 => hb.run σ H1 (en.mono s1) _ fun w H2 s2 r2 => by
    obtain rfl := r2.str_inv
    cases r1.mono s2 with
    | dk h1 h2 => exact ⟨_, .str y, rfl, hv ▸ DGet.k (k := .inr z) h1, q _ H2 (s1.trans s2) (.str y)⟩)⟩
end
end VL
set_option Elab.async false
set_option linter.all false
set_option maxRecDepth 100000
set_option maxHeartbeats 1000000
/-! value layer, part 15: a walk over own things -/
namespace VL
open PySem L2
section
variable {X : Cx} {sts : List Stmt}
/-- a block that only goes on, with lists put aside -/
theorem WSs.frame {σ : L2.St} {H : Hp} {as : List Addr} {N : L2.St → Hp → Prop} {D : Ends} (hl : Hid H as) (h : WSs X sts σ (mask H as) { nx := N, rt := fun _ _ => False })
    (k : ∀ σ' M, N σ' M → (∀ a ∈ as, M a = none) → Same M (join M H as) → D.nx σ' (join M H as)) : WSs X sts σ H D := fun pins s I => by
  obtain ⟨own, h1, h2, J⟩ := Inv.hide I hl
  refine thn (h _ s J) fun f s' q => ?_
  cases f with
  | next =>
    obtain ⟨σ', M, J', n⟩ := q
    obtain ⟨I', hn, up⟩ := Inv.show' I hl h1 J'
    exact ⟨σ', _, I', k σ' M n hn up⟩
  | brk => obtain ⟨_, _, _, q⟩ := q; exact q.elim
  | cont => obtain ⟨_, _, _, q⟩ := q; exact q.elim
  | ret u => obtain ⟨_, _, _, _, _, q⟩ := q; exact q.elim
end
section
variable {K : PySem.W.Frag} {H0 H : Hp} {σ : L2.St} {ρ : RhoW} {F : Nat → List Addr} {v : V} {o : O} {d : D}
/-- a slot's own list taken apart: the list stays, the things within are put aside -/
theorem EnvA.unlist (E : EnvA K H0 σ H ρ F) {i : Nat} {a : Addr} {As : List (List Addr)} (hF : F i = a :: As.flatten) :
    EnvA K (mask (mask H As.flatten) (allOf (fun j => if j = i then [] else F j) (ρ.set i none).length)) σ (mask H As.flatten) (ρ.set i none) (fun j => if j = i then [] else F j) := by
  have off : ∀ j u, u ∈ (if j = i then [] else F j) → j ≠ i ∧ u ∈ F j := fun j u h => by
    split at h
    · cases h
    · exact ⟨by assumption, h⟩
  have ing : ∀ u ∈ As.flatten, u ∈ F i := fun u h => by rw [hF]; exact List.mem_cons_of_mem _ h
  have sub : ∀ u, u ∈ allOf (fun j => if j = i then [] else F j) (ρ.set i none).length → u ∈ allOf F ρ.length := fun u h => by
    obtain ⟨j, hj, hu⟩ := mem_allOf.mp h
    exact mem_allOf.mpr ⟨j, by simpa using hj, (off j u hu).2⟩
  have S : Same (mask H (allOf F ρ.length)) (mask (mask H As.flatten) (allOf (fun j => if j = i then [] else F j) (ρ.set i none).length)) := fun b u e => by
    obtain ⟨e1, e2⟩ := mask_some e
    rw [mask_out (fun z => e2 (sub b z)), mask_out (fun z => e2 (E.mem (ing b z)))]
    exact e1
  refine ⟨by simp [E.len], fun j => ?_, fun j k u h1 h2 => E.dj j k u (off j u h1).2 (off k u h2).2, fun u h => mask_in h, mask_same, fun j w h => ?_, fun j h => ?_⟩
  · split
    · exact List.nodup_nil
    · exact E.nd j
  · have hji : j ≠ i := fun z => by
      subst z
      rw [List.getElem?_set] at h
      split at h
      · split at h <;> cases h
      · rename_i q; exact q rfl
    rw [List.getElem?_set_ne (Ne.symm hji)] at h
    obtain ⟨v, e, r⟩ := E.get j w h
    refine ⟨v, e, ?_⟩
    rw [if_neg hji]
    exact r.keep (fun u hu x z => by rw [mask_out (fun q => hji (E.dj j i u hu (ing u q)))]; exact z) S
  · split
    · rfl
    · rename_i hji
      exact E.off j fun w z => h w (by rw [List.getElem?_set_ne (Ne.symm hji)]; exact z)
end
section
variable {X : Cx} {ρ : RhoW} {Φ : Post} {rest body : List Stmt} {pos p1 p2 p3 p4 p5 p6 tp : Pos} {os : List O} {es : List D} {d1 : D}
/-- for x, y in zip(f, g), f an own list of own things, g shared: x owns the thing of its turn -/
theorem Ws.forZipOwn {nx ny nf ng : Str} (i j x y : Nat) {k1 : Nat} (Iv : Nat → RhoW → Prop) (hp : PassesOwn (model X.prog X.w) X.A X.env X.xe) (hc : X.calm = true) (hN : X.N.Nodup) (hm : X.mg "zip" = none) (hlen : es.length = os.length) (h0 : Iv 0 (ρ.set i none))
    (hb : ∀ k o e ρ', os[k]? = some o → es[k]? = some e → Iv k ρ' → ρ'.length = ρ.length → Ws X ((ρ'.set x (some (.ow o o.data))).set y (some (.sh e))) body { nx := Iv (k + 1), rt := fun _ => False })
    (hd : ∀ ρ', Iv os.length ρ' → ρ'.length = ρ.length → Ws X ρ' rest Φ) (hxy : (decide (x < ρ.length) && decide (y < ρ.length) && decide (x ≠ y)) = true := by rfl)
    (hρ : ρ[i]? = some (some (.ow (.ls os) d1)) := by rfl) (hρj : ρ[j]? = some (some (.sh (.lst es))) := by rfl)
    (hpi : PI X (.Tuple [.Name nx p1, .Name ny p2] k1 tp) (.Call (.Name "zip" p3) [.Name nf p4, .Name ng p5] [] p6) (iZip X.K (tCons (tVar i) (tCons (tVar j) tNil))) := by exact pi_zip rfl (by assumption) (pa_cons (pv _) (pa_cons (pv _) pa_nil)))
    (hpg : X.N.Nodup → PG X (.Tuple [.Name nx p1, .Name ny p2] k1 tp) (gTup X.K 2 (gCons (gName x) (gCons (gName y) gNil))) := by
      intro hN; exact pg_tup rfl (pgs_cons (pg_name hN rfl (by first | exact Or.inl rfl | exact Or.inr rfl)) (pgs_cons (pg_name hN rfl (by first | exact Or.inl rfl | exact Or.inr rfl)) pgs_nil)))
    (hs : ∀ z, foldedSetIterable (.Call (.Name "zip" p3) [.Name nf p4, .Name ng p5] [] p6) X.env z = pure z := by intro _; rfl) :
    Ws X ρ (.For (.Tuple [.Name nx p1, .Name ny p2] k1 tp) (.Call (.Name "zip" p3) [.Name nf p4, .Name ng p5] [] p6) body [] pos :: rest) Φ := ⟨fun H0 σ H D E kk => by
  simp only [Bool.and_eq_true, decide_eq_true_eq] at hxy
  obtain ⟨⟨hx, hy⟩, hxy⟩ := hxy
  obtain ⟨F, E1⟩ := id E
  have hl := E1.len
  obtain ⟨v, hσ, rv⟩ := E1.get i _ hρ
  obtain ⟨v2, hσ2, rv2⟩ := E1.get j _ hρj
  obtain ⟨b, ws, rfl, hb0, rs⟩ := rv2.1.lst_inv
  have rO := rv.2
  have hnd := E1.nd i
  have hmem : ∀ u ∈ F i, u ∈ allOf F ρ.length := fun u h => E1.mem h
  generalize hFi : F i = Fi at rO hnd hmem
  cases rO with
  | @ls a vs _ As q1 q2 q3 q4 =>
  obtain ⟨nda, ndA⟩ := List.nodup_cons.mp hnd
  have E0 := E1.unlist hFi
  generalize hS0 : mask (mask H As.flatten) (allOf (fun j => if j = i then [] else F j) (ρ.set i none).length) = S0 at E0
  have S1 : Same (mask H (allOf F ρ.length)) S0 := by
    subst hS0
    intro c u e
    obtain ⟨e1, e2⟩ := mask_some e
    rw [mask_out (fun z => ?_), mask_out (fun z => e2 (hmem c (List.mem_cons_of_mem _ z)))]
    · exact e1
    · obtain ⟨k, hk, hu⟩ := mem_allOf.mp z
      split at hu
      · cases hu
      · exact e2 (E1.mem hu)
  have Sa : S0 a = some (.lst vs) := by
    subst hS0
    rw [mask_out (fun z => ?_), mask_out nda]
    · exact q1
    · obtain ⟨k, hk, hu⟩ := mem_allOf.mp z
      split at hu
      · cases hu
      · rename_i hki
        exact hki (E1.dj k i a hu (by rw [hFi]; simp))
  have Sb : S0 b = some (.lst ws) := S1 _ _ hb0
  have S00 : Same H0 S0 := fun c u e => S1 c u (by
    rw [mask_out (fun z => by rw [E1.fresh c z] at e; cases e)]
    exact E1.same c u e)
  have S0H : Same S0 H := by
    subst hS0
    exact mask_same.trans mask_same
  refine WSs.cons (ws_of (ps_for hp hc hpi (hpg hN) pss_wss hs) ?_)
  refine ⟨.ref a, hσ, .ref b, hσ2, a, b, vs, ws, rfl, SqL.of q1, SqL.of (mask_some hb0).1, ?_⟩
  refine for_it (g := gTup X.K 2 (gCons (gName x) (gCons (gName y) gNil))) (tb := fun D σ H => WSs X body σ H D) (D := { D with nx := fun σ' H' => WSs X rest σ' H' D }) (walk_zip (K := X.K) (a := a) (b := b) (xs := vs) (ys := ws) (n := os.length) (by rw [q2, rs.1, hlen]; simp))
    (fun k σ' H' => ∃ ρ' M, Iv k ρ' ∧ ρ'.length = ρ.length ∧ Same S0 M ∧ EnvW X.K M σ' (mask H' (As.drop k).flatten) ρ' ∧ ∀ u ∈ (As.drop k).flatten, ∀ z, H u = some z → H' u = some z) ⟨_, S0, h0, by simp, Same.refl _, ⟨_, E0⟩, fun u _ z e => e⟩ (fun k σ' H' _ ⟨ρ', M, _, _, sm, E', _⟩ => ?_) (fun k v σ' H' H2 hlt ⟨ρ', M, iv, lr, sm, E', hk⟩ yl => ?_) (fun σ' H' ⟨ρ', M, iv, lr, sm, E', hk⟩ => ?_)
  · obtain ⟨F', E'⟩ := E'
    have up : Same S0 H' := (sm.trans E'.same).trans mask_same
    exact ⟨SqL.of (up _ _ Sa), SqL.of (up _ _ Sb)⟩
  · obtain ⟨Tt, x1, y1, rfl, hT, rfl, e1, e2⟩ := yl
    have hka : k < As.length := by omega
    have e1 : vs[k]? = some x1 := e1
    have e2 : ws[k]? = some y1 := e2
    have ho : os[k]? = some os[k] := List.getElem?_eq_getElem hlt
    have he : es[k]? = some (es[k]'(by omega)) := List.getElem?_eq_getElem (by omega)
    have hAk : As[k]? = some As[k] := List.getElem?_eq_getElem hka
    have hdrop : (As.drop k).flatten = As[k] ++ (As.drop (k + 1)).flatten := by rw [List.drop_eq_getElem_cons hka, List.flatten_cons]
    have ndd : (As[k] ++ (As.drop (k + 1)).flatten).Nodup := by
      rw [flat_split hAk] at ndA
      exact (List.nodup_append.mp ndA).2.1
    obtain ⟨nd1, nd2, nd3⟩ := List.nodup_append.mp ndd
    have hidB : ∀ n, Hid H (As.drop n).flatten := fun n => Hid.union fun B hB => by
      obtain ⟨t, ht⟩ := List.getElem?_of_mem (List.mem_of_mem_drop hB)
      have l := (List.getElem?_eq_some_iff.mp ht).1
      exact (q4 t _ _ B (List.getElem?_eq_getElem (by omega)) (List.getElem?_eq_getElem (by omega)) ht).cells
    have nT : ∀ u, u ∈ (As.drop k).flatten → u ≠ Tt := fun u hu z => by
      subst z
      obtain ⟨o, q, _⟩ := (hidB k).cell hu
      rw [hk u hu _ q] at hT; cases hT
    have up2 : ∀ c u, H' c = some u → upd H' Tt (.tup [x1, y1]) c = some u := fun c u e => by rw [upd_ne (ne_of_none e hT)]; exact e
    obtain ⟨F', E2⟩ := E'
    have frz : ∀ c u, M c = some u → mask (mask (upd H' Tt (.tup [x1, y1])) (As.drop (k + 1)).flatten) (allOf F' ρ'.length ++ As[k]) c = some u := fun c u e => by
      have c1 := E2.same c u e
      obtain ⟨c2, c3⟩ := mask_some c1
      rw [hdrop] at c3
      rw [mask_out (fun z => (List.mem_append.mp z).elim (fun z => by rw [E2.fresh c z] at e; cases e) fun z => c3 (List.mem_append_left _ z)), mask_out (fun z => c3 (List.mem_append_right _ z))]
      exact up2 c u c2
    have E3 := E2.push (H' := mask (upd H' Tt (.tup [x1, y1])) (As.drop (k + 1)).flatten) (B := As[k]) (v := x1) (w := .ow os[k] os[k].data) (fun c hc u e => by
        obtain ⟨c1, c2⟩ := mask_some e
        rw [mask_out (fun z => c2 (by rw [hdrop]; exact List.mem_append_right _ z))]
        exact up2 c u c1) (fun c u e => by
        obtain ⟨c0, c3⟩ := mask_some e
        obtain ⟨c1, c2⟩ := mask_some c0
        rw [hdrop] at c2
        rw [mask_out (fun z => (List.mem_append.mp z).elim c3 fun z => c2 (List.mem_append_left _ z)), mask_out (fun z => c2 (List.mem_append_right _ z))]
        exact up2 c u c1) (fun c hc => mask_in (by rw [hdrop]; exact List.mem_append_left _ hc)) nd1 ⟨rfl, (q4 k x1 os[k] As[k] e1 ho hAk).keep (fun c hc u e => by
        have hcd : c ∈ (As.drop k).flatten := by rw [hdrop]; exact List.mem_append_left _ hc
        rw [mask_out (fun z => nd3 c hc c z rfl)]
        exact up2 c u (hk c hcd u e)) fun c u e => frz c u (sm c u (S1 c u e))⟩
    have ry : Rep X.K (mask (mask (upd H' Tt (.tup [x1, y1])) (As.drop (k + 1)).flatten) (allOf F' ρ'.length ++ As[k])) y1 (es[k]'(by omega)) := (rs.2 k y1 _ e2 he).mono fun c u e => frz c u (sm c u (S1 c u e))
    have hl' : σ'.length = ρ'.length := E2.len
    have E4 := EnvW.into ⟨_, E3.pushS (v := y1) (d := es[k]'(by omega)) (ry.mono (mask_sub fun c hc => by
      obtain ⟨t, ht, hu⟩ := mem_allOf.mp hc
      split at hu
      · exact List.mem_append_right _ hu
      · exact List.mem_append_left _ (E2.mem hu)))⟩ y
    rw [List.set_append_left _ _ (by omega), List.set_append_left _ _ (by omega)] at E4
    have E5 := E4.into x
    rw [List.set_comm _ _ hxy.symm, List.set_comm _ _ hxy.symm] at E5
    refine ⟨Tt, [x1, y1], rfl, SqT.of upd_same, rfl, x1, [y1], rfl, y1, [], rfl, rfl, ?_⟩
    refine WSs.frame (as := (As.drop (k + 1)).flatten) (N := fun σ3 M3 => ∃ ρ3, Iv (k + 1) ρ3 ∧ ρ3.length = ρ.length ∧ EnvW X.K M σ3 M3 ρ3) ((hidB (k + 1)).up fun u hu z e => up2 u z (hk u (by rw [hdrop]; exact List.mem_append_right _ hu) z e)) ?_ fun σ3 M3 ⟨ρ3, q, l3, E7⟩ hn up => ⟨ρ3, M, q, l3, sm, ?_, fun u hu z e => ?_⟩
    · exact (hb k os[k] (es[k]'(by omega)) ρ' ho he iv lr).run M _ _ _ E5 ⟨fun σ3 H3 ρ3 q l E => ⟨ρ3, q, by simpa [lr] using l, E⟩, fun _ _ _ q => q.elim, fun _ _ _ q => q.elim, fun _ _ _ _ q => q.elim, fun _ _ _ _ _ q => q.elim, fun _ _ _ q => q.elim⟩
    · rw [mask_join, mask_of_none hn]; exact E7
    · rw [join_in hu]
      exact up2 u z (hk u (by rw [hdrop]; exact List.mem_append_right _ hu) z e)
  · rw [List.drop_of_length_le (by omega)] at E'
    simp only [List.flatten_nil, mask_nil] at E'
    exact (hd ρ' iv lr).run H0 σ' H' D (E'.unbase (S00.trans sm)) (kk.cast lr.symm)⟩
end
end VL
set_option Elab.async false
set_option linter.all false
set_option maxRecDepth 100000
set_option maxHeartbeats 1000000
/-! value layer, part 16: a list of own things -/
namespace VL
open PySem L2
section
variable {X : Cx} {ρ : Rho} {es : List Expr} {os : List O} {pos : Pos}
theorem EvO.listO (h : EvAO X ρ es os) (hl : os.length ≤ 1000 := by simp) : EvO X ρ (.List es pos) (.ls os) :=
  ⟨fun σ H en Q q => we_of (pe_lst pa_wa) (h.run σ H en _ fun vs H1 As s1 f1 nd r1 => ⟨by rw [r1.1]; exact Nat.le_trans hl (by decide), fun p hp => by
    have hpA : p ∉ As.flatten := fun y => r1.cells.some y hp
    have s2 : Same (mask H1 As.flatten) (mask (upd H1 p (.lst vs)) (p :: As.flatten)) := fun b u z => by
      obtain ⟨z1, z2⟩ := mask_some z
      have hbp : b ≠ p := ne_of_none z1 hp
      rw [mask_out (fun y => (List.mem_cons.mp y).elim hbp z2), upd_ne hbp]
      exact z1
    have r2 := r1.keep (H' := upd H1 p (.lst vs)) (fun a ha u z => by rw [upd_ne (ne_of_none z hp)]; exact z) s2
    exact q _ _ (p :: As.flatten) (s1.trans (Same.new hp)) (fun a ha => by
      rcases List.mem_cons.mp ha with rfl | ha
      · exact s1.free hp
      · exact f1 a ha) (List.nodup_cons.mpr ⟨hpA, nd⟩) (.ls upd_same r2.1 r2.2.1 r2.2.2)⟩)⟩
end
end VL
set_option Elab.async false
set_option linter.all false
set_option maxRecDepth 100000
set_option maxHeartbeats 1000000
/-! value layer, part 17: objects -/
namespace VL
open PySem L2
/-! ### data without objects -/
mutual
def D.noOb : D → Bool
  | .ob _ _ _ => false
  | .lst xs => noObAll xs
  | .tup xs => noObAll xs
  | .ro xs => noObAll xs
  | .dd _ xs => noObAll xs
  | _ => true
def noObAll : List D → Bool
  | [] => true
  | x :: xs => x.noOb && noObAll xs
end
theorem noObAll_get : ∀ {xs : List D} {i : Nat} {d : D}, noObAll xs = true → xs[i]? = some d → d.noOb = true
  | [], i, d, _, h => by simp at h
  | x :: xs, 0, d, f, h => by
    simp at h; subst h
    unfold noObAll at f
    exact (Bool.and_eq_true_iff.mp f).1
  | x :: xs, i + 1, d, f, h => by
    unfold noObAll at f
    exact noObAll_get (Bool.and_eq_true_iff.mp f).2 (by simpa using h)
theorem noObAll_map {α : Type} {h : α → D} (hh : ∀ x, (h x).noOb = true) : ∀ L : List α, noObAll (L.map h) = true
  | [] => by simp [noObAll]
  | x :: L => by simp [noObAll, hh x, noObAll_map hh L]
mutual
def O.noOb : O → Bool
  | .sh d => d.noOb
  | .ls xs => noObO xs
  | .tu xs => noObO xs
  | .ob _ _ _ => false
  | .dd _ xs => noObO xs
  | .pin _ o => o.noOb
def noObO : List O → Bool
  | [] => true
  | x :: xs => x.noOb && noObO xs
end
theorem noObO_get : ∀ {xs : List O} {i : Nat} {d : O}, noObO xs = true → xs[i]? = some d → d.noOb = true
  | [], i, d, _, h => by simp at h
  | x :: xs, 0, d, f, h => by
    simp at h; subst h
    unfold noObO at f
    exact (Bool.and_eq_true_iff.mp f).1
  | x :: xs, i + 1, d, f, h => by
    unfold noObO at f
    exact noObO_get (Bool.and_eq_true_iff.mp f).2 (by simpa using h)
theorem noObO_sh : ∀ ds : List D, noObO (ds.map O.sh) = noObAll ds
  | [] => by simp [noObO, noObAll]
  | d :: ds => by simp [noObO, noObAll, O.noOb, noObO_sh ds]
theorem oL_noOb {ds : List D} (h : noObAll ds = true) : (oL ds).noOb = true := by unfold oL; rw [O.noOb, noObO_sh]; exact h
def insO : HO → Bool
  | .ins _ _ _ => true
  | .own _ => true
  | _ => false
section
variable {K : PySem.W.Frag} {H0 H S M : Hp} {v : V} {o : O} {d : D} {A as bs : List Addr} {σ : L2.St} {ρ : RhoW} {F : Nat → List Addr}
theorem ins_out (hl : ∀ a ∈ as, ∃ o, H a = some o ∧ insO o = true) {a : Addr} {o : HO} (h : H a = some o) (hn : insO o = false) : a ∉ as := fun z => by
  obtain ⟨o', e, c⟩ := hl a z
  rw [h] at e
  obtain rfl := Option.some.inj e
  rw [hn] at c; cases c
theorem Rep.maskN (r : Rep K H v d) (f : d.noOb = true) (hl : ∀ a ∈ as, ∃ o, H a = some o ∧ insO o = true) : Rep K (mask H as) v d := by
  induction r with
  | non => exact .non
  | bl b => exact .bl b
  | int i => exact .int i
  | str s => exact .str s
  | lst h1 h2 h3 ih =>
    unfold D.noOb at f
    exact .lst (by rw [mask_out (ins_out hl h1 rfl)]; exact h1) h2 fun i v d q1 q2 => ih i v d q1 q2 (noObAll_get f q2)
  | tup h1 h2 h3 ih =>
    unfold D.noOb at f
    exact .tup (by rw [mask_out (ins_out hl h1 rfl)]; exact h1) h2 fun i v d q1 q2 => ih i v d q1 q2 (noObAll_get f q2)
  | ro h1 h2 h3 ih =>
    unfold D.noOb at f
    refine .ro ?_ h2 fun i v d q1 q2 => ih i v d q1 q2 (noObAll_get f q2)
    rcases h1 with (h | ⟨o, h⟩) | h
    · exact .inl (.inl (by rw [mask_out (ins_out hl h rfl)]; exact h))
    · exact .inl (.inr ⟨o, by rw [mask_out (ins_out hl h rfl)]; exact h⟩)
    · exact .inr h
  | dk h1 h2 => exact .dk (by rw [mask_out (ins_out hl h1 rfl)]; exact h1) h2
  | ob h1 h2 h3 h6 h4 h5 ih => simp [D.noOb] at f
  | dd h1 h2 h3 h4 h5 ih =>
    unfold D.noOb at f
    exact .dd (by rw [mask_out (ins_out hl h1 rfl)]; exact h1) h2 h3 h4 fun i v d q1 q2 => ih i v d q1 q2 (noObAll_get f q2)
  | raw a => exact .raw a
theorem RepO.maskN (r : RepO K H S v o A) (f : o.noOb = true) (hl : ∀ a ∈ as, ∃ o, S a = some o ∧ insO o = true) : RepO K H (mask S as) v o A := by
  induction r with
  | sh q => unfold O.noOb at f; exact .sh (q.maskN f hl)
  | ls h1 h2 h3 h4 ih => unfold O.noOb at f; exact .ls h1 h2 h3 fun i v o A q1 q2 q3 => ih i v o A q1 q2 q3 (noObO_get f q2)
  | tu h1 h2 h3 h4 ih => unfold O.noOb at f; exact .tu (by rw [mask_out (ins_out hl h1 rfl)]; exact h1) h2 h3 fun i v o A q1 q2 q3 => ih i v o A q1 q2 q3 (noObO_get f q2)
  | ob h1 h2 hz h3 h4 h5 h6 h7 h8 ih => simp [O.noOb] at f
  | dd h1 h2 h3 h4 h5 h6 ih => unfold O.noOb at f; exact .dd (by rw [mask_out (ins_out hl h1 rfl)]; exact h1) h2 h3 h4 h5 fun i v o A q1 q2 q3 => ih i v o A q1 q2 q3 (noObO_get f q2)
  | pin h ih => unfold O.noOb at f; exact .pin (ih f)

/-! ### an own object's shared fields in sight -/
def shKs : List Str → List O → List Str
  | k :: ks, .sh _ :: xs => k :: shKs ks xs
  | _ :: ks, _ :: xs => shKs ks xs
  | _, _ => []
def shDs : List Str → List O → List D
  | _ :: ks, .sh d :: xs => d :: shDs ks xs
  | _ :: ks, _ :: xs => shDs ks xs
  | _, _ => []
def viewW : Option W → Option D
  | some (.sh d) => some d
  | some (.ow (.ob C ks xs) _) => some (.ob C (shKs ks xs) (shDs ks xs))
  | some (.ow (.pin _ (.ob C ks xs)) _) => some (.ob C (shKs ks xs) (shDs ks xs))
  | _ => none
def view (ρ : RhoW) : Rho := ρ.map viewW
theorem view_ob {fs : List (Str × V)} : ∀ {ks : List Str} {xs : List O} {vs : List V}, vs.length = ks.length → vs.length = xs.length → (∀ (i : Nat) f v, ks[i]? = some f → vs[i]? = some v → fs.lookup f = some v) → (∀ (i : Nat) v d, vs[i]? = some v → xs[i]? = some (.sh d) → Rep K S v d) →
    ∃ ws : List V, ws.length = (shKs ks xs).length ∧ (∀ (i : Nat) f v, (shKs ks xs)[i]? = some f → ws[i]? = some v → fs.lookup f = some v) ∧ ws.length = (shDs ks xs).length ∧ ∀ (i : Nat) v d, ws[i]? = some v → (shDs ks xs)[i]? = some d → Rep K S v d
  | [], xs, vs, h1, h2, h3, h4 => by
    cases xs <;> exact ⟨[], by unfold shKs; rfl, fun i f v e => by unfold shKs at e; simp at e, by unfold shDs; rfl, fun i v d e => by simp at e⟩
  | k :: ks, [], vs, h1, h2, h3, h4 => by rw [h2] at h1; simp at h1
  | k :: ks, x :: xs, [], h1, h2, h3, h4 => by simp at h1
  | k :: ks, x :: xs, v :: vs, h1, h2, h3, h4 => by
    obtain ⟨ws, q1, q2, q3, q4⟩ := view_ob (ks := ks) (xs := xs) (vs := vs) (by simpa using h1) (by simpa using h2) (fun i f u e1 e2 => h3 (i + 1) f u (by simpa using e1) (by simpa using e2)) (fun i u d e1 e2 => h4 (i + 1) u d (by simpa using e1) (by simpa using e2))
    cases x with
    | sh d =>
      refine ⟨v :: ws, by unfold shKs; simp [q1], fun i f u e1 e2 => ?_, by unfold shDs; simp [q3], fun i u d' e1 e2 => ?_⟩
      · unfold shKs at e1
        cases i with
        | zero => simp at e1 e2; subst e1; subst e2; exact h3 0 _ _ rfl rfl
        | succ i => exact q2 i f u (by simpa using e1) (by simpa using e2)
      · unfold shDs at e2
        cases i with
        | zero => simp at e1 e2; subst e1; subst e2; exact h4 0 _ _ rfl rfl
        | succ i => exact q4 i u d' (by simpa using e1) (by simpa using e2)
    | ls _ => exact ⟨ws, by unfold shKs; exact q1, by unfold shKs; exact q2, by unfold shDs; exact q3, by unfold shDs; exact q4⟩
    | tu _ => exact ⟨ws, by unfold shKs; exact q1, by unfold shKs; exact q2, by unfold shDs; exact q3, by unfold shDs; exact q4⟩
    | ob _ _ _ => exact ⟨ws, by unfold shKs; exact q1, by unfold shKs; exact q2, by unfold shDs; exact q3, by unfold shDs; exact q4⟩
    | dd _ _ => exact ⟨ws, by unfold shKs; exact q1, by unfold shKs; exact q2, by unfold shDs; exact q3, by unfold shDs; exact q4⟩
    | pin _ _ => exact ⟨ws, by unfold shKs; exact q1, by unfold shKs; exact q2, by unfold shDs; exact q3, by unfold shDs; exact q4⟩
/-- the lists among the cells, and the rest -/
def isIns (H : Hp) (a : Addr) : Bool := match H a with
  | some o => insO o
  | none => false
def lstAt (H : Hp) (as : List Addr) : List Addr := as.filter fun a => !isIns H a
def insAt (H : Hp) (as : List Addr) : List Addr := as.filter fun a => isIns H a
theorem mem_lstAt {a : Addr} : a ∈ lstAt H as ↔ a ∈ as ∧ isIns H a = false := by unfold lstAt; simp
theorem mem_insAt {a : Addr} : a ∈ insAt H as ↔ a ∈ as ∧ isIns H a = true := by unfold insAt; simp
theorem insAt_ins {a : Addr} (h : a ∈ insAt H as) : ∃ o, H a = some o ∧ insO o = true := by
  obtain ⟨_, h⟩ := mem_insAt.mp h
  unfold isIns at h
  cases e : H a with
  | none => rw [e] at h; cases h
  | some o => rw [e] at h; exact ⟨o, rfl, h⟩
theorem isIns_of {a : Addr} {o : HO} (e : H a = some o) : isIns H a = insO o := by unfold isIns; rw [e]
theorem EnvA.envV (E : EnvA K H0 σ H ρ F) : EnvS K σ (mask H (lstAt H (allOf F ρ.length))) (view ρ) := ⟨by unfold view; rw [List.length_map]; exact E.len, fun i d h => by
  unfold view at h
  rw [List.getElem?_map] at h
  obtain ⟨q, e, hq⟩ := Option.map_eq_some_iff.mp h
  have sub : Same (mask H (allOf F ρ.length)) (mask H (lstAt H (allOf F ρ.length))) := mask_sub fun a ha => (mem_lstAt.mp ha).1
  have main : ∀ (v : V) (C : Addr) (ks : List Str) (xs : List O) (A : List Addr), RepO K H (mask H (allOf F ρ.length)) v (.ob C ks xs) A → Rep K (mask H (lstAt H (allOf F ρ.length))) v (.ob C (shKs ks xs) (shDs ks xs)) := fun v C ks xs A r => by
    cases r with
    | @ob a _ dx fs _ vs _ As h1 h2 hz h3 h4 h5 h6 h7 h8 =>
      obtain ⟨ws, q1, q2, q3, q4⟩ := view_ob (S := mask H (lstAt H (allOf F ρ.length))) (K := K) h3 h6 h4 (fun i v d e1 e2 => by
        have l := (List.getElem?_eq_some_iff.mp e2).1
        have := h8 i v (.sh d) As[i] e1 e2 (List.getElem?_eq_getElem (by omega))
        exact this.sh_inv.2.mono sub)
      exact .ob (by rw [mask_out (fun z => by have := (mem_lstAt.mp z).2; rw [isIns_of h1] at this; cases this)]; exact h1) q1 q2 h5 q3 q4
  cases q with
  | none => cases hq
  | some w =>
    obtain ⟨v, h1, r⟩ := E.get i _ e
    cases w with
    | sh d' =>
      have : d' = d := Option.some.inj hq
      subst this
      exact ⟨v, h1, r.1.mono sub⟩
    | ow o d' =>
      cases o with
      | ob C ks xs =>
        obtain rfl : D.ob C (shKs ks xs) (shDs ks xs) = d := Option.some.inj hq
        exact ⟨v, h1, main v C ks xs _ r.2⟩
      | pin a o =>
        cases o with
        | ob C ks xs =>
          obtain rfl : D.ob C (shKs ks xs) (shDs ks xs) = d := Option.some.inj hq
          have r2 := r.2
          refine ⟨v, h1, main v C ks xs (F i) ?_⟩
          generalize F i = Fi at r2
          cases r2 with
          | pin h => exact h
        | sh _ => cases hq
        | ls _ => cases hq
        | tu _ => cases hq
        | dd _ _ => cases hq
        | pin _ _ => cases hq
      | sh _ => cases hq
      | ls _ => cases hq
      | tu _ => cases hq
      | dd _ _ => cases hq⟩
theorem EnvA.hidL (E : EnvA K H0 σ H ρ F) : Hid H (lstAt H (allOf F ρ.length)) := fun a ha => by
  obtain ⟨h1, h2⟩ := mem_lstAt.mp ha
  rcases E.cells a h1 with q | ⟨C, dx, fs, e, _⟩ | ⟨y, C, fs, e, _⟩
  · exact .inl q
  · rw [isIns_of e] at h2; cases h2
  · rw [isIns_of e] at h2; cases h2
theorem mask_ins (hn : ∀ a ∈ lstAt H as, M a = none) : mask (join M H (lstAt H as)) as = mask M (insAt H as) := by
  funext b
  by_cases hb : b ∈ as
  · rw [mask_in hb]
    by_cases hi : isIns H b = true
    · rw [mask_in (mem_insAt.mpr ⟨hb, hi⟩)]
    · have : b ∈ lstAt H as := mem_lstAt.mpr ⟨hb, by simpa using hi⟩
      rw [mask_out (fun z => hi (mem_insAt.mp z).2), hn b this]
  · rw [mask_out hb, join_out (fun z => hb (mem_lstAt.mp z).1), mask_out (fun z => hb (mem_insAt.mp z).1)]
theorem EnvA.viewO (E : EnvA K H0 σ H ρ F) (s : Same (mask H (lstAt H (allOf F ρ.length))) M) (n : ∀ a ∈ lstAt H (allOf F ρ.length), M a = none) (f : ∀ a ∈ A, mask H (lstAt H (allOf F ρ.length)) a = none) (nd : A.Nodup)
    (r : RepO K M (mask M A) v o A) (ho : o.noOb = true) (hd : o.data = d) : EnvW K H0 (σ ++ [some v]) (join M H (lstAt H (allOf F ρ.length))) (ρ ++ [some (.ow o d)]) := by
  have nL : ∀ a ∈ A, a ∉ lstAt H (allOf F ρ.length) := fun a ha z => r.cells.some ha (n a z)
  have fr : ∀ a ∈ A, H a = none := fun a ha => by have := f a ha; rw [mask_out (nL a ha)] at this; exact this
  have nA : ∀ a ∈ A, a ∉ allOf F ρ.length := fun a ha z => E.cells.some z (fr a ha)
  have insM : ∀ a ∈ insAt H (allOf F ρ.length), ∀ u, H a = some u → M a = some u := fun a ha u e => s a u (by rw [mask_out (fun z => by have h1 := (mem_lstAt.mp z).2; rw [(mem_insAt.mp ha).2] at h1; cases h1)]; exact e)
  have keep : ∀ a ∈ allOf F ρ.length, ∀ u, H a = some u → (join M H (lstAt H (allOf F ρ.length))) a = some u := fun a ha u e => by
    by_cases hi : a ∈ lstAt H (allOf F ρ.length)
    · rw [join_in hi]; exact e
    · rw [join_out hi]
      exact insM a (mem_insAt.mpr ⟨ha, by
        cases q : isIns H a with
        | true => rfl
        | false => exact absurd (mem_lstAt.mpr ⟨ha, q⟩) hi⟩) u e
  refine ⟨_, E.push (B := A) keep (fun b u e => ?_) fr nd ⟨hd, ?_⟩⟩
  · obtain ⟨e1, e2⟩ := mask_some e
    have hL : b ∉ lstAt H (allOf F ρ.length) := fun z => e2 (mem_lstAt.mp z).1
    have hbA : b ∉ A := fun z => by rw [fr b z] at e1; cases e1
    rw [mask_out (fun z => (List.mem_append.mp z).elim e2 hbA), join_out hL]
    exact s b u (by rw [mask_out hL]; exact e1)
  · have hm : mask (mask M A) (insAt H (allOf F ρ.length)) = mask (join M H (lstAt H (allOf F ρ.length))) (allOf F ρ.length ++ A) := by
      have h0 := mask_ins (M := M) (H := H) (as := allOf F ρ.length) n
      funext b
      by_cases hb : b ∈ A
      · rw [mask_in (as := allOf F ρ.length ++ A) (List.mem_append_right _ hb)]
        by_cases hi : b ∈ insAt H (allOf F ρ.length)
        · rw [mask_in hi]
        · rw [mask_out hi, mask_in hb]
      · have h1 := congrFun h0 b
        by_cases hb2 : b ∈ allOf F ρ.length
        · rw [mask_in (List.mem_append_left _ hb2)]
          rw [mask_in hb2] at h1
          by_cases hi : b ∈ insAt H (allOf F ρ.length)
          · rw [mask_in hi]
          · rw [mask_out hi, mask_out hb]
            rw [mask_out hi] at h1
            exact h1.symm
        · rw [mask_out (fun z => (List.mem_append.mp z).elim hb2 hb)]
          rw [mask_out hb2] at h1
          rw [h1]
          have hi : b ∉ insAt H (allOf F ρ.length) := fun z => hb2 (mem_insAt.mp z).1
          rw [mask_out hi, mask_out hi, mask_out hb]
    rw [← hm]
    have r2 : RepO K M (mask (mask M A) (insAt H (allOf F ρ.length))) v o A := r.maskN ho fun a ha => by
      obtain ⟨u, e, c⟩ := insAt_ins ha
      exact ⟨u, by rw [mask_out (fun z => nA a z (mem_insAt.mp ha).1)]; exact insM a ha u e, c⟩
    exact r2.keep (fun a ha u e => by rw [join_out (nL a ha)]; exact e) (Same.refl _)
end
section
variable {X : Cx} {ρ : RhoW} {e : Expr} {d : D} {o : O} {Ψ : W → RhoW → Prop}
theorem EvW.vwO (h : EvO X (view ρ) e o) (ho : o.noOb = true) (hd : o.data = d) (k : Ψ (.ow o d) ρ) : EvW X ρ e Ψ := ⟨fun H0 σ H ⟨F, E⟩ Q q => by
  refine (WE.frame E.hidL (h.run σ (mask H (lstAt H (allOf F ρ.length))) E.envV (fun v M => ∃ A, Same (mask H (lstAt H (allOf F ρ.length))) M ∧ (∀ a ∈ A, mask H (lstAt H (allOf F ρ.length)) a = none) ∧ A.Nodup ∧ RepO X.K M (mask M A) v o A) fun v M A s f n r => ⟨A, s, f, n, r⟩)).mono ?_
  rintro v H' ⟨M, ⟨A, s, f, nd, r⟩, rfl, n, up⟩
  exact q v _ (.ow o d) ρ k rfl (E.viewO s n f nd r ho hd)⟩
theorem EvW.vw (h : Ev X (view ρ) e d) (ho : d.noOb = true) (k : Ψ (.sh d) ρ) : EvW X ρ e Ψ := ⟨fun H0 σ H ⟨F, E⟩ Q q => by
  refine (WE.frame E.hidL (h.run σ (mask H (lstAt H (allOf F ρ.length))) E.envV (fun v M => Same (mask H (lstAt H (allOf F ρ.length))) M ∧ Rep X.K M v d) fun v M s r => ⟨s, r⟩)).mono ?_
  rintro v H' ⟨M, ⟨s, r⟩, rfl, n, up⟩
  have E2 := E.viewO (A := []) (o := .sh d) (d := d) s n (by simp) List.nodup_nil (.sh (by rw [mask_nil]; exact r)) (by unfold O.noOb; exact ho) (by rw [O.data])
  refine q v _ (.sh d) ρ k rfl ?_
  have E3 := E2.share (i := ρ.length) (o := .sh d) (d := d) (by simp)
  rw [List.set_append_right _ _ (Nat.le_refl _), Nat.sub_self, List.set_cons_zero] at E3
  exact E3⟩
end

/-! ### fields and methods of data -/
section
variable {X : Cx} {ρ : Rho} {e : Expr} {es : List Expr} {f m : Str} {pos p apos : Pos} {C : Addr} {ks : List Str} {ds args : List D} {d : D} {k : Nat} {post : O → Prop} {o : O}
theorem Ev.fld (h : Ev X ρ e (.ob C ks ds)) (i : Nat) (hk : ks[i]? = some f) (hd : ds[i]? = some d) (hc : Cls X.K C) (hn : NoAttr X.K C f) (hb : attributeBase e f X.env (eval e X.env) = eval e X.env := by rfl) : Ev X ρ (.Attribute e f pos) d :=
  ⟨fun σ H en Q q => we_of (pe_fld pe_we hb) (h.run σ H en _ fun v H1 s1 r1 => by
    cases r1 with
    | @ob a _ dx fs _ vs _ h1 h2 h3 h6 h4 h5 =>
      have hl := (List.getElem?_eq_some_iff.mp hk).1
      have hv : vs[i]? = some (vs[i]'(by omega)) := List.getElem?_eq_getElem (by omega)
      exact ⟨a, C, dx, fs, _, rfl, h1, hc, hn, h3 i f _ hk hv, q _ H1 s1 (h5 i _ d hv hd)⟩)⟩
/-- a method that changes nothing: what a call is worth -/
structure VM (P : Program) (w : World) (K : PySem.W.Frag) (mg : Str → Option Value) (base : Heap) (k : Nat) (C : Addr) (m : Str) (ds : List D) (post : O → Prop) : Prop where
  ex : ∃ (f : Addr) (fd : FuncData) (ps : List Str), Meth K C m f ∧ Binds K fd ps [] ∧ FnOk P w K mg base CX0 k f fd ps (spV K ds post)
theorem look_none {K : PySem.W.Frag} {C g : Addr} {m : Str} {fs : List (Str × V)} (hm : Meth K C m g) (h : ∀ f, fs.lookup f ≠ none → NoAttr K C f) : fs.lookup m = none := by
  cases e : fs.lookup m with
  | none => rfl
  | some v =>
    have := h m (by rw [e]; simp)
    unfold NoAttr at this
    rw [hm.at_] at this
    cases this
theorem EvN.meth0 {pl : Sem Bool} (F : VM X.prog X.w X.K X.mg X.base k C m [.ob C ks ds] post) (hc : Cls X.K C) (hr : Room k X.A) (h : Ev X ρ e (.ob C ks ds))
    (ht : eval (.Call (.Attribute e m apos) [] [] pos) X.env = (do
      let ov ← eval e X.env
      standAt apos.atName
      let (f, first) ← holding [ov] (getMethod ov m pl)
      callWith pos f first (backTo pos (starEach [] X.env)) (backToKw pos (keywordEach [] X.env))) := by rfl) : EvN X ρ (.Call (.Attribute e m apos) [] [] pos) post := by
  obtain ⟨f, fd, ps, h1, h3, h4⟩ := F.ex
  refine ⟨fun σ H en Q q => we_of (pe_meth0 (pl := pl) (E := E0) pe_we hc h1 h4 hr h3 .nil pass0 ht) (h.run σ H en _ fun v H1 s1 r1 => ?_)⟩
  have r1' := r1
  cases r1 with
  | @ob a _ dx fs _ vs _ g1 g2 g3 g6 g4 g5 =>
    refine ⟨a, dx, fs, rfl, g1, look_none h1 g6, ?_⟩
    show spV X.K _ post ([V.ref a] ++ []) H1 Q E0
    rw [List.append_nil]
    exact ⟨.cons r1' .nil, fun o' v H' A po s2 fr nd ro => q o' v H' A po (s1.trans s2) (fun a ha => s1.free (fr a ha)) nd ro⟩
theorem EvN.evO (h : EvN X ρ e fun o' => o' = o) : EvO X ρ e o := ⟨fun σ H en Q q => h.run σ H en Q fun o' v H' A p s f n r => q v H' A s f n (p ▸ r)⟩
theorem EvN.mono {post' : O → Prop} (h : EvN X ρ e post) (m : ∀ o, post o → post' o) : EvN X ρ e post' := ⟨fun σ H en Q q => h.run σ H en Q fun o' v H' A p => q o' v H' A (m o' p)⟩
end

/-! ### own arguments: what a def does to them -/
def spG (K : PySem.W.Frag) (ws : List W) (post : List W → W → Prop) : Sp := fun vs H Q _ => vs.length = ws.length ∧ ∃ F, EnvA K (mask H (allOf F ws.length)) (vs.map some) H (ws.map some) F ∧
  ∀ ws' w r H', ws'.length = ws.length → post ws' w → EnvW K (mask H (allOf F ws.length)) (vs.map some ++ [some r]) H' (ws'.map some ++ [some w]) → Q r H'
def Shape (w w' : W) : Prop := (∃ d, w = .sh d ∧ w' = .sh d) ∨ ∃ a o d o' d', w = .ow (.pin a o) d ∧ w' = .ow (.pin a o') d'
def startG (n : Nat) (ws : List W) : RhoW := ws.map some ++ List.replicate (n - ws.length) none
/-- at the end of a body the slots of own arguments hold what is told -/
def EndG (ws : List W) (post : List W → W → Prop) (ρ : RhoW) (w : W) : Prop := ∃ ws' : List W, ws'.length = ws.length ∧ (∀ (i : Nat) x y, ws[i]? = some x → ws'[i]? = some y → Shape x y ∧ ∀ o d, y = .ow o d → ρ[i]? = some (some y)) ∧ post ws' w
section
variable {P : Program} {w : World} {K : PySem.W.Frag} {mg : Str → Option Value} {base : Heap}
theorem EnvA.sh_rep {H0 H : Hp} {σ : L2.St} {ρ : RhoW} {F : Nat → List Addr} (E : EnvA K H0 σ H ρ F) (hb : H0 = mask H (allOf F ρ.length)) {i : Nat} {d : D} (h : ρ[i]? = some (some (.sh d))) : ∃ v, σ[i]? = some (some v) ∧ Rep K H0 v d := by
  obtain ⟨v, e, r⟩ := E.get i _ h
  exact ⟨v, e, hb ▸ r.1⟩
/-- the slots' ends: own arguments are where they were, shared ones stand -/
theorem endG {H0 H H' : Hp} {vs : List V} {ws ws' : List W} {F : Nat → List Addr} (E : EnvA K H0 (vs.map some) H (ws.map some) F) (hb : H0 = mask H (allOf F ws.length)) (hl : vs.length = ws.length) {σ : L2.St} {ρ : RhoW} {r : V} {w : W} (hn : ws.length ≤ ρ.length) (E' : EnvW K H0 (σ ++ [some r]) H' (ρ ++ [some w]))
    (hl' : ws'.length = ws.length) (hs : ∀ (i : Nat) x y, ws[i]? = some x → ws'[i]? = some y → Shape x y ∧ ∀ o d, y = .ow o d → ρ[i]? = some (some y)) : EnvW K H0 (vs.map some ++ [some r]) H' (ws'.map some ++ [some w]) := by
  have hσ : σ.length = ρ.length := by have := E'.len; simpa using this
  -- the own ones and the answer
  let own : RhoW := ws'.map fun y => match y with | .ow o d => some (.ow o d) | .sh _ => none
  have ol : own.length = ws.length := by simp [own, hl']
  have E1 : EnvW K H0 (vs.map some ++ [some r]) H' (own ++ [some w]) := by
    refine E'.remap (fun j => if j = ws.length then some ρ.length else if j < ws.length then some j else none) (by simp [ol, hl]) (fun j x h => ?_) fun j j' k h1 h2 => ?_
    · by_cases hj : j < ws.length
      · rw [List.getElem?_append_left (by rw [ol]; exact hj)] at h
        have h : (ws'.map fun y => match y with | W.ow o d => some (W.ow o d) | W.sh _ => none)[j]? = some (some x) := h
        rw [List.getElem?_map, List.getElem?_eq_getElem (by omega : j < ws'.length)] at h
        obtain ⟨sh, so⟩ := hs j ws[j] ws'[j] (List.getElem?_eq_getElem hj) (List.getElem?_eq_getElem (by omega))
        generalize ws'[j] = y at h sh so
        cases y with
        | sh d => cases h
        | ow o d =>
          have hx : W.ow o d = x := Option.some.inj (Option.some.inj h)
          subst hx
          have hρ := so o d rfl
          refine ⟨j, by simp [show ¬ j = ws.length by omega, hj], by rw [List.getElem?_append_left (by omega)]; exact hρ, ?_⟩
          rcases sh with ⟨d0, _, q⟩ | ⟨a, o1, d1, o2, d2, q1, q2⟩
          · cases q
          · obtain ⟨F', E'⟩ := E'
            obtain ⟨v1, e1, r1⟩ := E.get j ws[j] (by rw [List.getElem?_map, List.getElem?_eq_getElem hj]; rfl)
            obtain ⟨v2, e2, r2⟩ := E'.get j (.ow o d) (by rw [List.getElem?_append_left (by omega)]; exact hρ)
            rw [q1] at r1
            cases q2
            have hv1 : v1 = .ref a := by
              have r1 := r1.2
              generalize F j = Fj at r1
              cases r1 with
              | pin _ => rfl
            have hv2 : v2 = .ref a := by
              have r2 := r2.2
              generalize F' j = Fj at r2
              cases r2 with
              | pin _ => rfl
            rw [e2, hv2, List.getElem?_append_left (by simp; omega), e1, hv1]
      · have hj2 := (List.getElem?_eq_some_iff.mp h).1
        simp [ol] at hj2
        have e : j = ws.length := by omega
        subst e
        rw [List.getElem?_append_right (by omega)] at h
        simp [ol] at h
        subst h
        refine ⟨ρ.length, by simp, by simp, ?_⟩
        rw [← hσ, ← hl]
        simp
    · try dsimp only at h1 h2
      split at h1 <;> split at h2
      · omega
      · split at h2
        · cases h1; cases h2; omega
        · cases h2
      · split at h1
        · cases h1; cases h2; omega
        · cases h1
      · split at h1 <;> split at h2 <;> first | (cases h1; cases h2; rfl) | (cases h2; done) | (cases h1; done)
  -- the shared ones
  obtain ⟨F1, E1⟩ := E1
  let G : Nat → List Addr := F1
  have hall : allOf F1 (ws'.map some ++ [some w]).length = allOf F1 (own ++ [some w]).length := by simp [ol, hl']
  refine ⟨F1, by simp [hl, hl'], E1.nd, E1.dj, by rw [hall]; exact E1.fresh, E1.same, fun i x h => ?_, fun i h => ?_⟩
  · rw [hall]
    by_cases hi : i < ws.length
    · rw [List.getElem?_append_left (by simp; omega), List.getElem?_map, List.getElem?_eq_getElem (by omega : i < ws'.length)] at h
      have hx : ws'[i] = x := Option.some.inj (Option.some.inj h)
      obtain ⟨sh, so⟩ := hs i ws[i] ws'[i] (List.getElem?_eq_getElem hi) (List.getElem?_eq_getElem (by omega))
      rw [hx] at sh so
      rcases sh with ⟨d, q1, q2⟩ | ⟨a, o1, d1, o2, d2, q1, q2⟩
      · obtain ⟨v, e, rv⟩ := E.sh_rep (by simpa using hb) (i := i) (d := d) (by rw [List.getElem?_map, List.getElem?_eq_getElem hi, q1]; rfl)
        refine ⟨v, by rw [List.getElem?_append_left (by simp; omega)]; exact e, ?_⟩
        subst q2
        refine ⟨rv.mono (mask_same_of E1.same fun a ha => E1.fresh a ha), E1.off i fun w' z => ?_⟩
        rw [List.getElem?_append_left (by rw [ol]; exact hi)] at z
        have z : (ws'.map fun y => match y with | W.ow o d => some (W.ow o d) | W.sh _ => none)[i]? = some (some w') := z
        rw [List.getElem?_map, List.getElem?_eq_getElem (by omega : i < ws'.length), hx] at z
        cases z
      · subst q2
        refine E1.get i _ ?_
        rw [List.getElem?_append_left (by rw [ol]; exact hi)]
        show (ws'.map fun y => match y with | W.ow o d => some (W.ow o d) | W.sh _ => none)[i]? = _
        rw [List.getElem?_map, List.getElem?_eq_getElem (by omega : i < ws'.length), hx]; rfl
    · refine E1.get i x ?_
      have hi2 := (List.getElem?_eq_some_iff.mp h).1
      simp [hl'] at hi2
      have e : i = ws.length := by omega
      subst e
      rw [List.getElem?_append_right (by simp; omega)] at h
      simp [hl'] at h
      subst h
      rw [List.getElem?_append_right (by omega)]
      simp [ol]
  · refine E1.off i fun x z => ?_
    have hi2 := (List.getElem?_eq_some_iff.mp z).1
    simp [ol] at hi2
    by_cases hi : i < ws.length
    · exact h ws'[i] (by rw [List.getElem?_append_left (by simp; omega), List.getElem?_map, List.getElem?_eq_getElem (by omega : i < ws'.length)]; rfl)
    · have e : i = ws.length := by omega
      subst e
      exact h w (by rw [List.getElem?_append_right (by simp; omega)]; simp [hl'])
theorem fnOk_ofG {x qual : Str} {st : Stmt} {f : Addr} {fd : FuncData} {N ps : List Str} {k : Nat} {ws : List W} {post : List W → W → Prop} {ρ : RhoW} (F : Fun K x qual st f fd) (S : FnScope N ps (defScope st)) (hl : ps.length = ws.length) (hρ : startG N.length ws = ρ)
    (h : ∀ (cdv : Value) (A : Around) (outer : List Env) (s : Shared) (H : Hp) (E : XK), Room k (cxOf CX0 P w K mg base N qual (defScope st) f cdv A outer s H E).A →
      Ws (cxOf CX0 P w K mg base N qual (defScope st) f cdv A outer s H E).nox ρ (defBody st) { nx := fun ρ => EndG ws post ρ (.sh .non), rt := fun _ => False, rs := EndG ws post }) : FnOk P w K mg base CX0 (k + 1) f fd ps (spG K ws post) := by
  have hN : ps.length ≤ N.length := by have := congrArg List.length S.pre; rw [List.length_take] at this; omega
  refine F.ok S (fun vs H Q E q => by rw [hl]; exact q.1) fun cdv A outer s H vs Q E hr q => ?_
  obtain ⟨lv, F0, E0', q⟩ := q
  have hb : mask H (allOf F0 ws.length) = mask H (allOf F0 ws.length) := rfl
  refine ⟨_, pss_wss, ?_⟩
  have En : EnvW K (mask H (allOf F0 ws.length)) (L2.start N vs) H ρ := by
    subst hρ
    refine EnvW.remap (fun j => if j < ws.length then some j else none) ⟨F0, E0'⟩ ?_ (fun j y hj => ?_) fun j j' i h1 h2 => ?_
    · unfold L2.start startG; simp [lv]; try omega
    · unfold startG at hj
      by_cases hjw : j < ws.length
      · rw [List.getElem?_append_left (by simpa using hjw)] at hj
        refine ⟨j, by simp [hjw], hj, ?_⟩
        unfold L2.start
        rw [List.getElem?_append_left (by simp; omega)]
      · rw [List.getElem?_append_right (by simpa using hjw), List.getElem?_replicate] at hj
        split at hj <;> cases hj
    · try dsimp only at h1 h2
      split at h1 <;> split at h2 <;> first | (cases h1; cases h2; rfl) | (cases h2; done) | (cases h1; done)
  have hρl : ws.length ≤ ρ.length := by subst hρ; unfold startG; simp
  refine (h cdv A outer s H E hr).run (mask H (allOf F0 ws.length)) (L2.start N vs) H _ En ⟨fun σ H' ρ' p l E' => ?_, fun σ H' ρ' p l E' => p.elim, fun σ H' ρ' p l E' => p.elim, fun o v H' A p s f nd r => p.elim, fun σ v w' H' ρ' p l E' => ?_, fun _ _ _ p => p.elim⟩
  · obtain ⟨ws', l', hs, pp⟩ := p
    obtain ⟨F', E2⟩ := E'
    exact q ws' (.sh .non) .non H' l' pp (endG E0' (by simp) lv (by omega) ⟨_, E2.pushS .non⟩ l' hs)
  · obtain ⟨ws', l', hs, pp⟩ := p
    exact q ws' w' v H' l' pp (endG E0' (by simp) lv (by omega) E' l' hs)
end
end VL
set_option Elab.async false
set_option linter.all false
set_option maxRecDepth 100000
set_option maxHeartbeats 1000000
/-! value layer, part 18: objects made and changed -/
namespace VL
open PySem L2
section
variable {K : PySem.W.Frag} {H0 H S M : Hp} {v r : V} {w : W} {o o' : O} {d d' d0 : D} {A B as bs : List Addr} {σ : L2.St} {ρ : RhoW} {F : Nat → List Addr}
/-- the cells of all slots but one -/
def othersOf (F : Nat → List Addr) (n i : Nat) : List Addr := (List.range n).flatMap fun j => if j = i then [] else F j
theorem mem_others {n i : Nat} {a : Addr} : a ∈ othersOf F n i ↔ ∃ j, j < n ∧ j ≠ i ∧ a ∈ F j := by
  unfold othersOf
  simp only [List.mem_flatMap, List.mem_range]
  constructor
  · rintro ⟨j, hj, h⟩
    split at h
    · cases h
    · exact ⟨j, hj, by assumption, h⟩
  · rintro ⟨j, hj, hji, h⟩
    exact ⟨j, hj, by rw [if_neg hji]; exact h⟩
theorem EnvA.hid1 (E : EnvA K H0 σ H ρ F) (i : Nat) : Hid H (F i) := by
  cases e : ρ[i]? with
  | none => rw [E.off i (fun w z => by rw [e] at z; cases z)]; exact Hid.nil
  | some q =>
    cases q with
    | none => rw [E.off i (fun w z => by rw [e] at z; cases z)]; exact Hid.nil
    | some w =>
      obtain ⟨v, _, r⟩ := E.get i w e
      exact r.cells
theorem EnvA.hidO (E : EnvA K H0 σ H ρ F) (i : Nat) : Hid H (othersOf F ρ.length i) := fun a ha => by
  obtain ⟨j, hj, hji, h⟩ := mem_others.mp ha
  rcases E.hid1 j a h with q | ⟨C, dx, fs, e, d⟩ | ⟨y, C, fs, e, d, e2⟩
  · exact .inl q
  · exact .inr (.inl ⟨C, dx, fs, e, mem_others.mpr ⟨j, hj, hji, d⟩⟩)
  · exact .inr (.inr ⟨y, C, fs, e, mem_others.mpr ⟨j, hj, hji, d⟩, e2⟩)
theorem EnvA.apart (E : EnvA K H0 σ H ρ F) {i : Nat} {a : Addr} (ha : a ∈ F i) : a ∉ othersOf F ρ.length i := fun z => by
  obtain ⟨j, _, hji, h⟩ := mem_others.mp z
  exact hji (E.dj j i a h ha)
theorem EnvA.mem_all (E : EnvA K H0 σ H ρ F) {i : Nat} {a : Addr} : a ∈ allOf F ρ.length ↔ a ∈ F i ∨ a ∈ othersOf F ρ.length i := by
  constructor
  · intro h
    obtain ⟨j, hj, h⟩ := mem_allOf.mp h
    by_cases e : j = i
    · subst e; exact .inl h
    · exact .inr (mem_others.mpr ⟨j, hj, e, h⟩)
  · rintro (h | h)
    · exact E.mem h
    · obtain ⟨j, hj, _, h⟩ := mem_others.mp h
      exact E.mem h
theorem EnvA.mask2 (E : EnvA K H0 σ H ρ F) (i : Nat) : mask (mask H (othersOf F ρ.length i)) (F i) = mask H (allOf F ρ.length) := by
  funext b
  by_cases h1 : b ∈ F i
  · rw [mask_in h1, mask_in (E.mem h1)]
  · by_cases h2 : b ∈ othersOf F ρ.length i
    · rw [mask_out h1, mask_in h2, mask_in ((E.mem_all (i := i)).mpr (.inr h2))]
    · rw [mask_out h1, mask_out h2, mask_out fun z => ((E.mem_all (i := i)).mp z).elim h1 h2]
theorem EnvA.hidM (E : EnvA K H0 σ H ρ F) (i : Nat) : Hid (mask H (othersOf F ρ.length i)) (F i) := (E.hid1 i).up fun a ha u e => by rw [mask_out (E.apart ha)]; exact e
/-- slot i's thing changed while all else is put aside -/
theorem EnvA.back (E : EnvA K H0 σ H ρ F) {i : Nat} (hi : i < ρ.length) (hv : σ[i]? = some (some v)) (s : Same (mask H (allOf F ρ.length)) M) (n : ∀ a ∈ othersOf F ρ.length i, M a = none) (nd : (A ++ B).Nodup) (fr : ∀ a ∈ A ++ B, mask H (allOf F ρ.length) a = none)
    (r1 : RepO K M (mask M (A ++ B)) v o' A) (hd : o'.data = d') (r2 : RepW K M (mask M (A ++ B)) r w B) : EnvW K H0 (σ ++ [some r]) (join M H (othersOf F ρ.length i)) (ρ.set i (some (.ow o' d')) ++ [some w]) := by
  have hσ := E.len
  have someM : ∀ a, a ∈ A ∨ a ∈ B → M a ≠ none := fun a h => h.elim (fun h => r1.cells.some h) (fun h => r2.cells.some h)
  have nO : ∀ a, a ∈ A ∨ a ∈ B → a ∉ othersOf F ρ.length i := fun a h z => someM a h (n a z)
  have jM : ∀ b u, M b = some u → join M H (othersOf F ρ.length i) b = some u := fun b u e => by rw [join_out (fun z => by rw [n b z] at e; cases e)]; exact e
  have fresh : ∀ a, a ∈ A ∨ a ∈ B → H a = none ∨ a ∈ F i := fun a h => by
    by_cases hF : a ∈ F i
    · exact .inr hF
    · have := fr a (List.mem_append.mpr h)
      rw [mask_out (fun z => ((E.mem_all (i := i)).mp z).elim hF (nO a h))] at this
      exact .inl this
  have fresh0 : ∀ a, a ∈ A ∨ a ∈ B → H0 a = none := fun a h => (fresh a h).elim (fun h => E.same.free h) (fun h => E.fresh a (E.mem h))
  let G : Nat → List Addr := fun j => if j = i then A else if j = ρ.length then B else F j
  have Gother : ∀ j a, j ≠ i → j ≠ ρ.length → a ∈ G j → a ∈ othersOf F ρ.length i := fun j a h1 h2 ha => by
    dsimp only [G] at ha
    rw [if_neg h1, if_neg h2] at ha
    refine mem_others.mpr ⟨j, ?_, h1, ha⟩
    obtain ⟨k, hk, hx⟩ := mem_allOf.mp (E.mem ha)
    rw [E.dj j k a ha hx]; exact hk
  have hall : ∀ a, a ∈ allOf G (ρ.set i (some (.ow o' d')) ++ [some w]).length ↔ a ∈ A ∨ a ∈ B ∨ a ∈ othersOf F ρ.length i := fun a => by
    rw [mem_allOf]
    constructor
    · rintro ⟨j, hj, h⟩
      by_cases e1 : j = i
      · dsimp only [G] at h; rw [if_pos e1] at h; exact .inl h
      · by_cases e2 : j = ρ.length
        · dsimp only [G] at h; rw [if_neg e1, if_pos e2] at h; exact .inr (.inl h)
        · exact .inr (.inr (Gother j a e1 e2 h))
    · rintro (h | h | h)
      · exact ⟨i, by simp; omega, by dsimp only [G]; rw [if_pos rfl]; exact h⟩
      · exact ⟨ρ.length, by simp, by dsimp only [G]; rw [if_neg (by omega), if_pos rfl]; exact h⟩
      · obtain ⟨j, hj, hji, h⟩ := mem_others.mp h
        exact ⟨j, by simp; omega, by dsimp only [G]; rw [if_neg hji, if_neg (by omega)]; exact h⟩
  have hmask : mask (join M H (othersOf F ρ.length i)) (allOf G (ρ.set i (some (.ow o' d')) ++ [some w]).length) = mask M (A ++ B) := by
    funext b
    by_cases hb : b ∈ A ++ B
    · rw [mask_in hb, mask_in ((hall b).mpr ((List.mem_append.mp hb).elim .inl (fun h => .inr (.inl h))))]
    · by_cases ho : b ∈ othersOf F ρ.length i
      · rw [mask_in ((hall b).mpr (.inr (.inr ho))), mask_out hb, n b ho]
      · rw [mask_out (fun z => ((hall b).mp z).elim (fun h => hb (List.mem_append_left _ h)) (fun h => h.elim (fun h => hb (List.mem_append_right _ h)) ho)), join_out ho, mask_out hb]
  have sM : Same (mask H (allOf F ρ.length)) (mask M (A ++ B)) := mask_same_of s fr
  obtain ⟨ndA, ndB, ndAB⟩ := List.nodup_append.mp nd
  refine ⟨G, by simp [hσ], fun j => ?_, fun j k a h1 h2 => ?_, fun a ha => ?_, fun b u e => ?_, fun j x hx => ?_, fun j hj => ?_⟩
  · dsimp only [G]
    split
    · exact ndA
    · split
      · exact ndB
      · exact E.nd j
  · by_cases j1 : j = i <;> by_cases k1 : k = i
    · rw [j1, k1]
    · dsimp only [G] at h1 h2
      rw [if_pos j1] at h1
      by_cases k2 : k = ρ.length
      · rw [if_neg k1, if_pos k2] at h2; exact absurd rfl (ndAB a h1 a h2)
      · exact absurd (Gother k a k1 k2 h2) (nO a (.inl h1))
    · dsimp only [G] at h1 h2
      rw [if_pos k1] at h2
      by_cases j2 : j = ρ.length
      · rw [if_neg j1, if_pos j2] at h1; exact absurd rfl (ndAB a h2 a h1)
      · exact absurd (Gother j a j1 j2 h1) (nO a (.inl h2))
    · by_cases j2 : j = ρ.length <;> by_cases k2 : k = ρ.length
      · rw [j2, k2]
      · dsimp only [G] at h1 h2
        rw [if_neg j1, if_pos j2] at h1
        exact absurd (Gother k a k1 k2 h2) (nO a (.inr h1))
      · dsimp only [G] at h1 h2
        rw [if_neg k1, if_pos k2] at h2
        exact absurd (Gother j a j1 j2 h1) (nO a (.inr h2))
      · dsimp only [G] at h1 h2
        rw [if_neg j1, if_neg j2] at h1
        rw [if_neg k1, if_neg k2] at h2
        exact E.dj j k a h1 h2
  · rcases (hall a).mp ha with h | h | h
    · exact fresh0 a (.inl h)
    · exact fresh0 a (.inr h)
    · obtain ⟨j, hj, _, h⟩ := mem_others.mp h
      exact E.fresh a (E.mem h)
  · have hb : b ∉ allOf F ρ.length := fun z => by rw [E.fresh b z] at e; cases e
    exact jM b u (s b u (by rw [mask_out hb]; exact E.same b u e))
  · rw [hmask]
    by_cases j1 : j = i
    · subst j1
      rw [List.getElem?_append_left (by simpa using hi), List.getElem?_set_self hi] at hx
      obtain rfl := Option.some.inj (Option.some.inj hx)
      refine ⟨v, by rw [List.getElem?_append_left (by omega)]; exact hv, hd, ?_⟩
      dsimp only [G]
      rw [if_pos rfl]
      exact r1.keep (fun a _ u e => jM a u e) (Same.refl _)
    · by_cases j2 : j = ρ.length
      · subst j2
        rw [List.getElem?_append_right (by simp)] at hx
        simp at hx
        subst hx
        refine ⟨r, by rw [← hσ]; simp, ?_⟩
        dsimp only [G]
        rw [if_neg (by omega), if_pos rfl]
        exact r2.keep (fun a _ u e => jM a u e) (Same.refl _)
      · have hj : j < ρ.length := by
          have := (List.getElem?_eq_some_iff.mp hx).1
          simp at this; omega
        rw [List.getElem?_append_left (by simpa using hj), List.getElem?_set_ne (Ne.symm j1)] at hx
        obtain ⟨u, e, ru⟩ := E.get j x hx
        refine ⟨u, by rw [List.getElem?_append_left (by omega)]; exact e, ?_⟩
        dsimp only [G]
        rw [if_neg j1, if_neg j2]
        exact ru.keep (fun a ha z hz => by rw [join_in (mem_others.mpr ⟨j, hj, j1, ha⟩)]; exact hz) sM
  · by_cases j1 : j = i
    · subst j1
      exact absurd (by rw [List.getElem?_append_left (by simpa using hi), List.getElem?_set_self hi]) (hj (.ow o' d'))
    · by_cases j2 : j = ρ.length
      · subst j2
        exact absurd (by rw [List.getElem?_append_right (by simp)]; simp) (hj w)
      · dsimp only [G]
        rw [if_neg j1, if_neg j2]
        refine E.off j fun x e => hj x ?_
        have hj2 := (List.getElem?_eq_some_iff.mp e).1
        rw [List.getElem?_append_left (by simpa using hj2), List.getElem?_set_ne (Ne.symm j1)]
        exact e
end

/-! ### methods that change their object -/
/-- o, d0: the object ahead; ds: the arguments; post: the object behind, the answer -/
structure GM (P : Program) (w : World) (K : PySem.W.Frag) (mg : Str → Option Value) (base : Heap) (k : Nat) (C : Addr) (m : Str) (o : O) (d0 : D) (ds : List D) (post : O → D → W → Prop) : Prop where
  ex : ∃ (f : Addr) (fd : FuncData) (ps : List Str), Meth K C m f ∧ Binds K fd ps [] ∧ ∀ a, FnOk P w K mg base CX0 k f fd ps (spG K (.ow (.pin a o) d0 :: ds.map W.sh) fun ws' w => ∃ o' d', ws' = .ow (.pin a o') d' :: ds.map W.sh ∧ post o' d' w)
section
variable {X : Cx} {ρ : RhoW} {e : Expr} {es : List Expr} {x m : Str} {p q1 apos pos : Pos} {C : Addr} {ks : List Str} {xs : List O} {d0 : D} {ds : List D} {k : Nat} {post : O → D → W → Prop} {Ψ : W → RhoW → Prop}
theorem RepW.shs {K : PySem.W.Frag} {H S : Hp} {vs : List V} (r : Reps K S vs ds) : ∀ (i : Nat) (v : V) (d : D), vs[i]? = some v → ds[i]? = some d → RepW K H S v (.sh d) [] := fun i v d h1 h2 => ⟨r.2 i v d h1 h2, rfl⟩
/-- the arguments of such a call -/
theorem envG {K : PySem.W.Frag} {M1 : Hp} {a : Addr} {vs : List V} {o : O} {A : List Addr} (nd : A.Nodup) (r1 : RepO K M1 (mask M1 A) (.ref a) o A) (hd : o.data = d0) (rs : Reps K (mask M1 A) vs ds) :
    let F : Nat → List Addr := fun j => if j = 0 then A else []
    allOf F (W.ow (.pin a o) d0 :: ds.map W.sh).length = A ∧ EnvA K (mask M1 A) ((V.ref a :: vs).map some) M1 ((W.ow (.pin a o) d0 :: ds.map W.sh).map some) F := by
  intro F
  have hall : ∀ n, allOf F (n + 1) = A := fun n => by
    unfold allOf
    rw [List.range_succ_eq_map, List.flatMap_cons]
    have : (List.map Nat.succ (List.range n)).flatMap F = [] := by
      rw [List.flatMap_eq_nil_iff]
      intro j hj
      obtain ⟨i, _, rfl⟩ := List.mem_map.mp hj
      exact if_neg (by omega)
    rw [this, List.append_nil]
    exact if_pos rfl
  have ha : allOf F (W.ow (.pin a o) d0 :: ds.map W.sh).length = A := hall _
  refine ⟨ha, by simp [rs.1], fun i => ?_, fun i j b h1 h2 => ?_, fun b hb => ?_, mask_same, fun i w h => ?_, fun i h => ?_⟩
  · dsimp only [F]; split
    · exact nd
    · exact List.nodup_nil
  · dsimp only [F] at h1 h2
    split at h1
    · split at h2
      · omega
      · cases h2
    · cases h1
  · rw [show ((W.ow (.pin a o) d0 :: ds.map W.sh).map some).length = (W.ow (.pin a o) d0 :: ds.map W.sh).length by simp, ha] at hb
    exact mask_in hb
  · rw [show ((W.ow (.pin a o) d0 :: ds.map W.sh).map some).length = (W.ow (.pin a o) d0 :: ds.map W.sh).length by simp, ha]
    cases i with
    | zero =>
      simp at h
      subst h
      exact ⟨.ref a, rfl, by rw [O.data]; exact hd, by dsimp only [F]; rw [if_pos rfl]; exact .pin r1⟩
    | succ i =>
      simp only [List.map_cons, List.getElem?_cons_succ, List.getElem?_map] at h
      obtain ⟨y, hy, hw⟩ := Option.map_eq_some_iff.mp h
      obtain ⟨d, hd2, rfl⟩ := Option.map_eq_some_iff.mp hy
      obtain rfl := Option.some.inj hw
      obtain ⟨v, hv, rv⟩ := rs.get hd2
      exact ⟨v, by simp [hv], rv, by dsimp only [F]; rw [if_neg (by omega)]⟩
  · dsimp only [F]
    split
    · rename_i e; subst e
      exact absurd rfl (h _)
    · rfl
/-- what such a call leaves -/
theorem outG {K : PySem.W.Frag} {M1 M : Hp} {a : Addr} {vs : List V} {A : List Addr} {o' : O} {d' : D} {w : W} {r : V} (E : EnvW K (mask M1 A) ((V.ref a :: vs).map some ++ [some r]) M ((W.ow (.pin a o') d' :: ds.map W.sh).map some ++ [some w])) (hl : vs.length = ds.length) :
    ∃ A' B, (A' ++ B).Nodup ∧ (∀ b ∈ A' ++ B, mask M1 A b = none) ∧ Same (mask M1 A) M ∧ RepO K M (mask M (A' ++ B)) (.ref a) o' A' ∧ o'.data = d' ∧ RepW K M (mask M (A' ++ B)) r w B := by
  obtain ⟨F, E⟩ := E
  obtain ⟨v0, e0, r0⟩ := E.get 0 (.ow (.pin a o') d') (by simp)
  have ev : v0 = .ref a := by simp at e0; exact e0.symm
  subst ev
  obtain ⟨v1, e1, r1⟩ := E.get ((W.ow (.pin a o') d' :: ds.map W.sh).map some).length w (by simp)
  have ev : v1 = r := by
    rw [List.getElem?_append_right (by simp [hl])] at e1
    simp [hl] at e1; exact e1.symm
  subst ev
  have hn : 0 ≠ ((W.ow (.pin a o') d' :: ds.map W.sh).map some).length := by simp
  have sub : ∀ b ∈ F 0 ++ F ((W.ow (.pin a o') d' :: ds.map W.sh).map some).length, b ∈ allOf F ((W.ow (.pin a o') d' :: ds.map W.sh).map some ++ [some w]).length := fun b hb => (List.mem_append.mp hb).elim (fun h => E.mem h) (fun h => E.mem h)
  refine ⟨F 0, F ((W.ow (.pin a o') d' :: ds.map W.sh).map some).length, List.nodup_append.mpr ⟨E.nd _, E.nd _, fun b h1 c h2 e => hn (E.dj _ _ b h1 (e ▸ h2))⟩, fun b hb => E.fresh b (sub b hb), E.same, ?_, r0.1, r1.keep (fun _ _ _ z => z) (mask_sub sub)⟩
  have q := r0.2
  generalize F 0 = F0 at q sub
  cases q with
  | pin h => exact h.keep (fun _ _ _ z => z) (mask_sub sub)
theorem EvW.mut {pl : Sem Bool} (i : Nat) (F : GM X.prog X.w X.K X.mg X.base k C m (.ob C ks xs) d0 ds post) (hc : Cls X.K C) (hr : Room k X.A) (ha : EvA X (hide ρ) (e :: es) ds) (hk : ∀ o' d' w, post o' d' w → Ψ w (ρ.set i (some (.ow o' d'))))
    (hN : X.N[i]? = some x := by rfl) (hρ : ρ[i]? = some (some (.ow (.ob C ks xs) d0)) := by rfl) (hpv : PE X (.Name x p) (tVar i) := by exact pv _)
    (hst : starEach (e :: es) X.env = (false, eval e X.env) :: starEach es X.env := by rfl) (hpl : (backTo pos (starEach es X.env)).any (·.1) = false := by rfl)
    (ht : eval (.Call (.Attribute (.Name x p) m apos) (e :: es) [] pos) X.env = (do
      let ov ← eval (.Name x p) X.env
      standAt apos.atName
      let (f, first) ← holding [ov] (getMethod ov m pl)
      callWith pos f first (backTo pos (starEach (e :: es) X.env)) (backToKw pos (keywordEach [] X.env))) := by rfl) : EvW X ρ (.Call (.Attribute (.Name x p) m apos) (e :: es) [] pos) Ψ := ⟨fun H0 σ H ⟨G, E⟩ Q q => by
  obtain ⟨f, fd, ps, h1, h3, h4⟩ := F.ex
  have hi := (List.getElem?_eq_some_iff.mp hρ).1
  obtain ⟨v, hσ, rv⟩ := E.get i _ hρ
  have ro := rv.2
  have hF : ∃ a dx fs, v = .ref a ∧ H a = some (.ins C dx fs) ∧ (∀ f, fs.lookup f ≠ none → NoAttr X.K C f) ∧ a ∈ G i := by
    generalize G i = Gi at ro
    cases ro with
    | @ob a _ dx fs _ vs _ As g1 g2 gz g3 g4 g5 g6 g7 g8 => exact ⟨a, dx, fs, rfl, g1, g5, by simp⟩
  obtain ⟨a, dx, fs, rfl, ga, gn, gm⟩ := hF
  have m2 := E.mask2 i
  refine (WE.frame (E.hidO i) (we_of (pe_meth (pl := pl) (E := E0) hpv hc h1 (h4 a) hr h3 .nil pass0 pa_wa hst hpl ht) ⟨.ref a, hσ, a, dx, fs, rfl, by rw [mask_out (E.apart gm)]; exact ga, look_none h1 gn, ?_⟩ :
    WE X (.Call (.Attribute (.Name x p) m apos) (e :: es) [] pos) σ (mask H (othersOf G ρ.length i)) (fun r M => ∃ o' d' w A B, post o' d' w ∧ (A ++ B).Nodup ∧ (∀ a ∈ A ++ B, mask H (allOf G ρ.length) a = none) ∧ Same (mask H (allOf G ρ.length)) M ∧ RepO X.K M (mask M (A ++ B)) (.ref a) o' A ∧ o'.data = d' ∧ RepW X.K M (mask M (A ++ B)) r w B))).mono ?_
  · refine (WA.frame (E.hidM i) (ha.run σ (mask (mask H (othersOf G ρ.length i)) (G i)) (by rw [m2]; exact E.envH) (fun vs M => Same (mask H (allOf G ρ.length)) M ∧ Reps X.K M vs ds) fun vs M s r => ⟨by rw [← m2]; exact s, r⟩)).mono ?_
    rintro vs M1 ⟨M, ⟨s, rs⟩, rfl, n, up⟩
    -- the heap ahead of the call
    have hmM : mask (join M (mask H (othersOf G ρ.length i)) (G i)) (G i) = M := by rw [mask_join, mask_of_none n]
    have r1 : RepO X.K (join M (mask H (othersOf G ρ.length i)) (G i)) (mask (join M (mask H (othersOf G ρ.length i)) (G i)) (G i)) (.ref a) (.ob C ks xs) (G i) := by
      rw [hmM]
      exact ro.keep (fun b hb u z => by rw [join_in hb, mask_out (E.apart hb)]; exact z) s
    obtain ⟨eA, EG⟩ := envG (ds := ds) (d0 := d0) (vs := vs) (E.nd i) r1 rv.1 (by rw [hmM]; exact rs)
    rw [List.append_nil]
    refine ⟨by simp [rs.1], _, by rw [eA]; exact EG, fun ws' w r M' hl pp Er => ?_⟩
    obtain ⟨o', d', rfl, po⟩ := pp
    rw [eA] at Er
    obtain ⟨A', B, nd, fr, sm, q1, q2, q3⟩ := outG Er (by exact rs.1)
    rw [hmM] at fr sm
    refine ⟨o', d', w, A', B, po, nd, fun b hb => ?_, s.trans sm, q1, q2, q3⟩
    have hn := fr b hb
    cases hh : mask H (allOf G ρ.length) b with
    | none => rfl
    | some u => rw [s b u hh] at hn; cases hn
  · rintro r H' ⟨M, ⟨o', d', w, A, B, po, nd, fr, sm, q1, q2, q3⟩, rfl, n, up⟩
    exact q r _ w _ (hk o' d' w po) (by simp) (E.back hi hσ sm n nd fr q1 q2 q3)⟩
end

/-! ### an object made -/
def spI (K : PySem.W.Frag) (C : Addr) (ds : List D) (post : O → Prop) : Sp := fun vs H Q _ => ∃ (x dx : Addr) (us : List V) (H1 : Hp), vs = .ref x :: us ∧ H = upd (upd H1 dx (.own x)) x (.ins C dx []) ∧ H1 x = none ∧ H1 dx = none ∧ dx ≠ x ∧ Reps K H1 us ds ∧
  ∀ o H' A, post o → Same H1 H' → (∀ a ∈ A, H1 a = none) → A.Nodup → RepO K H' (mask H' A) (.ref x) o A → Q .non H'
structure VI (P : Program) (w : World) (K : PySem.W.Frag) (mg : Str → Option Value) (base : Heap) (k : Nat) (C : Addr) (x : Str) (ds : List D) (post : O → Prop) : Prop where
  ex : ∃ (f : Addr) (fd : FuncData) (ps : List Str), mg x = some (.ref C) ∧ Mk K C f ∧ Binds K fd ps [] ∧ FnOk P w K mg base CX0 k f fd ps (spI K C ds post)
theorem EvN.make {X : Cx} {ρ : Rho} {e : Expr} {es : List Expr} {x : Str} {p pos : Pos} {C : Addr} {ds : List D} {k : Nat} {post : O → Prop} (F : VI X.prog X.w X.K X.mg X.base k C x ds post) (hr : Room (k + 1) X.A) (ha : EvA X ρ (e :: es) ds) (hg : Gl X x := by rfl) (hdb : (x == ("__debug__" : Str)) = false := by decide)
    (he : starEach (e :: es) X.env = (false, eval e X.env) :: starEach es X.env := by rfl) (hpl : (backTo pos (starEach es X.env)).any (·.1) = false := by rfl) : EvN X ρ (.Call (.Name x p) (e :: es) [] pos) post := by
  obtain ⟨f, fd, ps, h1, h2, h3, h4⟩ := F.ex
  refine ⟨fun σ H en Q q => we_of (pe_make (E := E0) h2 h4 hr hg h1 h3 .nil pass0 pa_wa hdb he hpl) (ha.run σ H en _ fun vs H1 s1 r1 => fun y dy ny ndy nedy => ?_)⟩
  rw [List.append_nil]
  exact ⟨y, dy, vs, H1, rfl, rfl, ny, ndy, nedy, r1, fun o H' A po s2 fr nd ro => ⟨rfl, q o (.ref y) H' A po (s1.trans s2) (fun a ha => s1.free (fr a ha)) nd ro⟩⟩
section
variable {P : Program} {w : World} {K : PySem.W.Frag} {mg : Str → Option Value} {base : Heap}
theorem fnOk_ofI {x qual : Str} {st : Stmt} {f C : Addr} {fd : FuncData} {N ps : List Str} {k : Nat} {ds : List D} {post : O → Prop} (F : Fun K x qual st f fd) (S : FnScope N ps (defScope st)) (hl : ps.length = ds.length + 1)
    (h : ∀ (a : Addr) (cdv : Value) (A : Around) (outer : List Env) (s : Shared) (H : Hp) (E : XK), Room k (cxOf CX0 P w K mg base N qual (defScope st) f cdv A outer s H E).A →
      Ws (cxOf CX0 P w K mg base N qual (defScope st) f cdv A outer s H E).nox (startG N.length (.ow (.pin a (.ob C [] [])) (.ob C [] []) :: ds.map W.sh)) (defBody st) { nx := fun ρ => ∃ o d, ρ[0]? = some (some (.ow (.pin a o) d)) ∧ post o, rt := fun _ => False }) : FnOk P w K mg base CX0 (k + 1) f fd ps (spI K C ds post) := by
  have hN : ps.length ≤ N.length := by have := congrArg List.length S.pre; rw [List.length_take] at this; omega
  refine F.ok S (fun vs H Q E q => by obtain ⟨x, dx, us, H1, rfl, _, _, _, _, r, _⟩ := q; rw [hl]; simp [r.1]) fun cdv A outer s H vs Q E hr q => ?_
  obtain ⟨y, dy, us, H1, rfl, rfl, ny, ndy, ne, rs, q⟩ := q
  have mm : mask (upd (upd H1 dy (.own y)) y (.ins C dy [])) [y, dy] = H1 := by
    funext b
    by_cases hb : b ∈ [y, dy]
    · rw [mask_in hb]
      rcases List.mem_cons.mp hb with rfl | hb
      · exact ny.symm
      · obtain rfl : b = dy := by simpa using hb
        exact ndy.symm
    · rw [mask_out hb]
      simp only [List.mem_cons, List.not_mem_nil, or_false, not_or] at hb
      rw [upd_ne hb.1, upd_ne hb.2]
  have r1 : RepO K (upd (upd H1 dy (.own y)) y (.ins C dy [])) (mask (upd (upd H1 dy (.own y)) y (.ins C dy [])) [y, dy]) (.ref y) (.ob C [] []) [y, dy] := by
    have := RepO.ob (K := K) (S := mask (upd (upd H1 dy (.own y)) y (.ins C dy [])) [y, dy]) (a := y) (C := C) (dx := dy) (fs := []) (ks := []) (vs := []) (os := []) (As := []) (H := upd (upd H1 dy (.own y)) y (.ins C dy [])) upd_same (by rw [upd_ne ne]; exact upd_same) (by simp) rfl (by simp) (by simp) rfl rfl (by simp)
    exact this
  obtain ⟨eA, EG⟩ := envG (ds := ds) (d0 := .ob C [] []) (vs := us) (o := .ob C [] []) (A := [y, dy]) (by simp [ne.symm]) r1 (by rw [O.data, dataAll]) (by rw [mm]; exact rs)
  refine ⟨_, pss_wss, ?_⟩
  have En : EnvW K H1 (L2.start N (.ref y :: us)) (upd (upd H1 dy (.own y)) y (.ins C dy [])) (startG N.length (.ow (.pin y (.ob C [] [])) (.ob C [] []) :: ds.map W.sh)) := by
    rw [mm] at EG
    refine EnvW.remap (fun j => if j < (W.ow (.pin y (.ob C [] [])) (.ob C [] []) :: ds.map W.sh).length then some j else none) ⟨_, EG⟩ ?_ (fun j z hj => ?_) fun j j' i h1 h2 => ?_
    · unfold L2.start startG; simp [rs.1]
    · unfold startG at hj
      by_cases hjw : j < (W.ow (.pin y (.ob C [] [])) (.ob C [] []) :: ds.map W.sh).length
      · rw [List.getElem?_append_left (by simpa using hjw)] at hj
        refine ⟨j, by rw [if_pos hjw], hj, ?_⟩
        unfold L2.start
        rw [List.getElem?_append_left (by simp [rs.1] at hjw ⊢; omega)]
      · rw [List.getElem?_append_right (by simpa using hjw), List.getElem?_replicate] at hj
        split at hj <;> cases hj
    · try dsimp only at h1 h2
      split at h1 <;> split at h2 <;> first | (cases h1; cases h2; rfl) | (cases h2; done) | (cases h1; done)
  refine (h y cdv A outer s _ E hr).run H1 (L2.start N (.ref y :: us)) _ _ En ⟨fun σ H' ρ' p l E' => ?_, fun σ H' ρ' p l E' => p.elim, fun σ H' ρ' p l E' => p.elim, fun o v H' A p s f nd r => p.elim, fun σ v w' H' ρ' p l E' => p.elim, fun _ _ _ p => p.elim⟩
  obtain ⟨o, d, ho, po⟩ := p
  obtain ⟨F', E2⟩ := E'
  obtain ⟨v, e, r⟩ := E2.get 0 _ ho
  have r2 := r.2
  have sub : ∀ a ∈ F' 0, a ∈ allOf F' ρ'.length := fun a ha => E2.mem ha
  have nd0 := E2.nd 0
  generalize F' 0 = F0 at r2 sub nd0
  cases r2 with
  | pin h => exact q o H' F0 po E2.same (fun a ha => E2.fresh a (sub a ha)) nd0 (h.keep (fun _ _ _ z => z) (mask_sub sub))
end

/-! ### fields stored -/
theorem putF_len {f : Str} {v u : V} : ∀ {fs : List (Str × V)}, fs.lookup f = some u → (putF f v fs).length = fs.length
  | [], h => by cases h
  | (k, y) :: r, h => by
    rw [show putF f v ((k, y) :: r) = (if k = f then (k, v) :: r else (k, y) :: putF f v r) from rfl]
    by_cases hk : k = f
    · rw [if_pos hk]; rfl
    · rw [if_neg hk, List.length_cons, List.length_cons, putF_len (fs := r) (by
        rw [List.lookup_cons] at h
        have : (f == k) = false := by simpa using fun z => hk z.symm
        rw [this] at h
        exact h)]
section
variable {K : PySem.W.Frag} {H0 H S M : Hp} {v : V} {w : W} {σ : L2.St} {ρ : RhoW} {F : Nat → List Addr} {a C : Addr} {ks : List Str} {xs : List O} {d0 d' : D} {f : Str}
theorem flat_snoc {As : List (List Addr)} {B : List Addr} : (As ++ [B]).flatten = As.flatten ++ B := by simp
/-- a new field -/
theorem EnvA.fldNew (E : EnvA K H0 (σ ++ [some v]) H (ρ ++ [some w]) F) {i : Nat} (hi : ρ[i]? = some (some (.ow (.pin a (.ob C ks xs)) d0))) (hf : f ∉ ks) (hn : NoAttr K C f) (hd : (O.pin a (.ob C (ks ++ [f]) (xs ++ [w.toO]))).data = d') :
    ∃ dx fs, σ[i]? = some (some (.ref a)) ∧ H a = some (.ins C dx fs) ∧ fs.length ≤ ks.length ∧ EnvW K H0 σ (upd H a (.ins C dx (putF f v fs))) (ρ.set i (some (.ow (.pin a (.ob C (ks ++ [f]) (xs ++ [w.toO]))) d'))) := by
  have hl : σ.length = ρ.length := by have := E.len; simpa using this
  have hi' := (List.getElem?_eq_some_iff.mp hi).1
  obtain ⟨v0, e0, r0⟩ := E.get i _ (by rw [List.getElem?_append_left hi']; exact hi)
  rw [List.getElem?_append_left (by omega)] at e0
  obtain ⟨v1, e1, r1⟩ := E.get ρ.length w (by simp)
  have ev : v1 = v := by rw [← hl] at e1; simp at e1; exact e1.symm
  subst ev
  have ro := r0.2
  have rw' := r1.toO
  have nd := E.nd i
  have mem : ∀ b ∈ F i, b ∈ allOf F (ρ ++ [some w]).length := fun b hb => E.mem hb
  have memB : ∀ b ∈ F ρ.length, b ∈ allOf F (ρ ++ [some w]).length := fun b hb => E.mem hb
  have dis : ∀ b, b ∈ F i → b ∈ F ρ.length → False := fun b h1 h2 => by have := E.dj _ _ b h1 h2; omega
  have hFi : ∃ Fi, F i = Fi := ⟨_, rfl⟩
  obtain ⟨Fi, hFi⟩ := hFi
  rw [hFi] at ro nd mem dis
  cases ro with
  | pin ro =>
  cases ro with
  | @ob _ _ dx fs _ vs _ As g1 g2 gz g3 g4 g5 g6 g7 g8 =>
  refine ⟨dx, fs, e0, g1, gz, ?_⟩
  let G : Nat → List Addr := fun j => if j = i then a :: dx :: (As ++ [F ρ.length]).flatten else if j = ρ.length then [] else F j
  have hG : ∀ b j, b ∈ G j → (j = i ∧ (b ∈ F i ∨ b ∈ F ρ.length)) ∨ (j ≠ i ∧ j ≠ ρ.length ∧ b ∈ F j) := fun b j h => by
    dsimp only [G] at h
    by_cases j1 : j = i
    · rw [if_pos j1, flat_snoc] at h
      left
      refine ⟨j1, ?_⟩
      rw [hFi]
      simp only [List.mem_cons, List.mem_append] at h ⊢
      rcases h with h | h | h | h <;> simp [h]
    · rw [if_neg j1] at h
      by_cases j2 : j = ρ.length
      · rw [if_pos j2] at h; cases h
      · rw [if_neg j2] at h; exact .inr ⟨j1, j2, h⟩
  have hall : ∀ b, b ∈ allOf G (ρ.set i (some (.ow (.pin a (.ob C (ks ++ [f]) (xs ++ [w.toO]))) d'))).length ↔ b ∈ allOf F (ρ ++ [some w]).length := fun b => by
    rw [mem_allOf, mem_allOf]
    constructor
    · rintro ⟨j, hj, h⟩
      simp at hj
      rcases hG b j h with ⟨_, h | h⟩ | ⟨_, _, h⟩
      · exact ⟨i, by simp; omega, h⟩
      · exact ⟨ρ.length, by simp, h⟩
      · exact ⟨j, by simp; omega, h⟩
    · rintro ⟨j, hj, h⟩
      simp at hj
      by_cases j1 : j = i
      · subst j1
        refine ⟨j, by simp; omega, ?_⟩
        dsimp only [G]
        rw [if_pos rfl, flat_snoc]
        rw [hFi] at h
        simp only [List.mem_cons, List.mem_append] at h ⊢
        rcases h with h | h | h <;> simp [h]
      · by_cases j2 : j = ρ.length
        · subst j2
          refine ⟨i, by simp; omega, ?_⟩
          dsimp only [G]
          rw [if_pos rfl, flat_snoc]
          simp [h]
        · exact ⟨j, by simp; omega, by dsimp only [G]; rw [if_neg j1, if_neg j2]; exact h⟩
  have aall : a ∈ allOf F (ρ ++ [some w]).length := mem a (by simp)
  have hmask : mask (upd H a (.ins C dx (putF f v1 fs))) (allOf G (ρ.set i (some (.ow (.pin a (.ob C (ks ++ [f]) (xs ++ [w.toO]))) d'))).length) = mask H (allOf F (ρ ++ [some w]).length) := by
    rw [mask_upd_in ((hall a).mpr aall)]
    funext b
    by_cases hb : b ∈ allOf F (ρ ++ [some w]).length
    · rw [mask_in hb, mask_in ((hall b).mpr hb)]
    · rw [mask_out hb, mask_out (fun z => hb ((hall b).mp z))]
  obtain ⟨na, nd1⟩ := List.nodup_cons.mp nd
  obtain ⟨ndx, nd2⟩ := List.nodup_cons.mp nd1
  have lk0 : fs.lookup f = none ∨ True := .inr trivial
  have nek : ∀ (j : Nat) g, ks[j]? = some g → g ≠ f := fun j g hg z => hf (z ▸ List.mem_of_getElem? hg)
  refine ⟨G, by simp [hl], fun j => ?_, fun j k b h1 h2 => ?_, fun b hb => E.fresh b ((hall b).mp hb), fun b u e => ?_, fun j x hx => ?_, fun j hj => ?_⟩
  · dsimp only [G]
    split
    · rw [flat_snoc]
      have : (a :: dx :: (As.flatten ++ F ρ.length)) = (a :: dx :: As.flatten) ++ F ρ.length := by simp
      rw [this]
      exact List.nodup_append.mpr ⟨nd, E.nd _, fun b h1 c h2 e => dis b h1 (e ▸ h2)⟩
    · split
      · exact List.nodup_nil
      · exact E.nd j
  · rcases hG b j h1 with ⟨j1, q1⟩ | ⟨j1, j2, q1⟩ <;> rcases hG b k h2 with ⟨k1, q2⟩ | ⟨k1, k2, q2⟩
    · rw [j1, k1]
    · rcases q1 with q1 | q1
      · exact absurd (E.dj _ _ b q2 q1) k1
      · exact absurd (E.dj _ _ b q2 q1) k2
    · rcases q2 with q2 | q2
      · exact absurd (E.dj _ _ b q1 q2) j1
      · exact absurd (E.dj _ _ b q1 q2) j2
    · exact E.dj j k b q1 q2
  · rw [upd_ne (fun z => by rw [z, E.fresh a aall] at e; cases e)]
    exact E.same b u e
  · rw [hmask]
    by_cases j1 : j = i
    · subst j1
      rw [List.getElem?_set_self hi'] at hx
      obtain rfl := Option.some.inj (Option.some.inj hx)
      refine ⟨.ref a, e0, hd, ?_⟩
      dsimp only [G]
      rw [if_pos rfl]
      have keepAs : ∀ (t : Nat) B, As[t]? = some B → ∀ b ∈ B, ∀ u, H b = some u → upd H a (.ins C dx (putF f v1 fs)) b = some u := fun t B hB b hb u z => by
        rw [upd_ne (fun y => na (by rw [← y]; exact List.mem_cons_of_mem _ (List.mem_flatten.mpr ⟨B, List.mem_of_getElem? hB, hb⟩)))]; exact z
      refine .pin (.ob (vs := vs ++ [v1]) (fs := putF f v1 fs) upd_same ?_ ?_ (by simp [g3]) (fun t g u h1 h2 => ?_) (fun g hg => ?_) (by simp [g6]) (by simp [g7]) (fun t u o B h1 h2 h3 => ?_))
      · rw [upd_ne (fun z => na (by rw [z]; simp))]; exact g2
      · have := length_putF f v1 fs
        simp; omega
      · rw [lookup_putF]
        by_cases ht : t < ks.length
        · rw [List.getElem?_append_left ht] at h1
          rw [List.getElem?_append_left (by omega)] at h2
          rw [if_neg (nek t g h1)]
          exact g4 t g u h1 h2
        · have hl1 := (List.getElem?_eq_some_iff.mp h1).1
          simp at hl1
          have et : t = ks.length := by omega
          subst et
          rw [List.getElem?_append_right (Nat.le_refl _)] at h1
          rw [List.getElem?_append_right (by omega)] at h2
          simp [g3] at h1 h2
          subst h1; subst h2
          rw [if_pos rfl]
      · rw [lookup_putF] at hg
        by_cases e : g = f
        · rw [e]; exact hn
        · rw [if_neg e] at hg; exact g5 g hg
      · by_cases ht : t < xs.length
        · rw [List.getElem?_append_left (by omega)] at h1 h2 h3
          exact (g8 t u o B h1 h2 h3).keep (keepAs t B h3) (Same.refl _)
        · have hl1 := (List.getElem?_eq_some_iff.mp h2).1
          simp at hl1
          have et : t = xs.length := by omega
          subst et
          rw [List.getElem?_append_right (by omega)] at h1 h2 h3
          simp [g6, g7] at h1 h2 h3
          subst h1; subst h2; subst h3
          exact rw'.keep (fun b hb u z => by rw [upd_ne (fun y => dis a (by simp) (by rw [← y]; exact hb))]; exact z) (Same.refl _)
    · rw [List.getElem?_set_ne (Ne.symm j1)] at hx
      have hj := (List.getElem?_eq_some_iff.mp hx).1
      obtain ⟨u, e, ru⟩ := E.get j x (by rw [List.getElem?_append_left hj]; exact hx)
      rw [List.getElem?_append_left (by omega)] at e
      refine ⟨u, e, ?_⟩
      dsimp only [G]
      rw [if_neg j1, if_neg (by omega)]
      refine ru.keep (fun b hb z hz => ?_) (Same.refl _)
      rw [upd_ne (fun y => j1 (E.dj j i b hb (by rw [y, hFi]; simp)))]; exact hz
  · by_cases j1 : j = i
    · subst j1
      exact absurd (by rw [List.getElem?_set_self hi']) (hj (.ow (.pin a (.ob C (ks ++ [f]) (xs ++ [w.toO]))) d'))
    · dsimp only [G]
      rw [if_neg j1]
      split
      · rfl
      · rename_i j2
        refine E.off j fun x e => hj x ?_
        have hj2 := (List.getElem?_eq_some_iff.mp e).1
        simp at hj2
        rw [List.getElem?_append_left (by omega)] at e
        rw [List.getElem?_set_ne (Ne.symm j1)]
        exact e
/-- a field that there is -/
theorem EnvA.fldOld (E : EnvA K H0 (σ ++ [some v]) H (ρ ++ [some w]) F) {i k : Nat} (hi : ρ[i]? = some (some (.ow (.pin a (.ob C ks xs)) d0))) (hf : ks[k]? = some f) (nk : ks.Nodup) (hn : NoAttr K C f) (hd : (O.pin a (.ob C ks (xs.set k w.toO))).data = d') :
    ∃ dx fs, σ[i]? = some (some (.ref a)) ∧ H a = some (.ins C dx fs) ∧ fs.length ≤ ks.length ∧ EnvW K H0 σ (upd H a (.ins C dx (putF f v fs))) (ρ.set i (some (.ow (.pin a (.ob C ks (xs.set k w.toO))) d'))) := by
  have hl : σ.length = ρ.length := by have := E.len; simpa using this
  have hi' := (List.getElem?_eq_some_iff.mp hi).1
  have hk := (List.getElem?_eq_some_iff.mp hf).1
  obtain ⟨v0, e0, r0⟩ := E.get i _ (by rw [List.getElem?_append_left hi']; exact hi)
  rw [List.getElem?_append_left (by omega)] at e0
  obtain ⟨v1, e1, r1⟩ := E.get ρ.length w (by simp)
  have ev : v1 = v := by rw [← hl] at e1; simp at e1; exact e1.symm
  subst ev
  have ro := r0.2
  have rw' := r1.toO
  have nd := E.nd i
  have mem : ∀ b ∈ F i, b ∈ allOf F (ρ ++ [some w]).length := fun b hb => E.mem hb
  have dis : ∀ b, b ∈ F i → b ∈ F ρ.length → False := fun b h1 h2 => by have := E.dj _ _ b h1 h2; omega
  have hFi : ∃ Fi, F i = Fi := ⟨_, rfl⟩
  obtain ⟨Fi, hFi⟩ := hFi
  rw [hFi] at ro nd mem dis
  cases ro with
  | pin ro =>
  cases ro with
  | @ob _ _ dx fs _ vs _ As g1 g2 gz g3 g4 g5 g6 g7 g8 =>
  refine ⟨dx, fs, e0, g1, gz, ?_⟩
  let G : Nat → List Addr := fun j => if j = i then a :: dx :: (As.set k (F ρ.length)).flatten else if j = ρ.length then [] else F j
  have subS : ∀ b, b ∈ (As.set k (F ρ.length)).flatten → b ∈ As.flatten ∨ b ∈ F ρ.length := fun b h => by
    obtain ⟨B, hB, hb⟩ := List.mem_flatten.mp h
    rcases List.mem_or_eq_of_mem_set hB with hB | rfl
    · exact .inl (List.mem_flatten.mpr ⟨B, hB, hb⟩)
    · exact .inr hb
  have hG : ∀ b j, b ∈ G j → (j = i ∧ (b ∈ F i ∨ b ∈ F ρ.length)) ∨ (j ≠ i ∧ j ≠ ρ.length ∧ b ∈ F j) := fun b j h => by
    dsimp only [G] at h
    by_cases j1 : j = i
    · rw [if_pos j1] at h
      left
      refine ⟨j1, ?_⟩
      rw [hFi]
      simp only [List.mem_cons] at h ⊢
      rcases h with h | h | h
      · simp [h]
      · simp [h]
      · rcases subS b h with h | h <;> simp [h]
    · rw [if_neg j1] at h
      by_cases j2 : j = ρ.length
      · rw [if_pos j2] at h; cases h
      · rw [if_neg j2] at h; exact .inr ⟨j1, j2, h⟩
  have hsub : ∀ b, b ∈ allOf G (ρ.set i (some (.ow (.pin a (.ob C ks (xs.set k w.toO))) d'))).length → b ∈ allOf F (ρ ++ [some w]).length := fun b h => by
    obtain ⟨j, hj, h⟩ := mem_allOf.mp h
    rcases hG b j h with ⟨_, h | h⟩ | ⟨_, _, h⟩
    · exact E.mem h
    · exact E.mem h
    · exact E.mem h
  have aG : a ∈ allOf G (ρ.set i (some (.ow (.pin a (.ob C ks (xs.set k w.toO))) d'))).length := mem_allOf.mpr ⟨i, by simp; omega, by dsimp only [G]; rw [if_pos rfl]; simp⟩
  have aall : a ∈ allOf F (ρ ++ [some w]).length := mem a (by simp)
  have sm : Same (mask H (allOf F (ρ ++ [some w]).length)) (mask (upd H a (.ins C dx (putF f v1 fs))) (allOf G (ρ.set i (some (.ow (.pin a (.ob C ks (xs.set k w.toO))) d'))).length)) := by
    rw [mask_upd_in aG]
    exact mask_sub hsub
  obtain ⟨na, nd1⟩ := List.nodup_cons.mp nd
  obtain ⟨ndx, nd2⟩ := List.nodup_cons.mp nd1
  have hvk : vs[k]? = some (vs[k]'(by omega)) := List.getElem?_eq_getElem (by omega)
  have nek : ∀ (j : Nat) g, ks[j]? = some g → j ≠ k → g ≠ f := fun j g hg hjk z => by
    subst z
    have l1 := (List.getElem?_eq_some_iff.mp hg)
    have l2 := (List.getElem?_eq_some_iff.mp hf)
    obtain ⟨a1, b1⟩ := l1
    obtain ⟨a2, b2⟩ := l2
    exact hjk ((List.getElem_inj nk).mp (by rw [b1, b2]))
  have ndset : (As.set k (F ρ.length)).flatten.Nodup := by
    unfold List.Nodup at nd2 ⊢
    rw [List.pairwise_flatten] at nd2 ⊢
    refine ⟨fun B hB => ?_, ?_⟩
    · rcases List.mem_or_eq_of_mem_set hB with hB | rfl
      · exact nd2.1 B hB
      · exact E.nd _
    · have pw := nd2.2
      rw [List.pairwise_iff_getElem] at pw ⊢
      intro s t hs ht hst
      simp only [List.length_set] at hs ht
      rw [List.getElem_set, List.getElem_set]
      have inAs : ∀ t (h : t < As.length), ∀ b ∈ As[t], b ∈ F i := fun t h b hb => by rw [hFi]; exact List.mem_cons_of_mem _ (List.mem_cons_of_mem _ (List.mem_flatten.mpr ⟨_, List.getElem_mem h, hb⟩))
      split
      · split
        · omega
        · intro b h1 c h2 e
          subst e
          exact dis b (by rw [← hFi]; exact inAs t ht b h2) h1
      · split
        · intro b h1 c h2 e
          subst e
          exact dis b (by rw [← hFi]; exact inAs s hs b h1) h2
        · exact pw s t hs ht hst
  refine ⟨G, by simp [hl], fun j => ?_, fun j t b h1 h2 => ?_, fun b hb => E.fresh b (hsub b hb), fun b u e => ?_, fun j x hx => ?_, fun j hj => ?_⟩
  · dsimp only [G]
    split
    · refine List.nodup_cons.mpr ⟨fun z => ?_, List.nodup_cons.mpr ⟨fun z => ?_, ndset⟩⟩
      · rcases List.mem_cons.mp z with z | z
        · exact na (by rw [← z]; simp)
        · rcases subS a z with z | z
          · exact na (List.mem_cons_of_mem _ z)
          · exact dis a (by simp) z
      · rcases subS dx z with z | z
        · exact ndx z
        · exact dis dx (by simp) z
    · split
      · exact List.nodup_nil
      · exact E.nd j
  · rcases hG b j h1 with ⟨j1, q1⟩ | ⟨j1, j2, q1⟩ <;> rcases hG b t h2 with ⟨k1, q2⟩ | ⟨k1, k2, q2⟩
    · rw [j1, k1]
    · rcases q1 with q1 | q1
      · exact absurd (E.dj _ _ b q2 q1) k1
      · exact absurd (E.dj _ _ b q2 q1) k2
    · rcases q2 with q2 | q2
      · exact absurd (E.dj _ _ b q1 q2) j1
      · exact absurd (E.dj _ _ b q1 q2) j2
    · exact E.dj j t b q1 q2
  · rw [upd_ne (fun z => by rw [z, E.fresh a aall] at e; cases e)]
    exact E.same b u e
  · by_cases j1 : j = i
    · subst j1
      rw [List.getElem?_set_self hi'] at hx
      obtain rfl := Option.some.inj (Option.some.inj hx)
      refine ⟨.ref a, e0, hd, ?_⟩
      dsimp only [G]
      rw [if_pos rfl]
      have keepAs : ∀ (t : Nat) B, As[t]? = some B → ∀ b ∈ B, ∀ u, H b = some u → upd H a (.ins C dx (putF f v1 fs)) b = some u := fun t B hB b hb u z => by
        rw [upd_ne (fun y => na (by rw [← y]; exact List.mem_cons_of_mem _ (List.mem_flatten.mpr ⟨B, List.mem_of_getElem? hB, hb⟩)))]; exact z
      refine .pin (.ob (vs := vs.set k v1) (fs := putF f v1 fs) upd_same ?_ ?_ (by simp [g3]) (fun t g u h1 h2 => ?_) (fun g hg => ?_) (by simp [g6]) (by simp [g7]) (fun t u o B h1 h2 h3 => ?_))
      · rw [upd_ne (fun z => na (by rw [z]; simp))]; exact g2
      · rw [putF_len (g4 k f _ hf hvk)]; exact gz
      · rw [lookup_putF]
        by_cases ht : t = k
        · subst ht
          rw [List.getElem?_set_self (by omega)] at h2
          rw [hf] at h1
          obtain rfl := Option.some.inj h1
          obtain rfl := Option.some.inj h2
          rw [if_pos rfl]
        · rw [List.getElem?_set_ne (Ne.symm ht)] at h2
          rw [if_neg (nek t g h1 ht)]
          exact g4 t g u h1 h2
      · rw [lookup_putF] at hg
        by_cases e : g = f
        · rw [e]; exact hn
        · rw [if_neg e] at hg; exact g5 g hg
      · by_cases ht : t = k
        · subst ht
          have lx : t < xs.length := by omega
          rw [List.getElem?_set_self (by omega)] at h1 h2 h3
          obtain rfl := Option.some.inj h1
          obtain rfl := Option.some.inj h2
          obtain rfl := Option.some.inj h3
          exact rw'.keep (fun b hb u z => by rw [upd_ne (fun y => dis a (by simp) (by rw [← y]; exact hb))]; exact z) sm
        · rw [List.getElem?_set_ne (Ne.symm ht)] at h1 h2 h3
          exact (g8 t u o B h1 h2 h3).keep (keepAs t B h3) sm
    · rw [List.getElem?_set_ne (Ne.symm j1)] at hx
      have hj := (List.getElem?_eq_some_iff.mp hx).1
      obtain ⟨u, e, ru⟩ := E.get j x (by rw [List.getElem?_append_left hj]; exact hx)
      rw [List.getElem?_append_left (by omega)] at e
      refine ⟨u, e, ?_⟩
      dsimp only [G]
      rw [if_neg j1, if_neg (by omega)]
      refine ru.keep (fun b hb z hz => ?_) sm
      rw [upd_ne (fun y => j1 (E.dj j i b hb (by rw [y, hFi]; simp)))]; exact hz
  · by_cases j1 : j = i
    · subst j1
      exact absurd (by rw [List.getElem?_set_self hi']) (hj (.ow (.pin a (.ob C ks (xs.set k w.toO))) d'))
    · dsimp only [G]
      rw [if_neg j1]
      split
      · rfl
      · rename_i j2
        refine E.off j fun x e => hj x ?_
        have hj2 := (List.getElem?_eq_some_iff.mp e).1
        simp at hj2
        rw [List.getElem?_append_left (by omega)] at e
        rw [List.getElem?_set_ne (Ne.symm j1)]
        exact e
end
section
variable {X : Cx} {ρ : RhoW} {Φ : Post} {rest : List Stmt} {e : Expr} {x f : Str} {p pos pos' : Pos} {a C : Addr} {ks : List Str} {xs : List O} {d0 : D}
/-- x.f = e, a new field -/
theorem Ws.fldNew (i : Nat) (hc : Cls X.K C) (hn : NoAttr X.K C f) (h : EvW X ρ e fun w ρ' => ρ'[i]? = some (some (.ow (.pin a (.ob C ks xs)) d0)) ∧ Ws X (ρ'.set i (some (.ow (.pin a (.ob C (ks ++ [f]) (xs ++ [w.toO]))) (O.pin a (.ob C (ks ++ [f]) (xs ++ [w.toO]))).data))) rest Φ) (hf : f ∉ ks := by decide +kernel) (hz : ks.length < 1000 := by decide)
    (hpv : PE X (.Name x p) (tVar i) := by exact pv _) (hs : swapsWith e (some (.Attribute (.Name x p) f pos')) pos.line X.env = pure false := by rfl) : Ws X ρ (.Assign [.Attribute (.Name x p) f pos'] e pos :: rest) Φ := ⟨fun H0 σ H D E kk =>
  WSs.cons (ws_of (ps_fld hpv pe_we hs) (h.run H0 σ H E _ fun v H' w ρ' q l E' => by
    obtain ⟨F, E'⟩ := E'
    obtain ⟨dx, fs, e0, ha, hlen, En⟩ := E'.fldNew (f := f) q.1 hf hn rfl
    exact ⟨.ref a, e0, a, C, dx, fs, rfl, ha, hc, hn, by omega, q.2.run H0 σ _ D En (kk.cast (by simp [l]))⟩))⟩
/-- x.f = e, a field that there is -/
theorem Ws.fldOld (i k : Nat) (hc : Cls X.K C) (hn : NoAttr X.K C f) (hf : ks[k]? = some f) (h : EvW X ρ e fun w ρ' => ρ'[i]? = some (some (.ow (.pin a (.ob C ks xs)) d0)) ∧ Ws X (ρ'.set i (some (.ow (.pin a (.ob C ks (xs.set k w.toO))) (O.pin a (.ob C ks (xs.set k w.toO))).data))) rest Φ) (nk : ks.Nodup := by decide +kernel) (hz : ks.length < 1000 := by decide)
    (hpv : PE X (.Name x p) (tVar i) := by exact pv _) (hs : swapsWith e (some (.Attribute (.Name x p) f pos')) pos.line X.env = pure false := by rfl) : Ws X ρ (.Assign [.Attribute (.Name x p) f pos'] e pos :: rest) Φ := ⟨fun H0 σ H D E kk =>
  WSs.cons (ws_of (ps_fld hpv pe_we hs) (h.run H0 σ H E _ fun v H' w ρ' q l E' => by
    obtain ⟨F, E'⟩ := E'
    obtain ⟨dx, fs, e0, ha, hlen, En⟩ := E'.fldOld (f := f) q.1 hf nk hn rfl
    exact ⟨.ref a, e0, a, C, dx, fs, rfl, ha, hc, hn, by omega, q.2.run H0 σ _ D En (kk.cast (by simp [l]))⟩))⟩
/-- r.append(e), r at a place of slot i, e of what is in sight -/
theorem Ws.appendV {r : Expr} {cpos apos : Pos} {d d' d1 : D} {o : O} {ds : List D} (i : Nat) (p : List Pe) (hr : Rcv X r i p) (he : Ev X (view ρ) e d) (hno : d.noOb = true) (hs : o.sub p = some (oL ds)) (hd : (o.put (oL (ds ++ [d])) p).data = d') (k : Ws X (ρ.set i (some (.ow (o.put (oL (ds ++ [d])) p) d'))) rest Φ)
    (hz : ds.length < 100000) (hρ : ρ[i]? = some (some (.ow o d1)) := by rfl) (hp : o.okP p := by walk_at "okp")
    (hpe : ∀ {t t2}, PE X r t → PE X e t2 → PE X (.Call (.Attribute r "append" apos) [e] [] cpos) (tBM X.K "list" rAppend t (tCons t2 tNil)) := by
      intro t t2 h1 h2; exact pe_bm PySem.F.plainAttrs_list PySem.F.slot_list_append PySem.F.type_list_append mt_append h1 (pa_cons h2 pa_nil))
    (hsw : swapsWith (.Call (.Attribute r "append" apos) [e] [] cpos) none pos.line X.env = pure false := by rfl) : Ws X ρ (.Expr (.Call (.Attribute r "append" apos) [e] [] cpos) pos :: rest) Φ := ⟨fun H0 σ H D E kk =>
  WSs.cons (ws_of (ps_expr (hpe pe_we pe_we) hsw) (by
    obtain ⟨F, E1⟩ := id E
    obtain ⟨v, a, vs, hσ, hat, ha, _⟩ := E1.mutP (d' := d') hρ hp hs
    have hi := (List.getElem?_eq_some_iff.mp hρ).1
    have hl := E.len
    refine hr.run σ H v (.ref a) _ hσ hat ⟨.inl ⟨rfl, vs, SqL.of ha⟩, ?_⟩
    refine (WE.frame E1.hidL (he.run σ (mask H (lstAt H (allOf F ρ.length))) E1.envV (fun v M => Same (mask H (lstAt H (allOf F ρ.length))) M ∧ Rep X.K M v d) fun v M s r => ⟨s, r⟩)).mono ?_
    rintro u H' ⟨M, ⟨s, ru⟩, rfl, n, up⟩
    have sH : Same H (join M H (lstAt H (allOf F ρ.length))) := fun b z e => by
      by_cases hb : b ∈ lstAt H (allOf F ρ.length)
      · rw [join_in hb]; exact e
      · rw [join_out hb]; exact s b z (by rw [mask_out hb]; exact e)
    obtain ⟨F', E2⟩ := E1.viewO (A := []) (o := .sh d) (d := d) s n (by simp) List.nodup_nil (.sh (by rw [mask_nil]; exact ru)) (by unfold O.noOb; exact hno) (by rw [O.data])
    have hρ' : (ρ ++ [some (W.ow (.sh d) d)])[i]? = some (some (.ow o d1)) := by rw [List.getElem?_append_left hi]; exact hρ
    obtain ⟨v', a', vs', hσ', hat', ha', rs', K'⟩ := E2.mutP (d' := d') hρ' hp hs
    obtain rfl : v' = v := by rw [List.getElem?_append_left (by omega), hσ] at hσ'; simpa using hσ'.symm
    have ea : a' = a := by have := hat.det sH hat'; simpa using this
    subst ea
    obtain ⟨u', hu', ru'⟩ := E2.get ρ.length (.ow (.sh d) d) (by simp)
    obtain rfl : u' = u := by rw [← hl] at hu'; simp at hu'; exact hu'.symm
    refine ⟨a', vs', u', rfl, rfl, ha', by rw [rs'.1]; exact Nat.lt_of_lt_of_le hz (by decide), ?_⟩
    have En := (K' _ _ (rs'.append (.cons ru'.2.sh_inv.2 .nil)) hd).1
    rw [List.set_append_left _ _ hi] at En
    exact k.run H0 σ _ D (EnvW.pop ⟨_, En⟩) (kk.cast (by simp))))⟩
end
end VL
set_option Elab.async false
set_option linter.all false
set_option maxRecDepth 100000
set_option maxHeartbeats 1000000
/-! value layer, part 19: classes of the text, slices of tuples -/
namespace VL
open PySem L2
/-- a method of the class at C, as the top leaves it -/
structure DfM (K : PySem.W.Frag) (C : Addr) (m qual : Str) (st : Stmt) (ps : List Str) : Prop where
  ex : ∃ (f : Addr) (fd : FuncData), PySem.W.findIn K (.ref C) m = some (some (.ref f)) ∧ PySem.W.isFn K (.ref f) = true ∧ Fun K m qual st f fd ∧ Binds K fd ps []
/-- a class of the text -/
structure ClsF (K : PySem.W.Frag) (mg : Str → Option Value) (C : Addr) (x : Str) (fs : List Str) : Prop where
  cl : Cls K C
  mgC : mg x = some (.ref C)
  made : PySem.W.makesIn K C = true
  kp : PySem.W.keepIn K (.ref C) = true
  no : ∀ f ∈ fs, NoAttr K C f
section
variable {P : Program} {w : World} {K : PySem.W.Frag} {mg : Str → Option Value} {base : Heap} {C : Addr} {m qual x : Str} {st : Stmt} {N ps fs : List Str} {k : Nat} {ds : List D} {ρ : RhoW}
theorem VM.of {post : O → Prop} (F : DfM K C m qual st ps) (S : FnScope N ps (defScope st)) (hρ : startW N.length ds = ρ)
    (h : ∀ (f : Addr) (cdv : Value) (A : Around) (outer : List Env) (s : Shared) (H : Hp) (E : XK), Room k (cxOf CX0 P w K mg base N qual (defScope st) f cdv A outer s H E).A →
      Ws (cxOf CX0 P w K mg base N qual (defScope st) f cdv A outer s H E).nox ρ (defBody st) { nx := fun _ => post (.sh .non), rt := post }) (hl : ps.length = ds.length := by rfl) : VM P w K mg base (k + 1) C m ds post := by
  obtain ⟨f, fd, h1, h2, h3, h4⟩ := F.ex
  exact ⟨f, fd, ps, ⟨h1, h2, h3.kp⟩, h4, fnOk_of h3 S hl hρ (h f)⟩
theorem VI.of {post : O → Prop} (Fc : ClsF K mg C x fs) (F : DfM K C "__init__" qual st ps) (S : FnScope N ps (defScope st))
    (h : ∀ (f a : Addr) (cdv : Value) (A : Around) (outer : List Env) (s : Shared) (H : Hp) (E : XK), Room k (cxOf CX0 P w K mg base N qual (defScope st) f cdv A outer s H E).A →
      Ws (cxOf CX0 P w K mg base N qual (defScope st) f cdv A outer s H E).nox (startG N.length (.ow (.pin a (.ob C [] [])) (.ob C [] []) :: ds.map W.sh)) (defBody st) { nx := fun ρ => ∃ o d, ρ[0]? = some (some (.ow (.pin a o) d)) ∧ post o, rt := fun _ => False }) (hl : ps.length = ds.length + 1 := by rfl) : VI P w K mg base (k + 1) C x ds post := by
  obtain ⟨f, fd, h1, h2, h3, h4⟩ := F.ex
  exact ⟨f, fd, ps, Fc.mgC, ⟨Fc.made, h1, h2, Fc.kp⟩, h4, fnOk_ofI h3 S hl (h f)⟩
theorem endG1 {a : Addr} {o : O} {d0 : D} {ds : List D} {post : O → D → W → Prop} {ρ : RhoW} {w : W} {o' : O} {d' : D} (h : ρ[0]? = some (some (.ow (.pin a o') d'))) (hp : post o' d' w) :
    EndG (.ow (.pin a o) d0 :: ds.map W.sh) (fun ws' w => ∃ o' d', ws' = .ow (.pin a o') d' :: ds.map W.sh ∧ post o' d' w) ρ w := by
  refine ⟨.ow (.pin a o') d' :: ds.map W.sh, rfl, fun i x y h1 h2 => ?_, o', d', rfl, hp⟩
  cases i with
  | zero =>
    simp at h1 h2
    subst h1; subst h2
    exact ⟨.inr ⟨a, o, d0, o', d', rfl, rfl⟩, fun o2 d2 e => by rw [e] at h ⊢; exact h⟩
  | succ i =>
    simp only [List.getElem?_cons_succ, List.getElem?_map] at h1 h2
    obtain ⟨z, hz, rfl⟩ := Option.map_eq_some_iff.mp h1
    rw [hz] at h2
    obtain rfl := Option.some.inj h2
    exact ⟨.inl ⟨z, rfl, rfl⟩, fun o2 d2 e => by cases e⟩
theorem GM.of {o : O} {d0 : D} {post : O → D → W → Prop} (F : DfM K C m qual st ps) (S : FnScope N ps (defScope st))
    (h : ∀ (f a : Addr) (cdv : Value) (A : Around) (outer : List Env) (s : Shared) (H : Hp) (E : XK), Room k (cxOf CX0 P w K mg base N qual (defScope st) f cdv A outer s H E).A →
      Ws (cxOf CX0 P w K mg base N qual (defScope st) f cdv A outer s H E).nox (startG N.length (.ow (.pin a o) d0 :: ds.map W.sh)) (defBody st)
        { nx := fun ρ => ∃ o' d', ρ[0]? = some (some (.ow (.pin a o') d')) ∧ post o' d' (.sh .non), rt := fun _ => False, rs := fun ρ w => ∃ o' d', ρ[0]? = some (some (.ow (.pin a o') d')) ∧ post o' d' w }) (hl : ps.length = ds.length + 1 := by rfl) : GM P w K mg base (k + 1) C m o d0 ds post := by
  obtain ⟨f, fd, h1, h2, h3, h4⟩ := F.ex
  refine ⟨f, fd, ps, ⟨h1, h2, h3.kp⟩, h4, fun a => fnOk_ofG h3 S (by simpa using hl) rfl fun cdv A outer s H E hr => (h f a cdv A outer s H E hr).mono (fun ρ q => ?_) (fun o q => q) (fun ρ q => q) (fun ρ q => q) (fun ρ w q => ?_)⟩
  · obtain ⟨o', d', q1, q2⟩ := q; exact endG1 q1 q2
  · obtain ⟨o', d', q1, q2⟩ := q; exact endG1 q1 q2
end
section
variable {X : Cx} {ρ : Rho} {a e : Expr} {pos p p2 : Pos} {el eh : Option Expr} {lo hi : Option Int} {ds : List D} {d : D}
/-- a slice of a tuple -/
theorem cutV_whole {vs : List V} (h : HT.sIx vs.length 0 lo = 0 ∧ HT.sIx vs.length vs.length hi = vs.length) : cutV vs lo hi = vs := by
  unfold cutV; rw [h.1, h.2]; simp
theorem Ev.sliceT (ha : Ev X ρ a (.tup ds)) (hl : EvP X ρ el lo) (hh : EvP X ρ eh hi) : Ev X ρ (.Subscript a (.Slice el eh Option.none p2) pos) (.tup (cutD ds lo hi)) := by
  obtain ⟨tl, pl, ql⟩ := hl.run
  obtain ⟨th, ph, qh⟩ := hh.run
  exact ⟨fun σ H en Q q => we_of (pe_slice sl_tupA pe_we pl ph) (ha.run σ H en _ fun v H1 s1 r1 => ql σ H1 (en.mono s1) _ fun H2 s2 => qh σ H2 (en.mono (s1.trans s2)) _ fun H3 s3 => by
    have r3 := r1.mono (s2.trans s3)
    obtain ⟨p1, vs, rfl, h1, rs⟩ := r3.tup_inv
    have rc := rs.cut lo hi
    refine ⟨p1, vs, rfl, SqT.of h1, fun hw => ?_, fun hw p hp => ?_⟩
    · rw [cutV_whole hw] at rc
      exact q _ H3 ((s1.trans s2).trans s3) (.tup' h1 rc)
    · exact q _ _ (((s1.trans s2).trans s3).trans (Same.new hp)) (.tup' upd_same (rc.mono (Same.new hp))))⟩
/-- isinstance, any kind of thing but an object -/
theorem Ev.lenDT {xs : List D} (hm : X.mg "len" = none) (h : Ev X ρ e (.tup xs)) (hg : Gl X "len" := by rfl) (hs : starEach [e] X.env = (false, eval e X.env) :: starEach [] X.env := by rfl) (hpl : (backTo pos (starEach [] X.env)).any (·.1) = false := by rfl) : Ev X ρ (.Call (.Name "len" p) [e] [] pos) (.int xs.length) := .lenT hm h hg hs hpl
end
end VL
set_option Elab.async false
set_option linter.all false
set_option maxRecDepth 100000
set_option maxHeartbeats 1000000
/-! value layer, part 20: shared pairs unpacked -/
namespace VL
open PySem L2
theorem units65 {k : Nat} {A : Around} (r : Room k A) : A.units + 65 < cLine := by have := r.un; omega
section
variable {X : Cx} {ρ : RhoW} {Φ : Post} {rest : List Stmt} {e : Expr} {p pos : Pos} {d d2 : D}
/-- x, y = e, e a shared tuple of two things -/
theorem Ws.unpackS2 {x y : Str} (i j : Nat) {k1 : Nat} {p1 p2 tp : Pos} (hc : X.calm = true) (hN : X.N.Nodup) (h : EvW X ρ e fun w ρ' => w = .sh (.tup [d, d2]) ∧ Ws X (setW ρ' [i, j] [d, d2]) rest Φ)
    (hps : ∀ {te}, X.N.Nodup → PE X e te → PS X (.Assign [.Tuple [.Name x p1, .Name y p2] k1 tp] e pos) (tAsg te (gTup X.K 2 (gCons (gName i) (gCons (gName j) gNil)))) := by
      intro te hN ht; exact ps_asg ht (pg_tup rfl (pgs_cons (pg_name hN rfl (by first | exact Or.inl rfl | exact Or.inr rfl)) (pgs_cons (pg_name hN rfl (by first | exact Or.inl rfl | exact Or.inr rfl)) pgs_nil))))
    (hij : (decide (i < ρ.length) && decide (j < ρ.length)) = true := by rfl) :
    Ws X ρ (.Assign [.Tuple [.Name x p1, .Name y p2] k1 tp] e pos :: rest) Φ := ⟨fun H0 σ H D E kk =>
  WSs.cons (ws_of (hps hN pe_we) (h.run H0 σ H E _ fun v H' w ρ' q l E' => by
    have hij := Bool.and_eq_true_iff.mp hij
    have hi : i < ρ.length := of_decide_eq_true hij.1
    have hj : j < ρ.length := of_decide_eq_true hij.2
    obtain ⟨rfl, q⟩ := q
    have hl : σ.length = ρ'.length := by have := E'.len; simpa using this
    obtain ⟨F, E3⟩ := E'
    obtain ⟨v', hv', r⟩ := E3.get ρ'.length (.sh (.tup [d, d2])) (by simp)
    obtain rfl : v' = v := by rw [← hl] at hv'; simp at hv'; exact hv'.symm
    obtain ⟨a, vs, rfl, ha, rs⟩ := r.1.tup_inv
    obtain ⟨v1, t1, rfl, r1, rs1⟩ := id rs.cons_split
    obtain ⟨v2, t2, rfl, r2, rs2⟩ := id rs1.cons_split
    obtain rfl := rs2.nil_inv
    refine ⟨a, [v1, v2], rfl, SqT.of (mask_some ha).1, rfl, v1, [v2], rfl, v2, [], rfl, rfl, ?_⟩
    have E4 := EnvW.store (is := [i, j]) E3 (Same.refl _) rs
    simp only [setAll, setW] at E4
    rw [List.set_append_left _ _ (by omega), List.set_append_left _ _ (by simp; omega), List.set_append_left _ _ (by omega), List.set_append_left _ _ (by simp; omega)] at E4
    refine q.run H0 _ H' D ?_ (kk.cast (by simp [setW, l]))
    exact EnvW.pop E4))⟩
end
end VL
set_option Elab.async false
set_option linter.all false
set_option maxRecDepth 100000
set_option maxHeartbeats 1000000
/-! value layer, part 21: a thing taken out of an own list that goes, things counted -/
namespace VL
open PySem L2
section
variable {K : PySem.W.Frag} {H0 H S : Hp} {σ : L2.St} {ρ : RhoW} {F : Nat → List Addr} {o : O} {d0 : D} {os : List O}
theorem EnvA.kidL (E : EnvA K H0 σ H ρ F) {i k : Nat} (hρ : ρ[i]? = some (some (.ow (.ls os) d0))) (hk : os[k]? = some o) :
    ∃ a vs u, σ[i]? = some (some (.ref a)) ∧ H a = some (.lst vs) ∧ vs[k]? = some u ∧ EnvW K H0 (σ ++ [some u]) H (ρ.set i none ++ [some (.ow o o.data)]) := by
  obtain ⟨v, hv, r⟩ := E.get i _ hρ
  have hi := (List.getElem?_eq_some_iff.mp hρ).1
  have hl := E.len
  have r2 := r.2
  have hFn := E.nd i
  generalize hF : F i = Fi at r2 hFn
  cases r2 with
  | @ls a vs _ As h1 h2 h3 h4 =>
    have hk2 := (List.getElem?_eq_some_iff.mp hk).1
    have hvk : vs[k]? = some (vs[k]'(by omega)) := List.getElem?_eq_getElem (by omega)
    have hAk : As[k]? = some (As[k]'(by omega)) := List.getElem?_eq_getElem (by omega)
    generalize vs[k]'(by omega) = u at hvk
    generalize As[k]'(by omega) = B at hAk
    have hBF : ∀ b ∈ B, b ∈ F i := fun b hb => by
      rw [hF]
      exact List.mem_cons_of_mem _ (List.mem_flatten.mpr ⟨B, List.mem_of_getElem? hAk, hb⟩)
    have hBn : B.Nodup := by
      have n1 := (List.nodup_cons.mp hFn).2
      rw [flat_split hAk] at n1
      exact (List.nodup_append.mp (List.nodup_append.mp n1).2.1).1
    let G : Nat → List Addr := fun j => if j = ρ.length then B else if j = i then [] else F j
    have hG : ∀ j b, b ∈ G j → (j = ρ.length ∧ b ∈ F i) ∨ (j ≠ ρ.length ∧ j ≠ i ∧ b ∈ F j) := fun j b hb => by
      dsimp only [G] at hb
      split at hb
      · exact .inl ⟨by assumption, hBF b hb⟩
      · split at hb
        · cases hb
        · exact .inr ⟨by assumption, by assumption, hb⟩
    have hall : ∀ b, b ∈ allOf G (ρ.set i none ++ [some (W.ow o o.data)]).length → b ∈ allOf F ρ.length := fun b hb => by
      obtain ⟨j, _, h⟩ := mem_allOf.mp hb
      rcases hG j b h with ⟨_, h⟩ | ⟨_, _, h⟩
      · exact E.mem h
      · exact E.mem h
    have sub : Same (mask H (allOf F ρ.length)) (mask H (allOf G (ρ.set i none ++ [some (W.ow o o.data)]).length)) := mask_sub hall
    refine ⟨a, vs, u, hv, h1, hvk, G, by simp [hl], fun j => ?_, fun j j' b hb hb' => ?_, fun b hb => E.fresh b (hall b hb), E.same, fun j x h => ?_, fun j h => ?_⟩
    · dsimp only [G]
      split
      · exact hBn
      · split
        · exact List.nodup_nil
        · exact E.nd j
    · rcases hG j b hb with ⟨e1, h1⟩ | ⟨e1, e2, h1⟩ <;> rcases hG j' b hb' with ⟨e3, h3⟩ | ⟨e3, e4, h3⟩
      · omega
      · exact absurd (E.dj _ _ b h1 h3).symm e4
      · exact absurd (E.dj _ _ b h1 h3) e2
      · exact E.dj _ _ b h1 h3
    · by_cases hj : j < ρ.length
      · rw [List.getElem?_append_left (by simpa using hj), List.getElem?_set] at h
        by_cases e : i = j
        · subst e
          rw [if_pos rfl, if_pos hj] at h
          cases h
        · rw [if_neg e] at h
          obtain ⟨v', hv', r'⟩ := E.get j x h
          refine ⟨v', by rw [List.getElem?_append_left (by omega)]; exact hv', ?_⟩
          dsimp only [G]
          rw [if_neg (by omega), if_neg (Ne.symm e)]
          exact r'.keep (fun _ _ _ z => z) sub
      · have hj2 := (List.getElem?_eq_some_iff.mp h).1
        simp at hj2
        have e : j = ρ.length := by omega
        subst e
        rw [List.getElem?_append_right (by simp)] at h
        simp at h
        subst h
        refine ⟨u, by rw [← hl]; simp, rfl, ?_⟩
        dsimp only [G]
        rw [if_pos rfl]
        exact (h4 k u o B hvk hk hAk).keep (fun _ _ _ z => z) sub
    · dsimp only [G]
      split
      · rename_i e
        subst e
        exact absurd (by simp) (h (.ow o o.data))
      · split
        · rfl
        · rename_i e1 e2
          refine E.off j fun x e => h x ?_
          have := (List.getElem?_eq_some_iff.mp e).1
          rw [List.getElem?_append_left (by simpa using this), List.getElem?_set, if_neg (Ne.symm e2)]
          exact e
end
end VL
namespace L2
open PySem PySem.Spec PyProof.Rows
section
variable {X : Cx}
/-- l.count(x), items of any depth -/
def rCountD (K : PySem.W.Frag) : V → List V → Hp → VK → Prop := fun x xs H Q => ∃ (a : Addr) (y : V) (d : PyData) (ds : List PyData), x = V.ref a ∧ xs = [y] ∧ Dp K H (V.ref a) (.list ds) ∧ Dp K H y d ∧
  SeqAt.shaped (.list ds) = true ∧ SeqAt.shaped d = true ∧ Q (.int (ds.countP fun z => PyData.eqv z d : Nat)) H
theorem mt_countD (hu : X.A.units + 65 < cLine) : MtR X "list.count" (rCountD X.K) := by
  intro pins s σ H x xs v us Q I rx rxs h
  obtain ⟨a, y, d, ds, rfl, rfl, hl, hy, sl, sd, q⟩ := h
  cases rx
  cases rxs with
  | cons ry rt =>
    rename_i uy ut
    cases rt
    obtain ⟨bs, r1⟩ := Dp.reads I d y uy hy ry
    have hxs : PyData.canLayAll0 ds = true := SeqAt.canLay_of_shaped sl
    have hroom : X.A.units + 1 + min (PyData.depthAll ds) d.depth < cLine := room_in_shaped sd hu
    cases hl with
    | lst hs ha =>
      obtain ⟨its, rv, ⟨⟨cls, dd, data, sls⟩, n, ho, hc, hdn, hdt⟩, hlen⟩ := I.list hs
      simp only at hc hdt
      subst hc hdt
      obtain ⟨as, h4⟩ := Dp.readsAll I ds _ its ha rv
      have hmap : its.map (SeqAt.readOf s.heap) = ds := SeqAt.readsAll_map ds its as hxs h4
      refine call_meets PySem.F.slot_list_count ⟨_, ho, rfl⟩ PySem.F.entry_list_count (PySem.F.args_list_count_2 _ _)
        (SeqAt.list_countAt a its.toArray n dd sls uy (fun u => PyData.eqv (SeqAt.readOf s.heap u) d)) ⟨ho, SeqAt.items_eqAt (vs := its.toArray) (show ReadsAll s.heap its.toArray.toList ds as from h4) r1 hxs (SeqAt.canLay_of_shaped sd) hroom, ?_⟩
      have ec : its.toArray.toList.countP (fun u => PyData.eqv (SeqAt.readOf s.heap u) d) = ds.countP fun z => PyData.eqv z d := by
        rw [← hmap, List.countP_map]; rfl
      refine ⟨.int (ds.countP fun z => PyData.eqv z d : Nat), H, I.tok _, ⟨s.toks, ?_⟩, q⟩
      show Value.int _ _ = Value.int _ _
      rw [ec]
end
end L2
namespace VL
open PySem L2
section
variable {X : Cx} {ρ : RhoW} {Ψ : W → RhoW → Prop} {e : Expr} {o : O} {os : List O} {d0 d : D}
/-- x[k], x an own list that is not needed any more -/
theorem EvW.kidL (i k : Nat) (hr : Rcv X e i [.ix k]) (hd : o.data = d) (K : Ψ (.ow o d) (ρ.set i none)) (hk : os[k]? = some o := by rfl) (hρ : ρ[i]? = some (some (.ow (.ls os) d0)) := by rfl) : EvW X ρ e Ψ := ⟨fun H0 σ H ⟨F, E⟩ Q q => by
  subst hd
  obtain ⟨a, vs, u, h1, h2, h3, E'⟩ := E.kidL hρ hk
  exact hr.run σ H (.ref a) u _ h1 ⟨u, ⟨a, vs, rfl, .inl h2, h3⟩, rfl⟩ (q u H (.ow o o.data) (ρ.set i none) K (by simp) E')⟩
end
theorem count_py (d : D) : ∀ ds : List D, (pyAll ds).countP (fun z => PyData.eqv z d.py) = ds.countP fun z => eqvD z d
  | [] => by simp [pyAll]
  | x :: xs => by simp only [pyAll, List.countP_cons]; rw [count_py d xs]; rfl
/-- e.count(a) -/
theorem Ev.count {X : Cx} {ρ : Rho} {e a : Expr} {q p : Pos} {d : D} {ds : List D} (hu : X.A.units + 65 < cLine) (h : Ev X ρ e (.lst ds)) (ha : Ev X ρ a d) (h1 : Shp d) (h2 : Shp (.lst ds))
    (hpe : ∀ {t t2}, PE X e t → PE X a t2 → PE X (.Call (.Attribute e "count" q) [a] [] p) (tBM X.K "list" (rCountD X.K) t (tCons t2 tNil)) := by
      intro t t2 g1 g2; exact pe_bm PySem.F.plainAttrs_list PySem.F.slot_list_count PySem.F.type_list_count (mt_countD (by assumption)) g1 (pa_cons g2 pa_nil)) : Ev X ρ (.Call (.Attribute e "count" q) [a] [] p) (.int (ds.countP fun z => eqvD z d : Nat)) :=
  ⟨fun σ H en Q q => we_of (hpe pe_we pe_we) (h.run σ H en _ fun v H1 s1 r1 => by
    obtain ⟨b, vs, rfl, hb, rs⟩ := r1.lst_inv
    refine ⟨.inl ⟨rfl, vs, SqL.of hb⟩, ha.run σ H1 (en.mono s1) _ fun w H2 s2 r2 => ?_⟩
    refine ⟨b, w, d.py, pyAll ds, rfl, rfl, (r1.mono s2).dpL h2.1, r2.dp h1.1, by have := h2.2; rw [D.py] at this; exact this, h1.2, ?_⟩
    rw [count_py]
    exact q _ H2 (s1.trans s2) (.int _))⟩
end VL
set_option Elab.async false
set_option linter.all false
set_option maxRecDepth 100000
set_option maxHeartbeats 1000000
/-! value layer, part 22: errors -/
namespace VL
open PySem L2 PySem.Spec PyProof.Rows
/-- an own class of errors, under ValueError -/
structure ErrC (K : PySem.W.Frag) (mg : Str → Option Value) (x : Str) (C : Addr) : Prop where
  q : PySem.W.excIn K C [.type "ValueError", .type "Exception", .type "BaseException", .type "object"] "ValueError.__new__" = true
  g : mg x = some (.ref C)
  k : PySem.W.keepIn K (.ref C) = true
  b : PySem.W.subIn K (.ref C) (.type "BaseException") = some true
  t : PySem.W.typeIn K (.ref C) = some (.type "type")
section
variable {X : Cx} {ρ : RhoW} {Φ : Post} {rest : List Stmt} {C : Addr} {x m : Str} {j : Nat} {p p2 p3 pos : Pos}
/-- raise x('m') -/
theorem Ws.raise (E : ErrC X.K X.mg x C) (hc : X.calm = true) (tk : Takes X Φ.xw) (h : Φ.xs (.ref C)) (hg : Gl X x := by rfl) (hdb : (x == ("__debug__" : Str)) = false := by decide) : Ws X ρ (.Raise (some (.Call (.Name x p) [.Constant (.str m) j p2] [] p3)) none pos :: rest) Φ :=
  ⟨fun H0 σ H D En k => WSs.cons (ws_of (ps_raise hc tk (pmk_own PySem.F.excBase_ValueError E.q E.g E.k (raises_own E.b E.t) hg hdb)) (by
    obtain ⟨F, En⟩ := En
    exact k.ex _ σ H h En.len En.same))⟩
end
/-- a call that raises C -/
def spX (K : PySem.W.Frag) (ds : List D) (C : Addr) : Sp := fun vs H _ E => Reps K H vs ds ∧ ∀ H', Same H H' → E (.ref C) none H'
structure VX (P : Program) (w : World) (K : PySem.W.Frag) (mg : Str → Option Value) (base : Heap) (k : Nat) (x : Str) (ds : List D) (C : Addr) : Prop where
  ex : ∃ (f : Addr) (fd : FuncData) (ps : List Str), mg x = some (.ref f) ∧ PySem.W.keepIn K (.ref f) = true ∧ Binds K fd ps [] ∧ FnOk P w K mg base (L2.CX P w) k f fd ps (spX K ds C)
section
variable {P : Program} {w : World} {K : PySem.W.Frag} {mg : Str → Option Value} {base : Heap}
theorem VX.of {x : Str} {st : Stmt} {N ps : List Str} {k : Nat} {ds : List D} {C : Addr} {ρ : RhoW} (F : Df K mg x st ps) (S : FnScope N ps (defScope st)) (hρ : startW N.length ds = ρ)
    (h : ∀ (f : Addr) (cdv : Value) (A : Around) (outer : List Env) (s : Shared) (H : Hp) (E : XK), Room k (cxOf (L2.CX P w) P w K mg base N x (defScope st) f cdv A outer s H E).A →
      Takes (cxOf (L2.CX P w) P w K mg base N x (defScope st) f cdv A outer s H E) (fun c d _ H => E c d H) →
      Ws (cxOf (L2.CX P w) P w K mg base N x (defScope st) f cdv A outer s H E) ρ (defBody st) { nx := fun _ => False, rt := fun _ => False, xs := fun c => c = .ref C, xw := fun c d _ H => E c d H }) (hl : ps.length = ds.length := by rfl) : VX P w K mg base (k + 1) x ds C := by
  obtain ⟨f, fd, h1, h2, h3⟩ := F.ex
  refine ⟨f, fd, ps, h1, h2.kp, h3, h2.okX S (fun vs H Q E q => by rw [hl]; exact q.1.1) fun cdv A outer s H vs Q E hr q => ?_⟩
  obtain ⟨r, q⟩ := q
  refine ⟨_, pss_wss, ?_⟩
  exact (h f cdv A outer s H E hr (takes_of rfl rfl rfl rfl)).run H (L2.start N vs) H _ (hρ ▸ start_env r) ⟨fun _ _ _ p => p.elim, fun _ _ _ p => p.elim, fun _ _ _ p => p.elim, fun _ _ _ _ p => p.elim, fun _ _ _ _ _ p => p.elim, fun c σ H' e _ s => by subst e; exact q H' s⟩
theorem VX.mono {j k : Nat} {x : Str} {ds : List D} {C : Addr} (F : VX P w K mg base j x ds C) (h : j ≤ k) : VX P w K mg base k x ds C := by
  obtain ⟨f, fd, ps, h1, h2, h3, h4⟩ := F.ex
  exact ⟨f, fd, ps, h1, h2, h3, h4.len, fun A outer s H args us vs Q E hr => h4.run A outer s H args us vs Q E (hr.mono h)⟩
end
/-- an expression that raises C -/
structure EvR (X : Cx) (ρ : Rho) (e : Expr) (C : Addr) (xw : WX) : Prop where
  run : ∀ (σ : L2.St) (H : Hp), EnvS X.K σ H ρ → (∀ H', Same H H' → xw (.ref C) none σ H') → ∀ Q : VK, WE X e σ H Q
section
variable {X : Cx} {ρ : Rho} {C : Addr} {xw : WX} {x : Str} {k : Nat} {e a b : Expr} {es : List Expr} {p pos : Pos} {ds : List D}
theorem EvR.call (F : VX X.prog X.w X.K X.mg X.base k x ds C) (hr : Room k X.A) (tk : Takes X xw) (ha : EvA X ρ (e :: es) ds) (hg : Gl X x := by rfl) (hdb : (x == ("__debug__" : Str)) = false := by decide)
    (he : starEach (e :: es) X.env = (false, eval e X.env) :: starEach es X.env := by rfl) (hpl : (backTo pos (starEach es X.env)).any (·.1) = false := by rfl) : EvR X ρ (.Call (.Name x p) (e :: es) [] pos) C xw := by
  obtain ⟨f, fd, ps, h1, h2, h3, h4⟩ := F.ex
  exact ⟨fun σ H en hx Q => we_of (pe_callS h4 hr hg h1 h2 h3 (fun σ => passAt tk σ) pa_wa hdb he hpl) (ha.run σ H en _ fun vs H1 s1 r1 => ⟨r1, fun H' s => hx H' (s1.trans s)⟩)⟩
theorem EvR.cmpL {op : CmpOp} {r : R2} (ho : OpR X (compareOp op) r) (ha : EvR X ρ a C xw) (hm : behindInMarks op b = false) : EvR X ρ (.Compare a [op] [b] pos) C xw :=
  ⟨fun σ H en hx Q => we_of (pe_cmpR ho pe_we (pe_we (e := b)) hm) (ha.run σ H en hx _)⟩
end
section
variable {X : Cx} {ρ : RhoW} {Φ : Post} {rest : List Stmt} {e : Expr} {C : Addr} {pos : Pos}
theorem EvR.own (h : EvR X (hide ρ) e C Φ.xw) (hx : Φ.xs (.ref C)) {H0 H : Hp} {σ : L2.St} {D : Ends} (E : EnvW X.K H0 σ H ρ) (k : EndsOk X.K H0 ρ.length Φ D) (Q : VK) : WE X e σ H Q := by
  obtain ⟨F, E⟩ := E
  refine (WE.frame E.cells (h.run σ (mask H (allOf F ρ.length)) E.envH (fun H' s => k.ex _ σ H' hx E.len ((mask_same_of E.same fun a ha => E.fresh a ha).trans s)) (fun _ _ => False))).mono ?_
  rintro v H' ⟨M, q, _⟩
  exact q.elim
theorem Ws.exprR (h : EvR X (hide ρ) e C Φ.xw) (hx : Φ.xs (.ref C)) (hs : swapsWith e none pos.line X.env = pure false := by rfl) : Ws X ρ (.Expr e pos :: rest) Φ := ⟨fun H0 σ H D E k =>
  WSs.cons (ws_of (ps_expr pe_we hs) (h.own hx E k _))⟩
theorem Ws.retR (h : EvR X (hide ρ) e C Φ.xw) (hx : Φ.xs (.ref C)) : Ws X ρ (.Return (some e) pos :: rest) Φ := ⟨fun H0 σ H D E k =>
  WSs.cons (ws_of (ps_ret pe_we) (h.own hx E k _))⟩
theorem Ws.asgR {x : Str} (i : Nat) {pos' : Pos} (hN : X.N.Nodup) (h : EvR X (hide ρ) e C Φ.xw) (hx : Φ.xs (.ref C)) (hi : X.N[i]? = some x := by rfl) (hl : Loc X.env.scope x := by first | exact Or.inl rfl | exact Or.inr rfl)
    (hs : swapsWith e (some (.Name x pos')) pos.line X.env = pure false := by rfl) (hf : X.fn x = true ∨ X.env.scope.names.lookup x = some .local := by first | exact .inl rfl | exact .inr rfl) : Ws X ρ (.Assign [.Name x pos'] e pos :: rest) Φ := ⟨fun H0 σ H D E k =>
  WSs.cons (ws_of (ps_set hN hi hl pe_we hs hf) (h.own hx E k _))⟩
end
/-! ### try .. except .. as n -/
theorem env_raw {K : PySem.W.Frag} {H0 H : Hp} {σ : L2.St} {n i : Nat} {a : Addr} (hl : σ.length = n) (s : Same H0 H) : EnvW K H0 (σ.set i (some (.ref a))) H ((List.replicate n none).set i (some (.sh (.raw a)))) := by
  have hall : ∀ m, allOf (fun _ => ([] : List Addr)) m = [] := fun m => by unfold allOf; simp
  refine ⟨fun _ => [], by simp [hl], fun _ => List.nodup_nil, fun i j a h => (by cases h), fun a ha => (by rw [hall] at ha; cases ha), s, fun j x h => ?_, fun _ _ => rfl⟩
  rw [hall, mask_nil]
  rw [List.getElem?_set] at h
  split at h
  · rename_i e
    split at h
    · rename_i hlt
      obtain rfl := Option.some.inj (Option.some.inj h)
      subst e
      exact ⟨.ref a, List.getElem?_set_self (by simpa [hl] using hlt), .raw a, rfl⟩
    · cases h
  · rw [List.getElem?_replicate] at h
    split at h <;> cases h
section
variable {X : Cx} {ρ : RhoW} {Φ : Post} {rest body suite : List Stmt} {x n : Str} {b₀ : Stmt} {np pos pos' : Pos} {c : Value}
/-- try: body except x as n: suite; the suite returns -/
theorem Ws.tryAs (i : Nat) (xs : Value → Prop) (hN : X.N.Nodup) (hc : Names X x c) (tk : Takes X Φ.xw)
    (hx : ∀ v, xs v → PySem.W.exmOne X.K v c = some true)
    (hb : ∀ (W : WX) (pn : List (Addr × Obj)) (xe : Value → Shared → Prop), Takes (X.tr pn xe) W → PassesOwn (model X.prog X.w) X.A X.env xe → Ws (X.tr pn xe) ρ body { nx := fun ρ => Ws X ρ rest Φ, rt := Φ.rt, xs := xs, xw := W })
    (hsu : ∀ (v : Value) (a : Addr) (oe : Obj) (pn : List (Addr × Obj)), xs v → Zc v none oe → (∃ vs, oe.data = .fields vs) → Ws (X.suite a ((a, oe) :: pn)) ((List.replicate ρ.length none).set i (some (.sh (.raw a)))) (b₀ :: suite) { nx := fun _ => False, rt := Φ.rt })
    (hs : X.stack = X.env :: X.outer := by rfl) (hf : X.env.frame = some X.env.locals := by rfl) (hi : X.N[i]? = some n := by rfl) (hln : X.env.kindOf n = some .local := by rfl) :
    Ws X ρ (.Try body [.ExceptHandler (some (.Name x np)) (some n) (b₀ :: suite) pos'] [] [] pos :: rest) Φ := ⟨fun H0 σ H D E k =>
  WSs.cons (ws_of (ps_try_as (Wout := Φ.xw) (i := i)
      (tb := fun W D σ H => ∀ (pn : List (Addr × Obj)) (xe : Value → Shared → Prop), Takes (X.tr pn xe) W → PassesOwn (model X.prog X.w) X.A X.env xe → WSs (X.tr pn xe) body σ H D)
      (ts := fun a cls d D σ H => ∀ (oe : Obj) (pn : List (Addr × Obj)), Zc cls d oe → (∃ vs, oe.data = .fields vs) → WSs (X.suite a ((a, oe) :: pn)) (b₀ :: suite) σ H D)
      hs hf hN hi hln hc tk (fun W pn xe t po => ⟨fun pins s σ H D I h => h pn xe t po pins s I⟩) (fun a oe cls d pn hz hd => ⟨fun pins s σ H D I h => h oe pn hz hd pins s I⟩)) (by
    have hl : σ.length = ρ.length := E.len
    intro pn xe t po
    refine (hb _ pn xe t po).run H0 σ H _ E ⟨fun σ' H' ρ' q l E' => q.run H0 σ' H' D E' (k.cast l.symm), fun _ _ _ q => q.elim, fun _ _ _ q => q.elim, k.rt, fun _ _ _ _ _ q => q.elim, fun v σ' H' q l s => ?_⟩
    refine ⟨true, hx v q, fun _ a na oe pn' hz hd => ?_, fun z => by cases z⟩
    refine (hsu v a oe pn' q hz hd).run H0 _ H' _ (env_raw l s) ⟨fun _ _ _ q => q.elim, fun _ _ _ q => q.elim, fun _ _ _ q => q.elim, k.rt, fun _ _ _ _ _ q => q.elim, fun _ _ _ q => q.elim⟩))⟩
end
end VL
set_option Elab.async false
set_option linter.all false
set_option maxRecDepth 100000
set_option maxHeartbeats 2000000
/-! value layer, part 23: defs called within an except suite, isinstance of the caught error -/
namespace VL
open PySem L2 PySem.Spec PyProof.Rows
/-- as L2H.FnH, but for one caught thing, of which nothing is asked -/
structure FnE (P : Program) (w : World) (K : PySem.W.Frag) (mg : Str → Option Value) (base : Heap) (k : Nat) (f : Addr) (fd : FuncData) (ps : List Str) (a : Addr) (oe : Obj) (sp : Sp) : Prop where
  len : ∀ vs H Q E, sp vs H Q E → vs.length = ps.length
  run : ∀ (A : Around) (outer : List Env) (s : Shared) (H : Hp) (args : Args) (us : List Value) (vs : List V) (Q : VK) (E : XK), L2H.RoomH k A → L2H.PinOk outer H s (a, oe) → Env0 P w K mg base A outer s H → BindsTo s fd args (ps.zip us) → Vals vs us → sp vs H Q E →
    codeAny (model P w) A (.call (.ref f) args) (CR CX0 outer P w H s Q E) s
theorem fnE_of {P : Program} {w : World} {K : PySem.W.Frag} {mg : Str → Option Value} {base : Heap} {k : Nat} {x qual : Str} {st : Stmt} {f : Addr} {fd : FuncData} {N ps : List Str} {sp : Sp} {a : Addr} {oe : Obj} (F : Fun K x qual st f fd) (S : FnScope N ps (defScope st))
    (len : ∀ vs H Q E, sp vs H Q E → vs.length = ps.length)
    (hbody : ∀ (cdv : Value) (A : Around) (outer : List Env) (s : Shared) (H : Hp) (vs : List V) (Q : VK) (E : XK), L2H.RoomH k (A.deeper (envOfC qual (defScope st) s.heap.objs.size f cdv)) → sp vs H Q E →
      ∃ t, PSs (L2H.cxH CX0 P w K mg base N qual (defScope st) f cdv A outer s H E (a, oe)).nox (defBody st) t ∧ t { nx := fun _ H' => Q .non H', rt := Q } (L2.start N vs) H) :
    FnE P w K mg base (k + 1) f fd ps a oe sp := by
  obtain ⟨oc, od, kV, doc, pm, an, cdv, ct, osl, rfl, lk, hcd⟩ := F.ex
  refine ⟨len, fun A outer s H args us vs Q E hr hpin e0 hb r hsp => ?_⟩
  have hl := len _ _ _ _ hsp
  have KX : K.In s.heap := e0.mod.kin.keeps fun b o e => (e0.bs b o e).1
  have lim : s.heap.NoLimit := e0.mod.nolimit.keeps fun b o e => (e0.bs b o e).1
  have hkind : ∀ y ∈ ps.zip us, (defScope st).names.lookup y.1 = some .local ∨ ((defScope st).names.lookup y.1 = some .cell ∧ ((cellsFrom (s.heap.objs.size + 1) (defScope st).names []).lookup y.1).isSome = true) := fun ⟨n, v⟩ hy => by
    rcases S.par n (List.of_mem_zip hy).1 with q | q
    · exact .inl q
    · exact .inr ⟨q, PySem.W.cellsFrom_some _ _ _ (.inl q)⟩
  refine codeAny_call_function hr.depth (KX _ _ lk) rfl S.co S.gen rfl (PySem.W.codeRec_of KX hcd) (hb _ _ _ _ ?_)
  refine wpAny_newFunctionEnv_cells S.kind hkind fun env he s1 x => ?_
  subst he
  refine ⟨lim.keeps x.toInCall.keep, codeAny_func ?_⟩
  obtain ⟨t, ht, hq⟩ := hbody cdv A outer s H vs Q E (hr.deeper _) hsp
  have I : Inv (L2H.cxH CX0 P w K mg base N qual (defScope st) f cdv A outer s H E (a, oe)) [] (L2.start N vs) H s1 := L2H.inv_startH S hpin e0 hl r x
  refine wpAny_mono (ht.nox.run [] s1 (L2.start N vs) H _ I hq) (fun fl s' hs => ?_) fun e s' hs => hs
  have fin : ∀ {σ' : L2.St} {H' : Hp} {v : V} {u : Value}, Inv (L2H.cxH CX0 P w K mg base N qual (defScope st) f cdv A outer s H E (a, oe)) [] σ' H' s' → RelV v u → Q v H' → CE outer P w H s Q u s' :=
    fun {σ' H' v u} J rv q => ⟨v, H', J.os, J.bare, J.base, J.hok, rv, q⟩
  cases fl with
  | ret u =>
    obtain ⟨v, σ', H', J, rv, q⟩ := hs
    exact fin J rv q
  | next =>
    obtain ⟨σ', H', J, q⟩ := hs
    exact fin (v := V.non) (u := Value.none) J rfl q
  | brk =>
    obtain ⟨_, _, _, q⟩ := hs
    exact False.elim q
  | cont =>
    obtain ⟨_, _, _, q⟩ := hs
    exact False.elim q
/-- what a call within the suite is worth -/
structure VE (P : Program) (w : World) (K : PySem.W.Frag) (mg : Str → Option Value) (base : Heap) (k : Nat) (x : Str) (a : Addr) (oe : Obj) (ds : List D) (post : O → Prop) : Prop where
  ex : ∃ (f : Addr) (fd : FuncData) (ps : List Str), mg x = some (.ref f) ∧ PySem.W.keepIn K (.ref f) = true ∧ Binds K fd ps [] ∧ FnE P w K mg base k f fd ps a oe (spV K ds post)
section
variable {P : Program} {w : World} {K : PySem.W.Frag} {mg : Str → Option Value} {base : Heap} {a : Addr} {oe : Obj}
theorem VE.of {x : Str} {st : Stmt} {N ps : List Str} {k : Nat} {ds : List D} {post : O → Prop} {ρ : RhoW} (F : Df K mg x st ps) (S : FnScope N ps (defScope st)) (hρ : startW N.length ds = ρ)
    (h : ∀ (f : Addr) (cdv : Value) (A : Around) (outer : List Env) (s : Shared) (H : Hp) (E : XK), L2H.RoomH k (L2H.cxH CX0 P w K mg base N x (defScope st) f cdv A outer s H E (a, oe)).A →
      Ws (L2H.cxH CX0 P w K mg base N x (defScope st) f cdv A outer s H E (a, oe)).nox ρ (defBody st) { nx := fun _ => post (.sh .non), rt := post }) (hl : ps.length = ds.length := by rfl) : VE P w K mg base (k + 1) x a oe ds post := by
  obtain ⟨f, fd, h1, h2, h3⟩ := F.ex
  refine ⟨f, fd, ps, h1, h2.kp, h3, fnE_of h2 S (fun vs H Q E q => by rw [hl]; exact q.1.1) fun cdv A outer s H vs Q E hr q => ?_⟩
  obtain ⟨r, q⟩ := q
  refine ⟨_, pss_wss, ?_⟩
  refine (h f cdv A outer s H E hr).run H (L2.start N vs) H _ (hρ ▸ start_env r) ⟨fun σ H' ρ' p l E' => ?_, fun σ H' ρ' p l E' => p.elim, fun σ H' ρ' p l E' => p.elim, fun o v H' A p s f nd r => q o v H' A p s f nd r, fun _ _ _ _ _ p => p.elim, fun _ _ _ p => p.elim⟩
  obtain ⟨F', E'⟩ := E'
  exact q (.sh .non) .non H' [] p E'.same (by simp) (by simp) (.sh .non)
end
section
variable {X : Cx} {k : Nat} {f : Addr} {fd : FuncData} {ps : List Str} {sp : Sp} {E : L2.St → XK} {x : Str} {q p pos : Pos} {e : Expr} {es : List Expr} {t : TA} {a : Addr} {oe : Obj}
theorem run_fnE {pins : List (Addr × Obj)} {σ : L2.St} {H : Hp} {s : Shared} {Q : VK} {us : List Value} {vs : List V} (F : FnE X.prog X.w X.K X.mg X.base k f fd ps a oe sp) (hr : L2H.RoomH k X.A) (hp : (a, oe) ∈ X.pn) (hb : Binds X.K fd ps []) (hx : PassesAt CX0 X σ (E σ))
    (I : Inv X pins σ H s) (r : Vals vs us) (h : sp vs H Q (E σ)) : wpAny (model X.prog X.w) X.A (call (.ref f) us) (EP X pins σ Q) X.xe s := by
  have hl : us.length = ps.length := by rw [← r.length]; exact F.len _ _ _ _ h
  have b := hb s us I.kIn (by rw [List.append_nil]; exact hl)
  rw [List.append_nil] at b
  have P1 := I.pin (a, oe) (List.mem_append_left _ hp)
  have hpin : L2H.PinOk X.stack H s (a, oe) := ⟨P1.1, P1.2.1, fun hm => (List.mem_cons.mp (I.stkSub a hm)).elim P1.2.2.1 P1.2.2.2.1, P1.2.2.2.2⟩
  refine wpAny_call (codeAny_mono (F.run X.A X.stack s H ⟨us, []⟩ us vs Q (E σ) hr hpin I.env0 b r h) fun r s' hq => ?_)
  cases r with
  | error e => exact hx pins H s e s' I hq
  | ok fl =>
    cases fl with
    | ret u => exact I.after hq
    | next => exact False.elim hq
    | brk => exact False.elim hq
    | cont => exact False.elim hq
theorem pe_callE (F : FnE X.prog X.w X.K X.mg X.base k f fd ps a oe sp) (hr : L2H.RoomH k X.A) (hp : (a, oe) ∈ X.pn) (hg : Gl X x) (hm : X.mg x = some (.ref f)) (hk : PySem.W.keepIn X.K (.ref f) = true) (hb : Binds X.K fd ps []) (hx : ∀ σ, PassesAt CX0 X σ (E σ))
    (ha : PA X (e :: es) t) (hdb : (x == ("__debug__" : Str)) = false := by decide) (he : starEach (e :: es) X.env = (false, eval e X.env) :: starEach es X.env := by rfl) (hpl : (backTo pos (starEach es X.env)).any (·.1) = false := by rfl) :
    PE X (.Call (.Name x q) (e :: es) [] pos) (tCallS sp E t) := by
  refine ⟨fun pins s σ H Q I h => ?_⟩
  refine wpAny_Call_Name_kw (ld_glob I hg hm ?_ hdb)
  refine PySem.W.callWith_K (h₀ := X.base) I.ok.mod.kin hk (thn (ha.run pos pins s σ H _ I h) fun us s1 ⟨vs, H1, I1, r, q⟩ => ⟨I1.kIn, ?_⟩) he hpl
  exact run_fnE F hr hp hb (hx σ) I1 r q
variable {ρ : Rho} {ds : List D} {d : D} {post : O → Prop}
theorem Ev.callE (F : VE X.prog X.w X.K X.mg X.base k x a oe ds post) (hr : L2H.RoomH k X.A) (hp : (a, oe) ∈ X.pn) (ha : EvA X ρ (e :: es) ds) (hpo : ∀ o', post o' → o'.data = d) (hg : Gl X x := by rfl) (hdb : (x == ("__debug__" : Str)) = false := by decide)
    (he : starEach (e :: es) X.env = (false, eval e X.env) :: starEach es X.env := by rfl) (hpl : (backTo pos (starEach es X.env)).any (·.1) = false := by rfl) : Ev X ρ (.Call (.Name x p) (e :: es) [] pos) d := by
  obtain ⟨f, fd, ps, h1, h2, h3, h4⟩ := F.ex
  refine ⟨fun σ H en Q q => we_of (pe_callE (E := fun _ => E0) h4 hr hp hg h1 h2 h3 (fun σ pins H s e s' I c => c.elim) pa_wa hdb he hpl) (ha.run σ H en _ fun vs H1 s1 r1 => ?_)⟩
  exact ⟨r1, fun o' v H' A po s2 fr nd ro => q v H' (s1.trans s2) (by rw [← hpo o' po]; exact ro.rep mask_same)⟩
end
theorem roomM {k : Nat} {A : Around} {v : Option Value} (r : Room k A) : L2H.RoomH k (A.mark v) := ⟨r.dp, r.un⟩
/-! ### isinstance of the caught error -/
section
variable {X : Cx} {a D' : Addr} {oe : Obj}
theorem call_isE' (C : ExcC X.K D') (hz : Zc (.ref D') none oe) (hf : ∃ vs, oe.data = .fields vs) (hp : (a, oe) ∈ X.pn) : CallR X (.builtin "isinstance") (rIsE X.K D' a) := by
  intro pins s σ H xs us Q I r h
  obtain ⟨c, cv, b, rfl, hcv, e, q⟩ := h
  cases r with
  | cons rx rr =>
    cases rr with
    | cons rt rr =>
      cases rr
      cases rx
      have ec := hcv _ rt
      subst ec
      obtain ⟨hget, _⟩ := I.pin (a, oe) (List.mem_append.mpr (.inl hp))
      obtain ⟨vs, hv⟩ := hf
      have J : PySem.W.InstAt s.heap a oe D' none := by
        obtain ⟨oc, od, oda, osl⟩ := oe
        obtain ⟨h1, h2⟩ := hz
        dsimp only at h1 h2 hv
        subst h1 h2 hv
        exact ⟨hget, rfl, rfl, trivial⟩
      exact PySem.W.kia_one (PySem.W.handS_kitx_exc C.hg C.hk C.hs C.hd C.ha C.hn C.ht C.hm) I.kIn J e (fun z => nomatch z) fun tk => ⟨.bl b, H, I.kept (t' := tk) fun _ _ z => z, rfl, q⟩
variable {ρ : Rho} {e : Expr} {T : Str} {T' : String} {c : Bool} {q1 p pos : Pos} {C' : Addr}
theorem Ev.isEC (C : ExcC X.K D') (hz : Zc (.ref D') none oe) (hf : ∃ vs, oe.data = .fields vs) (hp : (a, oe) ∈ X.pn) (hm : X.mg "isinstance" = none) (h : Ev X ρ e (.raw a)) (hT : X.mg T = some (.ref C')) (hk : PySem.W.kitOne X.K (.ref D') (.ref C') = some c)
    (hg : Gl X "isinstance" := by rfl) (hgT : Gl X T := by rfl) (hd : (T == ("__debug__" : Str)) = false := by decide)
    (hs : starEach [e, .Name T q1] X.env = (false, eval e X.env) :: starEach [.Name T q1] X.env := by rfl) (hs2 : starEach [.Name T q1] X.env = (false, eval (.Name T q1) X.env) :: starEach [] X.env := by rfl)
    (hpl : (backTo pos (starEach [.Name T q1] X.env)).any (·.1) = false := by rfl) : Ev X ρ (.Call (.Name "isinstance" p) [e, .Name T q1] [] pos) (.bl c) :=
  ⟨fun σ H en Q q => we_of (pe_callB (call_isE' C hz hf hp) hg hm (by decide +kernel) (pa_cons pe_we (pa_cons (pe_glob (v := .ref C') hgT hT rfl hd) pa_nil hs2) hs) (by decide) (by decide) hs hpl)
    (h.run σ H en _ fun v H1 s1 r1 => by
      cases r1 with
      | raw _ => exact ⟨.ref C', .ref C', c, rfl, fun u r => r, hk, q _ H1 s1 (.bl c)⟩)⟩
theorem Ev.isEB (C : ExcC X.K D') (hz : Zc (.ref D') none oe) (hf : ∃ vs, oe.data = .fields vs) (hp : (a, oe) ∈ X.pn) (hm : X.mg "isinstance" = none) (h : Ev X ρ e (.raw a)) (hT : X.mg T = none) (hk : PySem.W.kitOne X.K (.ref D') (.type T') = some c) (hb : bootBuiltins T = some (.type T') := by decide +kernel)
    (hg : Gl X "isinstance" := by rfl) (hgT : Gl X T := by rfl) (hn : T ≠ "__name__" := by decide) (hd : (T == ("__debug__" : Str)) = false := by decide)
    (hs : starEach [e, .Name T q1] X.env = (false, eval e X.env) :: starEach [.Name T q1] X.env := by rfl) (hs2 : starEach [.Name T q1] X.env = (false, eval (.Name T q1) X.env) :: starEach [] X.env := by rfl)
    (hpl : (backTo pos (starEach [.Name T q1] X.env)).any (·.1) = false := by rfl) : Ev X ρ (.Call (.Name "isinstance" p) [e, .Name T q1] [] pos) (.bl c) :=
  ⟨fun σ H en Q q => we_of (pe_callB (call_isE' C hz hf hp) hg hm (by decide +kernel) (pa_cons pe_we (pa_cons (pe_bltn (v := .ty T') hgT hT hb rfl hn hd) pa_nil hs2) hs) (by decide) (by decide) hs hpl)
    (h.run σ H en _ fun v H1 s1 r1 => by
      cases r1 with
      | raw _ => exact ⟨.ty T', .type T', c, rfl, fun u r => r, hk, q _ H1 s1 (.bl c)⟩)⟩
end
end VL
set_option Elab.async false
set_option linter.all false
set_option maxRecDepth 100000
set_option maxHeartbeats 2000000
/-! value layer, part 24: the place of a thing in a list, the errors of the program -/
namespace VL
open PySem L2 PySem.Spec PyProof.Rows
theorem pyAll_get : ∀ (ds : List D) (j : Nat), (pyAll ds)[j]? = ds[j]?.map D.py
  | [], j => by simp [pyAll]
  | x :: xs, 0 => by simp [pyAll]
  | x :: xs, j + 1 => by simp [pyAll, pyAll_get xs j]
/-- e.index(a), things of any kind -/
theorem Ev.indexD {X : Cx} {ρ : Rho} {e a : Expr} {q p : Pos} {d z : D} {ds : List D} {j : Nat} (hu : X.A.units + 65 < cLine) (h : Ev X ρ e (.lst ds)) (ha : Ev X ρ a d) (h1 : Shp d) (h2 : Shp (.lst ds)) (hj : ds[j]? = some z) (hz : eqvD z d = true) (hno : ∀ m z', m < j → ds[m]? = some z' → eqvD z' d = false)
    (hpe : ∀ {t t2}, PE X e t → PE X a t2 → PE X (.Call (.Attribute e "index" q) [a] [] p) (tBM X.K "list" (rIndexD X.K) t (tCons t2 tNil)) := by
      intro t t2 g1 g2; exact pe_bm PySem.F.plainAttrs_list PySem.F.slot_list_index PySem.F.type_list_index (mt_indexD (by assumption)) g1 (pa_cons g2 pa_nil)) : Ev X ρ (.Call (.Attribute e "index" q) [a] [] p) (.int (j : Int)) :=
  ⟨fun σ H en Q q => we_of (hpe pe_we pe_we) (h.run σ H en _ fun v H1 s1 r1 => by
    obtain ⟨b, vs, rfl, hb, rs⟩ := r1.lst_inv
    refine ⟨.inl ⟨rfl, vs, SqL.of hb⟩, ha.run σ H1 (en.mono s1) _ fun w H2 s2 r2 => ?_⟩
    refine ⟨b, w, d.py, pyAll ds, j, z.py, rfl, rfl, (r1.mono s2).dpL h2.1, r2.dp h1.1, by have := h2.2; rw [D.py] at this; exact this, h1.2, by rw [pyAll_get, hj]; rfl, hz, fun m z' hm hz' => ?_, q _ H2 (s1.trans s2) (.int _)⟩
    rw [pyAll_get] at hz'
    obtain ⟨y, hy, rfl⟩ := Option.map_eq_some_iff.mp hz'
    exact hno m y hm hy)⟩
theorem unitsH {k : Nat} {A : Around} (r : L2H.RoomH k A) : A.units + 65 < cLine := by have := r.un; omega
/-- the names of the refusals -/
abbrev errN : List Str := ["BadStrip", "BadOrder", "NoFold", "NothingDone", "TooMany", "BadText"]
abbrev errT : List Str := ["strip", "order", "fold", "nothing", "many", "text"]
/-- what the text says of the refusal x, the j-th -/
structure ErrW (K : PySem.W.Frag) (mg : Str → Option Value) (j : Nat) (x : Str) (Dx Fx : Addr) : Prop where
  er : ErrC K mg x Dx
  ec : ExcC K Dx
  gF : mg "FoldError" = some (.ref Fx)
  ex : PySem.W.exmOne K (.ref Dx) (.ref Fx) = some true
  kits : ∀ i n, errN[i]? = some n → ∃ C', mg n = some (.ref C') ∧ PySem.W.kitOne K (.ref Dx) (.ref C') = some (decide (i = j))
  kv : PySem.W.kitOne K (.ref Dx) (.type "ValueError") = some true
/-! how the facts of the classes make it -/
section
variable {K : PySem.W.Frag} {Da Ca : Addr}
theorem kit_self : PySem.W.kitOne K (.ref Da) (.ref Da) = some true := by unfold PySem.W.kitOne; rw [if_pos (by simp)]
theorem kit_other (hne : (Value.ref Da == Value.ref Ca) = false) (hd : PySem.W.hasDictIn K Ca = true) (ht : PySem.W.typeIn K (.ref Ca) = some (.type "type")) (hs : PySem.W.subIn K (.ref Da) (.ref Ca) = some false) : PySem.W.kitOne K (.ref Da) (.ref Ca) = some false := by
  obtain ⟨cd, hc, _⟩ := PySem.W.any_some hd
  have e2 : ((PySem.W.clsIn K Ca).isSome && PySem.W.typeIn K (.ref Ca) == some (.type "type")) = true := by rw [hc, ht] <;> rfl
  unfold PySem.W.kitOne
  rw [if_neg (by rw [hne]; simp)]
  show (if ((PySem.W.clsIn K Ca).isSome && PySem.W.typeIn K (.ref Ca) == some (.type "type")) = true then PySem.W.subIn K (.ref Da) (.ref Ca) else none) = _
  rw [if_pos e2]
  exact hs
theorem kit_val (hs : PySem.W.subIn K (.ref Da) (.type "ValueError") = some true) : PySem.W.kitOne K (.ref Da) (.type "ValueError") = some true := by
  unfold PySem.W.kitOne
  rw [if_neg (by simp)]
  show (if PySem.W.kitMeta "ValueError" = true then PySem.W.subIn K (.ref Da) (.type "ValueError") else none) = _
  rw [if_pos (by decide +kernel)]
  exact hs
end
end VL
set_option Elab.async false
set_option linter.all false
set_option maxRecDepth 100000
set_option maxHeartbeats 1000000
/-! value layer, part 25: powers, tuples of lists -/
namespace L2
open PySem PySem.Spec PyProof.Rows
/-- x in t, t a tuple of things of any depth -/
def rInTD (K : PySem.W.Frag) : R2 := fun x y H Q => ∃ d ds, Dp K H x d ∧ Dp K H y (.tuple ds) ∧ SeqAt.shaped d = true ∧ SeqAt.shaped (.tuple ds) = true ∧ Q (.bl (ds.any fun z => PyData.eqv z d)) H
theorem op_inTD {X : Cx} (hu : X.A.units + 65 < cLine) : OpR X (compareOp .In) (rInTD X.K) := by
  intro pins s σ H x y v u Q I rx ry h
  obtain ⟨d, ds, hd, he, sd, se, q⟩ := h
  obtain ⟨as, r1⟩ := Dp.reads I d x v hd rx
  obtain ⟨bs, r2⟩ := Dp.reads I (.tuple ds) y u he ry
  exact SeqAt.in_tuple_reads r2 r1 (SeqAt.canLay_of_shaped se) (SeqAt.canLay_of_shaped sd) (room_in_shaped sd hu) ⟨.bl _, H, I, rfl, q⟩
end L2
namespace VL
open PySem L2
theorem any_py (d : D) : ∀ ds : List D, (pyAll ds).any (fun z => PyData.eqv z d.py) = ds.any fun z => eqvD z d
  | [] => by simp [pyAll]
  | x :: xs => by simp only [pyAll, List.any_cons]; rw [any_py d xs]; rfl
theorem CmpD.inT {X : Cx} {d1 : D} (hu : X.A.units + 65 < cLine) {ds : List D} (h1 : Shp d1) (h2 : Shp (.tup ds)) : CmpD X .In d1 (.tup ds) (ds.any fun z => eqvD z d1) :=
  ⟨_, op_inTD hu, fun v w H rv rw' Q q => ⟨_, _, rv.dp h1.1, by have := rw'.dp h2.1; rw [D.py] at this; exact this, h1.2, by have := h2.2; rw [D.py] at this; exact this, by
    rw [any_py]
    exact q _ H (Same.refl H) (.bl _)⟩⟩
section
variable {X : Cx} {ρ : Rho} {a b e : Expr} {p pos : Pos} {i j : Int} {ds : List D}
theorem Ev.pow (ha : Ev X ρ a (.int i)) (hb : Ev X ρ b (.int j)) (hc : CPow i j) : Ev X ρ (.BinOp a .Pow b pos) (.int (i ^ j.toNat)) := Ev.opI op_pow ha hb hc rfl
/-- tuple(e), e a list -/
theorem Ev.tupleL (hm : X.mg "tuple" = none) (h : Ev X ρ e (.lst ds)) (hg : Gl X "tuple" := by rfl) (hs : starEach [e] X.env = (false, eval e X.env) :: starEach [] X.env := by rfl) (hpl : (backTo pos (starEach [] X.env)).any (·.1) = false := by rfl) : Ev X ρ (.Call (.Name "tuple" p) [e] [] pos) (.tup ds) :=
  Ev.callTy call_tuple_of hg hm (by decide +kernel) (.one h hs) (fun vs H r0 Q q => by
    obtain ⟨v, rfl, r⟩ := r0.one
    obtain ⟨l, us, rfl, hl, rs⟩ := r.lst_inv
    exact ⟨l, us, rfl, .inl ⟨SqL.of hl, fun t ht => q _ _ (Same.new ht) (.tup' upd_same (rs.mono (Same.new ht)))⟩⟩) (by decide) (by decide) hs hpl
/-- a whole number of the module -/
theorem Ev.globI {X : Cx} {ρ : Rho} {x : Str} {z : Int} {t : Tok} {p : Pos} (hm : X.mg x = some (.int z t)) (hg : Gl X x := by rfl) (hd : (x == ("__debug__" : Str)) = false := by decide) : Ev X ρ (.Name x p) (.int z) :=
  ⟨fun σ H en Q q => we_of (pe_glob (v := .int z) hg hm ⟨t, rfl⟩ hd) (q _ H (Same.refl H) (.int z))⟩
end
end VL
set_option Elab.async false
set_option linter.all false
set_option maxRecDepth 100000
set_option maxHeartbeats 2000000
/-! value layer, part 26: lists of lists sorted -/
namespace L2
open PySem PySem.Spec PyProof.Rows PySem.W
/-- sorted(e), things of one kind; b tells which is which -/
def rSortedD (K : PySem.W.Frag) : List V → Hp → VK → Prop := fun vs H Q => ∃ (a : Addr) (β : Type) (bs : List β) (f : β → V) (enc : β → PyData), vs = [V.ref a] ∧ SqL K H a (bs.map f) ∧ (∀ b, b ∈ bs → Dp K H (f b) (enc b)) ∧ AllAlike (bs.map enc) ∧ Sortable (bs.map enc) ∧ (∀ b, b ∈ bs → (enc b).depth ≤ 40) ∧
  ∀ p, H p = none → Q (.ref p) (upd H p (.lst ((bs.mergeSort (dataLe false enc)).map f)))
theorem each_vals {β : Type} {f : β → V} : ∀ {bs : List β} {us : List Value}, Vals (bs.map f) us → EachIs (fun u b => RelV (f b) u) us bs
  | [], _, r => by
    have r' : Vals [] _ := r
    cases r'
    exact .nil
  | b :: bs, _, r => by
    have r' : Vals (f b :: bs.map f) _ := r
    cases r' with
    | cons h t => exact .cons h (each_vals t)
theorem vals_each {β : Type} {f : β → V} : ∀ {bs : List β} {us : List Value}, EachIs (fun u b => RelV (f b) u) us bs → Vals (bs.map f) us
  | _, _, .nil => .nil
  | _, _, .cons h t => .cons h (vals_each t)
theorem each_with {β : Type} {R S : Value → β → Prop} : ∀ {us : List Value} {bs : List β}, EachIs R us bs → (∀ u b, b ∈ bs → R u b → S u b) → EachIs S us bs
  | _, _, .nil, _ => .nil
  | _, _, .cons h t, k => .cons (k _ _ (List.mem_cons_self ..) h) (each_with t fun u b hb => k u b (List.mem_cons_of_mem _ hb))
theorem cr_sortedD {X : Cx} (hu : X.A.units + 64 < cLine) : CallR X (.builtin "sorted") (rSortedD X.K) := by
  intro pins s σ H vs us Q I r h
  obtain ⟨a, β, bs, f, enc, rfl, hs, hd, hal, hk, hdp, q⟩ := h
  obtain ⟨its, rv, hl, hz⟩ := I.list hs
  rw [Vals.ref1 r]
  have ee := each_vals rv
  refine sorted_data (R := fun u b => RelV (f b) u) hl.isList ee (each_with ee fun u b hb hr => Dp.reads I _ _ _ (hd b hb) hr) hal hk (by rw [List.length_map] at hz; exact hz) (fun b hb => by have := hdp b hb; omega) fun out h1 h2 => ?_
  obtain ⟨ep, he'⟩ := PyProof.Rows.sortedAll_at s.heap its out.toArray
  have hlen : ((bs.mergeSort (dataLe false enc)).map f).length ≤ sizeLine := by
    rw [List.length_map, List.length_mergeSort]
    rw [List.length_map] at hz
    exact hz
  exact ⟨.ref _, upd H (s.heap.objs.size + 1) (.lst ((bs.mergeSort (dataLe false enc)).map f)), I.laid (t' := s.toks) (fun _ _ => PyProof.Rows.sortedAll_old) (Nat.le_succ _) ⟨hlen, out, ep, vals_each h2, he'⟩, rfl, q _ (I.hok.fresh (Nat.le_succ _))⟩
end L2
namespace VL
open PySem L2 PySem.W
theorem dI_py (L : List Int) : (dI L).py = .list (L.map .int) := by
  unfold dI
  rw [D.py, pyAll_map, List.map_map]
  exact congrArg PyData.list (List.map_congr_left fun x _ => by simp [D.py])
theorem alike_dI (a b : List Int) : alike (dI a).py (dI b).py = true := by
  rw [dI_py, dI_py, alike]
  exact alike_ints a b
theorem depth_dI (L : List Int) : (dI L).py.depth ≤ 1 := by
  rw [dI_py, PyData.depth, depth_ints]
  exact Nat.le_refl 1
def sortL (rows : List (List Int)) : List (List Int) := rows.mergeSort fun a b => decide (a ≤ b)
theorem sortL_perm (rows : List (List Int)) : (sortL rows).Perm rows := List.mergeSort_perm rows _
theorem plain_dI (L : List Int) : (dI L).plain = true := (good_plain _ (good_dI L)).1
section
variable {X : Cx} {ρ : Rho} {e : Expr} {p pos : Pos} {rows : List (List Int)}
/-- sorted(e), lists of whole numbers -/
theorem EvO.sortedL (hu : X.A.units + 64 < cLine) (hm : X.mg "sorted" = none) (h : Ev X ρ e (.lst (rows.map dI))) (hg : Gl X "sorted" := by rfl) (hs : starEach [e] X.env = (false, eval e X.env) :: starEach [] X.env := by rfl) (hpl : (backTo pos (starEach [] X.env)).any (·.1) = false := by rfl) :
    EvO X ρ (.Call (.Name "sorted" p) [e] [] pos) (oL ((sortL rows).map dI)) :=
  EvO.callB (cr_sortedD hu) hg hm (by decide +kernel) (.one h hs) (fun vs H r0 Q q => by
    obtain ⟨v, rfl, r⟩ := r0.one
    obtain ⟨a, ws, rfl, h, rs⟩ := r.lst_inv
    have hl : ws.length = rows.length := by rw [rs.1, List.length_map]
    -- each thing with its row
    have hz : (ws.zip rows).map Prod.fst = ws := List.map_fst_zip (by omega)
    have hz2 : (ws.zip rows).map Prod.snd = rows := List.map_snd_zip (by omega)
    have each : ∀ b ∈ ws.zip rows, Rep X.K H b.1 (dI b.2) := fun b hb => by
      obtain ⟨i, hi⟩ := List.getElem?_of_mem hb
      obtain ⟨h1, h2⟩ := List.getElem?_zip_eq_some.mp hi
      exact rs.2 i b.1 (dI b.2) h1 (by rw [List.getElem?_map, h2]; rfl)
    refine ⟨a, V × List Int, ws.zip rows, Prod.fst, fun b => (dI b.2).py, rfl, by rw [hz]; exact SqL.of h, fun b hb => (each b hb).dp (plain_dI _), AllAlike.of fun b b' => alike_dI _ _, Sortable.others fun b => ⟨fun z => (by rw [dI_py] at z; cases z), fun xs z => (by rw [dI_py] at z; cases z)⟩, fun b _ => Nat.le_trans (depth_dI b.2) (by decide), fun pp hp => ?_⟩
    refine q pp _ hp ?_
    have e1 : dataLe false (fun b : V × List Int => (dI b.2).py) = fun p q => decide (p.2 ≤ q.2) := by
      have : (fun b : V × List Int => (dI b.2).py) = fun b => .list (b.2.map .int) := funext fun b => dI_py b.2
      rw [this]
      exact dataLe_rows fun b : V × List Int => b.2
    have e2 : (sortL rows) = ((ws.zip rows).mergeSort (dataLe false fun b : V × List Int => (dI b.2).py)).map Prod.snd := by
      rw [e1]
      unfold sortL
      rw [List.map_mergeSort (r := fun p q : V × List Int => decide (p.2 ≤ q.2)) (s := fun a b => decide (a ≤ b)) (f := Prod.snd) (fun _ _ _ _ => rfl), hz2]
    rw [e2]
    generalize hM : (ws.zip rows).mergeSort (dataLe false fun b : V × List Int => (dI b.2).py) = Ms
    have sub : ∀ b ∈ Ms, Rep X.K H b.1 (dI b.2) := fun b hb => each b (by rw [← hM, List.mem_mergeSort] at hb; exact hb)
    clear hM e2
    rw [List.map_map]
    refine ⟨by simp, fun i v d h1 h2 => ?_⟩
    rw [List.getElem?_map] at h1 h2
    obtain ⟨b, hb, rfl⟩ := Option.map_eq_some_iff.mp h1
    rw [hb] at h2
    obtain rfl := Option.some.inj h2
    exact sub b (List.mem_of_getElem? hb)) (by decide) (by decide) hs hpl
end
end VL
set_option Elab.async false
set_option linter.all false
set_option maxRecDepth 100000
set_option maxHeartbeats 2000000
/-! value layer, part 27: own things of an own list that go to a new list, or behind another one -/
namespace VL
open PySem L2 PySem.W
section
variable {K : PySem.W.Frag} {H0 H H' S : Hp} {σ : L2.St} {ρ : RhoW} {F : Nat → List Addr} {o : O} {d0 d : D} {os os' : List O}
def atV (vs : List V) (k : Nat) : V := vs.getD k .non
def atO (os : List O) (k : Nat) : O := os.getD k (.sh .non)
theorem atV_of {vs : List V} {k : Nat} (h : k < vs.length) : vs[k]? = some (atV vs k) := by
  unfold atV
  rw [List.getD_eq_getElem?_getD, List.getElem?_eq_getElem h]; rfl
theorem atO_of {os : List O} {k : Nat} (h : k < os.length) : os[k]? = some (atO os k) := by
  unfold atO
  rw [List.getD_eq_getElem?_getD, List.getElem?_eq_getElem h]; rfl
theorem map_atO (os : List O) : (List.range os.length).map (atO os) = os := by
  apply List.ext_getElem?
  intro k
  rw [List.getElem?_map]
  by_cases hk : k < os.length
  · rw [List.getElem?_range hk, atO_of hk]; rfl
  · rw [List.getElem?_eq_none (by simpa using hk), List.getElem?_eq_none (by omega)]; rfl
/-- some of an own list's things, each once, go to a new list at p; the old list is given up -/
theorem EnvA.relist (E : EnvA K H0 σ H ρ F) {j : Nat} {a p : Addr} {vs : List V} {sel : List Nat} (hρ : ρ[j]? = some (some (.ow (.ls os) d0))) (hσ : σ[j]? = some (some (.ref a))) (ha : H a = some (.lst vs)) (nd : sel.Nodup) (hb : ∀ k ∈ sel, k < os.length)
    (s : Same H H') (hp : H p = none) (hp' : H' p = some (.lst (sel.map (atV vs)))) (hd : (O.ls (sel.map (atO os))).data = d) :
    EnvW K H0 (σ ++ [some (.ref p)]) H' (ρ.set j none ++ [some (.ow (.ls (sel.map (atO os))) d)]) := by
  obtain ⟨v, hv, r⟩ := E.get j _ hρ
  have hj := (List.getElem?_eq_some_iff.mp hρ).1
  have hl := E.len
  have r2 := r.2
  have hFn := E.nd j
  generalize hF : F j = Fj at r2 hFn
  cases r2 with
  | @ls a' vs' _ As h1 h2 h3 h4 =>
    rw [hσ] at hv
    obtain rfl : a = a' := by simpa using hv
    rw [ha] at h1
    obtain rfl : vs = vs' := by simpa using h1
    obtain ⟨_, hAn⟩ := List.nodup_cons.mp hFn
    let pick : Nat → List Addr := fun k => As.getD k []
    have hpk : ∀ k, k < os.length → As[k]? = some (pick k) := fun k hk => by
      show As[k]? = some (As.getD k [])
      rw [List.getD_eq_getElem?_getD, List.getElem?_eq_getElem (by omega)]; rfl
    have inF : ∀ k ∈ sel, ∀ b ∈ pick k, b ∈ F j := fun k hk b hbm => by
      rw [hF]
      exact List.mem_cons_of_mem _ (List.mem_flatten.mpr ⟨_, List.mem_of_getElem? (hpk k (hb k hk)), hbm⟩)
    have inFl : ∀ b ∈ (sel.map pick).flatten, b ∈ F j := fun b hbm => by
      obtain ⟨B, hB, hbB⟩ := List.mem_flatten.mp hbm
      obtain ⟨k, hk, rfl⟩ := List.mem_map.mp hB
      exact inF k hk b hbB
    have npF : p ∉ allOf F ρ.length := fun z => E.cells.some z hp
    have each : ∀ k, k < os.length → (pick k).Nodup := fun k hk => by
      have n1 := hAn
      rw [flat_split (hpk k hk)] at n1
      exact (List.nodup_append.mp (List.nodup_append.mp n1).2.1).1
    have ndS : ∀ l : List Nat, l.Nodup → (∀ k ∈ l, k < os.length) → (l.map pick).flatten.Nodup := by
      intro l
      induction l with
      | nil => intro _ _; simp
      | cons k l ih =>
        intro n1 n2
        obtain ⟨n3, n4⟩ := List.nodup_cons.mp n1
        rw [List.map_cons, List.flatten_cons]
        refine List.nodup_append.mpr ⟨each k (n2 k (List.mem_cons_self ..)), ih n4 (fun x hx => n2 x (List.mem_cons_of_mem _ hx)), fun b h1 c h2 e => ?_⟩
        subst e
        obtain ⟨B, hB, hbB⟩ := List.mem_flatten.mp h2
        obtain ⟨m, hm, rfl⟩ := List.mem_map.mp hB
        exact flat_other hAn (hpk k (n2 k (List.mem_cons_self ..))) (hpk m (n2 m (List.mem_cons_of_mem _ hm))) (fun z => n3 (z ▸ hm)) h1 hbB
    have ndsel := ndS sel nd hb
    let G : Nat → List Addr := fun m => if m = ρ.length then p :: (sel.map pick).flatten else if m = j then [] else F m
    have hG : ∀ m b, b ∈ G m → (m = ρ.length ∧ (b = p ∨ b ∈ F j)) ∨ (m ≠ ρ.length ∧ m ≠ j ∧ b ∈ F m) := fun m b hbm => by
      dsimp only [G] at hbm
      split at hbm
      · rcases List.mem_cons.mp hbm with e | hbm
        · exact .inl ⟨by assumption, .inl e⟩
        · exact .inl ⟨by assumption, .inr (inFl b hbm)⟩
      · split at hbm
        · cases hbm
        · exact .inr ⟨by assumption, by assumption, hbm⟩
    have hall : ∀ b, b ∈ allOf G (ρ.set j none ++ [some (W.ow (.ls (sel.map (atO os))) d)]).length → b = p ∨ b ∈ allOf F ρ.length := fun b hbm => by
      obtain ⟨m, _, h⟩ := mem_allOf.mp hbm
      rcases hG m b h with ⟨_, h | h⟩ | ⟨_, _, h⟩
      · exact .inl h
      · exact .inr (E.mem h)
      · exact .inr (E.mem h)
    have sub : Same (mask H (allOf F ρ.length)) (mask H' (allOf G (ρ.set j none ++ [some (W.ow (.ls (sel.map (atO os))) d)]).length)) := fun b u e => by
      obtain ⟨e1, e2⟩ := mask_some e
      rw [mask_out (fun z => (hall b z).elim (fun y => by subst y; rw [hp] at e1; cases e1) e2)]
      exact s b u e1
    refine ⟨G, by simp [hl], fun m => ?_, fun m m' b hb1 hb2 => ?_, fun b hbm => ?_, E.same.trans s, fun m x h => ?_, fun m h => ?_⟩
    · dsimp only [G]
      split
      · exact List.nodup_cons.mpr ⟨fun z => npF (E.mem (inFl p z)), ndsel⟩
      · split
        · exact List.nodup_nil
        · exact E.nd m
    · rcases hG m b hb1 with ⟨e1, h1⟩ | ⟨e1, e2, h1⟩ <;> rcases hG m' b hb2 with ⟨e3, h3⟩ | ⟨e3, e4, h3⟩
      · omega
      · rcases h1 with rfl | h1
        · exact absurd (E.mem h3) npF
        · exact absurd (E.dj _ _ b h1 h3).symm e4
      · rcases h3 with rfl | h3
        · exact absurd (E.mem h1) npF
        · exact absurd (E.dj _ _ b h1 h3) e2
      · exact E.dj _ _ b h1 h3
    · rcases hall b hbm with rfl | h
      · exact E.same.free hp
      · exact E.fresh b h
    · by_cases hm : m < ρ.length
      · rw [List.getElem?_append_left (by simpa using hm), List.getElem?_set] at h
        by_cases e : j = m
        · subst e
          rw [if_pos rfl, if_pos hm] at h
          cases h
        · rw [if_neg e] at h
          obtain ⟨v', hv', r'⟩ := E.get m x h
          refine ⟨v', by rw [List.getElem?_append_left (by omega)]; exact hv', ?_⟩
          dsimp only [G]
          rw [if_neg (by omega), if_neg (Ne.symm e)]
          exact r'.keep (fun b _ u z => s b u z) sub
      · have hm2 := (List.getElem?_eq_some_iff.mp h).1
        simp at hm2
        have e : m = ρ.length := by omega
        subst e
        rw [List.getElem?_append_right (by simp)] at h
        simp at h
        subst h
        refine ⟨.ref p, by rw [← hl]; simp, hd, ?_⟩
        dsimp only [G]
        rw [if_pos rfl]
        refine .ls hp' (by simp) (by simp) fun i v o A g1 g2 g3 => ?_
        rw [List.getElem?_map] at g1 g2 g3
        obtain ⟨k, hk, rfl⟩ := Option.map_eq_some_iff.mp g1
        rw [hk] at g2 g3
        obtain rfl := Option.some.inj g2
        obtain rfl := Option.some.inj g3
        have hkb := hb k (List.mem_of_getElem? hk)
        exact (h4 k _ _ _ (atV_of (by omega)) (atO_of hkb) (hpk k hkb)).keep (fun b _ u z => s b u z) sub
    · dsimp only [G]
      split
      · rename_i e
        subst e
        exact absurd (by simp) (h (.ow (.ls (sel.map (atO os))) d))
      · split
        · rfl
        · rename_i e1 e2
          refine E.off m fun x e => h x ?_
          have := (List.getElem?_eq_some_iff.mp e).1
          rw [List.getElem?_append_left (by simpa using this), List.getElem?_set, if_neg (Ne.symm e2)]
          exact e
/-- what stands in an own list -/
theorem EnvA.lsAt (E : EnvA K H0 σ H ρ F) {j : Nat} (hρ : ρ[j]? = some (some (.ow (.ls os) d0))) : ∃ a vs, σ[j]? = some (some (.ref a)) ∧ H a = some (.lst vs) ∧ vs.length = os.length ∧ ∀ k, k < os.length → Rep K H (atV vs k) (atO os k).data := by
  obtain ⟨v, hv, r⟩ := E.get j _ hρ
  have r2 := r.2
  generalize F j = Fj at r2
  cases r2 with
  | @ls a vs _ As h1 h2 h3 h4 =>
    refine ⟨a, vs, hv, h1, h2, fun k hk => ?_⟩
    exact (h4 k _ _ _ (atV_of (by omega)) (atO_of hk) (List.getElem?_eq_getElem (by omega))).rep mask_same
end
section
variable {X : Cx} {ρ : RhoW} {Φ : Post} {rest : List Stmt} {os : List O} {d1 d : D}
theorem wipe1 {σ : L2.St} {t : Nat} {x : V} : wipe ((wipe σ [t]).set t (some x)) [t] = wipe σ [t] := by
  have := wipe_setAll (σ := σ) (vs := [t]) (is := [t]) (ws := [x]) (by simp)
  exact this
/-- y = [x for x in z if test], z an own list that is given up -/
theorem Ws.asgFilter {y x z : Str} {py spos pos xp zp ep : Pos} {ifs : List Expr} {scope : Scope} (i j t : Nat) (f : O → Bool) (hc : X.calm = true) (hN : X.N.Nodup) (ok : BlkOk X.N X.env.scope scope [(x, t)])
    (ht : ∀ o ∈ os, ∀ (s : Shared) (H : Hp) (C : Addr) (cl : List (Str × Addr)) (fp : List Addr), EvTs (X.blk s H scope (compEnvC scope cl C X.env) fp) ((wipeD (bor ρ) [t]).set t (some o.data)) ifs (f o))
    (hl : os.length < 100000) (hd : (O.ls (os.filter f)).data = d) (k : Ws X ((ρ.set j none).set i (some (.ow (.ls (os.filter f)) d))) rest Φ) (htl : t < ρ.length := by decide)
    (hρ : ρ[j]? = some (some (.ow (.ls os) d1)) := by rfl) (hpz : PE X (.Name z zp) (tVar j) := by exact pv _)
    (hg : X.N.Nodup → ∀ (s : Shared) (H : Hp) (C : Addr) (cl : List (Str × Addr)) (fp : List Addr), PG (X.blk s H scope (compEnvC scope cl C X.env) fp) (.Name x xp) (gName t) := by intro hN s H C cl fp; exact pg_name hN rfl (by first | exact Or.inl rfl | exact Or.inr rfl))
    (he : ∀ (s : Shared) (H : Hp) (C : Addr) (cl : List (Str × Addr)) (fp : List Addr), PE (X.blk s H scope (compEnvC scope cl C X.env) fp) (.Name x ep) (tVar t) := by intro s H C cl fp; exact pv _)
    (hy : X.N[i]? = some y := by rfl) (hyl : X.env.scope.names.lookup y = some .local := by rfl) (hsw : swapsWith (.ListComp (.Name x ep) [⟨.Name x xp, .Name z zp, ifs, 0⟩] scope pos) (some (.Name y py)) spos.line X.env = pure true := by exact sw_true rfl rfl rfl (by decide +kernel))
    (hs : ∀ u, foldedSetIterable (.Name z zp) X.env u = pure u := by intro _; rfl) :
    Ws X ρ (.Assign [.Name y py] (.ListComp (.Name x ep) [⟨.Name x xp, .Name z zp, ifs, 0⟩] scope pos) spos :: rest) Φ := ⟨fun H0 σ H D E kk => by
  obtain ⟨F, E1⟩ := id E
  obtain ⟨a, vs, hσ, ha, hvl, hrep⟩ := E1.lsAt hρ
  refine WSs.cons (ws_of (ps_setLc (own := [(x, t)]) (g := gName t) (tt := blkT X scope ifs) (te := tVar t) hc hN hy hyl hsw (pi_list hpz) ok (hg hN) (fun s H0 C cl fp => ⟨fun pins s' σ' H' Q' I w => w s H0 C cl fp pins s' I⟩) he hs) ?_)
  refine ⟨.ref a, hσ, a, rfl, ⟨vs, SqL.of ha⟩, fun Dl hD => ?_⟩
  let sel : Nat → List Nat := fun n => (List.range n).filter fun k => f (atO os k)
  have selS : ∀ n, sel (n + 1) = sel n ++ (if f (atO os n) = true then [n] else []) := fun n => by
    show (List.range (n + 1)).filter _ = (List.range n).filter _ ++ _
    rw [List.range_succ, List.filter_append]
    by_cases h : f (atO os n) = true <;> simp [h]
  refine lc_it (g := gName t) (tt := blkT X scope ifs) (te := tVar t) (vs := [t]) (σ := σ) (H1 := H) (D := Dl) (walk_list (K := X.K) (a := a) (xs := vs)) (fun n H' => Same H H' ∧ H' Dl = some (.lst ((sel n).map (atV vs)))) ⟨Same.new hD, upd_same⟩ (fun n H' _ ⟨sm, _⟩ => SqL.of (sm _ _ ha)) (fun n v H1 H2 hlt ⟨sm, hacc⟩ yl => ?_) (fun H' ⟨sm, hacc⟩ => ?_)
  · obtain ⟨rfl, hx⟩ := yl
    have hno : n < os.length := by omega
    have ev : v = atV vs n := by rw [atV_of hlt] at hx; exact (Option.some.inj hx).symm
    have rv : Rep X.K H2 v (atO os n).data := by rw [ev]; exact (hrep n hno).mono sm
    have en : EnvS X.K ((wipe σ [t]).set t (some v)) H2 ((wipeD (bor ρ) [t]).set t (some (atO os n).data)) := ((E1.envB.mono sm).wipe [t]).set t rv
    refine ⟨wipe1, ?_⟩
    intro s H0' C cl fp
    refine (ht (atO os n) (List.mem_of_getElem? (atO_of hno)) s H0' C cl fp).run _ H2 en _ fun H3 s3 => ?_
    have lenb : (sel n).length ≤ n := by
      have := List.length_filter_le (fun k => f (atO os k)) (List.range n)
      simpa using this
    by_cases hf : f (atO os n) = true
    · rw [hf]
      refine iteT ⟨v, ?_, (sel n).map (atV vs), s3 _ _ hacc, ?_, fun b u e => ?_, ?_⟩
      · rw [List.getElem?_set_self (by rw [wipe_length, E1.len]; exact htl)]
      · rw [List.length_map]
        exact Nat.lt_of_lt_of_le (m := 100000) (by omega) (by decide)
      · rw [upd_ne (fun z => by subst z; rw [hD] at e; cases e)]
        exact s3 b u (sm b u e)
      · rw [upd_same, selS, if_pos hf, List.map_append, ev]; rfl
    · have hf' : f (atO os n) = false := by simpa using hf
      rw [hf']
      refine iteF ⟨sm.trans s3, ?_⟩
      rw [selS, if_neg hf, List.append_nil]
      exact s3 _ _ hacc
  · rw [hvl] at hacc
    have eo : (sel os.length).map (atO os) = os.filter f := by
      show ((List.range os.length).filter (f ∘ atO os)).map (atO os) = _
      rw [← List.filter_map, map_atO]
    have En := E1.relist (sel := sel os.length) (d := d) hρ hσ ha (List.Pairwise.filter _ List.nodup_range) (fun k hk => List.mem_range.mp (List.mem_filter.mp hk).1) sm hD hacc (by rw [eo]; exact hd)
    rw [eo] at En
    exact k.run H0 _ H' D (En.into i) (kk.cast (by simp))⟩
end
section
variable {K : PySem.W.Frag} {H0 H : Hp} {σ : L2.St} {ρ : RhoW} {F : Nat → List Addr} {v : V} {d0 d d' : D} {os os' : List O}
/-- the last slot's own things go behind those of slot i -/
theorem EnvA.extend (E : EnvA K H0 (σ ++ [some v]) H (ρ ++ [some (.ow (.ls os') d')]) F) {i : Nat} (hi : ρ[i]? = some (some (.ow (.ls os) d0))) (hd : (O.ls (os ++ os')).data = d) :
    ∃ a b vs ws, σ[i]? = some (some (.ref a)) ∧ v = .ref b ∧ H a = some (.lst vs) ∧ H b = some (.lst ws) ∧ vs.length = os.length ∧ ws.length = os'.length ∧ EnvW K H0 σ (upd H a (.lst (vs ++ ws))) (ρ.set i (some (.ow (.ls (os ++ os')) d))) := by
  have hl : σ.length = ρ.length := by have := E.len; simpa using this
  have hi' := (List.getElem?_eq_some_iff.mp hi).1
  obtain ⟨v0, e0, r0⟩ := E.get i _ (by rw [List.getElem?_append_left hi']; exact hi)
  rw [List.getElem?_append_left (by omega)] at e0
  obtain ⟨v1, e1, r1⟩ := E.get ρ.length (.ow (.ls os') d') (by simp)
  have ev : v1 = v := by rw [← hl] at e1; simp at e1; exact e1.symm
  subst ev
  have ro := r0.2
  have rw' := r1.2
  have nd := E.nd i
  have nd2 := E.nd ρ.length
  have mem : ∀ b ∈ F i, b ∈ allOf F (ρ ++ [some (W.ow (.ls os') d')]).length := fun b hb => E.mem hb
  have dis : ∀ b, b ∈ F i → b ∈ F ρ.length → False := fun b h1 h2 => by have := E.dj _ _ b h1 h2; omega
  obtain ⟨Fi, hFi⟩ : ∃ Fi, F i = Fi := ⟨_, rfl⟩
  obtain ⟨Fn, hFn⟩ : ∃ Fn, F ρ.length = Fn := ⟨_, rfl⟩
  rw [hFi] at ro nd mem dis
  rw [hFn] at rw' nd2 dis
  cases ro with
  | @ls a vs _ As g1 g2 g3 g4 =>
  cases rw' with
  | @ls b ws _ Bs k1 k2 k3 k4 =>
  refine ⟨a, b, vs, ws, e0, rfl, g1, k1, g2, k2, ?_⟩
  obtain ⟨na, ndA⟩ := List.nodup_cons.mp nd
  obtain ⟨nb, ndB⟩ := List.nodup_cons.mp nd2
  let G : Nat → List Addr := fun j => if j = i then a :: (As ++ Bs).flatten else if j = ρ.length then [] else F j
  have hG : ∀ c j, c ∈ G j → (j = i ∧ (c ∈ F i ∨ c ∈ F ρ.length)) ∨ (j ≠ i ∧ j ≠ ρ.length ∧ c ∈ F j) := fun c j h => by
    dsimp only [G] at h
    by_cases j1 : j = i
    · rw [if_pos j1, List.flatten_append] at h
      left
      refine ⟨j1, ?_⟩
      rw [hFi, hFn]
      simp only [List.mem_cons, List.mem_append] at h ⊢
      rcases h with h | h | h <;> simp [h]
    · rw [if_neg j1] at h
      by_cases j2 : j = ρ.length
      · rw [if_pos j2] at h; cases h
      · rw [if_neg j2] at h; exact .inr ⟨j1, j2, h⟩
  have hsub : ∀ c, c ∈ allOf G (ρ.set i (some (.ow (.ls (os ++ os')) d))).length → c ∈ allOf F (ρ ++ [some (W.ow (.ls os') d')]).length := fun c h => by
    obtain ⟨j, hj, h⟩ := mem_allOf.mp h
    rcases hG c j h with ⟨_, h | h⟩ | ⟨_, _, h⟩
    · exact E.mem h
    · exact E.mem h
    · exact E.mem h
  have aG : a ∈ allOf G (ρ.set i (some (.ow (.ls (os ++ os')) d))).length := mem_allOf.mpr ⟨i, by simp; omega, by dsimp only [G]; rw [if_pos rfl]; simp⟩
  have aall : a ∈ allOf F (ρ ++ [some (W.ow (.ls os') d')]).length := mem a (by simp)
  have sm : Same (mask H (allOf F (ρ ++ [some (W.ow (.ls os') d')]).length)) (mask (upd H a (.lst (vs ++ ws))) (allOf G (ρ.set i (some (.ow (.ls (os ++ os')) d))).length)) := by
    rw [mask_upd_in aG]
    exact mask_sub hsub
  refine ⟨G, by simp [hl], fun j => ?_, fun j t c h1 h2 => ?_, fun c hc => E.fresh c (hsub c hc), fun c u e => ?_, fun j x hx => ?_, fun j hj => ?_⟩
  · dsimp only [G]
    split
    · rw [List.flatten_append]
      refine List.nodup_cons.mpr ⟨fun z => ?_, List.nodup_append.mpr ⟨ndA, ndB, fun c h1 c' h2 e => ?_⟩⟩
      · rcases List.mem_append.mp z with z | z
        · exact na z
        · exact dis a (by simp) (List.mem_cons_of_mem _ z)
      · subst e
        exact dis c (List.mem_cons_of_mem _ h1) (List.mem_cons_of_mem _ h2)
    · split
      · exact List.nodup_nil
      · exact E.nd j
  · rcases hG c j h1 with ⟨j1, q1⟩ | ⟨j1, j2, q1⟩ <;> rcases hG c t h2 with ⟨t1, q2⟩ | ⟨t1, t2, q2⟩
    · rw [j1, t1]
    · rcases q1 with q1 | q1
      · exact absurd (E.dj _ _ c q2 q1) t1
      · exact absurd (E.dj _ _ c q2 q1) t2
    · rcases q2 with q2 | q2
      · exact absurd (E.dj _ _ c q1 q2) j1
      · exact absurd (E.dj _ _ c q1 q2) j2
    · exact E.dj j t c q1 q2
  · rw [upd_ne (fun z => by rw [z, E.fresh a aall] at e; cases e)]
    exact E.same c u e
  · by_cases j1 : j = i
    · subst j1
      rw [List.getElem?_set_self hi'] at hx
      obtain rfl := Option.some.inj (Option.some.inj hx)
      refine ⟨.ref a, e0, hd, ?_⟩
      dsimp only [G]
      rw [if_pos rfl]
      refine .ls (vs := vs ++ ws) upd_same (by simp [g2, k2]) (by simp [g3, k3]) fun t u o B h1 h2 h3 => ?_
      by_cases ht : t < os.length
      · rw [List.getElem?_append_left (by omega)] at h1 h2 h3
        refine (g4 t u o B h1 h2 h3).keep (fun c hc z hz => ?_) sm
        rw [upd_ne (fun y => na (by rw [← y]; exact List.mem_flatten.mpr ⟨B, List.mem_of_getElem? h3, hc⟩))]; exact hz
      · rw [List.getElem?_append_right (by omega)] at h1 h2 h3
        rw [g2] at h1
        rw [g3] at h3
        refine (k4 (t - os.length) u o B h1 h2 h3).keep (fun c hc z hz => ?_) sm
        rw [upd_ne (fun y => dis a (by simp) (by rw [← y]; exact List.mem_cons_of_mem _ (List.mem_flatten.mpr ⟨B, List.mem_of_getElem? h3, hc⟩)))]; exact hz
    · rw [List.getElem?_set_ne (Ne.symm j1)] at hx
      have hj := (List.getElem?_eq_some_iff.mp hx).1
      obtain ⟨u, e, ru⟩ := E.get j x (by rw [List.getElem?_append_left hj]; exact hx)
      rw [List.getElem?_append_left (by omega)] at e
      refine ⟨u, e, ?_⟩
      dsimp only [G]
      rw [if_neg j1, if_neg (by omega)]
      refine ru.keep (fun c hc z hz => ?_) sm
      rw [upd_ne (fun y => j1 (E.dj j i c hc (by rw [y, hFi]; simp)))]; exact hz
  · by_cases j1 : j = i
    · subst j1
      exact absurd (by rw [List.getElem?_set_self hi']) (hj (.ow (.ls (os ++ os')) d))
    · dsimp only [G]
      rw [if_neg j1]
      split
      · rfl
      · rename_i j2
        refine E.off j fun x e => hj x ?_
        have hj2 := (List.getElem?_eq_some_iff.mp e).1
        simp at hj2
        rw [List.getElem?_append_left (by omega)] at e
        rw [List.getElem?_set_ne (Ne.symm j1)]
        exact e
end
section
variable {X : Cx} {ρ : RhoW} {Φ : Post} {rest : List Stmt} {e : Expr} {p pos q1 q2 : Pos} {os os' : List O} {d0 d d' : D} {Ψ : W → RhoW → Prop}
/-- x.extend(e), x an own list of own things, e new own things -/
theorem Ws.extendO {x : Str} (i : Nat) (h : EvW X ρ e fun w ρ' => w = .ow (.ls os') d' ∧ ρ' = ρ) (hd : (O.ls (os ++ os')).data = d) (k : Ws X (ρ.set i (some (.ow (.ls (os ++ os')) d))) rest Φ) (hz : os.length + os'.length ≤ 100000) (hN : X.N[i]? = some x := by rfl) (hρ : ρ[i]? = some (some (.ow (.ls os) d0)) := by rfl)
    (hpe : ∀ {t}, PE X e t → PE X (.Call (.Attribute (.Name x q1) "extend" q2) [e] [] p) (tBM X.K "list" rExtend (tVar i) (tCons t tNil)) := by
      intro t ht; exact pe_bm PySem.F.plainAttrs_list PySem.F.slot_list_extend PySem.F.type_list_extend mt_extend (pv _) (pa_cons ht pa_nil))
    (hs : swapsWith (.Call (.Attribute (.Name x q1) "extend" q2) [e] [] p) none pos.line X.env = pure false := by rfl) : Ws X ρ (.Expr (.Call (.Attribute (.Name x q1) "extend" q2) [e] [] p) pos :: rest) Φ := ⟨fun H0 σ H D E kk =>
  WSs.cons (ws_of (ps_expr (hpe pe_we) hs) (by
    obtain ⟨F, E1⟩ := id E
    obtain ⟨a, vs, hσ, ha, _, _⟩ := E1.lsAt hρ
    refine ⟨.ref a, hσ, .inl ⟨rfl, vs, SqL.of ha⟩, h.run H0 σ H E _ fun v H' w ρ' q l E' => ?_⟩
    obtain ⟨rfl, rfl⟩ := q
    obtain ⟨F', E2⟩ := E'
    obtain ⟨a', b, vs', ws, hσ', rfl, ha', hb, l1, l2, En⟩ := E2.extend hρ hd
    obtain rfl : a' = a := by rw [hσ] at hσ'; simpa using hσ'.symm
    exact ⟨a', b, vs', ws, rfl, rfl, ha', hb, by rw [l1, l2]; exact Nat.le_trans hz (by decide), k.run H0 σ _ D En (kk.cast (by simp))⟩))⟩
/-- sorted(z), z an own list of own lists of whole numbers that is given up -/
theorem EvW.sortedOwn {z : Str} {rows : List (List Int)} (j : Nat) (hu : X.A.units + 64 < cLine) (hm : X.mg "sorted" = none) (hd : (O.ls ((sortL rows).map oI)).data = d) (k : Ψ (.ow (.ls ((sortL rows).map oI)) d) (ρ.set j none)) (hρ : ρ[j]? = some (some (.ow (.ls (rows.map oI)) d0)) := by rfl)
    (hpz : PE X (.Name z q1) (tVar j) := by exact pv _) (hg : Gl X "sorted" := by rfl) (hs : starEach [.Name z q1] X.env = (false, eval (.Name z q1) X.env) :: starEach [] X.env := by rfl) (hpl : (backTo pos (starEach [] X.env)).any (·.1) = false := by rfl) :
    EvW X ρ (.Call (.Name "sorted" p) [.Name z q1] [] pos) Ψ := ⟨fun H0 σ H E Q q => we_of (pe_callB (cr_sortedD hu) hg hm (by decide +kernel) (pa_cons hpz pa_nil hs) (by decide) (by decide) hs hpl) (by
  obtain ⟨F, E1⟩ := id E
  obtain ⟨a, vs, hσ, ha, hvl, hrep⟩ := E1.lsAt hρ
  rw [List.length_map] at hvl hrep
  let row : Nat → List Int := fun k => rows.getD k []
  have ho : ∀ k, k < rows.length → atO (rows.map oI) k = oI (row k) := fun k hk => by
    show (rows.map oI).getD k _ = oI (rows.getD k [])
    rw [List.getD_eq_getElem?_getD, List.getElem?_map, List.getElem?_eq_getElem hk, List.getD_eq_getElem?_getD, List.getElem?_eq_getElem hk]; rfl
  have hv : (List.range rows.length).map (atV vs) = vs := by
    apply List.ext_getElem?
    intro k
    rw [List.getElem?_map]
    by_cases hk : k < rows.length
    · rw [List.getElem?_range hk, atV_of (by omega)]; rfl
    · rw [List.getElem?_eq_none (by simpa using hk), List.getElem?_eq_none (by omega)]; rfl
  have hr : (List.range rows.length).map row = rows := by
    apply List.ext_getElem?
    intro k
    rw [List.getElem?_map]
    by_cases hk : k < rows.length
    · rw [List.getElem?_range hk, List.getElem?_eq_getElem hk]
      show some (rows.getD k []) = _
      rw [List.getD_eq_getElem?_getD, List.getElem?_eq_getElem hk]; rfl
    · rw [List.getElem?_eq_none (by simpa using hk), List.getElem?_eq_none (by omega)]; rfl
  refine ⟨.ref a, hσ, a, Nat, List.range rows.length, atV vs, fun k => .list ((row k).map .int), rfl, by rw [hv]; exact SqL.of ha, fun k hk => ?_, AllAlike.of fun x y => by rw [alike]; exact alike_ints _ _, Sortable.others fun x => ⟨fun z => (by cases z), fun xs z => (by cases z)⟩, fun x _ => by rw [PyData.depth, depth_ints]; decide, fun pp hp => ?_⟩
  · have hk := List.mem_range.mp hk
    have rr := hrep k hk
    rw [ho k hk, oI_data] at rr
    have := rr.dp (plain_dI _)
    rw [dI_py] at this
    exact this
  · generalize hM : (List.range rows.length).mergeSort (dataLe false fun k => PyData.list ((row k).map .int)) = sel
    have pm : sel.Perm (List.range rows.length) := by rw [← hM]; exact List.mergeSort_perm _ _
    have es : sel.map row = sortL rows := by
      rw [← hM, dataLe_rows]
      unfold sortL
      rw [List.map_mergeSort (r := fun p q : Nat => decide (row p ≤ row q)) (s := fun a b => decide (a ≤ b)) (f := row) (fun _ _ _ _ => rfl), hr]
    have eo : sel.map (atO (rows.map oI)) = (sortL rows).map oI := by
      rw [← es, List.map_map]
      exact List.map_congr_left fun k hk => ho k (List.mem_range.mp (pm.subset hk))
    have En := E1.relist (sel := sel) (d := d) hρ hσ ha (pm.nodup_iff.mpr List.nodup_range) (fun k hk => by rw [List.length_map]; exact List.mem_range.mp (pm.subset hk)) (Same.new hp) hp upd_same (by rw [eo]; exact hd)
    rw [eo] at En
    exact q _ _ _ _ k (by simp) En)⟩
end
end VL
set_option Elab.async false
set_option linter.all false
set_option maxRecDepth 100000
set_option maxHeartbeats 2000000
/-! value layer, part 28: a comprehension whose call raises -/
namespace L2
open PySem PySem.Spec PyProof.Rows
/-- what a block of names that is let go leaves of a flight -/
theorem held_but {B h h2 : Heap} {l : List Env} {a L C : Addr} {Z : Obj → Prop} {m m2 : Str → Option Value} (hB : B.get? C = none) (hn : h.Ns C m) (hn2 : h2.Ns C m2) (sb : Heap.SameBut C h h2) (x : HandSPX.HeldZ B l a Z L h) : HandSPX.HeldZ B l a Z L h2 := by
  obtain ⟨b1, b0, f1, oe, vs, T, oT, ts, e1, e2, e3, e4, e5, e6, e7, e8, e9⟩ := x
  obtain ⟨oC, _, _, hC, hdC, _⟩ := hn
  have ne : ∀ b o ws, h.get? b = some o → o.data = .fields ws → b ≠ C := fun b o ws q hd z => by
    subst z
    rw [hC] at q
    obtain rfl := Option.some.inj q
    rw [hdC] at hd
    cases hd
  refine ⟨fun b o q => ?_, b0, Heap.FunFrames.sameBut sb hn2 f1, oe, vs, T, oT, ts, ?_, e2, e3, e4, e5, e6, ?_, e8, e9⟩
  · exact (sb.2 b fun z => by rw [z, hB] at q; cases q).trans (b1 b o q)
  · exact (sb.2 a (ne a oe vs e1 e3)).trans e1
  · exact (sb.2 T (ne T oT ts e7 e8)).trans e7
/-- the context of a comprehension's block whose element may raise -/
abbrev Cx.blkX (X : Cx) (s : Shared) (H : Hp) (scope : Scope) (cenv : Env) (fp : List Addr) (xe : Value → Shared → Prop) : Cx := { X.blk s H scope cenv fp with xe := xe }
section
variable {X : Cx} {pins : List (Addr × Obj)} {σ : St} {W : WX} {E : XK}
/-- an exception of the element's call goes on in the def's own air -/
theorem blk_fails (hs : X.stack = X.env :: X.outer) (hf : X.env.frame = some X.env.locals) (tk : Takes X W) (hW : ∀ cls d H', E cls d H' → W cls d σ H') {H9 : Hp} {s9 s' : Shared} {u : Value} {C : Addr} {cenv : Env} {m : Str → Option Value}
    (J : Inv X pins σ H9 s9) (fC : FpOk X pins H9 C) (hcl : cenv.locals = C) (hcf : cenv.frame = X.env.frame) (hn : s9.heap.Ns C m) (c : CX X.prog X.w X.stack H9 s9 E u s') :
    notedBy (model X.prog X.w) X.A cenv (CompFails (model X.prog X.w) X.A X.xe cenv) u s' := by
  obtain ⟨a, B, H', cls, d, rfl, fl, hok, ub, na, os, ag, hE⟩ := c
  obtain ⟨c1, c2, c3, c4, c5, c6⟩ := fC
  have hfr : X.A.frames = some (X.env :: X.outer) := by rw [J.ok.frames, hs]
  have Cnf : C ∉ frs X.stack := fun z => (List.mem_cons.mp (J.stkSub C z)).elim c2 c3
  -- the ground without the block's names
  obtain ⟨B', b1, b2⟩ := restrict B fun b => !decide (b = C)
  have bC : B'.get? C = none := b2 C (by simp)
  have bne : ∀ b, b ≠ C → B'.get? b = B.get? b := fun b hb => b1 b (by simp [hb])
  have bsub : ∀ b o, B'.get? b = some o → B.get? b = some o ∧ b ≠ C := fun b o q => by
    by_cases hb : b = C
    · rw [hb, bC] at q; cases q
    · exact ⟨by rw [← bne b hb]; exact q, hb⟩
  have bnone : ∀ b, B.get? b = none → B'.get? b = none := fun b q => by
    by_cases hb : b = C
    · rw [hb]; exact bC
    · rw [bne b hb]; exact q
  have fl' : HandSPX.FlyingZ B' X.stack a (Zc cls d) s'.heap := by
    obtain ⟨f1, f2, f3, oe, vs, T, oT, ts, e1, e2, e3, e4, e5, e6, e7, e8, e9⟩ := fl
    exact ⟨fun b o q => f1 b o (bsub b o q).1, bnone a f2, funFrames_none f3 (fun L hL => bnone L (f3.mem hL).1), oe, vs, T, oT, ts, e1, e2, e3, e4, bnone T e5, e6, e7, e8, e9⟩
  obtain ⟨G, g1, g2⟩ := restrict s'.heap fun b => (B'.get? b).isSome || decide (b ∈ frs X.stack)
  have stB : B.StaysIn s'.heap := fl.1
  have gB : ∀ b o, B'.get? b = some o → G.get? b = some o := fun b o q => by
    rw [g1 b (by simp [q])]
    exact stB b o (bsub b o q).1
  have gF : ∀ b, b ∈ frs X.stack → G.get? b = s'.heap.get? b := fun b hb => g1 b (by simp [hb])
  have og : ∀ b o, G.get? b = some o → s'.heap.get? b = some o ∧ ((B'.get? b).isSome = true ∨ b ∈ frs X.stack) := fun b o q => by
    cases z : ((B'.get? b).isSome || decide (b ∈ frs X.stack)) with
    | false => rw [g2 b z] at q; cases q
    | true => rw [g1 b z] at q; exact ⟨q, by simpa [Bool.or_eq_true] using z⟩
  have gne : ∀ b o, G.get? b = some o → b ≠ C := fun b o q z => by
    rcases (og b o q).2 with h | h
    · rw [z, bC] at h; cases h
    · exact Cnf (z ▸ h)
  have hC' : H' C = none := by
    obtain ⟨oC, _, _, hoC, _⟩ := id hn
    exact ub.free C oC hoC c1
  have hokB : HOk X.prog X.w H' B' := fun b o q => (hok b o q).stay (fun c v hc r => by
      rw [bne c]
      · exact r
      · intro z
        subst z
        rcases hc with hc | hc
        · rw [← hc, hC'] at q; cases q
        · rw [hC'] at hc; cases hc) (fun _ r => r) fun _ _ r => r
  have I2 : Inv X pins σ H' { s9 with heap := G, gens := s'.gens, drawn := s'.drawn, toks := s'.toks } := by
    refine J.call (ch := [C]) ⟨fun b o q n hb hc => gB b o ?_, fun b o q n hb hc => ?_, fun b o q n _ => ub.free b o q n, fun b o q hc => ?_, ub.tups, ub.frzs, ub.tbls⟩ (hokB.kept gB) ag fun b hb => ?_
    · rw [bne b (by simpa using hc)]
      exact ub.keep b o q n hb
    · obtain ⟨sl, z⟩ := ub.slot b o q hb
      exact ⟨sl, by rw [gF b hb]; exact z⟩
    · by_cases hb : b ∈ frs X.stack
      · obtain ⟨sl, z⟩ := ub.slot b o q hb
        exact ⟨_, by rw [gF b hb]; exact z⟩
      · obtain ⟨o', z⟩ := ub.there b o q hb
        exact ⟨o', gB b o' (by rw [bne b (by simpa using hc)]; exact z)⟩
    · obtain rfl : b = C := by simpa using hb
      exact ⟨c4, c2, c5, c6⟩
  have nb : ∀ b o, G.get? b = some o → b ∉ frs X.stack → B'.get? b = some o := fun b o q hb => by
    obtain ⟨q', h⟩ := og b o q
    rcases h with h | h
    · obtain ⟨o', z⟩ := Option.isSome_iff_exists.mp h
      have y := stB b o' (bsub b o' z).1
      rw [q'] at y
      obtain rfl := Option.some.inj y
      exact z
    · exact absurd h hb
  have hnS : s'.heap.Ns C m := by
    obtain ⟨oC, es, ep, hoC, r⟩ := hn
    exact ⟨oC, es, ep, stB C oC (ub.keep C oC hoC c1 Cnf), r⟩
  show wpAny _ _ (noteFrame (.ref a) cenv) _ _ s'
  rw [noteFrame_env (.ref a) hcf]
  refine HandSPX.looks_onZ Zc.steady hfr hf (hs ▸ fl') fun h1 hh up => ?_
  have hn1 : h1.Ns C m := hnS.upToSlots up
  refine ⟨m, by rw [hcl]; exact hn1, fun h2 m2 hn2 sb => ?_⟩
  rw [hcl] at hn2 sb
  have hh2 := held_but bC hn1 hn2 sb hh
  obtain ⟨_, _, _, oe, vs, T, oT, ts, e1, e2, e3, e4, _⟩ := id hh2
  unfold PySem.passOn
  refine wpAny_bind (wpAny_field e1 e3 e4 ?_)
  rw [if_neg (by simp), hcf, hf]
  refine wpAny_bind (HandSPX.setFlight_onZ hh2 fun h3 hh3 up3 => wpAny_throw (tk _ _ ⟨a, B', _, pins, σ, H', cls, d, rfl, I2, nb, fun b o q hnf => ?_, .inr (.inr (hs ▸ hh3)), na, os, ag, hW _ _ _ hE⟩))
  obtain ⟨sl1, z1⟩ := up b o (og b o q).1 hnf
  obtain ⟨sl3, z3⟩ := up3 b _ ((sb.2 b (gne b o q)).trans z1) hnf
  exact ⟨sl3, z3⟩
end
end L2
namespace L2
open PySem PySem.Spec PyProof.Rows
theorem lc_coreX {X : Cx} {W : WX} {E : XK} {pins : List (Addr × Obj)} {s : Shared} {σ : St} {H : Hp} {Q : VK} {elt tg iter : Expr} {ifs : List Expr} {scope : Scope} {own : List (Str × Nat)} {pos pos' : Pos} {wi : TI} {g : TG} {tt : TT} {te : TE} {use : Value → Sem Unit} {Qf : Value → Shared → Prop}
    (hc : X.calm = true) (hst : X.stack = X.env :: X.outer) (hf : X.env.frame = some X.env.locals) (hN : X.N.Nodup) (I : Inv X pins σ H s) (tk : Takes X W) (hW : ∀ cls d H', E cls d H' → W cls d σ H') (hi : PI X tg iter wi) (ok : BlkOk X.N X.env.scope scope own)
    (hg : ∀ (s : Shared) (H : Hp) (C : Addr) (cl : List (Str × Addr)) (fp : List Addr) (xe : Value → Shared → Prop), PG (X.blkX s H scope (compEnvC scope cl C X.env) fp xe) tg g) (ht : ∀ (s : Shared) (H : Hp) (C : Addr) (cl : List (Str × Addr)) (fp : List Addr) (xe : Value → Shared → Prop), PTs (X.blkX s H scope (compEnvC scope cl C X.env) fp xe) ifs tt)
    (he : ∀ (s : Shared) (H : Hp) (C : Addr) (cl : List (Str × Addr)) (fp : List Addr) (xe : Value → Shared → Prop), (∀ σ', PassesAt (L2.CX X.prog X.w) (X.blkX s H scope (compEnvC scope cl C X.env) fp xe) σ' E) → PE (X.blkX s H scope (compEnvC scope cl C X.env) fp xe) elt te) (hs : ∀ x, foldedSetIterable iter X.env x = pure x)
    (h : tLc wi g tt te (own.map (·.2)) σ H Q)
    (hRR : ∀ (D C : Addr) (s' : Shared) (m : Str → Option Value) (H' : Hp) (ce : Env), ce.locals = C → Inv X pins σ H' s' → Q (.ref D) H' → s'.heap.Ns C m → FpOk X pins H' C → compEnds (model X.prog X.w) X.A X.xe (some use) Qf (.ref D) ce (.ok .next) s') :
    wpAny (model X.prog X.w) X.A (comprehension (.ListComp elt [⟨tg, iter, ifs, 0⟩] scope pos) scope X.env pos' (newList []) false (eval iter X.env) (some use)) Qf X.xe s := by
  have frees : ∀ y ∈ scope.names, y.2 = .free → ∃ c, X.env.cells.lookup y.1 = some c := fun y hy z =>
    (ok.free y hy z).elim (fun k => I.ok.has _ (.inl k)) (fun k => I.ok.has _ (.inr k))
  refine comprehension_at (use := some use) rfl hs (closure_ok frees) ok.kind (fun y hy z => by rw [ok.uniq y hy, z]) (thn (hi.run pins s σ H _ I h) fun xv u1 hx => thn hx fun itv u2 h2 => ?_)
  obtain ⟨it, fp, tn, J, K2, z, I2, T, st2, f2, q⟩ := h2
  subst z
  refine wpAny_newObj_type (newEnv_comp ?_) (by show 0 ≤ sizeLine; decide)
  obtain ⟨D, hD⟩ : ∃ D, u2.heap.objs.size = D := ⟨_, rfl⟩
  rw [hD]
  have Dn : K2 D = none := I2.hok.fresh (Nat.le_of_eq hD)
  obtain ⟨Wv, ⟨m0, w0⟩, turn⟩ := q D Dn
  generalize hu3 : ({ u2 with heap := u2.heap.push { cls := .type "list", data := .seq ([] : List Value).toArray } } : Shared) = u3
  have e3 : u3.heap = u2.heap.push { cls := .type "list", data := .seq ([] : List Value).toArray } := by rw [← hu3]
  have kp3 : ∀ b o, u2.heap.get? b = some o → u3.heap.get? b = some o := fun b o y => by rw [e3]; exact Heap.get?_push_of_some _ y
  have I3 : Inv X pins σ (upd K2 D (.lst [])) u3 := by
    have at3 : u3.heap.get? D = some { cls := .type "list", data := .seq ([] : List Value).toArray } := by rw [e3, ← hD]; exact Heap.get?_push_size _ rfl
    have := I2.laid (t' := u2.toks) (h' := u3.heap) kp3 (Nat.le_of_eq hD) (o := .lst []) ⟨Nat.zero_le _, [], 0, .nil, at3⟩
    rw [← hu3] at this ⊢
    exact this
  have f3 : ∀ b ∈ fp, FpOk X pins (upd K2 D (.lst [])) b ∧ b < u3.heap.objs.size := fun b hb => by
    obtain ⟨ob, y, _⟩ := T.obj _ _ st2 b hb
    have lt : b < u2.heap.objs.size := Heap.lt_size y
    refine ⟨⟨?_, (f2 b hb).2⟩, by rw [e3, Heap.size_push]; exact Nat.lt_succ_of_lt lt⟩
    rw [upd_ne (by rw [← hD]; exact Nat.ne_of_lt lt)]
    exact (f2 b hb).1
  have I4 := block_start I3 ok hN f3
  have hgc := hg u3 (upd K2 D (.lst [])) u3.heap.objs.size (cellsFrom (u3.heap.objs.size + 1) scope.names (cloFrom X.env.cells scope.names [])) fp
  have htc := ht u3 (upd K2 D (.lst [])) u3.heap.objs.size (cellsFrom (u3.heap.objs.size + 1) scope.names (cloFrom X.env.cells scope.names [])) fp
  have hec := he u3 (upd K2 D (.lst [])) u3.heap.objs.size (cellsFrom (u3.heap.objs.size + 1) scope.names (cloFrom X.env.cells scope.names [])) fp
  show codeAny _ _ (.compStart (.ListComp elt [⟨tg, iter, ifs, 0⟩] scope pos) 0 (.ref it) (.ref D) (compEnvC scope (cellsFrom (u3.heap.objs.size + 1) scope.names (cloFrom X.env.cells scope.names [])) u3.heap.objs.size X.env)) (compEnds (model X.prog X.w) X.A X.xe (some use) Qf (.ref D) (compEnvC scope (cellsFrom (u3.heap.objs.size + 1) scope.names (cloFrom X.env.cells scope.names [])) u3.heap.objs.size X.env)) { u3 with heap := pushCells (u3.heap.push { cls := .type "dict", data := .dict #[] }) scope.names }
  have nfp : ∀ b ∈ fp, (upd K2 D (.lst [])) b = none := fun b hb => (f3 b hb).1.1
  generalize hce : compEnvC scope (cellsFrom (u3.heap.objs.size + 1) scope.names (cloFrom X.env.cells scope.names [])) u3.heap.objs.size X.env = ce at I4 hgc htc hec ⊢
  have cL : ce.locals = u3.heap.objs.size := by subst hce; rfl
  have cF : ce.frame = X.env.frame := by subst hce; rfl
  generalize hK3 : upd K2 D (.lst []) = K3 at I3 I4 hgc htc hec w0 nfp f3
  generalize hu4 : ({ u3 with heap := pushCells (u3.heap.push { cls := .type "dict", data := .dict #[] }) scope.names } : Shared) = u4 at I4 ⊢
  have st4 : tn 0 u4.heap := T.keep _ _ _ (T.keep _ _ _ st2 fun b _ o y => kp3 b o y) fun b _ o y => by rw [← hu4]; exact pushCells_keeps _ _ _ _ (Heap.get?_push_of_some _ y)
  -- the block's air
  obtain ⟨xB, hxB⟩ : ∃ xB : Value → Shared → Prop, xB = notedBy (model X.prog X.w) X.A ce fun e s' => CompFails (model X.prog X.w) X.A X.xe ce e s' := ⟨_, rfl⟩
  have home : ∀ {p' : List (Addr × Obj)} {τ : St} {K9 : Hp} {u9 : Shared}, Inv (X.blkX u3 K3 scope ce fp xB) p' τ K9 u9 → Inv X pins σ K9 u9 ∧ FpOk X pins K9 u3.heap.objs.size ∧ ∃ m, u9.heap.Ns u3.heap.objs.size m := fun {p' τ K9 u9} I9 => by
    have nC : K9 u3.heap.objs.size = none := by rw [← cL]; exact I9.free
    refine ⟨I3.call' (ch := fp) I9.os I9.base I9.hok I9.bare fun b hb => ?_, I3.fpOk (Nat.le_refl _) nC, ?_⟩
    · obtain ⟨_, z2, _, z4, z5, z6⟩ := (f3 b hb).1
      exact ⟨z4, z2, z5, z6⟩
    · obtain ⟨m, hm, _⟩ := I9.loc
      exact ⟨m, by rw [← cL]; exact hm⟩
  have pass : ∀ τ, PassesAt (L2.CX X.prog X.w) (X.blkX u3 K3 scope ce fp xB) τ E := fun τ p' K9 u9 e s' I9 c => by
    obtain ⟨J9, fC, m, hm⟩ := home I9
    show xB e s'
    rw [hxB]
    exact blk_fails hst hf tk hW J9 fC cL cF hm c
  have I4' : Inv (X.blkX u3 K3 scope ce fp xB) [] (wipe σ (own.map (·.2))) K3 u4 := ⟨⟨I4.ok.mod, I4.ok.kind, I4.ok.glob, I4.ok.blt, I4.ok.above, I4.ok.inj, I4.ok.has, I4.ok.cab, I4.ok.hd, I4.ok.frames, I4.ok.stk, I4.ok.exf, I4.ok.bs, I4.ok.bsz, I4.ok.noex, I4.ok.exfs, I4.ok.funs, I4.ok.frf⟩, I4.os, I4.bare, I4.base, I4.loc, I4.cell, I4.free, I4.freeC, I4.pin, I4.hok, I4.len⟩
  have stat : ∀ {τ : St} {K9 : Hp} {u9 : Shared}, Inv (X.blkX u3 K3 scope ce fp xB) [] τ K9 u9 → (∀ b ∈ fp, K9 b = none) → ∀ b ∈ fp, FpOk (X.blkX u3 K3 scope ce fp xB) [] K9 b := fun {τ K9 u9} I9 hn b hb =>
    ⟨hn b hb, (I9.ok.exf b hb).1, I9.ok.exfs b hb, .inl hb, fun x c y => (I9.ok.exf b hb).2 x c y, fun p hp => by simp at hp⟩
  have pg := hgc xB
  have pt := htc xB
  have pe := hec xB pass
  have loop : codeAny (model X.prog X.w) X.A (.compLoop (.ListComp elt [⟨tg, iter, ifs, 0⟩] scope pos) 0 (.ref it) (.ref D) ce) (compEnds (model X.prog X.w) X.A X.xe (some use) Qf (.ref D) ce) u4 := by
    refine compLoop_any (fun n s' => ∃ i K', Inv (X.blkX u3 K3 scope ce fp xB) [] (wipe σ (own.map (·.2))) K' s' ∧ tn i s'.heap ∧ (∀ b ∈ fp, K' b = none) ∧ Wv i n K') ?_ m0 ⟨0, K3, I4', st4, nfp, w0⟩
    rintro n u5 ⟨i, K5, I5, st5, n5, w5⟩
    have air : notedBy (model X.prog X.w) X.A ce (fun e s' => compEnds (model X.prog X.w) X.A X.xe (some use) Qf (.ref D) ce (.error e) s') = xB := by rw [hxB]; rfl
    rw [air]
    rcases turn i n K5 w5 with ⟨stop, qq⟩ | ⟨go, Nx, hNx, step⟩
    · refine thnF (T.done (X.blkX u3 K3 scope ce fp xB) rfl rfl rfl hc i [] u5 _ K5 (fun _ _ => False) I5 (stat I5 n5) st5 stop) fun r u6 ⟨hr, I6⟩ => ?_
      subst hr
      obtain ⟨J6, fC, m, hm⟩ := home I6
      exact hRR D u3.heap.objs.size u6 m K5 ce cL J6 qq hm fC
    · refine thnF (T.item (X.blkX u3 K3 scope ce fp xB) rfl rfl rfl hc i [] u5 _ K5 (fun _ _ => False) I5 (stat I5 n5) st5 go) fun r u6 ⟨u, hr, h6⟩ => ?_
      subst hr
      refine thnF h6 fun _ u7 ⟨x, K7, I7, r7, y7, st7, n7⟩ => ?_
      have I7p := I7.pinned (stat I7 n7) (T.obj _ _ st7)
      refine thn (pg.run _ u7 _ K7 x u _ I7p r7 (step x K7 y7)) fun _ u8 ⟨τ8, K8, I8, w8, q8⟩ => ?_
      refine thn (pt.run _ u8 τ8 K8 _ I8 q8) fun b u9 ⟨K9, I9, q9⟩ => ?_
      have fin : ∀ {s' : Shared} {K' : Hp}, Inv (X.blkX u3 K3 scope ce fp xB) ([] ++ pinsAt fp u7.heap) τ8 K' s' → Nx K' → ∃ m, m < n ∧ ∃ i K', Inv (X.blkX u3 K3 scope ce fp xB) [] (wipe σ (own.map (·.2))) K' s' ∧ tn i s'.heap ∧ (∀ b ∈ fp, K' b = none) ∧ Wv i m K' := fun {s' K'} I' nx => by
        obtain ⟨m', hm, w'⟩ := hNx K' nx
        have stand : ∀ b ∈ fp, ∀ o, u7.heap.get? b = some o → s'.heap.get? b = some o ∧ K' b = none := fun b hb o y => by
          obtain ⟨z1, z2, _⟩ := I'.pin (b, o) (List.mem_append_right _ (List.mem_append_right _ (mem_pinsAt hb y)))
          exact ⟨z1, z2⟩
        refine ⟨m', hm, i + 1, K', (I'.unpinned (pins := [])).weak (by rw [← w8, wipe_length]) (fun j v y => ?_), T.keep _ _ _ st7 fun b hb o y => (stand b hb o y).1, fun b hb => ?_, w'⟩
        · rw [← w8] at y
          exact (wipe_some y).1
        · obtain ⟨o, y, _⟩ := T.obj _ _ st7 b hb
          exact (stand b hb o y).2
      cases b with
      | false =>
        simp only [Bool.false_eq_true, if_false] at q9 ⊢
        exact fin I9 q9
      | true =>
        simp only [if_true] at q9 ⊢
        refine thn (pe.run _ u9 τ8 K9 _ I9 q9) fun z u10 ⟨yv, K10, I10, r10, acc, hD10, hz10, nx⟩ => ?_
        exact app_ok (X := X.blkX u3 K3 scope ce fp xB) I10 hD10 hz10 r10 fun u11 I11 => fin I11 nx
  exact codeAny_compStart_list loop (T.self X.A 0 _ _ _ st4 loop)
end L2
namespace L2
open PySem PySem.Spec PyProof.Rows
/-- y = [..] whose element raises at some turn -/
theorem ps_setLcX {X : Cx} {W : WX} {E : XK} {pins : List (Addr × Obj)} {s : Shared} {σ : St} {H : Hp} {D : Ends} {y : Str} {py spos pos : Pos} {elt tg iter : Expr} {ifs : List Expr} {scope : Scope} {own : List (Str × Nat)} {wi : TI} {g : TG} {tt : TT} {te : TE}
    (hc : X.calm = true) (hst : X.stack = X.env :: X.outer) (hf : X.env.frame = some X.env.locals) (hN : X.N.Nodup) (hsw : swapsWith (.ListComp elt [⟨tg, iter, ifs, 0⟩] scope pos) (some (.Name y py)) spos.line X.env = pure true) (I : Inv X pins σ H s) (tk : Takes X W) (hW : ∀ cls d H', E cls d H' → W cls d σ H') (hi : PI X tg iter wi) (ok : BlkOk X.N X.env.scope scope own)
    (hg : ∀ (s : Shared) (H : Hp) (C : Addr) (cl : List (Str × Addr)) (fp : List Addr) (xe : Value → Shared → Prop), PG (X.blkX s H scope (compEnvC scope cl C X.env) fp xe) tg g) (ht : ∀ (s : Shared) (H : Hp) (C : Addr) (cl : List (Str × Addr)) (fp : List Addr) (xe : Value → Shared → Prop), PTs (X.blkX s H scope (compEnvC scope cl C X.env) fp xe) ifs tt)
    (he : ∀ (s : Shared) (H : Hp) (C : Addr) (cl : List (Str × Addr)) (fp : List Addr) (xe : Value → Shared → Prop), (∀ σ', PassesAt (L2.CX X.prog X.w) (X.blkX s H scope (compEnvC scope cl C X.env) fp xe) σ' E) → PE (X.blkX s H scope (compEnvC scope cl C X.env) fp xe) elt te) (hs : ∀ x, foldedSetIterable iter X.env x = pure x)
    (h : tLc wi g tt te (own.map (·.2)) σ H fun _ _ => False) : wpAny (model X.prog X.w) X.A (exec (.Assign [.Name y py] (.ListComp elt [⟨tg, iter, ifs, 0⟩] scope pos) spos) X.env) (SP X pins D) X.xe s := by
  rw [exec_Assign_Name_used _ _ _ _ hsw]
  refine wpAny_bind (wpAny_standAt (wpAny_bind ?_))
  show wpAny (model X.prog X.w) X.A (do let _ ← comprehension (.ListComp elt [⟨tg, iter, ifs, 0⟩] scope pos) scope X.env (firstIterPos [⟨tg, iter, ifs, 0⟩] pos) (newList []) false (eval iter X.env) (some (assign (.Name y py) X.env))) _ _ _
  exact wpAny_bind (thn (lc_coreX (Qf := fun _ _ => False) hc hst hf hN I tk hW hi ok hg ht he hs h fun _ _ _ _ _ _ _ _ q _ _ => q.elim) fun _ _ q => q.elim)
end L2
namespace VL
open PySem L2
/-- an expression that raises C, by what its context passes on -/
structure EvRE (X : Cx) (ρ : Rho) (e : Expr) (C : Addr) (E : XK) : Prop where
  run : ∀ (σ : L2.St) (H : Hp), EnvS X.K σ H ρ → (∀ H', Same H H' → E (.ref C) none H') → ∀ Q : VK, WE X e σ H Q
section
variable {X : Cx} {ρ : Rho} {C : Addr} {E : XK} {x : Str} {k : Nat} {e : Expr} {es : List Expr} {p pos : Pos} {ds : List D}
theorem EvRE.call (F : VX X.prog X.w X.K X.mg X.base k x ds C) (hr : Room k X.A) (hp : ∀ σ, PassesAt (L2.CX X.prog X.w) X σ E) (ha : EvA X ρ (e :: es) ds) (hg : Gl X x := by rfl) (hdb : (x == ("__debug__" : Str)) = false := by decide)
    (he : starEach (e :: es) X.env = (false, eval e X.env) :: starEach es X.env := by rfl) (hpl : (backTo pos (starEach es X.env)).any (·.1) = false := by rfl) : EvRE X ρ (.Call (.Name x p) (e :: es) [] pos) C E := by
  obtain ⟨f, fd, ps, h1, h2, h3, h4⟩ := F.ex
  exact ⟨fun σ H en hx Q => we_of (pe_callS (E := fun _ => E) h4 hr hg h1 h2 h3 hp pa_wa hdb he hpl) (ha.run σ H en _ fun vs H1 s1 r1 => ⟨r1, fun H' s => hx H' (s1.trans s)⟩)⟩
end
section
variable {X : Cx} {ρ : RhoW} {Φ : Post} {rest : List Stmt}
def blkGX (X : Cx) (scope : Scope) (tg : Expr) : TG := fun v σ' H' Q' => ∀ (s : Shared) (H0 : Hp) (C : Addr) (cl : List (Str × Addr)) (fp : List Addr) (xe : Value → Shared → Prop), WG (X.blkX s H0 scope (compEnvC scope cl C X.env) fp xe) tg v σ' H' Q'
def blkEX (X : Cx) (scope : Scope) (elt : Expr) (E : XK) : TE := fun σ' H' Q' => ∀ (s : Shared) (H0 : Hp) (C : Addr) (cl : List (Str × Addr)) (fp : List Addr) (xe : Value → Shared → Prop), (∀ τ, PassesAt (L2.CX X.prog X.w) (X.blkX s H0 scope (compEnvC scope cl C X.env) fp xe) τ E) → WE (X.blkX s H0 scope (compEnvC scope cl C X.env) fp xe) elt σ' H' Q'
/-- y = [elt for ..], the element raises at the k-th turn -/
theorem Ws.asgCX {α : Type} {y : Str} {py spos pos : Pos} {elt tg iter : Expr} {scope : Scope} {own : List (Str × Nat)} {C : Addr} (L : List α) (h : α → D) (g : α → O) (is : List Nat) (bs : α → List D) (k : Nat) (hk : k < L.length)
    (hc : X.calm = true) (hst : X.stack = X.env :: X.outer) (hf : X.env.frame = some X.env.locals) (hN : X.N.Nodup) (tk : Takes X Φ.xw) (hx : Φ.xs (.ref C)) (hi : EvI X (hide ρ) tg iter (L.map h)) (ok : BlkOk X.N X.env.scope scope own) (his : ∀ i ∈ is, i ∈ own.map (·.2))
    (hg : ∀ x ∈ L, ∀ (s : Shared) (H : Hp) (C : Addr) (cl : List (Str × Addr)) (fp : List Addr) (xe : Value → Shared → Prop), EvG (X.blkX s H scope (compEnvC scope cl C X.env) fp xe) tg (h x) is (bs x))
    (he : ∀ (i : Nat) x, i < k → L[i]? = some x → ∀ (s : Shared) (H : Hp) (C : Addr) (cl : List (Str × Addr)) (fp : List Addr) (xe : Value → Shared → Prop), Ev (X.blkX s H scope (compEnvC scope cl C X.env) fp xe) (setD (wipeD (hide ρ) (own.map (·.2))) is (bs x)) elt (g x).data)
    (hr : ∀ x, L[k]? = some x → ∀ (s : Shared) (H : Hp) (C' : Addr) (cl : List (Str × Addr)) (fp : List Addr) (xe : Value → Shared → Prop) (E : XK), (∀ σ', PassesAt (L2.CX X.prog X.w) (X.blkX s H scope (compEnvC scope cl C' X.env) fp xe) σ' E) → EvRE (X.blkX s H scope (compEnvC scope cl C' X.env) fp xe) (setD (wipeD (hide ρ) (own.map (·.2))) is (bs x)) elt C E)
    (hl : L.length < sizeLine) (hsw : swapsWith (.ListComp elt [⟨tg, iter, [], 0⟩] scope pos) (some (.Name y py)) spos.line X.env = pure true := by exact sw_true rfl rfl rfl (by decide +kernel))
    (hs : ∀ x, foldedSetIterable iter X.env x = pure x := by intro _; rfl) : Ws X ρ (.Assign [.Name y py] (.ListComp elt [⟨tg, iter, [], 0⟩] scope pos) spos :: rest) Φ := ⟨fun H0 σ H D E0 kk => by
  obtain ⟨F, E1⟩ := E0
  refine WSs.cons (WS.frame E1.cells (N := fun _ _ => False) ?_ fun _ _ n => n.elim)
  have H0M : Same H0 (mask H (allOf F ρ.length)) := mask_same_of E1.same fun a ha => E1.fresh a ha
  intro pins s I
  refine ps_setLcX (W := Φ.xw) (E := fun c d H' => Φ.xw c d σ H') (g := blkGX X scope tg) (tt := tYes) (te := blkEX X scope elt fun c d H' => Φ.xw c d σ H')
    hc hst hf hN hsw I tk (fun _ _ _ z => z) pi_wi ok (fun s H0 C cl fp xe => ⟨fun pins s' σ' H' v u Q' I r w => w s H0 C cl fp xe pins s' u I r⟩) (fun s H0 C cl fp xe => pts_nil) (fun s H0 C cl fp xe hp => ⟨fun pins s' σ' H' Q' I w => w s H0 C cl fp xe hp pins s' I⟩) hs ?_
  refine hi.run σ (mask H (allOf F ρ.length)) E1.envH _ fun J H1 s1 src => ?_
  intro Dl hD
  obtain ⟨G, Y, wk, hG, hY⟩ := src.go
  rw [List.length_map] at wk hY
  refine lc_it (g := blkGX X scope tg) (tt := tYes) (te := blkEX X scope elt fun c d H' => Φ.xw c d σ H') (vs := own.map (·.2)) (σ := σ) (H1 := H1) (D := Dl) (Qd := fun _ => False) wk (fun i H' => i ≤ k ∧ Same H1 H' ∧ ∃ acc : List V, H' Dl = some (.lst acc) ∧ acc.length ≤ i) ⟨Nat.zero_le _, Same.new hD, [], upd_same, Nat.le_refl _⟩ (fun i H' _ ⟨_, s, _⟩ => hG H' s) (fun i x H2 H3 hlt ⟨hik, s2, acc, hacc, hal⟩ yl => ?_) (fun H' ⟨hz, _⟩ => by omega)
  have hlt' : i < L.length := hlt
  obtain ⟨s3, d, hd, rd⟩ := hY i H2 x H3 hlt s2 yl
  rw [List.getElem?_map, List.getElem?_eq_getElem hlt'] at hd
  obtain rfl := Option.some.inj hd
  have hz : L[i]? = some L[i] := List.getElem?_eq_getElem hlt'
  have hmem : L[i] ∈ L := List.getElem_mem hlt'
  generalize L[i] = z at rd hz hmem
  have rd' : Rep X.K H3 x (h z) := by have := rd [] (fun a ha => by cases ha); rwa [mask_nil] at this
  have en : EnvS X.K (wipe σ (own.map (·.2))) H3 (wipeD (hide ρ) (own.map (·.2))) := ((E1.envH.mono s1).mono (s2.trans s3)).wipe _
  intro s H0 C0 cl fp xe
  refine (hg z hmem s H0 C0 cl fp xe).run (wipe σ (own.map (·.2))) H3 H3 x (Same.refl _) rd' _ fun ws rws => ?_
  refine ⟨wipe_setAll his, ?_⟩
  refine iteT (B := i + 1 ≤ k ∧ Same H1 H3 ∧ ∃ acc : List V, H3 Dl = some (.lst acc) ∧ acc.length ≤ i + 1) ?_
  intro s6 H6 C6 cl6 fp6 xe6 pass
  have en2 : EnvS X.K (setAll (wipe σ (own.map (·.2))) is ws) H3 (setD (wipeD (hide ρ) (own.map (·.2))) is (bs z)) := en.setAll' rws
  by_cases e : i = k
  · subst e
    exact (hr z hz s6 H6 C6 cl6 fp6 xe6 _ pass).run _ H3 en2 (fun H' s' => kk.ex _ σ H' hx E1.len (H0M.trans (s1.trans ((s2.trans s3).trans s')))) _
  · refine (he i z (by omega) hz s6 H6 C6 cl6 fp6 xe6).run _ H3 en2 _ fun v H4 s4 r4 => ⟨acc, s4 _ _ (s3 _ _ hacc), by omega, by omega, fun b u q => ?_, acc ++ [v], upd_same, by simp; omega⟩
    rw [upd_ne (fun y => by subst y; rw [hD] at q; cases q)]
    exact s4 b u (s3 b u (s2 b u q))⟩
end
end VL
set_option Elab.async false
set_option linter.all false
set_option maxRecDepth 100000
set_option maxHeartbeats 1000000
/-! value layer, part 29: texts; slices with the step two -/
namespace VL
/-- every second thing -/
def alt {α : Type} : List α → List α
  | [] => []
  | [x] => [x]
  | x :: _ :: r => x :: alt r
theorem alt_pick {α : Type} : ∀ L : List α, (List.range ((L.length + 1) / 2)).filterMap (fun k => L[2 * k]?) = alt L
  | [] => by simp [alt]
  | [x] => by simp [alt, List.range_succ]
  | x :: y :: r => by
    have e : ((x :: y :: r).length + 1) / 2 = (r.length + 1) / 2 + 1 := by simp; omega
    rw [e, List.range_succ_eq_map, List.filterMap_cons]
    show x :: _ = x :: alt r
    rw [List.filterMap_map, ← alt_pick r]
    congr 1
theorem alt_map {α β : Type} (f : α → β) : ∀ L : List α, alt (L.map f) = (alt L).map f
  | [] => rfl
  | [x] => rfl
  | x :: y :: r => by
    show f x :: alt (r.map f) = f x :: (alt r).map f
    rw [alt_map f r]
theorem alt_length {α : Type} : ∀ L : List α, (alt L).length = (L.length + 1) / 2
  | [] => by simp [alt]
  | [x] => by simp [alt]
  | x :: y :: r => by
    show (alt r).length + 1 = _
    rw [alt_length r]; simp; omega
theorem alt_get {α : Type} : ∀ (L : List α) (k : Nat), (alt L)[k]? = L[2 * k]?
  | [], k => rfl
  | [x], 0 => rfl
  | [x], k + 1 => by
    show none = _
    rw [List.getElem?_eq_none (by simp; omega)]
  | x :: y :: r, 0 => rfl
  | x :: y :: r, k + 1 => by
    show (alt r)[k]? = r[2 * k]?
    exact alt_get r k
end VL
namespace L2
open PySem PySem.Spec PyProof.Rows
theorem step2_range (a n : Nat) (h : a ≤ n) : sliceRange (a : Int) (n : Int) 2 = (List.range ((n - a + 1) / 2)).map fun k => a + 2 * k := by
  unfold sliceRange
  have hc : (if (2 : Int) > 0 then (if (a : Int) < n then ((n : Int) - a + 2 - 1) / 2 else 0) else (if (a : Int) > n then ((a : Int) - n - 2 - 1) / (-2) else 0)).toNat = (n - a + 1) / 2 := by
    rw [if_pos (by decide)]
    split <;> omega
  simp only [hc]
  apply List.map_congr_left
  intro k _
  omega
theorem pick2 (its : List Value) (o : Option Int) : slicePick its.toArray o none (some 2) = (VL.alt (its.drop (HT.sIx its.length 0 o))).toArray := by
  have hb : sliceBounds o none (some 2) its.toArray.size = (((HT.sIx its.length 0 o : Nat) : Int), (its.length : Int), 2) := by
    have h1 : (sliceBounds o none (some 2) its.toArray.size).2.1 = (its.length : Int) := by simp [sliceBounds]
    have h2 : (sliceBounds o none (some 2) its.toArray.size).2.2 = 2 := rfl
    have h3 : (sliceBounds o none (some 2) its.toArray.size).1 = ((HT.sIx its.length 0 o : Nat) : Int) := by
      cases o with
      | none => simp [sliceBounds, HT.sIx]
      | some i =>
        simp only [sliceBounds, HT.sIx, Option.getD_some, show (2 : Int) > 0 by decide, if_true, List.size_toArray]
        by_cases h : i < 0
        · simp only [h, if_true] <;> omega
        · simp only [h, if_false] <;> omega
    exact Prod.ext h3 (Prod.ext h1 h2)
  have hle : HT.sIx its.length 0 o ≤ its.length := HT.sIx_le _ _ (Nat.zero_le _) _
  unfold slicePick
  rw [hb]
  show ((sliceRange _ _ 2).filterMap (its.toArray[·]?)).toArray = _
  rw [step2_range _ _ hle, List.filterMap_map, ← VL.alt_pick, List.length_drop]
  congr 2
  funext k
  simp
theorem valsAlt : ∀ {xs : List V} {us : List Value}, Vals xs us → Vals (VL.alt xs) (VL.alt us)
  | [], _, .nil => .nil
  | [x], _, .cons r .nil => .cons r .nil
  | x :: y :: xs, _, .cons r (.cons _ rs) => .cons r (valsAlt rs)
def tAltL (K : PySem.W.Frag) (te : TE) (tl : TO) : TE := fun σ H Q => te σ H fun x H1 => tl σ H1 fun l H2 => ∃ a xs, x = .ref a ∧ SqL K H2 a xs ∧ ∀ p, H2 p = none → Q (.ref p) (upd H2 p (.lst (VL.alt (xs.drop (HT.sIx xs.length 0 l)))))
/-- xs[lo::2] -/
theorem pe_altL {X : Cx} {e : Expr} {te : TE} {lo : Option Expr} {tl : TO} {k : Nat} {p1 p3 pos : Pos} (he : PE X e te) (hl : PO X lo tl) : PE X (.Subscript e (.Slice lo none (some (.Constant (.int 2) k p1)) p3) pos) (tAltL X.K te tl) := by
  refine ⟨fun pins s σ H Q I h => ?_⟩
  refine Subscript_ (thn (he.run pins s σ H _ I h) fun v s1 ⟨x, H1, I1, r1, q1⟩ => ?_)
  have hst : PO X (some (.Constant (.int 2) k p1)) (tPart (tC (.int 2))) := po_some pe_int
  refine wpAny_Slice (thn (hl.run pins s1 σ H1 _ I1 q1) fun vl s2 ⟨l, H2, I2, pl, q2⟩ => ?_)
  refine thn (po_none.run pins s2 σ H2 (fun o H3 => o = none ∧ H3 = H2) I2 ⟨rfl, rfl⟩) fun vu s3 ⟨u, H3, I3, pu, eu, e3⟩ => ?_
  subst eu e3
  refine thn (hst.run pins s3 σ H3 (fun o H4 => o = some 2 ∧ H4 = H3) I3 ⟨2, rfl, rfl, rfl⟩) fun vs s4 ⟨o, H4, I4, ps, eo, e4⟩ => ?_
  subst eo e4
  obtain ⟨a, xs, ex, hx, q⟩ := q2
  subst ex
  cases r1
  have I5 : Inv X pins σ H4 { s4 with heap := s4.heap.push { cls := .type "slice", data := .fields #[vl, vu, vs] } } := I4.kept (t' := s4.toks) fun b ob q => Heap.get?_push_of_some _ q
  obtain ⟨its, r, ht, hz⟩ := I5.list hx
  have hlen := r.length
  show wpAny (model X.prog X.w) X.A (subscriptTail e (.Slice lo none (some (.Constant (.int 2) k p1)) p3) (.ref a) (.ref s4.heap.objs.size)) (EP X pins σ Q) X.xe { s4 with heap := s4.heap.push { cls := .type "slice", data := .fields #[vl, vu, vs] } }
  refine tail_any (ops := [.ref a, .ref s4.heap.objs.size]) ht.isList.typeIs (PySem.slot_list_getitem.lookup) ?_ (by with_unfolding_all rfl)
  refine wpAny_getItem_list_slice ht.isList (Heap.IsSliceOf.new _ vl vu vs) pl pu ps (by decide) ?_ (by rw [List.size_toArray]; omega)
  rw [pick2, ← hlen]
  refine ⟨.ref _, _, I5.laid (t' := s4.toks) (o := .lst (VL.alt (xs.drop (HT.sIx xs.length 0 l)))) (fun b ob q => Heap.get?_push_of_some _ q) (Nat.le_refl _) ?_, rfl, q _ (I5.hok.fresh (Nat.le_refl _))⟩
  exact ⟨by rw [VL.alt_length, List.length_drop]; omega, _, 0, valsAlt (r.drop _), Heap.get?_push_size _ rfl⟩
end L2

namespace VL
open PySem L2
open TL (tl)
theorem Reps.alt {K : PySem.W.Frag} {H : Hp} {vs : List V} {ds : List D} (r : Reps K H vs ds) : Reps K H (VL.alt vs) (VL.alt ds) :=
  ⟨by rw [alt_length, alt_length, r.1], fun i v d h1 h2 => by
    rw [alt_get] at h1 h2
    exact r.2 _ v d h1 h2⟩
abbrev dW (W : List Str) : D := .lst (W.map D.str)
abbrev oW (W : List Str) : O := oL (W.map D.str)
section
variable {X : Cx} {ρ : Rho} {e a b o tg : Expr} {p q pos apos : Pos} {i j : Int} {ds xs : List D} {W ys : List Str} {x y z : Str}
theorem EvO.alt {el : Option Expr} {lo : Option Int} {k : Nat} {p1 p3 : Pos} (ha : Ev X ρ a (.lst xs)) (hl : EvP X ρ el lo) : EvO X ρ (.Subscript a (.Slice el Option.none (Option.some (.Constant (.int 2) k p1)) p3) pos) (oL (VL.alt (xs.drop (HT.sIx xs.length 0 lo)))) := by
  obtain ⟨tl, pl, ql⟩ := hl.run
  exact .newl fun σ H en Q q => we_of (pe_altL pe_we pl) (ha.run σ H en _ fun x H1 s1 r1 => ql σ H1 (en.mono s1) _ fun H2 s2 => by
    obtain ⟨p1, vs, rfl, h1, rs⟩ := (r1.mono s2).lst_inv
    exact ⟨p1, vs, rfl, SqL.of h1, fun p hp => by
      have := q p _ H2 (s1.trans s2) hp ((rs.drop (HT.sIx xs.length 0 lo)).alt)
      rw [← rs.1] at this
      exact this⟩)
/-- every second word from the first on, from the second on -/
theorem Ev.alt0 {k : Nat} {p1 p3 : Pos} (ha : Ev X ρ a (dW W)) : Ev X ρ (.Subscript a (.Slice Option.none Option.none (Option.some (.Constant (.int 2) k p1)) p3) pos) (dW (VL.alt W)) :=
  (EvO.alt ha EvP.none).ev' (by rw [oL_data]; simp [HT.sIx, alt_map, dW])
theorem Ev.alt1 {k k1 : Nat} {p1 p2 p3 : Pos} (ha : Ev X ρ a (dW W)) : Ev X ρ (.Subscript a (.Slice (Option.some (.Constant (.int 1) k1 p2)) Option.none (Option.some (.Constant (.int 2) k p1)) p3) pos) (dW (VL.alt (W.drop 1))) :=
  (EvO.alt ha (EvP.some Ev.int)).ev' (by
    rw [oL_data]
    have e : HT.sIx (W.map D.str).length 0 (some 1) = min 1 W.length := by simp [HT.sIx]
    rw [e]
    cases W with
    | nil => rfl
    | cons w W => simp [alt_map, dW])
/-- o.split(e) -/
theorem EvO.split (h : Ev X ρ o (.str x)) (h2 : Ev X ρ e (.str y)) (hy : (y.length == 0) = false) (hx : x.length + 2 ≤ sizeLine) (hs : starEach [e] X.env = [(false, eval e X.env)] := by rfl) (hbase : attributeBase o "split" X.env (eval o X.env) = eval o X.env := by rfl) (hline : (apos.endLine == pos.line) = true := by rfl) :
    EvO X ρ (.Call (.Attribute o "split" apos) [e] [] pos) (oW (Txt.split x y)) :=
  .newl fun σ H en Q q => we_of (pe_split pe_we pe_we hs hbase hline) (h.run σ H en _ fun v H1 s1 r1 => by
    obtain rfl := r1.str_inv
    refine ⟨⟨x, rfl⟩, h2.run σ H1 (en.mono s1) _ fun w H2 s2 r2 => ?_⟩
    obtain rfl := r2.str_inv
    exact ⟨x, y, rfl, rfl, hy, hx, fun p hp => q p _ H2 (s1.trans s2) hp (reps_strs _)⟩)
/-- o.join(e) -/
theorem Ev.join (h : Ev X ρ o (.str x)) (h2 : Ev X ρ e (dW ys)) (hz : (ys.map (·.length)).sum + ys.length * x.length ≤ 16777216) (hs : starEach [e] X.env = [(false, eval e X.env)] := by rfl) (hbase : attributeBase o "join" X.env (eval o X.env) = eval o X.env := by rfl) (hline : (apos.endLine == pos.line) = true := by rfl) :
    Ev X ρ (.Call (.Attribute o "join" apos) [e] [] pos) (.str (Txt.join x ys)) :=
  ⟨fun σ H en Q q => we_of (pe_join pe_we pe_we hs hbase hline) (h.run σ H en _ fun v H1 s1 r1 => by
    obtain rfl := r1.str_inv
    refine ⟨⟨x, rfl⟩, h2.run σ H1 (en.mono s1) _ fun w H2 s2 r2 => ?_⟩
    obtain ⟨p1, vs, rfl, h1, rs⟩ := r2.lst_inv
    obtain rfl := rs.strs
    exact ⟨x, p1, ys, rfl, rfl, .inl (SqL.of h1), hz, q _ H2 (s1.trans s2) (.str _)⟩)⟩
/-- str(e), e a number -/
theorem Ev.strI (hm : X.mg "str" = none) (h : Ev X ρ e (.int i)) (hi : i.natAbs.log2 < 1920) (hg : Gl X "str" := by rfl) (hs : starEach [e] X.env = (false, eval e X.env) :: starEach [] X.env := by rfl) (hpl : (backTo pos (starEach [] X.env)).any (·.1) = false := by rfl) : Ev X ρ (.Call (.Name "str" p) [e] [] pos) (.str (toString i)) :=
  Ev.callTy call_str_int hg hm (by decide +kernel) (.one h hs) (fun vs H r0 Q q => by
    obtain ⟨v, rfl, r⟩ := r0.one
    obtain rfl := r.int_inv
    exact ⟨i, rfl, hi, q _ H (Same.refl H) (.str _)⟩) (by decide) (by decide) hs hpl
/-- int(e), e a text -/
theorem Ev.intS (hm : X.mg "int" = none) (h : Ev X ρ e (.str x)) (hi : PySem.intText? x = some i) (hx : x.length ≤ 640) (hg : Gl X "int" := by rfl) (hs : starEach [e] X.env = (false, eval e X.env) :: starEach [] X.env := by rfl) (hpl : (backTo pos (starEach [] X.env)).any (·.1) = false := by rfl) : Ev X ρ (.Call (.Name "int" p) [e] [] pos) (.int i) :=
  Ev.callTy call_int_str hg hm (by decide +kernel) (.one h hs) (fun vs H r0 Q q => by
    obtain ⟨v, rfl, r⟩ := r0.one
    obtain rfl := r.str_inv
    exact ⟨x, i, rfl, hi, hx, q _ H (Same.refl H) (.int _)⟩) (by decide) (by decide) hs hpl
/-- a sign of a text -/
theorem Ev.ixS {c : Nat} (ha : Ev X ρ a (.str x)) (hb : Ev X ρ b (.int i)) (hx : x.length ≤ sizeLine) (h : atI (tl x) i = some c) (hs : PlainIx b := by exact fun _ _ => rfl) : Ev X ρ (.Subscript a b pos) (.str ⟨#[c]⟩) :=
  ⟨fun σ H en Q q => we_of (pe_ix ix_str pe_we pe_we hs) (ha.run σ H en _ fun v H1 s1 r1 => hb.run σ H1 (en.mono s1) _ fun w H2 s2 r2 => by
    obtain rfl := r1.str_inv
    obtain rfl := r2.int_inv
    exact ⟨x, i, c, rfl, rfl, hx, h, q _ H2 (s1.trans s2) (.str _)⟩)⟩
/-- a part of a text -/
theorem Ev.sliceS {el eh : Option Expr} {lo hi : Option Int} {p2 : Pos} (ha : Ev X ρ a (.str x)) (hl : EvP X ρ el lo) (hh : EvP X ρ eh hi) (hx : x.length ≤ sizeLine) : Ev X ρ (.Subscript a (.Slice el eh Option.none p2) pos) (.str (cutS x lo hi)) := by
  obtain ⟨tl', pl, ql⟩ := hl.run
  obtain ⟨th, ph, qh⟩ := hh.run
  exact ⟨fun σ H en Q q => we_of (pe_slice sl_str pe_we pl ph) (ha.run σ H en _ fun v H1 s1 r1 => ql σ H1 (en.mono s1) _ fun H2 s2 => qh σ H2 (en.mono (s1.trans s2)) _ fun H3 s3 => by
    obtain rfl := r1.str_inv
    exact ⟨x, rfl, hx, q _ H3 ((s1.trans s2).trans s3) (.str _)⟩)⟩
theorem CmpD.inSign {c : Nat} : CmpD X .In (.str ⟨#[c]⟩) (.str z) (decide (c ∈ tl z)) :=
  ⟨_, op_in_sign, fun v w H rv rw Q q => ⟨c, z, rv.str_inv, rw.str_inv, q _ H (Same.refl H) (.bl _)⟩⟩
theorem CmpD.notInSign {c : Nat} : CmpD X .NotIn (.str ⟨#[c]⟩) (.str z) (!decide (c ∈ tl z)) :=
  ⟨_, op_notIn_sign, fun v w H rv rw Q q => ⟨c, z, rv.str_inv, rw.str_inv, q _ H (Same.refl H) (.bl _)⟩⟩
/-- the signs of a text, one by one -/
theorem src_str {K : PySem.W.Frag} {H : Hp} : Src K H (Its x) ((tl x).map fun c => D.str ⟨#[c]⟩) :=
  ⟨fun _ => True, fun i H v H' => H' = H ∧ ∃ c, x.cps[i]? = some c ∧ v = .str ⟨#[c]⟩, by rw [List.length_map]; exact walk_str, fun _ _ => trivial, fun i H1 v H2 hi s y => by
    obtain ⟨rfl, c, hc, rfl⟩ := y
    exact ⟨Same.refl _, .str ⟨#[c]⟩, by rw [List.getElem?_map]; simp [hc], fun as _ => .str _⟩⟩
theorem EvI.str (h : Ev X ρ e (.str x)) : EvI X ρ tg e ((tl x).map fun c => D.str ⟨#[c]⟩) :=
  ⟨fun σ H en R q => wi_of (pi_str pe_we) (h.run σ H en _ fun v H1 s1 r1 => by
    obtain rfl := r1.str_inv
    exact ⟨x, rfl, q _ H1 s1 src_str⟩)⟩
/-- a text of the module -/
theorem Ev.globS {t : Tok} (hm : X.mg x = some (.str y t)) (hg : Gl X x := by rfl) (hd : (x == ("__debug__" : Str)) = false := by decide) : Ev X ρ (.Name x p) (.str y) :=
  ⟨fun σ H en Q q => we_of (pe_glob (v := .str y) hg hm ⟨t, rfl⟩ hd) (q _ H (Same.refl H) (.str y))⟩
theorem Ev.globR {c : Addr} (hm : X.mg x = some (.ref c)) (hg : Gl X x := by rfl) (hd : (x == ("__debug__" : Str)) = false := by decide) : Ev X ρ (.Name x p) (.raw c) :=
  ⟨fun σ H en Q q => we_of (pe_glob (v := .ref c) hg hm rfl hd) (q _ H (Same.refl H) (.raw c))⟩
/-- d.get(k) -/
theorem Ev.getDk {kvs : List (Key × V)} {d : D} (hu : X.A.units + 1 < cLine) (ha : Ev X ρ a (.dk kvs)) (hb : Ev X ρ b (.str z)) (hd : ∀ (K : PySem.W.Frag) (H : Hp), Rep K H ((valV kvs (.inr z)).getD .non) d)
    (m : M1 X a "get" apos b pos := by exact ⟨rfl, rfl, rfl, rfl⟩) : Ev X ρ (.Call (.Attribute a "get" apos) [b] [] pos) d :=
  ⟨fun σ H en Q q => we_of (pe_dget1 hu pe_we pe_we m) (ha.run σ H en _ fun x H1 s1 r1 => by
    cases r1 with
    | dk h1 h2 =>
      refine ⟨_, rfl, .inl ⟨_, .inl h1⟩, hb.run σ H1 (en.mono s1) _ fun y H2 s2 r2 => ?_⟩
      obtain rfl := r2.str_inv
      exact ⟨_, DGet.k (k := .inr z) (s2 _ _ h1), q _ H2 (s1.trans s2) (hd _ _)⟩)⟩
end
/-- a dict of the module with the keys ks, no others -/
structure KKeys (K : PySem.W.Frag) (w : World) (a : Addr) (ks : List Str) : Prop where
  low : (a == sysModules) = false
  ex : ∃ es n, K.lookup a = some ⟨.type "dict", none, .dict es n, #[]⟩ ∧ PySem.W.KeysLit w.params es.toList ∧ es.toList.all (fun e => ks.any fun k => e.key.isStr k) = true
theorem KKeys.miss {K : PySem.W.Frag} {w : World} {a : Addr} {ks : List Str} (h : KKeys K w a ks) {z : Str} (hz : z ∉ ks) : PySem.W.nsIn K a z = some none := by
  obtain ⟨es, n, hl, hk, he⟩ := h.ex
  unfold PySem.W.nsIn
  rw [hl]
  dsimp only
  have hf : es.toList.find? (·.key.isStr z) = none := List.find?_eq_none.mpr fun e hm hs => by
    obtain ⟨k, hk1, hk2⟩ := List.any_eq_true.mp (List.all_eq_true.mp he e hm)
    obtain ⟨x, t, hx, _⟩ := hk.all e hm
    rw [hx] at hs hk2
    have e1 : x = z := by simpa [Value.isStr] using hs
    have e2 : x = k := by simpa [Value.isStr] using hk2
    subst e1; subst e2
    exact hz hk1
  rw [hf]
  have hr : es.toList.any (·.refKey) = false := List.any_eq_false.mpr fun e hm => by
    obtain ⟨x, t, hx, _⟩ := hk.all e hm
    unfold DictEntry.refKey
    rw [hx]
    simp
  dsimp only
  rw [hr]
  rfl
theorem CmpD.notInK {X : Cx} {a : Addr} {ks : List Str} {z : Str} (h : KKeys X.K X.w a ks) (hi : z ∈ ks → ∃ v, KDct X.K X.w a z v) : CmpD X .NotIn (.str z) (.raw a) (decide (z ∉ ks)) := by
  obtain ⟨es, n, hl, hk, he⟩ := id h.ex
  have key : ∀ r, PySem.W.nsIn X.K a z = some r → CmpD X .NotIn (.str z) (.raw a) (!r.isSome) := fun r e =>
    ⟨_, op_notIn_kd (es := es) (n := n) ⟨hl, hk, h.low⟩, fun v w H rv rw Q q => by
      cases rw
      exact ⟨z, r, rv.str_inv, rfl, e, q _ H (Same.refl H) (.bl _)⟩⟩
  by_cases hz : z ∈ ks
  · obtain ⟨v, es', n', u, _, _, e, _⟩ := hi hz
    have := key _ e
    rw [decide_eq_false (by simpa using hz)]
    exact this
  · have := key _ (h.miss hz)
    rw [decide_eq_true hz]
    exact this
end VL
set_option Elab.async false
set_option linter.all false
set_option maxRecDepth 100000
set_option maxHeartbeats 1000000
/-! value layer, part 30: an except suite that raises -/
namespace VL
open PySem L2 PySem.Spec PyProof.Rows
section
variable {P : Program} {w : World} {K : PySem.W.Frag} {mg : Str → Option Value} {base : Heap}
theorem okN {x qual : Str} {st : Stmt} {f : Addr} {fd : FuncData} {N ps : List Str} {k : Nat} {sp : Sp} (F : Fun K x qual st f fd) (S : FnScope N ps (defScope st)) (len : ∀ vs H Q E, sp vs H Q E → vs.length = ps.length)
    (hbody : ∀ (cdv : Value) (A : Around) (outer : List Env) (s : Shared) (H : Hp) (vs : List V) (Q : VK) (E : XK), Room k (A.deeper (envOfC qual (defScope st) s.heap.objs.size f cdv)) → sp vs H Q E →
      ∃ t, PSs (cxOf (L2N.CX P w) P w K mg base N qual (defScope st) f cdv A outer s H E) (defBody st) t ∧ t { nx := fun _ H' => Q .non H', rt := Q } (start N vs) H) : FnOk P w K mg base (L2N.CX P w) (k + 1) f fd ps sp := by
  obtain ⟨oc, od, kV, doc, pm, an, cdv, ct, osl, rfl, lk, hcd⟩ := F.ex
  exact fn_of lk hcd S len fun A outer s H vs Q E hr hsp => hbody cdv A outer s H vs Q E hr hsp
end
section
variable {X : Cx} {ρ : RhoW} {Φ : Post} {rest : List Stmt} {C : Addr} {x m : Str} {j : Nat} {p p2 p3 pos : Pos}
/-- raise x('m'), nothing being handled: its context is None -/
theorem Ws.raiseN (E : ErrC X.K X.mg x C) (hc : X.calm = true) (tk : L2N.Takes X Φ.xw) (h : Φ.xs (.ref C)) (hg : Gl X x := by rfl) (hdb : (x == ("__debug__" : Str)) = false := by decide) : Ws X ρ (.Raise (some (.Call (.Name x p) [.Constant (.str m) j p2] [] p3)) none pos :: rest) Φ :=
  ⟨fun H0 σ H D En k => WSs.cons (ws_of (L2N.ps_raise hc tk (L2N.pmk_own PySem.F.excBase_ValueError E.q E.g E.k (raises_own E.b E.t) hg hdb)) (by
    obtain ⟨F, En⟩ := En
    exact k.ex _ σ H h En.len En.same))⟩
/-- .. within an except suite -/
theorem Ws.raiseH (E : ErrC X.K X.mg x C) (hc : L2H.HotC X) (tk : Takes X Φ.xw) (h : Φ.xs (.ref C)) (hg : Gl X x := by rfl) (hdb : (x == ("__debug__" : Str)) = false := by decide) : Ws X ρ (.Raise (some (.Call (.Name x p) [.Constant (.str m) j p2] [] p3)) none pos :: rest) Φ :=
  ⟨fun H0 σ H D En k => WSs.cons (ws_of (L2H.ps_raiseH hc tk (L2N.pmk_own PySem.F.excBase_ValueError E.q E.g E.k (raises_own E.b E.t) hg hdb)) (by
    obtain ⟨F, En⟩ := En
    exact k.ex _ σ H h En.len En.same))⟩
end
/-- a call that raises C, its context None -/
structure VXN (P : Program) (w : World) (K : PySem.W.Frag) (mg : Str → Option Value) (base : Heap) (k : Nat) (x : Str) (ds : List D) (C : Addr) : Prop where
  ex : ∃ (f : Addr) (fd : FuncData) (ps : List Str), mg x = some (.ref f) ∧ PySem.W.keepIn K (.ref f) = true ∧ Binds K fd ps [] ∧ FnOk P w K mg base (L2N.CX P w) k f fd ps (spX K ds C)
section
variable {P : Program} {w : World} {K : PySem.W.Frag} {mg : Str → Option Value} {base : Heap}
theorem VXN.of {x : Str} {st : Stmt} {N ps : List Str} {k : Nat} {ds : List D} {C : Addr} {ρ : RhoW} (F : Df K mg x st ps) (S : FnScope N ps (defScope st)) (hρ : startW N.length ds = ρ)
    (h : ∀ (f : Addr) (cdv : Value) (A : Around) (outer : List Env) (s : Shared) (H : Hp) (E : XK), Room k (cxOf (L2N.CX P w) P w K mg base N x (defScope st) f cdv A outer s H E).A →
      L2N.Takes (cxOf (L2N.CX P w) P w K mg base N x (defScope st) f cdv A outer s H E) (fun c d _ H => E c d H) →
      Ws (cxOf (L2N.CX P w) P w K mg base N x (defScope st) f cdv A outer s H E) ρ (defBody st) { nx := fun _ => False, rt := fun _ => False, xs := fun c => c = .ref C, xw := fun c d _ H => E c d H }) (hl : ps.length = ds.length := by rfl) : VXN P w K mg base (k + 1) x ds C := by
  obtain ⟨f, fd, h1, h2, h3⟩ := F.ex
  refine ⟨f, fd, ps, h1, h2.kp, h3, okN h2 S (fun vs H Q E q => by rw [hl]; exact q.1.1) fun cdv A outer s H vs Q E hr q => ?_⟩
  obtain ⟨r, q⟩ := q
  refine ⟨_, pss_wss, ?_⟩
  exact (h f cdv A outer s H E hr (L2N.takes_of rfl rfl rfl rfl)).run H (L2.start N vs) H _ (hρ ▸ start_env r) ⟨fun _ _ _ p => p.elim, fun _ _ _ p => p.elim, fun _ _ _ p => p.elim, fun _ _ _ _ p => p.elim, fun _ _ _ _ _ p => p.elim, fun c σ H' e _ s => by subst e; exact q H' s⟩
end
section
variable {X : Cx} {ρ : Rho} {C : Addr} {xw : WX} {x : Str} {k : Nat} {e : Expr} {es : List Expr} {p pos : Pos} {ds : List D}
theorem EvR.callN (F : VXN X.prog X.w X.K X.mg X.base k x ds C) (hr : Room k X.A) (tk : L2N.Takes X xw) (ha : EvA X ρ (e :: es) ds) (hg : Gl X x := by rfl) (hdb : (x == ("__debug__" : Str)) = false := by decide)
    (he : starEach (e :: es) X.env = (false, eval e X.env) :: starEach es X.env := by rfl) (hpl : (backTo pos (starEach es X.env)).any (·.1) = false := by rfl) : EvR X ρ (.Call (.Name x p) (e :: es) [] pos) C xw := by
  obtain ⟨f, fd, ps, h1, h2, h3, h4⟩ := F.ex
  exact ⟨fun σ H en hx Q => we_of (pe_callS h4 hr hg h1 h2 h3 (fun σ => L2N.passAt tk σ) pa_wa hdb he hpl) (ha.run σ H en _ fun vs H1 s1 r1 => ⟨r1, fun H' s => hx H' (s1.trans s)⟩)⟩
end
theorem env_none {K : PySem.W.Frag} {H0 H : Hp} {σ : L2.St} {n : Nat} (hl : σ.length = n) (s : Same H0 H) : EnvW K H0 σ H (List.replicate n none) := by
  have hall : ∀ m, allOf (fun _ => ([] : List Addr)) m = [] := fun m => by unfold allOf; simp
  refine ⟨fun _ => [], by simp [hl], fun _ => List.nodup_nil, fun i j a h => (by cases h), fun a ha => (by rw [hall] at ha; cases ha), s, fun j x h => ?_, fun _ _ => rfl⟩
  rw [List.getElem?_replicate] at h
  split at h <;> cases h
section
variable {X : Cx} {ρ : RhoW} {Φ : Post} {rest body suite : List Stmt} {x : Str} {b₀ : Stmt} {np pos pos' : Pos} {c : Value}
/-- try: body except x: suite; the suite raises or returns -/
theorem Ws.tryX (xs : Value → Prop) (hc : Names X x c) (tk : Takes X Φ.xw) (hpa : ∀ hd : Option Value, PassesOwnAt (model X.prog X.w) (X.A.mark hd) X.A X.env X.xe)
    (hx : ∀ v, xs v → PySem.W.exmOne X.K v c = some true)
    (hb : ∀ (W : WX) (pn : List (Addr × Obj)) (xe : Value → Shared → Prop), L2N.Takes (X.tr pn xe) W → PassesOwn (model X.prog X.w) X.A X.env xe → Ws (X.tr pn xe) ρ body { nx := fun ρ => Ws X ρ rest Φ, rt := Φ.rt, xs := xs, xw := W })
    (hsu : ∀ (v : Value) (a : Addr) (oe : Obj) (pn : List (Addr × Obj)), xs v → Takes (L2H.suiteX X a ((a, oe) :: pn)) Φ.xw → L2H.HotC (L2H.suiteX X a ((a, oe) :: pn)) → Ws (L2H.suiteX X a ((a, oe) :: pn)) (List.replicate ρ.length none) (b₀ :: suite) { nx := fun _ => False, rt := Φ.rt, xs := Φ.xs, xw := Φ.xw })
    (hs : X.stack = X.env :: X.outer := by rfl) (hf : X.env.frame = some X.env.locals := by rfl) :
    Ws X ρ (.Try body [.ExceptHandler (some (.Name x np)) none (b₀ :: suite) pos'] [] [] pos :: rest) Φ := ⟨fun H0 σ H D E k =>
  WSs.cons (ws_of (L2H.ps_try_onlyX (Wout := Φ.xw)
      (tb := fun W D σ H => ∀ (pn : List (Addr × Obj)) (xe : Value → Shared → Prop), L2N.Takes (X.tr pn xe) W → PassesOwn (model X.prog X.w) X.A X.env xe → WSs (X.tr pn xe) body σ H D)
      (ts := fun a cls d D σ H => ∀ (oe : Obj) (pn : List (Addr × Obj)), Takes (L2H.suiteX X a ((a, oe) :: pn)) Φ.xw → L2H.HotC (L2H.suiteX X a ((a, oe) :: pn)) → WSs (L2H.suiteX X a ((a, oe) :: pn)) (b₀ :: suite) σ H D)
      hs hf hc hpa tk (fun W pn xe t _ po => ⟨fun pins s σ H D I h => h pn xe t po pins s I⟩) (fun a oe cls d pn hz hd t ht => ⟨fun pins s σ H D I h => h oe pn t ht pins s I⟩)) (by
    have hl : σ.length = ρ.length := E.len
    intro pn xe t po
    refine (hb _ pn xe t po).run H0 σ H _ E ⟨fun σ' H' ρ' q l E' => q.run H0 σ' H' D E' (k.cast l.symm), fun _ _ _ q => q.elim, fun _ _ _ q => q.elim, k.rt, fun _ _ _ _ _ q => q.elim, fun v σ' H' q l s => ?_⟩
    refine ⟨true, hx v q, fun _ a na oe pn' tkS ht => ?_, fun z => by cases z⟩
    refine (hsu v a oe pn' q tkS ht).run H0 _ H' _ (env_none l s) ⟨fun _ _ _ q => q.elim, fun _ _ _ q => q.elim, fun _ _ _ q => q.elim, k.rt, fun _ _ _ _ _ q => q.elim, fun c' σ2 H2 q2 l2 s2 => ?_⟩
    exact k.ex c' σ2 H2 q2 (l2.trans (by simp)) s2))⟩
end
end VL
set_option Elab.async false
set_option linter.all false
set_option maxRecDepth 100000
set_option maxHeartbeats 1000000
/-! value layer, part 31: try: x = e, what is shared stays in sight in the suite -/
namespace VL
open PySem L2 PySem.Spec PyProof.Rows
/-- only what is shared -/
def keepD (r : Rho) : RhoW := r.map fun o => o.map W.sh
theorem env_keep {K : PySem.W.Frag} {H0 H M : Hp} {σ : L2.St} {r : Rho} (en : EnvS K σ M r) (s0 : Same H0 H) (s : Same M H) : EnvW K H0 σ H (keepD r) := by
  have hall : ∀ m, allOf (fun _ => ([] : List Addr)) m = [] := fun m => by unfold allOf; simp
  refine ⟨fun _ => [], by unfold keepD; simp [en.len], fun _ => List.nodup_nil, fun i j a h => (by cases h), fun a ha => (by rw [hall] at ha; cases ha), s0, fun j x h => ?_, fun _ _ => rfl⟩
  rw [hall, mask_nil]
  unfold keepD at h
  rw [List.getElem?_map] at h
  cases e : r[j]? with
  | none => rw [e] at h; cases h
  | some o =>
    rw [e] at h
    cases o with
    | none => cases h
    | some d =>
      cases h
      obtain ⟨v, h1, h2⟩ := en.get j d e
      exact ⟨v, h1, h2.mono s, rfl⟩
theorem env_set_raw {K : PySem.W.Frag} {H0 H : Hp} {σ : L2.St} {r : Rho} {i : Nat} {a : Addr} (E : EnvW K H0 σ H (keepD r)) : EnvW K H0 (σ.set i (some (.ref a))) H ((keepD r).set i (some (.sh (.raw a)))) := by
  obtain ⟨F, E⟩ := E
  have hF : ∀ j, F j = [] := fun j => by
    by_cases h : ∃ d, (keepD r)[j]? = some (some (.sh d))
    · obtain ⟨d, h⟩ := h
      obtain ⟨v, _, h2⟩ := E.get j _ h
      exact h2.2
    · refine E.off j fun w hw => h ?_
      unfold keepD at hw
      rw [List.getElem?_map] at hw
      cases e : r[j]? with
      | none => rw [e] at hw; cases hw
      | some o =>
        rw [e] at hw
        cases o with
        | none => cases hw
        | some d => unfold keepD; exact ⟨d, by rw [List.getElem?_map, e]; rfl⟩
  have hall : allOf F (keepD r).length = [] := by unfold allOf; simp [hF]
  have hs := E.same
  have hall2 : ∀ m, allOf (fun _ => ([] : List Addr)) m = [] := fun m => by unfold allOf; simp
  refine ⟨fun _ => [], by simp [E.len], fun _ => List.nodup_nil, fun i j a h => (by cases h), fun a ha => (by rw [hall2] at ha; cases ha), hs, fun j x h => ?_, fun _ _ => rfl⟩
  rw [hall2, mask_nil]
  rw [List.getElem?_set] at h
  split at h
  · rename_i e
    split at h
    · rename_i hlt
      obtain rfl := Option.some.inj (Option.some.inj h)
      subst e
      exact ⟨.ref a, List.getElem?_set_self (by rw [E.len]; exact hlt), .raw a, rfl⟩
    · cases h
  · rename_i hij
    obtain ⟨v, h1, h2⟩ := E.get j x h
    rw [hall, mask_nil, hF] at h2
    exact ⟨v, by rw [List.getElem?_set_ne hij]; exact h1, h2⟩
section
variable {X : Cx} {ρ : RhoW} {Φ : Post} {rest suite : List Stmt} {x n y : Str} {b₀ : Stmt} {e : Expr} {np pos pos' py apos : Pos} {c : Value} {C : Addr}
/-- try: y = e except x as n: suite; e raises C -/
theorem Ws.tryAs1 (i iy : Nat) (hN : X.N.Nodup) (hc : Names X x c) (tk : Takes X Φ.xw)
    (hx : PySem.W.exmOne X.K (.ref C) c = some true)
    (hb : ∀ (W : WX) (pn : List (Addr × Obj)) (xe : Value → Shared → Prop), Takes (X.tr pn xe) W → EvR (X.tr pn xe) (hide ρ) e C W)
    (hsu : ∀ (a : Addr) (oe : Obj) (pn : List (Addr × Obj)), Zc (.ref C) none oe → (∃ vs, oe.data = .fields vs) → Ws (X.suite a ((a, oe) :: pn)) ((keepD (hide ρ)).set i (some (.sh (.raw a)))) (b₀ :: suite) { nx := fun _ => False, rt := Φ.rt })
    (hs : X.stack = X.env :: X.outer := by rfl) (hf : X.env.frame = some X.env.locals := by rfl) (hi : X.N[i]? = some n := by rfl) (hln : X.env.kindOf n = some .local := by rfl)
    (hiy : X.N[iy]? = some y := by rfl) (hly : Loc X.env.scope y := by first | exact Or.inl rfl | exact Or.inr rfl)
    (hsw : swapsWith e (some (.Name y py)) apos.line X.env = pure false := by rfl) (hfy : X.fn y = true ∨ X.env.scope.names.lookup y = some .local := by first | exact .inl rfl | exact .inr rfl) :
    Ws X ρ (.Try [.Assign [.Name y py] e apos] [.ExceptHandler (some (.Name x np)) (some n) (b₀ :: suite) pos'] [] [] pos :: rest) Φ := ⟨fun H0 σ H D E k =>
  WSs.cons (ws_of (ps_try_as (Wout := Φ.xw) (i := i)
      (tb := fun W D σ H => ∀ (pn : List (Addr × Obj)) (xe : Value → Shared → Prop), Takes (X.tr pn xe) W → PassesOwn (model X.prog X.w) X.A X.env xe → WSs (X.tr pn xe) [.Assign [.Name y py] e apos] σ H D)
      (ts := fun a cls d D σ H => ∀ (oe : Obj) (pn : List (Addr × Obj)), Zc cls d oe → (∃ vs, oe.data = .fields vs) → WSs (X.suite a ((a, oe) :: pn)) (b₀ :: suite) σ H D)
      hs hf hN hi hln hc tk (fun W pn xe t po => ⟨fun pins s σ H D I h => h pn xe t po pins s I⟩) (fun a oe cls d pn hz hd => ⟨fun pins s σ H D I h => h oe pn hz hd pins s I⟩)) (by
    intro pn xe t po
    refine WSs.cons (ws_of (ps_set (X := X.tr pn xe) hN hiy hly pe_we hsw hfy) ?_)
    obtain ⟨F, E⟩ := id E
    have H0M : Same H0 (mask H (allOf F ρ.length)) := mask_same_of E.same fun a ha => E.fresh a ha
    refine (WE.frame (X := X.tr pn xe) E.cells ((hb _ pn xe t).run σ (mask H (allOf F ρ.length)) E.envH (fun H' s => ?_) (fun _ _ => False))).mono ?_
    · refine ⟨true, hx, fun _ a na oe pn' hz hd => ?_, fun z => by cases z⟩
      have En := env_set_raw (i := i) (a := a) (env_keep E.envH (H0M.trans s) s)
      refine (hsu a oe pn' hz hd).run H0 _ H' _ En ⟨fun _ _ _ q => q.elim, fun _ _ _ q => q.elim, fun _ _ _ q => q.elim, k.rt, fun _ _ _ _ _ q => q.elim, fun _ _ _ q => q.elim⟩
    · rintro v H' ⟨M, q, _⟩
      exact q.elim))⟩
end
section
variable {X : Cx} {ρ : Rho} {pos : Pos}
theorem Ev.dict0 : Ev X ρ (.Dict [] [] pos) (.dk []) :=
  ⟨fun σ H en Q q => we_of pe_dnewK fun p hp => q _ _ (Same.new hp) (.dk upd_same (by simp))⟩
end
end VL
set_option Elab.async false
set_option linter.all false
set_option maxRecDepth 100000
set_option maxHeartbeats 1000000
/-! value layer, part 32: calls with frames, calls with own arguments -/
namespace VL
open PySem L2 PySem.Spec PyProof.Rows
section
variable {K : PySem.W.Frag} {H0 H M : Hp} {v : V} {w : W} {o : O} {d : D} {A : List Addr} {σ τ τ' : L2.St} {ρ π π' : RhoW} {F : Nat → List Addr}
theorem EnvA.hidN (E : EnvA K H0 σ H ρ F) (n : Nat) : Hid H (allOf F n) := fun a ha => by
  obtain ⟨j, hj, h⟩ := mem_allOf.mp ha
  rcases E.hid1 j a h with q | ⟨C, dx, fs, e, dd⟩ | ⟨y, C, fs, e, dd, e2⟩
  · exact .inl q
  · exact .inr (.inl ⟨C, dx, fs, e, mem_allOf.mpr ⟨j, hj, dd⟩⟩)
  · exact .inr (.inr ⟨y, C, fs, e, mem_allOf.mpr ⟨j, hj, dd⟩, e2⟩)
/-- the last values of an environment anew, all else put aside -/
theorem EnvA.merge (E : EnvA K H0 (σ ++ τ) H (ρ ++ π) F) (hl : σ.length = ρ.length) (nM : ∀ a ∈ allOf F ρ.length, M a = none) (E2 : EnvW K (mask H (allOf F (ρ ++ π).length)) τ' M π') :
    EnvW K H0 (σ ++ τ') (join M H (allOf F ρ.length)) (ρ ++ π') := by
  obtain ⟨F2, E2⟩ := E2
  let G : Nat → List Addr := fun j => if j < ρ.length then F j else F2 (j - ρ.length)
  have hG1 : ∀ j, j < ρ.length → G j = F j := fun j h => if_pos h
  have hG2 : ∀ k, G (ρ.length + k) = F2 k := fun k => by dsimp only [G]; rw [if_neg (by omega)]; congr 1; omega
  have inO : ∀ j a, j < ρ.length → a ∈ F j → a ∈ allOf F ρ.length := fun j a h ha => mem_allOf.mpr ⟨j, h, ha⟩
  have sub : ∀ a, a ∈ allOf F ρ.length → a ∈ allOf F (ρ ++ π).length := fun a ha => by
    obtain ⟨j, hj, h⟩ := mem_allOf.mp ha
    exact mem_allOf.mpr ⟨j, by simp; omega, h⟩
  have someM : ∀ k a, a ∈ F2 k → M a ≠ none := fun k a h => (E2.hid1 k).some h
  have notO : ∀ k a, a ∈ F2 k → a ∉ allOf F ρ.length := fun k a h z => someM k a h (nM a z)
  have hall : ∀ a, a ∈ allOf G (ρ ++ π').length ↔ a ∈ allOf F ρ.length ∨ a ∈ allOf F2 π'.length := fun a => by
    constructor
    · intro h
      obtain ⟨j, hj, h⟩ := mem_allOf.mp h
      by_cases hjn : j < ρ.length
      · rw [hG1 j hjn] at h; exact .inl (inO j a hjn h)
      · have e : ρ.length + (j - ρ.length) = j := by omega
        rw [← e, hG2] at h
        exact .inr (E2.mem h)
    · rintro (h | h)
      · obtain ⟨j, hj, h⟩ := mem_allOf.mp h
        exact mem_allOf.mpr ⟨j, by simp; omega, by rw [hG1 j hj]; exact h⟩
      · obtain ⟨j, hj, h⟩ := mem_allOf.mp h
        exact mem_allOf.mpr ⟨ρ.length + j, by simp; omega, by rw [hG2]; exact h⟩
  have fr2 : ∀ a, a ∈ allOf F2 π'.length → a ∈ allOf F (ρ ++ π).length ∨ H a = none := fun a h => by
    have := E2.fresh a h
    by_cases z : a ∈ allOf F (ρ ++ π).length
    · exact .inl z
    · rw [mask_out z] at this; exact .inr this
  have jout : ∀ b u, M b = some u → join M H (allOf F ρ.length) b = some u := fun b u e => by
    rw [join_out (fun z => by rw [nM b z] at e; cases e)]; exact e
  have sS : Same (mask H (allOf F (ρ ++ π).length)) (mask (join M H (allOf F ρ.length)) (allOf G (ρ ++ π').length)) := fun b u e => by
    have e2 := E2.same b u e
    rw [mask_out (fun z => ?_)]
    · exact jout b u e2
    · rcases (hall b).mp z with z | z
      · rw [nM b z] at e2; cases e2
      · rw [E2.fresh b z] at e; cases e
  have sM : Same (mask M (allOf F2 π'.length)) (mask (join M H (allOf F ρ.length)) (allOf G (ρ ++ π').length)) := fun b u e => by
    obtain ⟨e1, e2⟩ := mask_some e
    rw [mask_out (fun z => ?_)]
    · exact jout b u e1
    · rcases (hall b).mp z with z | z
      · rw [nM b z] at e1; cases e1
      · exact e2 z
  have hl2 := E2.len
  refine ⟨G, by simp [hl, hl2], fun j => ?_, fun j k a h1 h2 => ?_, fun a ha => ?_, fun b u e => ?_, fun j x hx => ?_, fun j hj => ?_⟩
  · dsimp only [G]; split
    · exact E.nd j
    · exact E2.nd _
  · by_cases j1 : j < ρ.length <;> by_cases k1 : k < ρ.length
    · rw [hG1 j j1] at h1; rw [hG1 k k1] at h2; exact E.dj j k a h1 h2
    · rw [hG1 j j1] at h1
      rw [show k = ρ.length + (k - ρ.length) by omega, hG2] at h2
      exact absurd (inO j a j1 h1) (notO _ a h2)
    · rw [hG1 k k1] at h2
      rw [show j = ρ.length + (j - ρ.length) by omega, hG2] at h1
      exact absurd (inO k a k1 h2) (notO _ a h1)
    · rw [show k = ρ.length + (k - ρ.length) by omega, hG2] at h2
      rw [show j = ρ.length + (j - ρ.length) by omega, hG2] at h1
      have := E2.dj _ _ a h1 h2
      omega
  · rcases (hall a).mp ha with h | h
    · exact E.fresh a (sub a h)
    · rcases fr2 a h with h | h
      · exact E.fresh a h
      · exact E.same.free h
  · have hb : b ∉ allOf F (ρ ++ π).length := fun z => by rw [E.fresh b z] at e; cases e
    exact jout b u (E2.same b u (by rw [mask_out hb]; exact E.same b u e))
  · by_cases hj : j < ρ.length
    · rw [List.getElem?_append_left hj] at hx
      obtain ⟨u, e, r⟩ := E.get j x (by rw [List.getElem?_append_left hj]; exact hx)
      rw [List.getElem?_append_left (by omega)] at e
      refine ⟨u, by rw [List.getElem?_append_left (by omega)]; exact e, ?_⟩
      rw [hG1 j hj]
      exact r.keep (fun a ha z hz => by rw [join_in (inO j a hj ha)]; exact hz) sS
    · rw [List.getElem?_append_right (by omega)] at hx
      obtain ⟨u, e, r⟩ := E2.get _ x hx
      refine ⟨u, by rw [List.getElem?_append_right (by omega), hl]; exact e, ?_⟩
      rw [show j = ρ.length + (j - ρ.length) by omega, hG2]
      exact r.keep (fun a ha z hz => jout a z hz) sM
  · by_cases hj2 : j < ρ.length
    · rw [hG1 j hj2]
      exact E.off j fun x z => hj x (by rw [List.getElem?_append_left hj2] at z ⊢; exact z)
    · rw [show j = ρ.length + (j - ρ.length) by omega, hG2]
      exact E2.off _ fun x z => hj x (by rw [List.getElem?_append_right (by omega)]; exact z)
/-- one own thing -/
theorem EnvW.single {B : Hp} (s : Same B M) (f : ∀ a ∈ A, B a = none) (nd : A.Nodup) (r : RepO K M (mask M A) v o A) (hd : o.data = d) : EnvW K B [some v] M [some (.ow o d)] := by
  have hall : allOf (fun j => if j = 0 then A else []) [some (W.ow o d)].length = A := by unfold allOf; simp
  refine ⟨fun j => if j = 0 then A else [], rfl, fun i => ?_, fun i j a h1 h2 => ?_, by rw [hall]; exact f, s, fun i x h => ?_, fun i h => ?_⟩
  · try dsimp only
    split
    · exact nd
    · exact List.nodup_nil
  · try dsimp only at h1 h2
    split at h1
    · split at h2
      · omega
      · cases h2
    · cases h1
  · rw [hall]
    have hi := (List.getElem?_eq_some_iff.mp h).1
    simp at hi
    subst hi
    simp at h
    subst h
    exact ⟨v, rfl, hd, by (try dsimp only); rw [if_pos rfl]; exact r⟩
  · try dsimp only
    split
    · rename_i e; subst e
      exact absurd rfl (h (.ow o d))
    · rfl
end
section
variable {X : Cx} {k : Nat} {f : Addr} {fd : FuncData} {ps : List Str} {sp : Sp} {x : Str} {q p pos : Pos} {e : Expr} {es : List Expr} {t : TA}
/-- a call that sees some of the heap -/
def tCallF (sp : Sp) (t : TA) : TE := fun σ H Q => t σ H fun vs H1 => ∃ as, Hid H1 as ∧ sp vs (mask H1 as) (fun v M => (∀ a ∈ as, M a = none) → Q v (join M H1 as)) E0
theorem pe_callF (F : FnOk X.prog X.w X.K X.mg X.base CX0 k f fd ps sp) (hr : Room k X.A) (hg : Gl X x) (hm : X.mg x = some (.ref f)) (hk : PySem.W.keepIn X.K (.ref f) = true) (hb : Binds X.K fd ps [])
    (ha : PA X (e :: es) t) (hdb : (x == ("__debug__" : Str)) = false := by decide) (he : starEach (e :: es) X.env = (false, eval e X.env) :: starEach es X.env := by rfl) (hpl : (backTo pos (starEach es X.env)).any (·.1) = false := by rfl) :
    PE X (.Call (.Name x p) (e :: es) [] pos) (tCallF sp t) := by
  refine ⟨fun pins s σ H Q I h => ?_⟩
  refine wpAny_Call_Name_kw (ld_glob I hg hm ?_ hdb)
  refine PySem.W.callWith_K (h₀ := X.base) I.ok.mod.kin hk (thn (ha.run pos pins s σ H _ I h) fun us s1 ⟨vs, H1, I1, r, q⟩ => ⟨I1.kIn, ?_⟩) he hpl
  obtain ⟨as, hid, q⟩ := q
  obtain ⟨own, h1, h2, J⟩ := Inv.hide I1 hid
  have q' : sp (vs ++ []) (mask H1 as) (fun v M => (∀ a ∈ as, M a = none) → Q v (join M H1 as)) E0 := by rw [List.append_nil]; exact q
  refine thn (run_fn (ds := []) (dvs := []) F hr hb .nil pass0 J r q') fun u s' ⟨v, M, J', rv, q2⟩ => ?_
  obtain ⟨I', n, up⟩ := Inv.show' I1 hid h1 J'
  exact ⟨v, _, I', rv, q2 n⟩
end

/-! ### arguments that are shared -/
structure EvAS (X : Cx) (ρ : RhoW) (es : List Expr) (ds : List D) : Prop where
  run : ∀ (H0 : Hp) (σ : L2.St) (H : Hp), EnvW X.K H0 σ H ρ → ∀ Q : List V → Hp → Prop, (∀ vs H', vs.length = ds.length → EnvW X.K H0 (σ ++ vs.map some) H' (ρ ++ ds.map fun d => some (.sh d)) → Q vs H') → WA X es σ H Q
section
variable {X : Cx} {ρ : RhoW} {e : Expr} {es : List Expr} {d : D} {ds : List D} {Ψ : W → RhoW → Prop}
theorem EvAS.nil : EvAS X ρ [] [] := ⟨fun H0 σ H E Q q => wa_of pa_nil (q [] H rfl (by simpa using E))⟩
theorem EvAS.cons (h : EvW X ρ e (shD d ρ)) (t : EvAS X ρ es ds) (hs : starEach (e :: es) X.env = (false, eval e X.env) :: starEach es X.env := by rfl) : EvAS X ρ (e :: es) (d :: ds) :=
  ⟨fun H0 σ H E Q q => wa_of (pa_cons pe_we pa_wa hs) (h.run H0 σ H E _ fun v H1 w ρ' p l E1 => by
    obtain ⟨rfl, rfl⟩ := p
    have hl : σ.length = ρ'.length := E.len
    obtain ⟨F1, E1⟩ := E1
    have s01 : Same H0 (mask H1 (allOf F1 (ρ' ++ [some (W.sh d)]).length)) := mask_same_of E1.same fun a ha => E1.fresh a ha
    obtain ⟨v', e', r'⟩ := E1.get ρ'.length (.sh d) (by simp)
    have ev : v' = v := by rw [← hl] at e'; simp at e'; exact e'.symm
    subst ev
    refine t.run _ σ H1 (EnvW.pop ⟨_, E1.rebase⟩) _ fun vs H2 hv E2 => ?_
    obtain ⟨F2, E2⟩ := E2
    have s12 : Same (mask H1 (allOf F1 (ρ' ++ [some (W.sh d)]).length)) (mask H2 (allOf F2 (ρ' ++ ds.map fun d => some (W.sh d)).length)) := mask_same_of E2.same fun a ha => E2.fresh a ha
    have E3 := E2.pushS (r'.1.mono s12)
    have E4 : EnvW X.K H0 _ H2 _ := EnvW.unbase ⟨_, E3⟩ s01
    refine q (v' :: vs) H2 (by simp [hv]) (E4.remap (fun j => if j < ρ'.length then some j else if j = ρ'.length then some (ρ'.length + ds.length) else if j ≤ ρ'.length + ds.length then some (j - 1) else none) (by simp [hl, hv]) (fun j y hj => ?_) fun j j' k h1 h2 => ?_)
    · have hjl := (List.getElem?_eq_some_iff.mp hj).1
      simp at hjl
      by_cases j1 : j < ρ'.length
      · refine ⟨j, by rw [if_pos j1], ?_, ?_⟩
        · rw [List.getElem?_append_left j1] at hj
          rw [List.append_assoc, List.getElem?_append_left j1]; exact hj
        · rw [List.getElem?_append_left (by omega), List.append_assoc, List.getElem?_append_left (by omega)]
      · rw [List.getElem?_append_right (by omega)] at hj
        by_cases j2 : j = ρ'.length
        · subst j2
          refine ⟨ρ'.length + ds.length, by simp, ?_, ?_⟩
          · simp at hj
            rw [List.getElem?_append_right (by simp)]
            simp [hj]
          · rw [List.getElem?_append_right (by omega), List.getElem?_append_right (by simp; omega)]
            simp [hl, hv]
        · refine ⟨j - 1, by rw [if_neg j1, if_neg j2, if_pos (by omega)], ?_, ?_⟩
          · rw [show j - ρ'.length = (j - 1 - ρ'.length) + 1 by omega] at hj
            simp only [List.map_cons, List.getElem?_cons_succ] at hj
            have hlt := (List.getElem?_eq_some_iff.mp hj).1
            simp at hlt
            rw [List.append_assoc, List.getElem?_append_right (by omega), List.getElem?_append_left (by simpa using hlt)]
            exact hj
          · rw [show j - ρ'.length = (j - 1 - ρ'.length) + 1 by omega] at hj
            simp only [List.map_cons, List.getElem?_cons_succ] at hj
            have hlt := (List.getElem?_eq_some_iff.mp hj).1
            simp at hlt
            rw [List.getElem?_append_right (by omega), List.append_assoc, List.getElem?_append_right (by omega), List.getElem?_append_left (by simp; omega), show j - σ.length = (j - 1 - σ.length) + 1 by omega]
            simp
    · have key : ∀ j : Nat, (if j < ρ'.length then some j else if j = ρ'.length then some (ρ'.length + ds.length) else if j ≤ ρ'.length + ds.length then some (j - 1) else none) = some k → (j < ρ'.length ∧ k = j) ∨ (j = ρ'.length ∧ k = ρ'.length + ds.length) ∨ (ρ'.length < j ∧ j ≤ ρ'.length + ds.length ∧ k = j - 1) := fun j h => by
        split at h
        · cases h; exact .inl ⟨by assumption, rfl⟩
        · split at h
          · cases h; exact .inr (.inl ⟨by assumption, rfl⟩)
          · split at h
            · cases h; exact .inr (.inr ⟨by omega, by assumption, rfl⟩)
            · cases h
      have a1 := key j h1
      have a2 := key j' h2
      omega)⟩
end
end VL
set_option Elab.async false
set_option linter.all false
set_option maxRecDepth 100000
set_option maxHeartbeats 1000000
/-! value layer, part 33: own things taken out of their places, handed over, put back -/
namespace VL
open PySem L2 PySem.Spec PyProof.Rows
section
variable {K : PySem.W.Frag} {H0 H M : Hp} {v : V} {w : W} {o : O} {d d' d1 : D} {A : List Addr} {σ τ : L2.St} {ρ π : RhoW} {F : Nat → List Addr} {a : Addr}
theorem EnvW.dropMid {v : V} {w : W} (E : EnvW K H0 (σ ++ τ ++ [some v]) H (ρ ++ π ++ [some w])) (hl : σ.length = ρ.length) (ht : τ.length = π.length) : EnvW K H0 (σ ++ [some v]) H (ρ ++ [some w]) := by
  refine E.remap (fun j => if j < ρ.length then some j else if j = ρ.length then some (ρ.length + π.length) else none) (by simp [hl]) (fun j y hj => ?_) fun j j' k h1 h2 => ?_
  · have hjl := (List.getElem?_eq_some_iff.mp hj).1
    simp at hjl
    by_cases j1 : j < ρ.length
    · refine ⟨j, by rw [if_pos j1], ?_, ?_⟩
      · rw [List.getElem?_append_left j1] at hj
        rw [List.append_assoc, List.getElem?_append_left j1]; exact hj
      · rw [List.getElem?_append_left (by omega), List.append_assoc, List.getElem?_append_left (by omega)]
    · have e : j = ρ.length := by omega
      subst e
      refine ⟨ρ.length + π.length, by simp, ?_, ?_⟩
      · simp at hj
        rw [List.getElem?_append_right (by simp)]
        simp [hj]
      · rw [List.getElem?_append_right (by omega), List.getElem?_append_right (by simp; omega)]
        simp [hl, ht]
  · have key : ∀ j : Nat, (if j < ρ.length then some j else if j = ρ.length then some (ρ.length + π.length) else none) = some k → (j < ρ.length ∧ k = j) ∨ (j = ρ.length ∧ k = ρ.length + π.length) := fun j h => by
      split at h
      · cases h; exact .inl ⟨by assumption, rfl⟩
      · split at h
        · cases h; exact .inr ⟨by assumption, rfl⟩
        · cases h
    have a1 := key j h1
    have a2 := key j' h2
    omega
/-- the first of the last ones goes to the end -/
theorem EnvW.rotL {u : Option V} {x : Option W} (E : EnvW K H0 (σ ++ u :: τ) H (ρ ++ x :: π)) (hl : σ.length = ρ.length) : EnvW K H0 (σ ++ τ ++ [u]) H (ρ ++ π ++ [x]) := by
  have ht : τ.length = π.length := by have := E.len; simp [hl] at this; omega
  refine E.remap (fun j => if j < ρ.length then some j else if j < ρ.length + π.length then some (j + 1) else if j = ρ.length + π.length then some ρ.length else none) (by simp [hl, ht]) (fun j y hj => ?_) fun j j' k h1 h2 => ?_
  · have hjl := (List.getElem?_eq_some_iff.mp hj).1
    simp at hjl
    by_cases j1 : j < ρ.length
    · refine ⟨j, by rw [if_pos j1], ?_, ?_⟩
      · rw [List.append_assoc, List.getElem?_append_left j1] at hj
        rw [List.getElem?_append_left j1]; exact hj
      · rw [List.append_assoc, List.getElem?_append_left (by omega), List.getElem?_append_left (by omega)]
    · by_cases j2 : j < ρ.length + π.length
      · refine ⟨j + 1, by rw [if_neg j1, if_pos j2], ?_, ?_⟩
        · rw [List.getElem?_append_left (by simp; omega), List.getElem?_append_right (by omega)] at hj
          rw [List.getElem?_append_right (by omega), show j + 1 - ρ.length = (j - ρ.length) + 1 by omega, List.getElem?_cons_succ]
          exact hj
        · rw [List.getElem?_append_left (by simp; omega), List.getElem?_append_right (by omega), List.getElem?_append_right (by omega), show j + 1 - σ.length = (j - σ.length) + 1 by omega, List.getElem?_cons_succ]
      · have e : j = ρ.length + π.length := by omega
        subst e
        refine ⟨ρ.length, by rw [if_neg j1, if_neg j2, if_pos rfl], ?_, ?_⟩
        · rw [List.getElem?_append_right (by simp)] at hj
          simp at hj
          rw [List.getElem?_append_right (Nat.le_refl _)]
          simp [hj]
        · rw [List.getElem?_append_right (by simp; omega), List.getElem?_append_right (by omega)]
          simp [hl, ht]
  · have key : ∀ j : Nat, (if j < ρ.length then some j else if j < ρ.length + π.length then some (j + 1) else if j = ρ.length + π.length then some ρ.length else none) = some k → (j < ρ.length ∧ k = j) ∨ (ρ.length ≤ j ∧ j < ρ.length + π.length ∧ k = j + 1) ∨ (j = ρ.length + π.length ∧ k = ρ.length) := fun j h => by
      split at h
      · cases h; exact .inl ⟨by assumption, rfl⟩
      · split at h
        · cases h; exact .inr (.inl ⟨by omega, by assumption, rfl⟩)
        · split at h
          · cases h; exact .inr (.inr ⟨by assumption, rfl⟩)
          · cases h
    have a1 := key j h1
    have a2 := key j' h2
    omega
/-! pins -/
theorem EnvW.pinned (E : EnvW K H0 σ H ρ) {i : Nat} (hi : ρ[i]? = some (some (.ow o d))) (hσ : σ[i]? = some (some (.ref a))) : EnvW K H0 σ H (ρ.set i (some (.ow (.pin a o) d))) := by
  obtain ⟨F, E⟩ := E
  have hl := (List.getElem?_eq_some_iff.mp hi).1
  refine ⟨F, by simp [E.len], E.nd, E.dj, by simpa using E.fresh, E.same, fun j x hj => ?_, fun j hj => ?_⟩
  · rw [List.length_set]
    by_cases e : j = i
    · subst e
      rw [List.getElem?_set_self hl] at hj
      obtain rfl := Option.some.inj (Option.some.inj hj)
      obtain ⟨v, h1, h2⟩ := E.get j _ hi
      rw [hσ] at h1
      obtain rfl := Option.some.inj (Option.some.inj h1)
      exact ⟨_, hσ, by rw [O.data]; exact h2.1, .pin h2.2⟩
    · rw [List.getElem?_set_ne (Ne.symm e)] at hj
      exact E.get j x hj
  · by_cases e : j = i
    · subst e
      exact absurd (List.getElem?_set_self hl) (hj _)
    · exact E.off j fun x z => hj x (by rw [List.getElem?_set_ne (Ne.symm e)]; exact z)
theorem EnvW.unpinned (E : EnvW K H0 σ H ρ) {i : Nat} (hi : ρ[i]? = some (some (.ow (.pin a o) d))) : σ[i]? = some (some (.ref a)) ∧ EnvW K H0 σ H (ρ.set i (some (.ow o d))) := by
  obtain ⟨F, E⟩ := E
  have hl := (List.getElem?_eq_some_iff.mp hi).1
  obtain ⟨v, h1, h2⟩ := E.get i _ hi
  have h3 := h2.2
  have key : v = .ref a ∧ RepO K H (mask H (allOf F ρ.length)) (.ref a) o (F i) := by
    generalize F i = Fi at h3
    cases h3 with
    | pin h => exact ⟨rfl, h⟩
  obtain ⟨rfl, h4⟩ := key
  refine ⟨h1, F, by simp [E.len], E.nd, E.dj, by simpa using E.fresh, E.same, fun j x hj => ?_, fun j hj => ?_⟩
  · rw [List.length_set]
    by_cases e : j = i
    · subst e
      rw [List.getElem?_set_self hl] at hj
      obtain rfl := Option.some.inj (Option.some.inj hj)
      exact ⟨_, h1, by have := h2.1; rw [O.data] at this; exact this, h4⟩
    · rw [List.getElem?_set_ne (Ne.symm e)] at hj
      exact E.get j x hj
  · by_cases e : j = i
    · subst e
      exact absurd (List.getElem?_set_self hl) (hj _)
    · exact E.off j fun x z => hj x (by rw [List.getElem?_set_ne (Ne.symm e)]; exact z)
/-! a thing out of an own list, its place left -/
theorem data_set {os : List O} {k : Nat} {o : O} : dataAll (os.set k o) = (dataAll os).set k o.data := by
  rw [dataAll_map, dataAll_map, List.map_set]
theorem EnvW.takeK (E : EnvW K H0 σ H ρ) {i k : Nat} {os : List O} (hi : ρ[i]? = some (some (.ow (.ls os) d))) (hk : os[k]? = some (.pin a o)) (hd : (O.ls (os.set k (.sh (.raw a)))).data = d') (hd1 : o.data = d1) :
    EnvW K H0 (σ ++ [some (.ref a)]) H (ρ.set i (some (.ow (.ls (os.set k (.sh (.raw a)))) d')) ++ [some (.ow (.pin a o) d1)]) := by
  obtain ⟨F, E⟩ := E
  have hl := (List.getElem?_eq_some_iff.mp hi).1
  have hkl := (List.getElem?_eq_some_iff.mp hk).1
  have hσ := E.len
  obtain ⟨v, h1, h2⟩ := E.get i _ hi
  have ro := h2.2
  obtain ⟨Fi, hFi⟩ : ∃ Fi, F i = Fi := ⟨_, rfl⟩
  have ndi := E.nd i
  rw [hFi] at ro ndi
  cases ro with
  | @ls b vs _ As g1 g2 g3 g4 =>
  have gv : vs[k]? = some (vs[k]'(by omega)) := List.getElem?_eq_getElem (by omega)
  have gA : As[k]? = some (As[k]'(by omega)) := List.getElem?_eq_getElem (by omega)
  have rk := g4 k _ _ _ gv hk gA
  generalize hB : As[k] = B at gA rk
  have key : vs[k]'(by omega) = .ref a ∧ RepO K H (mask H (allOf F ρ.length)) (.ref a) o B := by
    generalize vs[k]'(by omega) = vk at rk
    cases rk with
    | pin h => exact ⟨rfl, h⟩
  obtain ⟨gvk, rk2⟩ := key
  rw [gvk] at gv
  have hsetA : (As.set k []).flatten = (As.take k).flatten ++ (As.drop (k + 1)).flatten := by
    rw [flat_split (As := As.set k []) (k := k) (B := []) (List.getElem?_set_self (by omega)), List.take_set_of_le (Nat.le_refl k), List.drop_set_of_lt (Nat.lt_succ_self k), List.nil_append]
  have hflat := flat_split gA
  have subK : ∀ c, c ∈ (As.set k []).flatten → c ∈ As.flatten := fun c h => by
    rw [hsetA] at h
    rw [hflat]
    rcases List.mem_append.mp h with h | h
    · exact List.mem_append_left _ h
    · exact List.mem_append_right _ (List.mem_append_right _ h)
  have subB : ∀ c, c ∈ B → c ∈ As.flatten := fun c h => by rw [hflat]; exact List.mem_append_right _ (List.mem_append_left _ h)
  obtain ⟨nb, nd2⟩ := List.nodup_cons.mp ndi
  have nd3 := nd2
  rw [hflat, List.nodup_append] at nd3
  obtain ⟨n1, n2, n3⟩ := nd3
  rw [List.nodup_append] at n2
  obtain ⟨n4, n5, n6⟩ := n2
  have disB : ∀ c, c ∈ B → c ∉ b :: (As.set k []).flatten := fun c hc hz => by
    rcases List.mem_cons.mp hz with e | hz
    · exact nb (e ▸ subB c hc)
    · rw [hsetA] at hz
      rcases List.mem_append.mp hz with hz | hz
      · exact n3 c hz c (List.mem_append_left _ hc) rfl
      · exact n6 c hc c hz rfl
  let G : Nat → List Addr := fun j => if j = i then b :: (As.set k []).flatten else if j = ρ.length then B else F j
  have Gi : G i = b :: (As.set k []).flatten := if_pos rfl
  have Gn : G ρ.length = B := by dsimp only [G]; rw [if_neg (by omega), if_pos rfl]
  have Go : ∀ j, j ≠ i → j ≠ ρ.length → G j = F j := fun j h1 h2 => by dsimp only [G]; rw [if_neg h1, if_neg h2]
  have inF : ∀ j c, c ∈ G j → (j = i ∧ c ∈ F i) ∨ (j = ρ.length ∧ c ∈ F i) ∨ (j ≠ i ∧ j ≠ ρ.length ∧ c ∈ F j) := fun j c h => by
    by_cases e1 : j = i
    · rw [e1, Gi] at h
      refine .inl ⟨e1, ?_⟩
      rw [hFi]
      rcases List.mem_cons.mp h with h | h
      · exact h ▸ List.mem_cons_self ..
      · exact List.mem_cons_of_mem _ (subK c h)
    · by_cases e2 : j = ρ.length
      · rw [e2, Gn] at h
        exact .inr (.inl ⟨e2, by rw [hFi]; exact List.mem_cons_of_mem _ (subB c h)⟩)
      · rw [Go j e1 e2] at h
        exact .inr (.inr ⟨e1, e2, h⟩)
  have hall : ∀ c, c ∈ allOf G (ρ.set i (some (W.ow (.ls (os.set k (.sh (.raw a)))) d')) ++ [some (W.ow (.pin a o) d1)]).length ↔ c ∈ allOf F ρ.length := fun c => by
    constructor
    · intro h
      obtain ⟨j, _, h⟩ := mem_allOf.mp h
      rcases inF j c h with ⟨_, h⟩ | ⟨_, h⟩ | ⟨_, _, h⟩
      · exact E.mem h
      · exact E.mem h
      · exact E.mem h
    · intro h
      obtain ⟨j, hj, h⟩ := mem_allOf.mp h
      by_cases e : j = i
      · subst e
        rw [hFi] at h
        rcases List.mem_cons.mp h with h | h
        · exact mem_allOf.mpr ⟨j, by simp; omega, by rw [Gi, h]; exact List.mem_cons_self ..⟩
        · rw [hflat] at h
          rcases List.mem_append.mp h with h | h
          · exact mem_allOf.mpr ⟨j, by simp; omega, by rw [Gi, hsetA]; exact List.mem_cons_of_mem _ (List.mem_append_left _ h)⟩
          · rcases List.mem_append.mp h with h | h
            · exact mem_allOf.mpr ⟨ρ.length, by simp, by rw [Gn]; exact h⟩
            · exact mem_allOf.mpr ⟨j, by simp; omega, by rw [Gi, hsetA]; exact List.mem_cons_of_mem _ (List.mem_append_right _ h)⟩
      · exact mem_allOf.mpr ⟨j, by simp; omega, by rw [Go j e (by omega)]; exact h⟩
  have hmask : mask H (allOf G (ρ.set i (some (W.ow (.ls (os.set k (.sh (.raw a)))) d')) ++ [some (W.ow (.pin a o) d1)]).length) = mask H (allOf F ρ.length) := by
    funext c
    by_cases hc : c ∈ allOf F ρ.length
    · rw [mask_in hc, mask_in ((hall c).mpr hc)]
    · rw [mask_out hc, mask_out (fun z => hc ((hall c).mp z))]
  refine ⟨G, by simp [hσ], fun j => ?_, fun j j' c h1 h2 => ?_, fun c hc => E.fresh c ((hall c).mp hc), E.same, fun j x hx => ?_, fun j hj => ?_⟩
  · by_cases e1 : j = i
    · rw [e1, Gi]
      refine List.nodup_cons.mpr ⟨fun z => nb (subK b z), ?_⟩
      rw [hsetA]
      exact List.nodup_append.mpr ⟨n1, n5, fun x hx y hy e => n3 x hx y (List.mem_append_right _ hy) e⟩
    · by_cases e2 : j = ρ.length
      · rw [e2, Gn]; exact n4
      · rw [Go j e1 e2]; exact E.nd j
  · by_cases e : (j = i ∧ j' = ρ.length) ∨ (j = ρ.length ∧ j' = i)
    · rcases e with ⟨rfl, rfl⟩ | ⟨rfl, rfl⟩
      · rw [Gi] at h1; rw [Gn] at h2; exact absurd h1 (disB c h2)
      · rw [Gn] at h1; rw [Gi] at h2; exact absurd h2 (disB c h1)
    · have big : ∀ t c, c ∈ F t → t < ρ.length := fun t c h => Classical.byContradiction fun z => by
        rw [E.off t (fun x e => by rw [List.getElem?_eq_none (by omega)] at e; cases e)] at h
        cases h
      rcases inF j c h1 with ⟨a1, q1⟩ | ⟨a1, q1⟩ | ⟨a1, b1, q1⟩ <;> rcases inF j' c h2 with ⟨a2, q2⟩ | ⟨a2, q2⟩ | ⟨a2, b2, q2⟩
      · omega
      · exact absurd (.inl ⟨a1, a2⟩) e
      · exact absurd (E.dj _ _ c q2 q1) a2
      · exact absurd (.inr ⟨a1, a2⟩) e
      · omega
      · exact absurd (E.dj _ _ c q2 q1) a2
      · exact absurd (E.dj _ _ c q1 q2) a1
      · exact absurd (E.dj _ _ c q1 q2) a1
      · exact E.dj j j' c q1 q2
  · rw [hmask]
    by_cases e1 : j = i
    · subst e1
      rw [List.getElem?_append_left (by simpa using hl), List.getElem?_set_self hl] at hx
      obtain rfl := Option.some.inj (Option.some.inj hx)
      refine ⟨.ref b, by rw [List.getElem?_append_left (by omega)]; exact h1, hd, ?_⟩
      rw [Gi]
      refine .ls g1 (by simp [g2]) (by simp [g3]) fun t u p C q1 q2 q3 => ?_
      by_cases et : t = k
      · subst et
        rw [List.getElem?_set_self (by omega)] at q2
        rw [List.getElem?_set_self (by omega)] at q3
        cases q2; cases q3
        rw [gv] at q1
        cases q1
        exact .sh (.raw a)
      · rw [List.getElem?_set_ne (Ne.symm et)] at q2 q3
        exact g4 t u p C q1 q2 q3
    · by_cases e2 : j = ρ.length
      · subst e2
        rw [List.getElem?_append_right (by simp)] at hx
        simp at hx
        subst hx
        exact ⟨.ref a, by rw [← hσ]; simp, by rw [O.data]; exact hd1, by rw [Gn]; exact .pin rk2⟩
      · have hjn : j < ρ.length := by
          have := (List.getElem?_eq_some_iff.mp hx).1
          simp at this; omega
        rw [List.getElem?_append_left (by simpa using hjn), List.getElem?_set_ne (Ne.symm e1)] at hx
        obtain ⟨u, q1, q2⟩ := E.get j x hx
        exact ⟨u, by rw [List.getElem?_append_left (by omega)]; exact q1, by rw [Go j e1 e2]; exact q2⟩
  · by_cases e1 : j = i
    · subst e1
      exact absurd (by rw [List.getElem?_append_left (by simpa using hl), List.getElem?_set_self hl]) (hj _)
    · by_cases e2 : j = ρ.length
      · subst e2
        exact absurd (by rw [List.getElem?_append_right (by simp)]; simp) (hj (.ow (.pin a o) d1))
      · rw [Go j e1 e2]
        refine E.off j fun x z => hj x ?_
        have hjn := (List.getElem?_eq_some_iff.mp z).1
        rw [List.getElem?_append_left (by simpa using hjn), List.getElem?_set_ne (Ne.symm e1)]
        exact z
theorem EnvW.putK {i k : Nat} {os : List O} (E : EnvW K H0 (σ ++ [some (.ref a)]) H (ρ ++ [some (.ow (.pin a o) d1)])) (hi : ρ[i]? = some (some (.ow (.ls os) d))) (hk : os[k]? = some (.sh (.raw a))) (hd : (O.ls (os.set k (.pin a o))).data = d') :
    EnvW K H0 σ H (ρ.set i (some (.ow (.ls (os.set k (.pin a o))) d'))) := by
  obtain ⟨F, E⟩ := E
  have hl := (List.getElem?_eq_some_iff.mp hi).1
  have hkl := (List.getElem?_eq_some_iff.mp hk).1
  have hσ : σ.length = ρ.length := by have := E.len; simpa using this
  obtain ⟨v, h1, h2⟩ := E.get i (.ow (.ls os) d) (by rw [List.getElem?_append_left hl]; exact hi)
  rw [List.getElem?_append_left (by omega)] at h1
  obtain ⟨v2, h3, h4⟩ := E.get ρ.length (.ow (.pin a o) d1) (by simp)
  have ev : v2 = .ref a := by rw [← hσ] at h3; simp at h3; exact h3.symm
  subst ev
  have ro := h2.2
  have rp := h4.2
  obtain ⟨Fi, hFi⟩ : ∃ Fi, F i = Fi := ⟨_, rfl⟩
  obtain ⟨B, hFB⟩ : ∃ B, F ρ.length = B := ⟨_, rfl⟩
  have ndi := E.nd i
  have ndB := E.nd ρ.length
  have disj : ∀ c, c ∈ F i → c ∉ B := fun c h z => by rw [← hFB] at z; have := E.dj _ _ c h z; omega
  rw [hFi] at ro ndi disj
  rw [hFB] at rp ndB
  cases ro with
  | @ls b vs _ As g1 g2 g3 g4 =>
  have gv : vs[k]? = some (vs[k]'(by omega)) := List.getElem?_eq_getElem (by omega)
  have gA : As[k]? = some (As[k]'(by omega)) := List.getElem?_eq_getElem (by omega)
  have rk := g4 k _ _ _ gv hk gA
  obtain ⟨hAk, rraw⟩ := rk.sh_inv
  rw [hAk] at gA
  have gvk : vs[k]'(by omega) = .ref a := by
    generalize vs[k]'(by omega) = vk at rraw
    cases rraw; rfl
  rw [gvk] at gv
  have hflat := flat_split gA
  rw [List.nil_append] at hflat
  have hsetA : (As.set k B).flatten = (As.take k).flatten ++ (B ++ (As.drop (k + 1)).flatten) := by
    rw [flat_split (As := As.set k B) (k := k) (B := B) (List.getElem?_set_self (by omega)), List.take_set_of_le (Nat.le_refl k), List.drop_set_of_lt (Nat.lt_succ_self k)]
  have memS : ∀ c, c ∈ (As.set k B).flatten ↔ c ∈ As.flatten ∨ c ∈ B := fun c => by
    rw [hsetA, hflat]
    simp only [List.mem_append]
    constructor
    · rintro (h | h | h)
      · exact .inl (.inl h)
      · exact .inr h
      · exact .inl (.inr h)
    · rintro ((h | h) | h)
      · exact .inl h
      · exact .inr (.inr h)
      · exact .inr (.inl h)
  obtain ⟨nb, nd2⟩ := List.nodup_cons.mp ndi
  rw [hflat, List.nodup_append] at nd2
  obtain ⟨n1, n2, n3⟩ := nd2
  let G : Nat → List Addr := fun j => if j = i then b :: (As.set k B).flatten else if j = ρ.length then [] else F j
  have Gi : G i = b :: (As.set k B).flatten := if_pos rfl
  have Gn : G ρ.length = [] := by dsimp only [G]; rw [if_neg (by omega), if_pos rfl]
  have Go : ∀ j, j ≠ i → j ≠ ρ.length → G j = F j := fun j h1 h2 => by dsimp only [G]; rw [if_neg h1, if_neg h2]
  have inF : ∀ j c, c ∈ G j → (j = i ∧ (c ∈ F i ∨ c ∈ F ρ.length)) ∨ (j ≠ i ∧ j ≠ ρ.length ∧ c ∈ F j) := fun j c h => by
    by_cases e1 : j = i
    · rw [e1, Gi] at h
      refine .inl ⟨e1, ?_⟩
      rw [hFi, hFB]
      rcases List.mem_cons.mp h with h | h
      · exact .inl (h ▸ List.mem_cons_self ..)
      · rcases (memS c).mp h with h | h
        · exact .inl (List.mem_cons_of_mem _ h)
        · exact .inr h
    · by_cases e2 : j = ρ.length
      · rw [e2, Gn] at h; cases h
      · rw [Go j e1 e2] at h
        exact .inr ⟨e1, e2, h⟩
  have hall : ∀ c, c ∈ allOf G (ρ.set i (some (W.ow (.ls (os.set k (.pin a o))) d'))).length ↔ c ∈ allOf F (ρ ++ [some (W.ow (.pin a o) d1)]).length := fun c => by
    constructor
    · intro h
      obtain ⟨j, _, h⟩ := mem_allOf.mp h
      rcases inF j c h with ⟨_, h | h⟩ | ⟨_, _, h⟩
      · exact E.mem h
      · exact E.mem h
      · exact E.mem h
    · intro h
      obtain ⟨j, hj, h⟩ := mem_allOf.mp h
      simp at hj
      by_cases e : j = i
      · subst e
        rw [hFi] at h
        refine mem_allOf.mpr ⟨j, by simp; omega, ?_⟩
        rw [Gi]
        rcases List.mem_cons.mp h with h | h
        · exact h ▸ List.mem_cons_self ..
        · exact List.mem_cons_of_mem _ ((memS c).mpr (.inl h))
      · by_cases e2 : j = ρ.length
        · subst e2
          rw [hFB] at h
          exact mem_allOf.mpr ⟨i, by simp; omega, by rw [Gi]; exact List.mem_cons_of_mem _ ((memS c).mpr (.inr h))⟩
        · exact mem_allOf.mpr ⟨j, by simp; omega, by rw [Go j e e2]; exact h⟩
  have hmask : mask H (allOf G (ρ.set i (some (W.ow (.ls (os.set k (.pin a o))) d'))).length) = mask H (allOf F (ρ ++ [some (W.ow (.pin a o) d1)]).length) := by
    funext c
    by_cases hc : c ∈ allOf F (ρ ++ [some (W.ow (.pin a o) d1)]).length
    · rw [mask_in hc, mask_in ((hall c).mpr hc)]
    · rw [mask_out hc, mask_out (fun z => hc ((hall c).mp z))]
  refine ⟨G, by simp [hσ], fun j => ?_, fun j j' c h1 h2 => ?_, fun c hc => E.fresh c ((hall c).mp hc), E.same, fun j x hx => ?_, fun j hj => ?_⟩
  · by_cases e1 : j = i
    · rw [e1, Gi]
      refine List.nodup_cons.mpr ⟨fun z => ?_, ?_⟩
      · rcases (memS b).mp z with z | z
        · exact nb z
        · exact disj b (List.mem_cons_self ..) z
      · rw [hsetA]
        have dA : ∀ c, c ∈ (As.take k).flatten ∨ c ∈ (As.drop (k + 1)).flatten → c ∉ B := fun c h => disj c (List.mem_cons_of_mem _ (by rw [hflat]; exact List.mem_append.mpr h))
        refine List.nodup_append.mpr ⟨n1, List.nodup_append.mpr ⟨ndB, n2, fun x hx y hy e => dA y (.inr hy) (e ▸ hx)⟩, fun x hx y hy e => ?_⟩
        rcases List.mem_append.mp hy with hy | hy
        · exact dA x (.inl hx) (e ▸ hy)
        · exact n3 x hx y hy e
    · by_cases e2 : j = ρ.length
      · rw [e2, Gn]; exact List.nodup_nil
      · rw [Go j e1 e2]; exact E.nd j
  · rcases inF j c h1 with ⟨a1, q1⟩ | ⟨a1, b1, q1⟩ <;> rcases inF j' c h2 with ⟨a2, q2⟩ | ⟨a2, b2, q2⟩
    · omega
    · rcases q1 with q1 | q1
      · exact absurd (E.dj _ _ c q2 q1) a2
      · exact absurd (E.dj _ _ c q2 q1) b2
    · rcases q2 with q2 | q2
      · exact absurd (E.dj _ _ c q1 q2) a1
      · exact absurd (E.dj _ _ c q1 q2) b1
    · exact E.dj j j' c q1 q2
  · rw [hmask]
    by_cases e1 : j = i
    · subst e1
      rw [List.getElem?_set_self hl] at hx
      obtain rfl := Option.some.inj (Option.some.inj hx)
      refine ⟨.ref b, h1, hd, ?_⟩
      rw [Gi]
      refine .ls g1 (by simp [g2]) (by simp [g3]) fun t u p C q1 q2 q3 => ?_
      by_cases et : t = k
      · subst et
        rw [List.getElem?_set_self (by omega)] at q2
        rw [List.getElem?_set_self (by omega)] at q3
        cases q2; cases q3
        rw [gv] at q1
        cases q1
        exact rp
      · rw [List.getElem?_set_ne (Ne.symm et)] at q2 q3
        exact g4 t u p C q1 q2 q3
    · have hjn : j < ρ.length := by
        have := (List.getElem?_eq_some_iff.mp hx).1
        simpa using this
      rw [List.getElem?_set_ne (Ne.symm e1)] at hx
      obtain ⟨u, q1, q2⟩ := E.get j x (by rw [List.getElem?_append_left hjn]; exact hx)
      rw [List.getElem?_append_left (by omega)] at q1
      exact ⟨u, q1, by rw [Go j e1 (by omega)]; exact q2⟩
  · by_cases e1 : j = i
    · subst e1
      exact absurd (by rw [List.getElem?_set_self hl]) (hj (.ow (.ls (os.set k (.pin a o))) d'))
    · by_cases e2 : j = ρ.length
      · rw [e2, Gn]
      · rw [Go j e1 e2]
        refine E.off j fun x z => hj x ?_
        rw [List.getElem?_set_ne (Ne.symm e1)]
        have hjn := (List.getElem?_eq_some_iff.mp z).1
        simp at hjn
        rw [List.getElem?_append_left (by omega)] at z
        exact z
/-! slots: out and back -/
theorem EnvW.takeS (E : EnvW K H0 σ H ρ) {i : Nat} (hi : ρ[i]? = some (some (.ow (.pin a o) d))) : EnvW K H0 (σ ++ [some (.ref a)]) H (ρ.set i none ++ [some (.ow (.pin a o) d)]) := E.moved hi (E.unpinned hi).1
theorem EnvW.putS {i : Nat} (E : EnvW K H0 (σ ++ [some (.ref a)]) H (ρ ++ [some (.ow (.pin a o) d)])) (hσ : σ[i]? = some (some (.ref a))) : EnvW K H0 σ H (ρ.set i (some (.ow (.pin a o) d))) := by
  have := E.into i
  have e : σ.set i (some (.ref a)) = σ := by
    apply List.ext_getElem?
    intro j
    rw [List.getElem?_set]
    split
    · rename_i h
      subst h
      split
      · exact hσ.symm
      · rename_i h2
        exact absurd (List.getElem?_eq_some_iff.mp hσ).1 h2
    · rfl
  rw [e] at this
  exact this
end
end VL
set_option Elab.async false
set_option linter.all false
set_option maxRecDepth 100000
set_option maxHeartbeats 1000000
/-! value layer, part 34: defs that change what they are handed -/
namespace VL
open PySem L2 PySem.Spec PyProof.Rows
/-- where an own thing is: a slot, a thing of an own list -/
inductive PSp where
  | slot (i : Nat) (a : Addr) (o : O) (d : D)
  | kid (i k : Nat) (a : Addr) (os : List O) (o : O)
namespace PSp
def i : PSp → Nat
  | slot i _ _ _ => i
  | kid i _ _ _ _ => i
def a : PSp → Addr
  | slot _ a _ _ => a
  | kid _ _ a _ _ => a
def o : PSp → O
  | slot _ _ o _ => o
  | kid _ _ _ _ o => o
def d : PSp → D
  | slot _ _ _ d => d
  | kid _ _ _ _ o => o.data
def path : PSp → List Pe
  | slot _ _ _ _ => []
  | kid _ k _ _ _ => [.ix k]
def w (p : PSp) : W := .ow (.pin p.a p.o) p.d
def out (ρ : RhoW) : PSp → RhoW
  | slot i _ _ _ => ρ.set i none
  | kid i k a os _ => ρ.set i (some (.ow (.ls (os.set k (.sh (.raw a)))) (O.ls (os.set k (.sh (.raw a)))).data))
def ok (ρ : RhoW) : PSp → Prop
  | slot i a o d => ρ[i]? = some (some (.ow (.pin a o) d))
  | kid i k a os o => (∃ d, ρ[i]? = some (some (.ow (.ls os) d))) ∧ os[k]? = some (.pin a o)
def back (ρ : RhoW) (o' : O) (d' : D) : PSp → RhoW
  | slot i a _ _ => ρ.set i (some (.ow (.pin a o') d'))
  | kid i k a os _ => ρ.set i (some (.ow (.ls (os.set k (.pin a o'))) (O.ls (os.set k (.pin a o'))).data))
def okB (ρ : RhoW) : PSp → Prop
  | slot i _ _ _ => i < ρ.length
  | kid i k a os _ => ∃ d, ρ[i]? = some (some (.ow (.ls (os.set k (.sh (.raw a)))) d)) ∧ k < os.length
end PSp
def outAll : List PSp → RhoW → RhoW
  | [], ρ => ρ
  | p :: ps, ρ => outAll ps (p.out ρ)
def okAll : List PSp → RhoW → Prop
  | [], _ => True
  | p :: ps, ρ => p.ok ρ ∧ okAll ps (p.out ρ)
def backAll : List PSp → List (O × D) → RhoW → RhoW
  | p :: ps, q :: qs, ρ => backAll ps qs (p.back ρ q.1 q.2)
  | _, _, ρ => ρ
def okBack : List PSp → List (O × D) → RhoW → Prop
  | p :: ps, q :: qs, ρ => p.okB ρ ∧ okBack ps qs (p.back ρ q.1 q.2)
  | _, _, _ => True
theorem PSp.out_length (ρ : RhoW) (p : PSp) : (p.out ρ).length = ρ.length := by cases p <;> simp [PSp.out]
theorem PSp.back_length (ρ : RhoW) (o : O) (d : D) (p : PSp) : (p.back ρ o d).length = ρ.length := by cases p <;> simp [PSp.back]
theorem outAll_length : ∀ (ps : List PSp) (ρ : RhoW), (outAll ps ρ).length = ρ.length
  | [], ρ => rfl
  | p :: ps, ρ => by rw [outAll, outAll_length ps, p.out_length]
section
variable {K : PySem.W.Frag} {H0 H M : Hp} {σ τ : L2.St} {ρ π : RhoW} {F : Nat → List Addr}
theorem EnvW.seeP (E : EnvW K H0 σ H ρ) {p : PSp} (h : p.ok ρ) : ∃ v, σ[p.i]? = some (some v) ∧ At H (.ref p.a) p.path v := by
  cases p with
  | slot i a o d => exact ⟨_, (E.unpinned h).1, rfl⟩
  | kid i k a os o =>
    obtain ⟨⟨d, hi⟩, hk⟩ := h
    obtain ⟨F, E⟩ := E
    obtain ⟨v, h1, h2⟩ := E.get i _ hi
    have ro := h2.2
    generalize F i = Fi at ro
    cases ro with
    | @ls b vs _ As g1 g2 g3 g4 =>
      have hkl := (List.getElem?_eq_some_iff.mp hk).1
      have gv : vs[k]? = some (vs[k]'(by omega)) := List.getElem?_eq_getElem (by omega)
      have rk := g4 k _ _ _ gv hk (List.getElem?_eq_getElem (by omega))
      have key : vs[k]'(by omega) = .ref a := by
        generalize vs[k]'(by omega) = vk at rk
        generalize As[k]'(by omega) = B at rk
        cases rk with
        | pin h => rfl
      rw [key] at gv
      exact ⟨.ref b, h1, .ref a, ⟨b, vs, rfl, .inl g1, gv⟩, rfl⟩
theorem EnvW.takeP (E : EnvW K H0 σ H ρ) {p : PSp} (h : p.ok ρ) : EnvW K H0 (σ ++ [some (.ref p.a)]) H (p.out ρ ++ [some p.w]) := by
  cases p with
  | slot i a o d => exact E.takeS h
  | kid i k a os o =>
    obtain ⟨⟨d, hi⟩, hk⟩ := h
    exact E.takeK hi hk rfl rfl
theorem PSp.out_app (p : PSp) (h : p.ok ρ) : p.ok (ρ ++ π) ∧ p.out (ρ ++ π) = p.out ρ ++ π := by
  cases p with
  | slot i a o d =>
    have hl := (List.getElem?_eq_some_iff.mp (show ρ[i]? = _ from h)).1
    exact ⟨by show (ρ ++ π)[i]? = _; rw [List.getElem?_append_left hl]; exact h, List.set_append_left _ _ hl⟩
  | kid i k a os o =>
    obtain ⟨⟨d, hi⟩, hk⟩ := h
    have hl := (List.getElem?_eq_some_iff.mp hi).1
    exact ⟨⟨⟨d, by rw [List.getElem?_append_left hl]; exact hi⟩, hk⟩, List.set_append_left _ _ hl⟩
theorem EnvW.takeAll : ∀ {ps : List PSp} {σ τ : L2.St} {ρ π : RhoW}, EnvW K H0 (σ ++ τ) H (ρ ++ π) → okAll ps ρ → EnvW K H0 (σ ++ (τ ++ ps.map fun p => some (.ref p.a))) H (outAll ps ρ ++ (π ++ ps.map fun p => some p.w))
  | [], σ, τ, ρ, π, E, _ => by simpa [outAll] using E
  | p :: ps, σ, τ, ρ, π, E, h => by
    obtain ⟨h1, h2⟩ := p.out_app (π := π) h.1
    have E2 := E.takeP h1
    rw [h2, List.append_assoc, List.append_assoc] at E2
    have := EnvW.takeAll (ps := ps) (σ := σ) (τ := τ ++ [some (.ref p.a)]) (ρ := p.out ρ) (π := π ++ [some p.w]) E2 h.2
    simpa [outAll] using this
/-- put back: all of them -/
theorem EnvW.putAll : ∀ {ps : List PSp} {qs : List (O × D)} {ρ π : RhoW}, qs.length = ps.length → okBack ps qs ρ → σ.length = ρ.length → (∀ p ∈ ps, ∃ v, σ[p.i]? = some (some v) ∧ (p.path = [] → v = .ref p.a)) →
    EnvW K H0 (σ ++ ((ps.map fun p => some (.ref p.a)) ++ τ)) H (ρ ++ (((ps.zip qs).map fun q => some (W.ow (.pin q.1.a q.2.1) q.2.2)) ++ π)) → EnvW K H0 (σ ++ τ) H (backAll ps qs ρ ++ π)
  | [], qs, ρ, π, hq, _, _, _, E => by
    have : qs = [] := List.length_eq_zero_iff.mp hq
    subst this
    simpa [backAll] using E
  | p :: ps, [], ρ, π, hq, _, _, _, E => by simp at hq
  | p :: ps, q :: qs, ρ, π, hq, hb, hl, hv, E => by
    have E1 : EnvW K H0 (σ ++ some (.ref p.a) :: ((ps.map fun p => some (.ref p.a)) ++ τ)) H (ρ ++ some (W.ow (.pin p.a q.1) q.2) :: (((ps.zip qs).map fun q => some (W.ow (.pin q.1.a q.2.1) q.2.2)) ++ π)) := by simpa using E
    have E2 := E1.rotL hl
    obtain ⟨hB, hb2⟩ := hb
    have E3 : EnvW K H0 (σ ++ ((ps.map fun p => some (.ref p.a)) ++ τ)) H (p.back ρ q.1 q.2 ++ (((ps.zip qs).map fun q => some (W.ow (.pin q.1.a q.2.1) q.2.2)) ++ π)) := by
      cases p with
      | slot i a o d =>
        have hB : i < ρ.length := hB
        have E4 := E2.putS (i := i) (by
          obtain ⟨v, h1, h2⟩ := hv (.slot i a o d) (List.mem_cons_self ..)
          rw [List.getElem?_append_left (by omega)]
          rw [show v = .ref a from h2 rfl] at h1
          exact h1)
        rw [List.set_append_left _ _ hB] at E4
        exact E4
      | kid i k a os o =>
        obtain ⟨d, hi, hk⟩ := hB
        have hil := (List.getElem?_eq_some_iff.mp hi).1
        have E4 := E2.putK (i := i) (k := k) (os := os.set k (.sh (.raw a))) (d := d) (by rw [List.getElem?_append_left hil]; exact hi) (List.getElem?_set_self hk) rfl
        rw [List.set_append_left _ _ hil, List.set_set] at E4
        exact E4
    have := EnvW.putAll (ps := ps) (qs := qs) (ρ := p.back ρ q.1 q.2) (π := π) (by simpa using hq) hb2 (by rw [p.back_length]; exact hl) (fun p' hp' => hv p' (List.mem_cons_of_mem _ hp')) E3
    exact this
/-- free data behind -/
theorem EnvW.pushF : ∀ {us : List V} {ds : List D} {σ : L2.St} {ρ : RhoW}, EnvW K H0 σ H ρ → Reps K H us ds → freeAll ds = true → EnvW K H0 (σ ++ us.map some) H (ρ ++ ds.map fun d => some (.sh d))
  | [], [], σ, ρ, E, _, _ => by simpa using E
  | [], d :: ds, σ, ρ, E, r, _ => by have := r.1; simp at this
  | u :: us, [], σ, ρ, E, r, _ => by have := r.1; simp at this
  | u :: us, d :: ds, σ, ρ, E, r, hf => by
    obtain ⟨r1, r2⟩ := r.cons_inv
    unfold freeAll at hf
    obtain ⟨f1, f2⟩ := Bool.and_eq_true_iff.mp hf
    obtain ⟨F, E⟩ := E
    have E1 := E.pushS (r1.maskF f1 fun a ha => E.notup a ha)
    have := EnvW.pushF (us := us) (ds := ds) ⟨_, E1⟩ r2 f2
    simpa using this
theorem spG_run {vs : List V} {ws : List W} {post : List W → W → Prop} {Q : VK} {E9 : XK} (E : EnvA K H0 (σ ++ vs.map some) H (ρ ++ ws.map some) F) (hl : σ.length = ρ.length) (hv : vs.length = ws.length)
    (q : ∀ ws' w r H', ws'.length = ws.length → post ws' w → EnvW K H0 (σ ++ (vs.map some ++ [some r])) H' (ρ ++ (ws'.map some ++ [some w])) → Q r H') :
    spG K ws post vs (mask H (allOf F ρ.length)) (fun r M => (∀ a ∈ allOf F ρ.length, M a = none) → Q r (join M H (allOf F ρ.length))) E9 := by
  let G : Nat → List Addr := fun k => F (ρ.length + k)
  have out : ∀ k a, a ∈ F (ρ.length + k) → a ∉ allOf F ρ.length := fun k a h z => by
    obtain ⟨j, hj, h2⟩ := mem_allOf.mp z
    have := E.dj _ _ a h h2
    omega
  have hall : mask (mask H (allOf F ρ.length)) (allOf G ws.length) = mask H (allOf F (ρ ++ ws.map some).length) := by
    funext b
    by_cases h1 : b ∈ allOf G ws.length
    · obtain ⟨k, hk, h⟩ := mem_allOf.mp h1
      rw [mask_in h1, mask_in (mem_allOf.mpr ⟨ρ.length + k, by simp; omega, h⟩)]
    · by_cases h2 : b ∈ allOf F ρ.length
      · obtain ⟨k, hk, h⟩ := mem_allOf.mp h2
        rw [mask_out h1, mask_in h2, mask_in (mem_allOf.mpr ⟨k, by simp; omega, h⟩)]
      · rw [mask_out h1, mask_out h2, mask_out (fun z => ?_)]
        obtain ⟨j, hj, h⟩ := mem_allOf.mp z
        simp at hj
        by_cases hjn : j < ρ.length
        · exact h2 (mem_allOf.mpr ⟨j, hjn, h⟩)
        · exact h1 (mem_allOf.mpr ⟨j - ρ.length, by omega, by show b ∈ F (ρ.length + (j - ρ.length)); rw [show ρ.length + (j - ρ.length) = j by omega]; exact h⟩)
  refine ⟨hv, G, ⟨by simp [hv], fun i => E.nd _, fun i j a h1 h2 => by have := E.dj _ _ a h1 h2; omega, fun a ha => mask_in (by simpa using ha), mask_same, fun i w hi => ?_, fun i hi => ?_⟩, fun ws' w r M hl' po Er n => ?_⟩
  · obtain ⟨v, h1, h2⟩ := E.get (ρ.length + i) w (by rw [List.getElem?_append_right (by omega)]; simpa using hi)
    rw [List.getElem?_append_right (by omega)] at h1
    refine ⟨v, by rw [hl] at h1; simpa using h1, ?_⟩
    rw [List.length_map, hall]
    exact h2.keep (fun a ha u e => by rw [mask_out (out i a ha)]; exact e) (Same.refl _)
  · exact E.off _ fun x z => hi x (by rw [List.getElem?_append_right (by omega)] at z; simpa using z)
  · rw [hall] at Er
    refine q ws' w r _ hl' po ?_
    exact E.merge hl n Er
end

/-! ### reading -/
structure RcvS (X : Cx) (r : Rho) (e : Expr) (i : Nat) (p : List Pe) : Prop where
  run : ∀ (σ : L2.St) (H : Hp) (v u : V) (Q : VK), EnvS X.K σ H r → σ[i]? = some (some v) → At H u p v → (∀ H', Same H H' → Q u H') → WE X e σ H Q
theorem stepV.mono {H H' : Hp} {v w : V} {q : Pe} (s : Same H H') (h : stepV H v w q) : stepV H' v w q := by
  cases q with
  | ix k => obtain ⟨b, vs, e, h1, h2⟩ := h; exact ⟨b, vs, e, h1.imp (s _ _) (s _ _), h2⟩
  | fld C k f => obtain ⟨b, dx, fs, e, h1, h2⟩ := h; exact ⟨b, dx, fs, e, s _ _ h1, h2⟩
  | key k x => obtain ⟨b, kvs, e, h1, h2⟩ := h; exact ⟨b, kvs, e, s _ _ h1, h2⟩
  | pin => exact h
theorem At.mono {H H' : Hp} {u : V} (s : Same H H') : ∀ {p : List Pe} {v : V}, At H u p v → At H' u p v
  | [], v, h => h
  | q :: p, v, ⟨w, h1, h2⟩ => ⟨w, h1.mono s, At.mono s h2⟩
section
variable {X : Cx} {r : Rho} {e idx : Expr} {i : Nat} {p : List Pe} {pos : Pos}
theorem RcvS.of (h : Rcv X e i p) : RcvS X r e i p := ⟨fun σ H v u Q _ h1 h2 q => h.run σ H v u Q h1 h2 (q H (Same.refl H))⟩
theorem RcvS.ixE (h : RcvS X r e i p) (k : Nat) (he : Ev X r idx (.int (k : Int))) (hs : PlainIx idx := by exact fun _ _ => rfl) : RcvS X r (.Subscript e idx pos) i (p ++ [.ix k]) :=
  ⟨fun σ H v u Q en h1 h2 q => by
    obtain ⟨w, q1, b, vs, rfl, q2, q3⟩ := h2.snoc
    have hk := (List.getElem?_eq_some_iff.mp q3).1
    have hat : atI vs (k : Int) = some u := by
      unfold atI ixN
      rw [if_pos (by omega), if_pos (by omega)]
      exact q3
    rcases q2 with q2 | q2
    · exact we_of (pe_ix ix_list pe_we pe_we hs) (h.run σ H v (.ref b) _ en h1 q1 fun H1 s1 => he.run σ H1 (en.mono s1) _ fun y H2 s2 r2 => by
        obtain rfl := r2.int_inv
        exact ⟨b, vs, _, u, rfl, rfl, SqL.of (s2 _ _ (s1 _ _ q2)), hat, q _ (s1.trans s2)⟩)
    · exact we_of (pe_ix ix_tup pe_we pe_we hs) (h.run σ H v (.ref b) _ en h1 q1 fun H1 s1 => he.run σ H1 (en.mono s1) _ fun y H2 s2 r2 => by
        obtain rfl := r2.int_inv
        exact ⟨b, vs, _, u, rfl, rfl, SqT.of (s2 _ _ (s1 _ _ q2)), hat, q _ (s1.trans s2)⟩)⟩
end
structure RcvA (X : Cx) (r : Rho) (es : List Expr) (ps : List PSp) (es' : List Expr) : Prop where
  run : ∀ (σ : L2.St) (H : Hp) (Q : List V → Hp → Prop), EnvS X.K σ H r → (∀ p ∈ ps, ∃ v, σ[p.i]? = some (some v) ∧ At H (.ref p.a) p.path v) →
    (∀ H', Same H H' → WA X es' σ H' fun vs H2 => Q ((ps.map fun p => V.ref p.a) ++ vs) H2) → WA X es σ H Q
section
variable {X : Cx} {r : Rho} {e : Expr} {es es' : List Expr} {p : PSp} {ps : List PSp}
theorem RcvA.nil : RcvA X r es [] es := ⟨fun σ H Q en _ h => h H (Same.refl H)⟩
theorem RcvA.cons (h : RcvS X r e p.i p.path) (t : RcvA X r es ps es') (hs : starEach (e :: es) X.env = (false, eval e X.env) :: starEach es X.env := by rfl) : RcvA X r (e :: es) (p :: ps) es' :=
  ⟨fun σ H Q en hv k => by
    obtain ⟨v, h1, h2⟩ := hv p (List.mem_cons_self ..)
    exact wa_of (pa_cons pe_we pa_wa hs) (h.run σ H v (.ref p.a) _ en h1 h2 fun H1 s1 => t.run σ H1 _ (en.mono s1) (fun p' hp' => by
      obtain ⟨v', a1, a2⟩ := hv p' (List.mem_cons_of_mem _ hp')
      exact ⟨v', a1, a2.mono s1⟩) fun H2 s2 => k H2 (s1.trans s2))⟩
end
/-- what a def does to what it is handed: as the own ones, ds the shared ones -/
structure GF (P : Program) (w : World) (K : PySem.W.Frag) (mg : Str → Option Value) (base : Heap) (k : Nat) (x : Str) (as : List (Addr × O × D)) (ds : List D) (post : List (O × D) → W → Prop) : Prop where
  ex : ∃ (f : Addr) (fd : FuncData) (ps : List Str), mg x = some (.ref f) ∧ PySem.W.keepIn K (.ref f) = true ∧ Binds K fd ps [] ∧
    FnOk P w K mg base CX0 k f fd ps (spG K ((as.map fun q => W.ow (.pin q.1 q.2.1) q.2.2) ++ ds.map W.sh) fun ws' w => ∃ qs : List (O × D), qs.length = as.length ∧ ws' = ((as.zip qs).map fun q => W.ow (.pin q.1.1 q.2.1) q.2.2) ++ ds.map W.sh ∧ post qs w)
section
variable {X : Cx} {ρ : RhoW} {x : Str} {k : Nat} {e : Expr} {es es' : List Expr} {p pos : Pos} {ds : List D} {post : List (O × D) → W → Prop} {Ψ : W → RhoW → Prop} {ps : List PSp}
theorem EvW.callG (F : GF X.prog X.w X.K X.mg X.base k x (ps.map fun p => (p.a, p.o, p.d)) ds post) (hr : Room k X.A) (ha : RcvA X (VL.bor ρ) (e :: es) ps es') (hd : EvA X (VL.bor ρ) es' ds) (hf : freeAll ds = true) (hok : okAll ps ρ) (hok0 : ∀ p ∈ ps, p.ok ρ)
    (hk : ∀ qs w, qs.length = ps.length → post qs w → okBack ps qs (outAll ps ρ) ∧ Ψ w (backAll ps qs (outAll ps ρ))) (hg : Gl X x := by rfl) (hdb : (x == ("__debug__" : Str)) = false := by decide)
    (he : starEach (e :: es) X.env = (false, eval e X.env) :: starEach es X.env := by rfl) (hpl : (backTo pos (starEach es X.env)).any (·.1) = false := by rfl) : EvW X ρ (.Call (.Name x p) (e :: es) [] pos) Ψ := ⟨fun H0 σ H E Q q => by
  obtain ⟨f, fd, pn, h1, h2, h3, h4⟩ := F.ex
  have hl : σ.length = ρ.length := E.len
  refine we_of (pe_callF h4 hr hg h1 h2 h3 pa_wa hdb he hpl) ?_
  obtain ⟨F0, E0'⟩ := id E
  refine ha.run σ H _ E0'.envB (fun p hp => E.seeP (hok0 p hp)) fun H1 s1 => ?_
  refine hd.run σ H1 (E0'.envB.mono s1) _ fun us H2 s2 rs => ?_
  have EH := E.grow (s1.trans s2)
  have ET := EnvW.takeAll (ps := ps) (σ := σ) (τ := []) (ρ := ρ) (π := []) (by simpa using EH) hok
  simp only [List.nil_append] at ET
  have EP := ET.pushF rs hf
  rw [List.append_assoc, List.append_assoc] at EP
  have e1 : ((ps.map fun p => some (V.ref p.a)) ++ us.map some) = (((ps.map fun p => V.ref p.a) ++ us).map some) := by simp
  have e2 : ((ps.map fun p => some p.w) ++ ds.map fun d => some (W.sh d)) = ((((ps.map fun p => (p.a, p.o, p.d)).map fun q => W.ow (.pin q.1 q.2.1) q.2.2) ++ ds.map W.sh).map some) := by simp [PSp.w, Function.comp_def]
  rw [e1, e2] at EP
  obtain ⟨F3, EP⟩ := EP
  have hl2 : σ.length = (outAll ps ρ).length := by rw [outAll_length]; exact hl
  refine ⟨_, EP.hidN _, spG_run EP hl2 (by simp [rs.1]) fun ws' w r H' hw po Er => ?_⟩
  obtain ⟨qs, hq, rfl, po⟩ := po
  have hq' : qs.length = ps.length := by simpa using hq
  obtain ⟨hB, hΨ⟩ := hk qs w hq' po
  have e3 : (((ps.map fun p => V.ref p.a) ++ us).map some ++ [some r]) = (ps.map fun p => some (V.ref p.a)) ++ (us.map some ++ [some r]) := by simp
  have e4 : (((((ps.map fun p => (p.a, p.o, p.d)).zip qs).map fun q => W.ow (.pin q.1.1 q.2.1) q.2.2) ++ ds.map W.sh).map some ++ [some w]) = ((ps.zip qs).map fun q => some (W.ow (.pin q.1.a q.2.1) q.2.2)) ++ ((ds.map fun d => some (W.sh d)) ++ [some w]) := by
    simp [List.zip_map_left, Function.comp_def]
  rw [e3, e4] at Er
  have Ef := EnvW.putAll hq' hB hl2 (fun p hp => by
    obtain ⟨v, a1, a2⟩ := E.seeP (hok0 p hp)
    exact ⟨v, a1, fun e => by rw [e] at a2; exact a2⟩) Er
  rw [← List.append_assoc, ← List.append_assoc] at Ef
  have bl : ∀ (ps : List PSp) (qs : List (O × D)) (ρ : RhoW), (backAll ps qs ρ).length = ρ.length := by
    intro ps
    induction ps with
    | nil => intro qs ρ; rfl
    | cons p ps ih =>
      intro qs ρ
      cases qs with
      | nil => rfl
      | cons q qs => rw [backAll, ih, p.back_length]
  have Eg := Ef.dropMid (by rw [bl, outAll_length]; exact hl) (by simp [rs.1])
  exact q r H' w _ hΨ (by rw [bl, outAll_length]) Eg⟩
end
end VL
set_option Elab.async false
set_option linter.all false
set_option maxRecDepth 100000
set_option maxHeartbeats 1000000
/-! value layer, part 35: tests that change things, pops, things of own lists, methods of own objects -/
namespace VL
open PySem L2 PySem.Spec PyProof.Rows
/-- the own arguments' slots hold what is told -/
def Held (as : List (Addr × O × D)) (qs : List (O × D)) (ρ : RhoW) : Prop := qs.length = as.length ∧ ∀ (i : Nat) a q, as[i]? = some a → qs[i]? = some q → ρ[i]? = some (some (.ow (.pin a.1 q.1) q.2))
theorem held1 {a : Addr × O × D} {q : O × D} {ρ : RhoW} (h : ρ[0]? = some (some (.ow (.pin a.1 q.1) q.2))) : Held [a] [q] ρ := ⟨rfl, fun i x y h1 h2 => by
  match i, h1, h2 with
  | 0, h1, h2 => cases h1; cases h2; exact h⟩
theorem held2 {a b : Addr × O × D} {q r : O × D} {ρ : RhoW} (h : ρ[0]? = some (some (.ow (.pin a.1 q.1) q.2))) (h' : ρ[1]? = some (some (.ow (.pin b.1 r.1) r.2))) : Held [a, b] [q, r] ρ := ⟨rfl, fun i x y h1 h2 => by
  match i, h1, h2 with
  | 0, h1, h2 => cases h1; cases h2; exact h
  | 1, h1, h2 => cases h1; cases h2; exact h'⟩
theorem held3 {a b c : Addr × O × D} {q r t : O × D} {ρ : RhoW} (h : ρ[0]? = some (some (.ow (.pin a.1 q.1) q.2))) (h' : ρ[1]? = some (some (.ow (.pin b.1 r.1) r.2))) (h'' : ρ[2]? = some (some (.ow (.pin c.1 t.1) t.2))) : Held [a, b, c] [q, r, t] ρ := ⟨rfl, fun i x y h1 h2 => by
  match i, h1, h2 with
  | 0, h1, h2 => cases h1; cases h2; exact h
  | 1, h1, h2 => cases h1; cases h2; exact h'
  | 2, h1, h2 => cases h1; cases h2; exact h''⟩
section
variable {P : Program} {w : World} {K : PySem.W.Frag} {mg : Str → Option Value} {base : Heap}
theorem endGF {as : List (Addr × O × D)} {ds : List D} {post : List (O × D) → W → Prop} {ρ : RhoW} {w : W} {qs : List (O × D)} (h : Held as qs ρ) (hp : post qs w) :
    EndG ((as.map fun q => W.ow (.pin q.1 q.2.1) q.2.2) ++ ds.map W.sh) (fun ws' w => ∃ qs : List (O × D), qs.length = as.length ∧ ws' = ((as.zip qs).map fun q => W.ow (.pin q.1.1 q.2.1) q.2.2) ++ ds.map W.sh ∧ post qs w) ρ w := by
  obtain ⟨hl, hh⟩ := h
  refine ⟨((as.zip qs).map fun q => W.ow (.pin q.1.1 q.2.1) q.2.2) ++ ds.map W.sh, by simp [hl], fun i x y h1 h2 => ?_, qs, hl, rfl, hp⟩
  by_cases hi : i < as.length
  · rw [List.getElem?_append_left (by simpa using hi), List.getElem?_map, List.getElem?_eq_getElem hi] at h1
    rw [List.getElem?_append_left (by simp [hl]; omega), List.getElem?_map] at h2
    have hz : (as.zip qs)[i]? = some (as[i], qs[i]'(by omega)) := List.getElem?_zip_eq_some.mpr ⟨List.getElem?_eq_getElem hi, List.getElem?_eq_getElem (by omega)⟩
    rw [hz] at h2
    obtain rfl := Option.some.inj h1
    obtain rfl := Option.some.inj h2
    refine ⟨.inr ⟨_, _, _, _, _, rfl, rfl⟩, fun o d e => ?_⟩
    exact hh i _ _ (List.getElem?_eq_getElem hi) (List.getElem?_eq_getElem (by omega))
  · rw [List.getElem?_append_right (by simp; omega)] at h1
    rw [List.getElem?_append_right (by simp [hl]; omega)] at h2
    simp only [List.length_map, List.length_zip, hl, Nat.min_self] at h1 h2
    rw [h1] at h2
    obtain rfl := Option.some.inj h2
    rw [List.getElem?_map] at h1
    obtain ⟨d, _, rfl⟩ := Option.map_eq_some_iff.mp h1
    exact ⟨.inl ⟨d, rfl, rfl⟩, fun o d' e => by cases e⟩
theorem GF.of {x : Str} {st : Stmt} {N ps : List Str} {k : Nat} {as : List (Addr × O × D)} {ds : List D} {post : List (O × D) → W → Prop} {ρ : RhoW} (F : Df K mg x st ps) (S : FnScope N ps (defScope st))
    (hρ : startG N.length ((as.map fun q => W.ow (.pin q.1 q.2.1) q.2.2) ++ ds.map W.sh) = ρ)
    (h : ∀ (f : Addr) (cdv : Value) (A : Around) (outer : List Env) (s : Shared) (H : Hp) (E : XK), Room k (cxOf CX0 P w K mg base N x (defScope st) f cdv A outer s H E).A →
      Ws (cxOf CX0 P w K mg base N x (defScope st) f cdv A outer s H E).nox ρ (defBody st) { nx := fun ρ => ∃ qs, Held as qs ρ ∧ post qs (.sh .non), rt := fun _ => False, rs := fun ρ w => ∃ qs, Held as qs ρ ∧ post qs w }) (hl : ps.length = as.length + ds.length := by rfl) : GF P w K mg base (k + 1) x as ds post := by
  obtain ⟨f, fd, h1, h2, h3⟩ := F.ex
  refine ⟨f, fd, ps, h1, h2.kp, h3, fnOk_ofG h2 S (by simpa using hl) hρ fun cdv A outer s H E hr => (h f cdv A outer s H E hr).mono (fun ρ q => ?_) (fun o q => q) (fun ρ q => q) (fun ρ q => q) (fun ρ w q => ?_)⟩
  · obtain ⟨qs, q1, q2⟩ := q; exact endGF q1 q2
  · obtain ⟨qs, q1, q2⟩ := q; exact endGF q1 q2
end
/-! ### a call with shared arguments, of what stands in own lists too -/
section
variable {X : Cx} {ρ : RhoW} {x : Str} {k : Nat} {e : Expr} {es : List Expr} {p pos : Pos} {ds : List D} {post : O → Prop} {Ψ : W → RhoW → Prop}
theorem EvW.callS (f' : O → D) (F : VF X.prog X.w X.K X.mg X.base k x ds post) (hr : Room k X.A) (ha : EvAS X ρ (e :: es) ds) (hd : ∀ o, post o → o.data = f' o) (hk : ∀ o, post o → Ψ (.ow o (f' o)) ρ) (hg : Gl X x := by rfl) (hdb : (x == ("__debug__" : Str)) = false := by decide)
    (he : starEach (e :: es) X.env = (false, eval e X.env) :: starEach es X.env := by rfl) (hpl : (backTo pos (starEach es X.env)).any (·.1) = false := by rfl) : EvW X ρ (.Call (.Name x p) (e :: es) [] pos) Ψ := ⟨fun H0 σ H E Q q => by
  obtain ⟨f, fd, pn, h1, h2, h3, h4⟩ := F.ex
  have hl : σ.length = ρ.length := E.len
  refine we_of (pe_callF h4 hr hg h1 h2 h3 pa_wa hdb he hpl) (ha.run H0 σ H E _ fun vs H1 hv E1 => ?_)
  obtain ⟨F1, E1⟩ := E1
  refine ⟨allOf F1 (ρ ++ ds.map fun d => some (W.sh d)).length, E1.cells, ⟨⟨hv, fun i v d a1 a2 => ?_⟩, fun o v M A po s fr nd r n => ?_⟩⟩
  · have hi := (List.getElem?_eq_some_iff.mp a2).1
    obtain ⟨u, e1, r1⟩ := E1.get (ρ.length + i) (.sh d) (by rw [List.getElem?_append_right (by omega), Nat.add_sub_cancel_left, List.getElem?_map, a2]; rfl)
    rw [← hl, List.getElem?_append_right (by omega), Nat.add_sub_cancel_left, List.getElem?_map, a1] at e1
    obtain rfl := Option.some.inj (Option.some.inj e1)
    exact r1.1
  · have E2 := EnvW.single s fr nd r (hd o po)
    have E1' : EnvA X.K H0 ((σ ++ vs.map some) ++ []) H1 ((ρ ++ ds.map fun d => some (W.sh d)) ++ []) F1 := by simpa using E1
    have E3 := E1'.merge (M := M) (by simp [hl, hv]) n (by simpa using E2)
    exact q v _ (.ow o (f' o)) ρ (hk o po) rfl (E3.dropMid hl (by simp [hv]))⟩
end
/-! ### places of own lists -/
section
variable {X : Cx} {ρ : RhoW} {r idx : Expr} {pos cpos apos : Pos} {d d' d1 : D} {o : O} {ds : List D} {p : List Pe} {Ψ : W → RhoW → Prop}
/-- r[z], r an own list at a place of slot i -/
theorem EvW.item (i : Nat) (p : List Pe) {z : Int} (hr : Rcv X r i p) (hz : Ev X (VL.bor ρ) idx (.int z)) (hs : o.sub p = some (oL ds)) (hd : atI ds z = some d) (k : Ψ (.sh d) ρ) (hρ : ρ[i]? = some (some (.ow o d1)) := by rfl) (hp : o.okP p := by walk_at "okp") (hi : PlainIx idx := by exact fun _ _ => rfl) :
    EvW X ρ (.Subscript r idx pos) Ψ := ⟨fun H0 σ H E Q q => by
  have hl := E.len
  obtain ⟨F, E1⟩ := id E
  have hget : ∃ v a vs, σ[i]? = some (some v) ∧ At H (.ref a) p v ∧ H a = some (.lst vs) ∧ Reps X.K (mask H (allOf F ρ.length)) vs ds := by
    obtain ⟨v, h1, r⟩ := E1.get i _ hρ
    obtain ⟨a, vs, q1, q2, q3, q4, q5⟩ := RepO.at r.2 mask_same (E1.nd i) hp hs
    exact ⟨v, a, vs, h1, q1, q2, q3⟩
  obtain ⟨v, a, vs, hσ, hat, ha, rs⟩ := hget
  refine we_of (pe_ix ix_list pe_we pe_we hi) (hr.run σ H v (.ref a) _ hσ hat (hz.run σ H E1.envB _ fun y H1 s1 r1 => ?_))
  obtain rfl := r1.int_inv
  obtain ⟨u, hu, ru⟩ := rs.at hd
  refine ⟨a, vs, z, u, rfl, rfl, SqL.of (s1 _ _ ha), hu, ?_⟩
  obtain ⟨F2, E2⟩ := E.grow s1
  have hget2 : ∃ vs, H1 a = some (.lst vs) ∧ Reps X.K (mask H1 (allOf F2 ρ.length)) vs ds := by
    obtain ⟨v', h1, r⟩ := E2.get i _ hρ
    rw [hσ] at h1
    obtain rfl := Option.some.inj (Option.some.inj h1)
    obtain ⟨a', vs', q1, q2, q3, q4, q5⟩ := RepO.at r.2 mask_same (E2.nd i) hp hs
    have ea : a' = a := by have := hat.det s1 q1; simpa using this
    subst ea
    exact ⟨vs', q2, q3⟩
  obtain ⟨vs2, h2, rs2⟩ := hget2
  rw [s1 _ _ ha] at h2
  cases h2
  obtain ⟨u2, hu2, ru2⟩ := rs2.at hd
  rw [hu] at hu2
  cases hu2
  exact q u H1 (.sh d) ρ k rfl ⟨_, E2.pushS ru2⟩⟩
/-- r.pop() -/
theorem EvW.popP (i : Nat) (p : List Pe) (hr : Rcv X r i p) (hs : o.sub p = some (oL (ds ++ [d]))) (hd : (o.put (oL ds) p).data = d') (k : Ψ (.sh d) (ρ.set i (some (.ow (o.put (oL ds) p) d')))) (hρ : ρ[i]? = some (some (.ow o d1)) := by rfl) (hp : o.okP p := by walk_at "okp")
    (hpe : ∀ {t}, PE X r t → PE X (.Call (.Attribute r "pop" apos) [] [] cpos) (tBM0 X.K "list" rPop t) := by
      intro t h1; exact pe_bm0 PySem.F.plainAttrs_list PySem.F.slot_list_pop PySem.F.type_list_pop mt_pop h1) : EvW X ρ (.Call (.Attribute r "pop" apos) [] [] cpos) Ψ := ⟨fun H0 σ H ⟨F, E⟩ Q q => by
  obtain ⟨v, a, vs, hσ, hat, ha, rs, K'⟩ := E.mutP (d' := d') hρ hp hs
  refine we_of (hpe pe_we) (hr.run σ H v (.ref a) _ hσ hat ⟨.inl ⟨rfl, vs, SqL.of ha⟩, ?_⟩)
  have hlen := rs.1
  simp at hlen
  obtain ⟨u, hu, ru⟩ := rs.get (i := ds.length) (d := d) (by simp)
  refine ⟨a, vs, u, rfl, rfl, ha, by rw [hlen]; simpa using hu, ?_⟩
  have rs' : Reps X.K (mask H (allOf F ρ.length)) vs.dropLast ds := by
    have := rs.take ds.length
    rw [List.take_left] at this
    rw [List.dropLast_eq_take, hlen]
    simpa using this
  obtain ⟨En, em⟩ := K' _ _ rs' hd
  exact q u _ (.sh d) _ k (by simp) ⟨_, En.pushS (by rw [em]; exact ru)⟩⟩
end
/-! ### tests -/
structure EvTW (X : Cx) (ρ : RhoW) (e : Expr) (Ψ : Bool → RhoW → Prop) : Prop where
  run : ∀ (H0 : Hp) (σ : L2.St) (H : Hp), EnvW X.K H0 σ H ρ → ∀ Q : Bool → Hp → Prop, (∀ c H' ρ', Ψ c ρ' → ρ'.length = ρ.length → EnvW X.K H0 σ H' ρ' → Q c H') → WT X e σ H Q
structure EvWW (X : Cx) (ρ : RhoW) (e : Expr) (Ψ : Bool → RhoW → Prop) : Prop where
  run : ∀ (H0 : Hp) (σ : L2.St) (H : Hp), EnvW X.K H0 σ H ρ → ∀ Q : Bool → Hp → Prop, (∀ c H' ρ', Ψ c ρ' → ρ'.length = ρ.length → EnvW X.K H0 σ H' ρ' → Q c H') → WW X e σ H Q
section
variable {X : Cx} {ρ : RhoW} {Φ : Post} {e a b : Expr} {rest : List Expr} {pos : Pos} {Ψ : Bool → RhoW → Prop} {Ω : W → RhoW → Prop} {c : Bool} {body orelse sts : List Stmt}
theorem EvTW.pure (h : EvT X (VL.bor ρ) e c) (k : Ψ c ρ) : EvTW X ρ e Ψ := ⟨fun H0 σ H E Q q => by
  obtain ⟨F, E1⟩ := id E
  exact h.run σ H E1.envB _ fun H' s => q c H' ρ k rfl (E.grow s)⟩
theorem EvTW.val (h : EvW X ρ e fun w ρ' => ∃ c, w = .sh (.bl c) ∧ Ψ c ρ') (he : ∀ whole, isTrue e X.env whole = (do let v ← whole; standAt e.pos; holding [v] (truthy v)) := by intro _; rfl) : EvTW X ρ e Ψ := ⟨fun H0 σ H E Q q =>
  wt_of (pt_val pe_we he) (h.run H0 σ H E _ fun v H' w ρ' p l E' => by
    obtain ⟨c, rfl, hc⟩ := p
    have hl := E.len
    obtain ⟨F, E''⟩ := id E'
    obtain ⟨u, e1, r1⟩ := E''.get ρ'.length (.sh (.bl c)) (by simp)
    rw [l, ← hl] at e1
    simp at e1
    subst e1
    exact ⟨c, r1.1.bl_inv, q c H' ρ' hc l E'.pop⟩)⟩
theorem EvTW.not (h : EvTW X ρ a fun c ρ' => Ψ (!c) ρ') : EvTW X ρ (.UnaryOp .Not a pos) Ψ := ⟨fun H0 σ H E Q q => wt_of (pt_not pt_wt) (h.run H0 σ H E _ fun c H' ρ' k l E' => q (!c) H' ρ' k l E')⟩
theorem EvTW.bool (h : EvWW X ρ e Ψ) : EvTW X ρ e Ψ := ⟨fun H0 σ H E Q q => wt_of pw_ww.pt (h.run H0 σ H E Q q)⟩
theorem EvWW.and1 (h : EvTW X ρ a Ψ) : EvWW X ρ (.BoolOp .And [a] pos) Ψ := ⟨fun H0 σ H E Q q => ww_of (pw_and1 pt_wt) (h.run H0 σ H E Q q)⟩
theorem EvWW.or1 (h : EvTW X ρ a Ψ) : EvWW X ρ (.BoolOp .Or [a] pos) Ψ := ⟨fun H0 σ H E Q q => ww_of (pw_or1 pt_wt) (h.run H0 σ H E Q q)⟩
theorem EvWW.and (h : EvTW X ρ a fun c ρ' => if c = true then EvWW X ρ' (.BoolOp .And (b :: rest) pos) Ψ else Ψ false ρ') : EvWW X ρ (.BoolOp .And (a :: b :: rest) pos) Ψ := ⟨fun H0 σ H E Q q =>
  ww_of (pw_and pt_wt pw_ww) (h.run H0 σ H E _ fun c H' ρ' k l E' => by
    cases c with
    | true => exact iteT (k.run H0 σ H' E' Q fun c2 H2 ρ2 k2 l2 E2 => q c2 H2 ρ2 k2 (l2.trans l) E2)
    | false => exact iteF (q false H' ρ' k l E'))⟩
theorem EvWW.or (h : EvTW X ρ a fun c ρ' => if c = true then Ψ true ρ' else EvWW X ρ' (.BoolOp .Or (b :: rest) pos) Ψ) : EvWW X ρ (.BoolOp .Or (a :: b :: rest) pos) Ψ := ⟨fun H0 σ H E Q q =>
  ww_of (pw_or pt_wt pw_ww) (h.run H0 σ H E _ fun c H' ρ' k l E' => by
    cases c with
    | true => exact iteT (q true H' ρ' k l E')
    | false => exact iteF (k.run H0 σ H' E' Q fun c2 H2 ρ2 k2 l2 E2 => q c2 H2 ρ2 k2 (l2.trans l) E2))⟩
theorem Ws.ifW (h : EvTW X ρ e fun c ρ' => if c = true then Ws X ρ' body (Φ.then X sts) else Ws X ρ' orelse (Φ.then X sts)) : Ws X ρ (.If e body orelse pos :: sts) Φ := ⟨fun H0 σ H D E k =>
  WSs.cons (ws_of (ps_if pt_wt pss_wss pss_wss) (h.run H0 σ H E _ fun c H' ρ' q l E' => by
    cases c with
    | true => exact iteT (q.run H0 σ H' _ E' ((k.cast l.symm).then rfl))
    | false => exact iteF (q.run H0 σ H' _ E' ((k.cast l.symm).then rfl))))⟩
/-- as a value: a and b and .. -/
theorem EvW.one {op} (h : EvW X ρ a Ω) : EvW X ρ (.BoolOp op [a] pos) Ω := ⟨fun H0 σ H E Q q => we_of (pe_one pe_we) (h.run H0 σ H E Q q)⟩
theorem EvW.and (h : EvW X ρ a fun w ρ' => w = .sh (.bl true) ∧ EvW X ρ' (.BoolOp .And (b :: rest) pos) Ω) : EvW X ρ (.BoolOp .And (a :: b :: rest) pos) Ω := ⟨fun H0 σ H E Q q =>
  we_of (pe_and pe_we pe_we) (h.run H0 σ H E _ fun v H' w ρ' p l E' => by
    obtain ⟨rfl, k⟩ := p
    have hl := E.len
    obtain ⟨F, E''⟩ := id E'
    obtain ⟨u, e1, r1⟩ := E''.get ρ'.length (.sh (.bl true)) (by simp)
    rw [l, ← hl] at e1
    simp at e1
    subst e1
    exact ⟨true, r1.1.bl_inv, iteT (k.run H0 σ H' E'.pop Q fun v2 H2 w2 ρ2 k2 l2 E2 => q v2 H2 w2 ρ2 k2 (l2.trans l) E2)⟩)⟩
end
end VL
set_option Elab.async false
set_option linter.all false
set_option maxRecDepth 100000
set_option maxHeartbeats 1000000
/-! value layer, part 36: fields as targets, methods of own objects that are pinned, methods that raise, tuples handed back -/
namespace L2
open PySem PySem.Spec PyProof.Rows
/-- o.f = .., a target -/
def gFld (K : PySem.W.Frag) (ta : TE) (f : Str) : TG := fun v σ H Q => ta σ H fun x H2 => ∃ a C dx fs, x = .ref a ∧ H2 a = some (.ins C dx fs) ∧ Cls K C ∧ NoAttr K C f ∧ fs.length < 1000 ∧ Q σ (upd H2 a (.ins C dx (putF f v fs)))
theorem pg_fld {X : Cx} {o : Expr} {f : Str} {ta : TE} {pos : Pos} (ha : PE X o ta) : PG X (.Attribute o f pos) (gFld X.K ta f) := by
  refine ⟨fun pins s σ H v u Q I r h => ?_⟩
  rw [assign_Attribute]
  refine wpAny_bind (wpAny_holding (thn (ha.run pins s σ H _ I h) fun ov s1 ⟨x, H1, I1, rx, a, C, dx, fs, ex, ea, c, n, l, q⟩ => ?_))
  subst ex
  obtain rfl : ov = Value.ref a := rx
  exact wpAny_bind (wpAny_standAt (wpAny_bind (wpAny_holding (setattr_ok I1 ea c n l r fun s3 I3 => wpAny_release ⟨σ, _, I3, q⟩))))
end L2
namespace VL
open PySem L2 PySem.Spec PyProof.Rows
section
variable {X : Cx} {ρ : RhoW} {Φ : Post} {rest : List Stmt} {e : Expr} {x y f1 f2 : Str} {kt : Nat} {tp p1 p2 p3 q2 q3 pos : Pos} {d1 d2 d3 d0 : D} {a C : Addr} {ks : List Str} {xs : List O}
/-- x, y.f1, y.f2 = e, e a shared tuple of three things -/
theorem Ws.unpackF (i j k1 k2 : Nat) (hc : X.calm = true) (hN : X.N.Nodup) (hC : Cls X.K C) (hn1 : NoAttr X.K C f1) (hn2 : NoAttr X.K C f2) (hk1 : ks[k1]? = some f1) (hk2 : ks[k2]? = some f2) (hij : i ≠ j)
    (h : EvW X ρ e fun w ρ' => w = .sh (.tup [d1, d2, d3]) ∧ ρ'[j]? = some (some (.ow (.pin a (.ob C ks xs)) d0)) ∧
      Ws X ((ρ'.set i (some (.sh d1))).set j (some (.ow (.pin a (.ob C ks ((xs.set k1 (.sh d2)).set k2 (.sh d3)))) (O.pin a (.ob C ks ((xs.set k1 (.sh d2)).set k2 (.sh d3)))).data))) rest Φ)
    (hi : decide (i < ρ.length) = true := by rfl) (nk : ks.Nodup := by decide +kernel) (hz : ks.length < 1000 := by decide)
    (hps : ∀ {te}, X.N.Nodup → PE X e te → PS X (.Assign [.Tuple [.Name x p1, .Attribute (.Name y q2) f1 p2, .Attribute (.Name y q3) f2 p3] kt tp] e pos) (tAsg te (gTup X.K 3 (gCons (gName i) (gCons (gFld X.K (tVar j) f1) (gCons (gFld X.K (tVar j) f2) gNil))))) := by
      intro te hN ht; exact ps_asg ht (pg_tup rfl (pgs_cons (pg_name hN rfl (by first | exact Or.inl rfl | exact Or.inr rfl)) (pgs_cons (pg_fld (pv _)) (pgs_cons (pg_fld (pv _)) pgs_nil)))))  :
    Ws X ρ (.Assign [.Tuple [.Name x p1, .Attribute (.Name y q2) f1 p2, .Attribute (.Name y q3) f2 p3] kt tp] e pos :: rest) Φ := ⟨fun H0 σ H Dd E kk =>
  WSs.cons (ws_of (hps hN pe_we) (h.run H0 σ H E _ fun v H' w ρ' q l E' => by
    obtain ⟨rfl, hj, q⟩ := q
    have hi : i < ρ'.length := by rw [l]; exact of_decide_eq_true hi
    have hjl := (List.getElem?_eq_some_iff.mp hj).1
    have hl : σ.length = ρ'.length := by have := E'.len; simpa using this
    obtain ⟨F, E3⟩ := E'
    obtain ⟨v', hv', r⟩ := E3.get ρ'.length (.sh (.tup [d1, d2, d3])) (by simp)
    obtain rfl : v' = v := by rw [← hl] at hv'; simp at hv'; exact hv'.symm
    obtain ⟨t, vs, rfl, ht, rs⟩ := r.1.tup_inv
    obtain ⟨v1, t1, rfl, r1, rs1⟩ := id rs.cons_split
    obtain ⟨v2, t2, rfl, r2, rs2⟩ := id rs1.cons_split
    obtain ⟨v3, t3, rfl, r3, rs3⟩ := id rs2.cons_split
    obtain rfl := rs3.nil_inv
    have hb : (mask H' (allOf F (ρ' ++ [some (W.sh (.tup [d1, d2, d3]))]).length)) = mask H' (allOf F (ρ' ++ [some (W.sh (.tup [d1, d2, d3]))]).length) := rfl
    -- base: all that is shared now
    have s0 : Same H0 (mask H' (allOf F (ρ' ++ [some (W.sh (.tup [d1, d2, d3]))]).length)) := mask_same_of E3.same fun a ha => E3.fresh a ha
    obtain ⟨F1, E4⟩ := EnvW.pop ⟨_, E3.rebase⟩
    have up : ∀ {u : V} {d : D}, Rep X.K (mask H' (allOf F (ρ' ++ [some (W.sh (.tup [d1, d2, d3]))]).length)) u d → ∀ {τ : L2.St} {π : RhoW} {G : Nat → List Addr} {H9 : Hp}, EnvA X.K (mask H' (allOf F (ρ' ++ [some (W.sh (.tup [d1, d2, d3]))]).length)) τ H9 π G → Rep X.K (mask H9 (allOf G π.length)) u d :=
      fun {u d} ru {τ π G H9} EE => ru.mono (mask_same_of EE.same fun a ha => EE.fresh a ha)
    have E5 := E4.pushS (up r3 E4)
    have E6 := E5.pushS (up r2 E5)
    have E7 := E6.pushS (up r1 E6)
    have E8 := EnvW.into ⟨_, E7⟩ i
    rw [List.set_append_left _ _ (by simp; omega), List.set_append_left _ _ (by omega), List.set_append_left _ _ (by simp; omega), List.set_append_left _ _ (by omega)] at E8
    obtain ⟨F8, E8⟩ := E8
    refine ⟨t, [v1, v2, v3], rfl, SqT.of (mask_some ht).1, rfl, v1, [v2, v3], rfl, v2, [v3], rfl, ?_⟩
    have hj2 : ((ρ'.set i (some (W.sh d1))) ++ [some (W.sh d3)])[j]? = some (some (.ow (.pin a (.ob C ks xs)) d0)) := by
      rw [List.getElem?_append_left (by simpa using hjl), List.getElem?_set_ne hij]; exact hj
    obtain ⟨dx, fs, e0, ha, hlen, E9⟩ := E8.fldOld (w := .sh d2) (i := j) (k := k1) hj2 hk1 nk hn1 rfl
    refine ⟨.ref a, by rw [List.getElem?_append_left (by simp; omega)] at e0; exact e0, a, C, dx, fs, rfl, ha, hC, hn1, by omega, v3, [], rfl, ?_⟩
    rw [List.set_append_left _ _ (by simpa using hjl)] at E9
    obtain ⟨F9, E9⟩ := E9
    obtain ⟨dx2, fs2, e2, ha2, hlen2, E10⟩ := E9.fldOld (w := .sh d3) (i := j) (k := k2) (f := f2) (d0 := (O.pin a (.ob C ks (xs.set k1 (W.sh d2).toO))).data) (List.getElem?_set_self (by simpa using hjl)) hk2 nk hn2 rfl
    refine ⟨.ref a, e2, a, C, dx2, fs2, rfl, ha2, hC, hn2, by omega, rfl, ?_⟩
    rw [List.set_set] at E10
    refine q.run H0 _ _ Dd (EnvW.unbase E10 s0) (kk.cast (by simp [l]))))⟩
end
/-! ### methods of own objects -/
theorem hide_own {ρ : RhoW} {i : Nat} {o o' : O} {d d' : D} (h : ρ[i]? = some (some (.ow o d))) : hide (ρ.set i (some (.ow o' d'))) = hide ρ := by
  unfold hide
  rw [List.map_set]
  have hl := (List.getElem?_eq_some_iff.mp h).1
  apply List.ext_getElem?
  intro j
  rw [List.getElem?_set]
  split
  · rename_i e
    subst e
    rw [if_pos (by simpa using hl), List.getElem?_map, h]; rfl
  · rfl
section
variable {X : Cx} {ρ : RhoW} {e : Expr} {es : List Expr} {x m : Str} {p q1 apos pos : Pos} {a C : Addr} {ks : List Str} {xs : List O} {d0 : D} {ds : List D} {k : Nat} {post : O → D → W → Prop} {Ψ : W → RhoW → Prop}
theorem EvW.mut0 {pl : Sem Bool} (i : Nat) (F : GM X.prog X.w X.K X.mg X.base k C m (.ob C ks xs) d0 [] post) (hc : Cls X.K C) (hr : Room k X.A) (hk : ∀ o' d' w, post o' d' w → Ψ w (ρ.set i (some (.ow o' d'))))
    (hN : X.N[i]? = some x := by rfl) (hρ : ρ[i]? = some (some (.ow (.ob C ks xs) d0)) := by rfl) (hpv : PE X (.Name x p) (tVar i) := by exact pv _)
    (ht : eval (.Call (.Attribute (.Name x p) m apos) [] [] pos) X.env = (do
      let ov ← eval (.Name x p) X.env
      standAt apos.atName
      let (f, first) ← holding [ov] (getMethod ov m pl)
      callWith pos f first (backTo pos (starEach [] X.env)) (backToKw pos (keywordEach [] X.env))) := by rfl) : EvW X ρ (.Call (.Attribute (.Name x p) m apos) [] [] pos) Ψ := ⟨fun H0 σ H ⟨G, E⟩ Q q => by
  obtain ⟨f, fd, ps, h1, h3, h4⟩ := F.ex
  have hi := (List.getElem?_eq_some_iff.mp hρ).1
  obtain ⟨v, hσ, rv⟩ := E.get i _ hρ
  have ro := rv.2
  have hF : ∃ a dx fs, v = .ref a ∧ H a = some (.ins C dx fs) ∧ (∀ f, fs.lookup f ≠ none → NoAttr X.K C f) ∧ a ∈ G i := by
    generalize G i = Gi at ro
    cases ro with
    | @ob a _ dx fs _ vs _ As g1 g2 gz g3 g4 g5 g6 g7 g8 => exact ⟨a, dx, fs, rfl, g1, g5, by simp⟩
  obtain ⟨a, dx, fs, rfl, ga, gn, gm⟩ := hF
  have m2 := E.mask2 i
  refine (WE.frame (E.hidO i) (we_of (pe_meth0 (pl := pl) (E := E0) hpv hc h1 (h4 a) hr h3 .nil pass0 ht) ⟨.ref a, hσ, a, dx, fs, rfl, by rw [mask_out (E.apart gm)]; exact ga, look_none h1 gn, ?_⟩ :
    WE X (.Call (.Attribute (.Name x p) m apos) [] [] pos) σ (mask H (othersOf G ρ.length i)) (fun r M => ∃ o' d' w A B, post o' d' w ∧ (A ++ B).Nodup ∧ (∀ a ∈ A ++ B, mask H (allOf G ρ.length) a = none) ∧ Same (mask H (allOf G ρ.length)) M ∧ RepO X.K M (mask M (A ++ B)) (.ref a) o' A ∧ o'.data = d' ∧ RepW X.K M (mask M (A ++ B)) r w B))).mono ?_
  · have r1 : RepO X.K (mask H (othersOf G ρ.length i)) (mask (mask H (othersOf G ρ.length i)) (G i)) (.ref a) (.ob C ks xs) (G i) := by
      rw [m2]
      exact ro.keep (fun b hb u z => by rw [mask_out (E.apart hb)]; exact z) (Same.refl _)
    obtain ⟨eA, EG⟩ := envG (ds := ([] : List D)) (d0 := d0) (vs := []) (E.nd i) r1 rv.1 .nil
    refine ⟨by simp, _, by rw [eA]; exact EG, fun ws' w r M' hl pp Er => ?_⟩
    obtain ⟨o', d', rfl, po⟩ := pp
    rw [eA] at Er
    obtain ⟨A', B, nd, fr, sm, q1, q2, q3⟩ := outG (ds := ([] : List D)) (vs := []) Er rfl
    rw [m2] at fr sm
    exact ⟨o', d', w, A', B, po, nd, fr, sm, q1, q2, q3⟩
  · rintro r H' ⟨M, ⟨o', d', w, A, B, po, nd, fr, sm, q1, q2, q3⟩, rfl, n, up⟩
    exact q r _ w _ (hk o' d' w po) (by simp) (E.back hi hσ sm n nd fr q1 q2 q3)⟩
/-- .. of a pinned one -/
theorem pin_run {i : Nat} (h : EvW X (ρ.set i (some (.ow (.ob C ks xs) d0))) e fun w ρ' => ∃ o' d', post o' d' w ∧ ρ' = ρ.set i (some (.ow o' d'))) (hρ : ρ[i]? = some (some (.ow (.pin a (.ob C ks xs)) d0)))
    (hk : ∀ o' d' w, post o' d' w → Ψ w (ρ.set i (some (.ow (.pin a o') d')))) : EvW X ρ e Ψ := ⟨fun H0 σ H E Q q => by
  have hi := (List.getElem?_eq_some_iff.mp hρ).1
  obtain ⟨hσ, E1⟩ := E.unpinned hρ
  refine h.run H0 σ H E1 Q fun v H' w ρ' p l E' => ?_
  obtain ⟨o', d', po, rfl⟩ := p
  have E2 := E'.pinned (i := i) (a := a) (o := o') (d := d') (by rw [List.getElem?_append_left (by simpa using hi)]; exact List.getElem?_set_self hi) (by rw [List.getElem?_append_left (by rw [E.len]; exact hi)]; exact hσ)
  rw [List.set_append_left _ _ (by simpa using hi), List.set_set] at E2
  exact q v H' w _ (hk o' d' w po) (by simp) E2⟩
theorem EvW.mutP {pl : Sem Bool} (i : Nat) (F : GM X.prog X.w X.K X.mg X.base k C m (.ob C ks xs) d0 ds post) (hc : Cls X.K C) (hr : Room k X.A) (ha : EvA X (hide ρ) (e :: es) ds) (hk : ∀ o' d' w, post o' d' w → Ψ w (ρ.set i (some (.ow (.pin a o') d'))))
    (hN : X.N[i]? = some x := by rfl) (hρ : ρ[i]? = some (some (.ow (.pin a (.ob C ks xs)) d0)) := by rfl) (hpv : PE X (.Name x p) (tVar i) := by exact pv _)
    (hst : starEach (e :: es) X.env = (false, eval e X.env) :: starEach es X.env := by rfl) (hpl : (backTo pos (starEach es X.env)).any (·.1) = false := by rfl)
    (ht : eval (.Call (.Attribute (.Name x p) m apos) (e :: es) [] pos) X.env = (do
      let ov ← eval (.Name x p) X.env
      standAt apos.atName
      let (f, first) ← holding [ov] (getMethod ov m pl)
      callWith pos f first (backTo pos (starEach (e :: es) X.env)) (backToKw pos (keywordEach [] X.env))) := by rfl) : EvW X ρ (.Call (.Attribute (.Name x p) m apos) (e :: es) [] pos) Ψ :=
  pin_run (i := i) (post := post) (EvW.mut (pl := pl) (ρ := ρ.set i (some (.ow (.ob C ks xs) d0))) i F hc hr (by rw [hide_own hρ]; exact ha) (fun o' d' w po => ⟨o', d', po, by rw [List.set_set]⟩) hN (List.getElem?_set_self (List.getElem?_eq_some_iff.mp hρ).1) hpv hst hpl ht) hρ hk
theorem EvW.mutP0 {pl : Sem Bool} (i : Nat) (F : GM X.prog X.w X.K X.mg X.base k C m (.ob C ks xs) d0 [] post) (hc : Cls X.K C) (hr : Room k X.A) (hk : ∀ o' d' w, post o' d' w → Ψ w (ρ.set i (some (.ow (.pin a o') d'))))
    (hN : X.N[i]? = some x := by rfl) (hρ : ρ[i]? = some (some (.ow (.pin a (.ob C ks xs)) d0)) := by rfl) (hpv : PE X (.Name x p) (tVar i) := by exact pv _)
    (ht : eval (.Call (.Attribute (.Name x p) m apos) [] [] pos) X.env = (do
      let ov ← eval (.Name x p) X.env
      standAt apos.atName
      let (f, first) ← holding [ov] (getMethod ov m pl)
      callWith pos f first (backTo pos (starEach [] X.env)) (backToKw pos (keywordEach [] X.env))) := by rfl) : EvW X ρ (.Call (.Attribute (.Name x p) m apos) [] [] pos) Ψ :=
  pin_run (i := i) (post := post) (EvW.mut0 (pl := pl) (ρ := ρ.set i (some (.ow (.ob C ks xs) d0))) i F hc hr (fun o' d' w po => ⟨o', d', po, by rw [List.set_set]⟩) hN (List.getElem?_set_self (List.getElem?_eq_some_iff.mp hρ).1) hpv ht) hρ hk
end
end VL
set_option Elab.async false
set_option linter.all false
set_option maxRecDepth 100000
set_option maxHeartbeats 2000000
/-! value layer, part 37: a comprehension over a tuple within an except suite -/
namespace HotX
open PySem PySem.Spec PyProof.Rows
section
variable {prog : Program} {w : World} {A : Around} {E : Value → Shared → Prop} {s : Shared}
theorem pyNext_tuple_end_hot {it t x1 : Addr} {i : Nat} {items : Array Value} {Q : Option Value → Shared → Prop} (hot : HotAt A x1 s.heap) (hne : x1 ≠ it)
    (hit : s.heap.IsTupleIter it t i) (ht : s.heap.IsTuple t items) (hx : items[i]? = none)
    (hQ : ∀ h', (∀ b o, b ≠ it → s.heap.get? b = some o → h'.get? b = some o) → Q none { s with heap := h' }) : wpAny (model prog w) A (pyNext (.ref it)) Q E s := by
  obtain ⟨o, ho, hc, hd⟩ := id hit
  obtain ⟨ol, hol, _, nl, hdl⟩ := ht
  obtain ⟨hh, o1, vs1, h1, d1, c1⟩ := hot
  unfold pyNext
  refine wpAny_bind (wpAny_attempt (wpAny_callSpecial?_slot (name := Str.ofString "__next__") hit.typeIs F.slot_tuple_iterator_next
    (wpAny_call_entry F.slot_tuple_iterator_next hit.typeIs F.entry_tuple_iterator_next ?_ (F.args_tuple_iterator_next_1 _))))
  show wpAny _ _ (field (.ref it) 0 >>= _) _ _ s
  refine wpAny_bind (wpAny_field ho hd (x := .ref t) rfl ?_)
  show wpAny _ _ (if (Value.ref t == Value.none) = true then _ else _) _ _ s
  rw [if_neg (show ¬ ((Value.ref t == Value.none) = true) from Bool.false_ne_true)]
  show wpAny _ _ (field (.ref it) 1 >>= _) _ _ s
  refine wpAny_bind (wpAny_field ho hd (x := .int i 0) rfl ?_)
  show wpAny _ _ (seqItems? (.ref t) >>= _) _ _ s
  refine wpAny_bind (wpAny_seqItems hol hdl ?_)
  simp only [Int.toNat_natCast, hx]
  refine wpAny_bind (wpAny_rule (wpAny_bind (wpAny_setField ho hd (by simp) ?_)))
  show wpAny _ _ (newExc (.type "StopIteration") [] >>= _) _ _ _
  refine wpAny_bind ?_
  simp only [newExc, newTuple]
  refine wpAny_bind (wpAny_newObj_type ?_ (by size_fits))
  refine wpAny_bind (m := firstArgMember _ _) (wpAny_of_eq (a := Value.none) (by first | rfl | (simp only [firstArgMember]; rfl)) ?_)
  refine wpAny_newObj_type ?_ (by size_fits)
  have g1 : (s.heap.update it (Obj.mapFields (·.setIfInBounds 0 Value.none))).get? x1 = some o1 := by rw [Heap.get?_update_other _ _ (Ne.symm hne)]; exact h1
  refine raiseNew_hot ⟨hh, o1, vs1, Heap.get?_push_of_some _ (Heap.get?_push_of_some _ g1), d1, c1⟩ (Nat.ne_of_lt (Heap.lt_size (Heap.get?_push_of_some _ g1))) (Heap.get?_push_size _ rfl) rfl (by first | (simp; done) | (simp; omega) | (simp only [Array.size_append]; simp; omega)) ?_
  refine wpAny_bind (wpAny_isInstance (T := "StopIteration") (b := true) ⟨_, Heap.get?_update_self _ (Heap.get?_push_size _ rfl) rfl, rfl⟩ isSubtype_stop ?_)
  refine wpAny_pure (hQ _ fun b o e z => ?_)
  have g2 : (s.heap.update it (Obj.mapFields (·.setIfInBounds 0 Value.none))).get? b = some o := by rw [Heap.get?_update_other _ _ (Ne.symm e)]; exact z
  rw [Heap.get?_update_other _ _ (Nat.ne_of_gt (Heap.lt_size (Heap.get?_push_of_some _ g2)))]
  exact Heap.get?_push_of_some _ (Heap.get?_push_of_some _ g2)
end
end HotX
namespace L2
open PySem PySem.Spec PyProof.Rows HotX
theorem turn_tupleH {P : Program} {w : World} {K : PySem.W.Frag} {tg : Expr} (a it : Addr) : L2H.TurnH P w K tg (Itt K a) [it] it (fun i h => h.IsTupleIter it a i) where
  mem := by simp
  obj := fun i h st b hb => by
    have e : b = it := by simpa using hb
    subst e
    obtain ⟨o, e, c, d⟩ := st
    exact ⟨o, e, fun v z => by rw [d] at z; cases z⟩
  keep := fun i h h' st k => st.at fun o e => k it (by simp) o e
  item := by
    intro X hP hw hK hc i pins s σ H E I hf st hg
    subst hP hw hK
    obtain ⟨xs, x, hq, hx⟩ := hg
    obtain ⟨its, rv, p, hz⟩ := I.tuple hq
    obtain ⟨u, hu, ru⟩ := rv.get hx
    obtain ⟨f0, f1, f2, f3, f4, f5⟩ := hf it (by simp)
    refine wpAny_pyNext_tuple_item st (show s.heap.IsTuple a its.toArray from p) (x := u) (by simpa using hu) fun h' st' sb => ?_
    have I1 : Inv X pins σ H { s with heap := h' } := I.turned (t' := s.toks) (fun b o hb e => (sb.2 b hb).trans e) f0 f1 f3 f4 f5
    obtain ⟨o, e, c, d⟩ := id st'
    exact ⟨u, rfl, go_of (s := { s with heap := h' }) e c d (by decide) ⟨x, H, I1, ru, ⟨rfl, fun ys hy => by rw [I.tuple_inj hy hq]; exact hx⟩, st', fun b hb => (hf b hb).1⟩⟩
  done := by
    intro X hP hw hK hc i pins s σ H E I hf st hg
    subst hP hw hK
    obtain ⟨xs, hq, hx⟩ := hg
    obtain ⟨its, rv, p, hz⟩ := I.tuple hq
    obtain ⟨f0, f1, f2, f3, f4, f5⟩ := hf it (by simp)
    have hl := rv.length
    obtain ⟨q, ⟨hh, v1, e1, c1⟩, hp⟩ := hc
    have P1 := I.pin q (List.mem_append_left _ hp)
    have hne : q.1 ≠ it := fun z => f5 q (List.mem_append_left _ hp) (by first | exact z | exact z.symm)
    exact pyNext_tuple_end_hot (x1 := q.1) ⟨hh, q.2, v1, P1.1, e1, c1⟩ hne st (show s.heap.IsTuple a its.toArray from p) (by simp; omega) fun h' eb => ⟨rfl, I.turned (t' := s.toks) (fun b o hb e => eb b o hb e) f0 f1 f3 f4 f5⟩
  self := fun _ _ _ _ _ st h => wpAny_pyIter_tupleiter st h
theorem pi_tupH {X : Cx} {tg l : Expr} {tl : TE} (hl : PE X l tl) : L2H.PIH X tg l (iTup X.K tl) := by
  refine ⟨fun pins s σ H R I h => ?_⟩
  refine thn (hl.run pins s σ H _ I h) fun v s1 ⟨x, H1, I1, r1, q1⟩ => ?_
  obtain ⟨a, e, ⟨xs, hq⟩, q⟩ := q1
  subst e
  cases r1
  obtain ⟨its, rv, p, hz⟩ := I1.tuple hq
  refine wpAny_pyIter_tuple (show s1.heap.IsTuple a its.toArray from p) ?_
  refine ⟨s1.heap.objs.size, [s1.heap.objs.size], _, _, H1, rfl, I1.kept (t' := s1.toks) fun b o e => Heap.get?_push_of_some _ e, turn_tupleH a _, ⟨_, Heap.get?_push_size _ rfl, rfl, rfl⟩, fun b hb => ?_, q⟩
  have e : b = s1.heap.objs.size := by simpa using hb
  subst e
  exact I1.fpOk (Nat.le_refl _) (I1.hok.fresh (Nat.le_refl _))
/-- a comprehension's block that bears the def's pins -/
abbrev Cx.blkP (X : Cx) (s : Shared) (H : Hp) (scope : Scope) (cenv : Env) (fp : List Addr) : Cx := { X.blk s H scope cenv fp with pn := X.pn }
theorem lc_coreH {X : Cx} {pins : List (Addr × Obj)} {s : Shared} {σ : St} {H : Hp} {Q : VK} {elt tg iter : Expr} {ifs : List Expr} {scope : Scope} {own : List (Str × Nat)} {pos pos' : Pos} {wi : TI} {g : TG} {tt : TT} {te : TE} {use : Option (Value → Sem Unit)} {Qf : Value → Shared → Prop}
    (hc : L2H.HotC X) (hN : X.N.Nodup) (I : Inv X pins σ H s) (hi : L2H.PIH X tg iter wi) (ok : BlkOk X.N X.env.scope scope own)
    (hg : ∀ (s : Shared) (H : Hp) (C : Addr) (cl : List (Str × Addr)) (fp : List Addr), PG (X.blkP s H scope (compEnvC scope cl C X.env) fp) tg g) (ht : ∀ (s : Shared) (H : Hp) (C : Addr) (cl : List (Str × Addr)) (fp : List Addr), PTs (X.blkP s H scope (compEnvC scope cl C X.env) fp) ifs tt)
    (he : ∀ (s : Shared) (H : Hp) (C : Addr) (cl : List (Str × Addr)) (fp : List Addr), PE (X.blkP s H scope (compEnvC scope cl C X.env) fp) elt te) (hs : ∀ x, foldedSetIterable iter X.env x = pure x)
    (h : tLc wi g tt te (own.map (·.2)) σ H Q)
    (hRR : ∀ D C s' m H', Inv X pins σ H' s' → Q (.ref D) H' → s'.heap.Ns C m → FpOk X pins H' C → compPost (model X.prog X.w) X.A X.xe use Qf (.ref D) C (.ok .next) s') :
    wpAny (model X.prog X.w) X.A (comprehension (.ListComp elt [⟨tg, iter, ifs, 0⟩] scope pos) scope X.env pos' (newList []) false (eval iter X.env) use) Qf X.xe s := by
  have frees : ∀ y ∈ scope.names, y.2 = .free → ∃ c, X.env.cells.lookup y.1 = some c := fun y hy z =>
    (ok.free y hy z).elim (fun k => I.ok.has _ (.inl k)) (fun k => I.ok.has _ (.inr k))
  refine wpAny_comprehension_free (use := use) rfl hs (closure_ok frees) ok.kind (fun y hy z => by rw [ok.uniq y hy, z]) (thn (hi.run pins s σ H _ I h) fun xv u1 hx => thn hx fun itv u2 h2 => ?_)
  obtain ⟨it, fp, tn, J, K2, z, I2, T, st2, f2, q⟩ := h2
  subst z
  refine wpAny_newObj_type (newEnv_comp ?_) (by show 0 ≤ sizeLine; decide)
  obtain ⟨D, hD⟩ : ∃ D, u2.heap.objs.size = D := ⟨_, rfl⟩
  rw [hD]
  have Dn : K2 D = none := I2.hok.fresh (Nat.le_of_eq hD)
  obtain ⟨Wv, ⟨m0, w0⟩, turn⟩ := q D Dn
  generalize hu3 : ({ u2 with heap := u2.heap.push { cls := .type "list", data := .seq ([] : List Value).toArray } } : Shared) = u3
  have e3 : u3.heap = u2.heap.push { cls := .type "list", data := .seq ([] : List Value).toArray } := by rw [← hu3]
  have kp3 : ∀ b o, u2.heap.get? b = some o → u3.heap.get? b = some o := fun b o y => by rw [e3]; exact Heap.get?_push_of_some _ y
  have I3 : Inv X pins σ (upd K2 D (.lst [])) u3 := by
    have at3 : u3.heap.get? D = some { cls := .type "list", data := .seq ([] : List Value).toArray } := by rw [e3, ← hD]; exact Heap.get?_push_size _ rfl
    have := I2.laid (t' := u2.toks) (h' := u3.heap) kp3 (Nat.le_of_eq hD) (o := .lst []) ⟨Nat.zero_le _, [], 0, .nil, at3⟩
    rw [← hu3] at this ⊢
    exact this
  have f3 : ∀ b ∈ fp, FpOk X pins (upd K2 D (.lst [])) b ∧ b < u3.heap.objs.size := fun b hb => by
    obtain ⟨ob, y, _⟩ := T.obj _ _ st2 b hb
    have lt : b < u2.heap.objs.size := Heap.lt_size y
    refine ⟨⟨?_, (f2 b hb).2⟩, by rw [e3, Heap.size_push]; exact Nat.lt_succ_of_lt lt⟩
    rw [upd_ne (by rw [← hD]; exact Nat.ne_of_lt lt)]
    exact (f2 b hb).1
  have I4 := block_start I3 ok hN f3
  have hgc := hg u3 (upd K2 D (.lst [])) u3.heap.objs.size (cellsFrom (u3.heap.objs.size + 1) scope.names (cloFrom X.env.cells scope.names [])) fp
  have htc := ht u3 (upd K2 D (.lst [])) u3.heap.objs.size (cellsFrom (u3.heap.objs.size + 1) scope.names (cloFrom X.env.cells scope.names [])) fp
  have hec := he u3 (upd K2 D (.lst [])) u3.heap.objs.size (cellsFrom (u3.heap.objs.size + 1) scope.names (cloFrom X.env.cells scope.names [])) fp
  show codeAny _ _ (.compStart (.ListComp elt [⟨tg, iter, ifs, 0⟩] scope pos) 0 (.ref it) (.ref D) (compEnvC scope (cellsFrom (u3.heap.objs.size + 1) scope.names (cloFrom X.env.cells scope.names [])) u3.heap.objs.size X.env)) (compPost (model X.prog X.w) X.A X.xe use Qf (.ref D) u3.heap.objs.size) { u3 with heap := pushCells (u3.heap.push { cls := .type "dict", data := .dict #[] }) scope.names }
  have nfp : ∀ b ∈ fp, (upd K2 D (.lst [])) b = none := fun b hb => (f3 b hb).1.1
  generalize hce : compEnvC scope (cellsFrom (u3.heap.objs.size + 1) scope.names (cloFrom X.env.cells scope.names [])) u3.heap.objs.size X.env = ce at I4 hgc htc hec ⊢
  have cL : ce.locals = u3.heap.objs.size := by subst hce; rfl
  generalize hK3 : upd K2 D (.lst []) = K3 at I3 I4 hgc htc hec w0 nfp f3
  have kp4 : ∀ b o, u3.heap.get? b = some o → (pushCells (u3.heap.push { cls := .type "dict", data := .dict #[] }) scope.names).get? b = some o := fun b o y => pushCells_keeps _ _ _ _ (Heap.get?_push_of_some _ y)
  generalize hu4 : ({ u3 with heap := pushCells (u3.heap.push { cls := .type "dict", data := .dict #[] }) scope.names } : Shared) = u4 at I4 ⊢
  have e4 : u4.heap = pushCells (u3.heap.push { cls := .type "dict", data := .dict #[] }) scope.names := by rw [← hu4]
  have st4 : tn 0 u4.heap := T.keep _ _ _ (T.keep _ _ _ st2 fun b _ o y => kp3 b o y) fun b _ o y => by rw [e4]; exact kp4 b o y
  have I4' : Inv (X.blkP u3 K3 scope ce fp) [] (wipe σ (own.map (·.2))) K3 u4 := ⟨⟨I4.ok.mod, I4.ok.kind, I4.ok.glob, I4.ok.blt, I4.ok.above, I4.ok.inj, I4.ok.has, I4.ok.cab, I4.ok.hd, I4.ok.frames, I4.ok.stk, I4.ok.exf, I4.ok.bs, I4.ok.bsz, I4.ok.noex, I4.ok.exfs, I4.ok.funs, I4.ok.frf⟩, I4.os, I4.bare, I4.base, I4.loc, I4.cell, I4.free, I4.freeC, fun p hp => by
    have hp' : p ∈ X.pn := by simpa using hp
    obtain ⟨z1, z2, z3, z4, z5⟩ := I3.pin p (List.mem_append_left _ hp')
    refine ⟨by rw [e4]; exact kp4 _ _ z1, z2, fun y => ?_, fun y => ?_, z5⟩
    · rw [cL] at y
      exact absurd (Heap.lt_size z1) (by rw [y]; exact Nat.lt_irrefl _)
    · exact (List.mem_cons.mp (I3.stkSub p.1 y)).elim z3 z4, I4.hok, I4.len⟩
  have home : ∀ {p' : List (Addr × Obj)} {τ : St} {K9 : Hp} {u9 : Shared}, Inv (X.blkP u3 K3 scope ce fp) p' τ K9 u9 → Inv X pins σ K9 u9 ∧ FpOk X pins K9 u3.heap.objs.size ∧ ∃ m, u9.heap.Ns u3.heap.objs.size m := fun {p' τ K9 u9} I9 => by
    have nC : K9 u3.heap.objs.size = none := by rw [← cL]; exact I9.free
    refine ⟨I3.call' (ch := fp) I9.os I9.base I9.hok I9.bare fun b hb => ?_, I3.fpOk (Nat.le_refl _) nC, ?_⟩
    · obtain ⟨_, z2, _, z4, z5, z6⟩ := (f3 b hb).1
      exact ⟨z4, z2, z5, z6⟩
    · obtain ⟨m, hm, _⟩ := I9.loc
      exact ⟨m, by rw [← cL]; exact hm⟩
  have hotB : L2H.HotC (X.blkP u3 K3 scope ce fp) := hc
  have fpne : ∀ b ∈ fp, ∀ p ∈ X.pn, p.1 ≠ b := fun b hb p hp => by
    obtain ⟨_, _, _, _, _, z6⟩ := (f3 b hb).1
    exact z6 p (List.mem_append_left _ hp)
  have stat : ∀ {τ : St} {K9 : Hp} {u9 : Shared}, Inv (X.blkP u3 K3 scope ce fp) [] τ K9 u9 → (∀ b ∈ fp, K9 b = none) → ∀ b ∈ fp, FpOk (X.blkP u3 K3 scope ce fp) [] K9 b := fun {τ K9 u9} I9 hn b hb =>
    ⟨hn b hb, (I9.ok.exf b hb).1, I9.ok.exfs b hb, .inl hb, fun x c y => (I9.ok.exf b hb).2 x c y, fun p hp => fpne b hb p (by simpa using hp)⟩
  have loop : codeAny (model X.prog X.w) X.A (.compLoop (.ListComp elt [⟨tg, iter, ifs, 0⟩] scope pos) 0 (.ref it) (.ref D) ce) (compPost (model X.prog X.w) X.A X.xe use Qf (.ref D) u3.heap.objs.size) u4 := by
    refine compLoop_any (fun n s' => ∃ i K', Inv (X.blkP u3 K3 scope ce fp) [] (wipe σ (own.map (·.2))) K' s' ∧ tn i s'.heap ∧ (∀ b ∈ fp, K' b = none) ∧ Wv i n K') ?_ m0 ⟨0, K3, I4', st4, nfp, w0⟩
    rintro n u5 ⟨i, K5, I5, st5, n5, w5⟩
    rcases turn i n K5 w5 with ⟨stop, qq⟩ | ⟨go, Nx, hNx, step⟩
    · refine thnF (T.done (X.blkP u3 K3 scope ce fp) rfl rfl rfl hotB i [] u5 _ K5 (fun _ _ => False) I5 (stat I5 n5) st5 stop) fun r u6 ⟨hr, I6⟩ => ?_
      subst hr
      obtain ⟨J6, fC, m, hm⟩ := home I6
      exact hRR D u3.heap.objs.size u6 m K5 J6 qq hm fC
    · refine thnF (T.item (X.blkP u3 K3 scope ce fp) rfl rfl rfl hotB i [] u5 _ K5 (fun _ _ => False) I5 (stat I5 n5) st5 go) fun r u6 ⟨u, hr, h6⟩ => ?_
      subst hr
      refine thnF h6 fun _ u7 ⟨x, K7, I7, r7, y7, st7, n7⟩ => ?_
      have I7p := I7.pinned (stat I7 n7) (T.obj _ _ st7)
      refine thnF (hgc.run _ u7 _ K7 x u _ I7p r7 (step x K7 y7)) fun _ u8 ⟨τ8, K8, I8, w8, q8⟩ => ?_
      refine thnF (htc.run _ u8 τ8 K8 _ I8 q8) fun b u9 ⟨K9, I9, q9⟩ => ?_
      have fin : ∀ {s' : Shared} {K' : Hp}, Inv (X.blkP u3 K3 scope ce fp) ([] ++ pinsAt fp u7.heap) τ8 K' s' → Nx K' → ∃ m, m < n ∧ ∃ i K', Inv (X.blkP u3 K3 scope ce fp) [] (wipe σ (own.map (·.2))) K' s' ∧ tn i s'.heap ∧ (∀ b ∈ fp, K' b = none) ∧ Wv i m K' := fun {s' K'} I' nx => by
        obtain ⟨m', hm, w'⟩ := hNx K' nx
        have stand : ∀ b ∈ fp, ∀ o, u7.heap.get? b = some o → s'.heap.get? b = some o ∧ K' b = none := fun b hb o y => by
          obtain ⟨z1, z2, _⟩ := I'.pin (b, o) (List.mem_append_right _ (List.mem_append_right _ (mem_pinsAt hb y)))
          exact ⟨z1, z2⟩
        refine ⟨m', hm, i + 1, K', (I'.unpinned (pins := [])).weak (by rw [← w8, wipe_length]) (fun j v y => ?_), T.keep _ _ _ st7 fun b hb o y => (stand b hb o y).1, fun b hb => ?_, w'⟩
        · rw [← w8] at y
          exact (wipe_some y).1
        · obtain ⟨o, y, _⟩ := T.obj _ _ st7 b hb
          exact (stand b hb o y).2
      cases b with
      | false =>
        simp only [Bool.false_eq_true, if_false] at q9 ⊢
        exact fin I9 q9
      | true =>
        simp only [if_true] at q9 ⊢
        refine thnF (hec.run _ u9 τ8 K9 _ I9 q9) fun z u10 ⟨yv, K10, I10, r10, acc, hD10, hz10, nx⟩ => ?_
        exact app_ok (X := X.blkP u3 K3 scope ce fp) I10 hD10 hz10 r10 fun u11 I11 => fin I11 nx
  exact codeAny_compStart_list loop (T.self X.A 0 _ _ _ st4 loop)
theorem pe_lcH {X : Cx} {elt tg iter : Expr} {ifs : List Expr} {scope : Scope} {own : List (Str × Nat)} {pos : Pos} {wi : TI} {g : TG} {tt : TT} {te : TE} (hc : L2H.HotC X) (hN : X.N.Nodup) (hi : L2H.PIH X tg iter wi) (ok : BlkOk X.N X.env.scope scope own)
    (hg : ∀ (s : Shared) (H : Hp) (C : Addr) (cl : List (Str × Addr)) (fp : List Addr), PG (X.blkP s H scope (compEnvC scope cl C X.env) fp) tg g) (ht : ∀ (s : Shared) (H : Hp) (C : Addr) (cl : List (Str × Addr)) (fp : List Addr), PTs (X.blkP s H scope (compEnvC scope cl C X.env) fp) ifs tt)
    (he : ∀ (s : Shared) (H : Hp) (C : Addr) (cl : List (Str × Addr)) (fp : List Addr), PE (X.blkP s H scope (compEnvC scope cl C X.env) fp) elt te) (hs : ∀ x, foldedSetIterable iter X.env x = pure x := by intro _; rfl) :
    PE X (.ListComp elt [⟨tg, iter, ifs, 0⟩] scope pos) (tLc wi g tt te (own.map (·.2))) := by
  refine ⟨fun pins s σ H Q I h => ?_⟩
  rw [eval_ListComp]
  refine lc_coreH hc hN I hi ok hg ht he hs h fun D C s' m H' I' q hn f => ⟨m, hn, fun h'' sb => ?_⟩
  obtain ⟨f0, f1, f2, f3, f4, f5⟩ := f
  exact ⟨.ref D, H', I'.turned (t' := s'.toks) (fun b o hb e => (sb.2 b hb).trans e) f0 f1 f3 f4 f5, rfl, q⟩
end L2
set_option Elab.async false
set_option linter.all false
set_option maxRecDepth 100000
set_option maxHeartbeats 1000000
/-! value layer, part 38: .. as values; tuples told; tries that raise nothing -/
namespace VL
open PySem L2
def WIH (X : Cx) (tg iter : Expr) (σ : L2.St) (H : Hp) (R : It → Hp → Prop) : Prop :=
  ∀ (pins : List (Addr × Obj)) (s : Shared), Inv X pins σ H s → wpAny (model X.prog X.w) X.A (eval iter X.env) (fun v s1 => wpAny (model X.prog X.w) X.A (pyIter v) (L2H.PIEH X pins σ tg R) X.xe s1) X.xe s
theorem pih_wih {X : Cx} {tg iter : Expr} : L2H.PIH X tg iter (WIH X tg iter) := ⟨fun pins s σ H R I h => h pins s I⟩
theorem wih_of {X : Cx} {tg iter : Expr} {σ : L2.St} {H : Hp} {R : It → Hp → Prop} {t : TI} (h : L2H.PIH X tg iter t) (q : t σ H R) : WIH X tg iter σ H R := fun pins s I => h.run pins s σ H R I q
structure EvIH (X : Cx) (ρ : Rho) (tg iter : Expr) (items : List D) : Prop where
  run : ∀ (σ : L2.St) (H : Hp), EnvS X.K σ H ρ → ∀ R : It → Hp → Prop, (∀ J H', Same H H' → Src X.K H' J items → R J H') → WIH X tg iter σ H R
theorem EvIH.tup {X : Cx} {ρ : Rho} {tg iter : Expr} {ds : List D} (h : Ev X ρ iter (.tup ds)) : EvIH X ρ tg iter ds :=
  ⟨fun σ H en R q => wih_of (pi_tupH pe_we) (h.run σ H en _ fun v H1 s1 r1 => by
    obtain ⟨a, vs, rfl, h1, rs⟩ := r1.tup_inv
    exact ⟨a, rfl, ⟨vs, SqT.of h1⟩, q _ H1 s1 (src_seq walk_tup rs fun H' s => Same.seqT s (SqT.of h1))⟩)⟩
def blkGP (X : Cx) (scope : Scope) (tg : Expr) : TG := fun v σ' H' Q' => ∀ (s : Shared) (H0 : Hp) (C : Addr) (cl : List (Str × Addr)) (fp : List Addr), WG (X.blkP s H0 scope (compEnvC scope cl C X.env) fp) tg v σ' H' Q'
def blkTP (X : Cx) (scope : Scope) (ifs : List Expr) : TT := fun σ' H' Q' => ∀ (s : Shared) (H0 : Hp) (C : Addr) (cl : List (Str × Addr)) (fp : List Addr), WTs (X.blkP s H0 scope (compEnvC scope cl C X.env) fp) ifs σ' H' Q'
def blkEP (X : Cx) (scope : Scope) (elt : Expr) : TE := fun σ' H' Q' => ∀ (s : Shared) (H0 : Hp) (C : Addr) (cl : List (Str × Addr)) (fp : List Addr), WE (X.blkP s H0 scope (compEnvC scope cl C X.env) fp) elt σ' H' Q'
section
variable {X : Cx} {ρ : Rho} {pos : Pos}
theorem compF_readP {α : Type} {elt tg iter : Expr} {ifs : List Expr} {scope : Scope} {own : List (Str × Nat)} (L : List α) (h : α → D) (f : α → Bool) (g : α → O) (is : List Nat) (bs : α → List D)
    (hi : EvIH X ρ tg iter (L.map h)) (his : ∀ i ∈ is, i ∈ own.map (·.2))
    (hg : ∀ x ∈ L, ∀ (s : Shared) (H : Hp) (C : Addr) (cl : List (Str × Addr)) (fp : List Addr), EvG (X.blkP s H scope (compEnvC scope cl C X.env) fp) tg (h x) is (bs x))
    (ht : ∀ x ∈ L, ∀ (s : Shared) (H : Hp) (C : Addr) (cl : List (Str × Addr)) (fp : List Addr), EvTs (X.blkP s H scope (compEnvC scope cl C X.env) fp) (setD (wipeD ρ (own.map (·.2))) is (bs x)) ifs (f x))
    (he : ∀ x ∈ L, f x = true → ∀ (s : Shared) (H : Hp) (C : Addr) (cl : List (Str × Addr)) (fp : List Addr), EvO (X.blkP s H scope (compEnvC scope cl C X.env) fp) (setD (wipeD ρ (own.map (·.2))) is (bs x)) elt (g x))
    (hl : L.length < sizeLine) (σ : L2.St) (H : Hp) (en : EnvS X.K σ H ρ) (Q : VK) (q : ∀ v H' A, Same H H' → (∀ a ∈ A, H a = none) → A.Nodup → RepO X.K H' (mask H' A) v (.ls ((L.filter f).map g)) A → Q v H') :
    tLc (WIH X tg iter) (blkGP X scope tg) (blkTP X scope ifs) (blkEP X scope elt) (own.map (·.2)) σ H Q := by
  refine hi.run σ H en _ fun J H1 s1 src => ?_
  intro Dl hD
  obtain ⟨G, Y, wk, hG, hY⟩ := src.go
  rw [List.length_map] at wk hY
  let Pv : Nat → Hp → Prop := fun i H' => ∃ (acc : List V) (As : List (List Addr)), H' Dl = some (.lst acc) ∧ Same H1 H' ∧ (Dl :: As.flatten).Nodup ∧ (∀ a ∈ As.flatten, H1 a = none) ∧
    RepOs X.K H' (mask H' (Dl :: As.flatten)) acc (((L.take i).filter f).map g) As
  refine lc_it (g := blkGP X scope tg) (tt := blkTP X scope ifs) (te := blkEP X scope elt) (vs := own.map (·.2)) (σ := σ) (H1 := H1) (D := Dl) (Qd := fun H => Q (.ref Dl) H) wk Pv ?_ ?_ ?_ ?_
  · exact ⟨[], [], upd_same, Same.new hD, by simp, by simp, by simpa using RepOs.nil⟩
  · rintro i H' _ ⟨acc, As, _, s, _⟩
    exact hG H' s
  · rintro i x H2 H3 hlt ⟨acc, As, hacc, s2, nd, fr, ro⟩ y
    have hlt' : i < L.length := hlt
    obtain ⟨s3, d, hd, rd⟩ := hY i H2 x H3 hlt s2 y
    rw [List.getElem?_map, List.getElem?_eq_getElem hlt'] at hd
    obtain rfl := Option.some.inj hd
    generalize hx : L[i] = z at rd
    have hz : z ∈ L := by rw [← hx]; exact List.getElem_mem hlt'
    have fr1 : ∀ a ∈ Dl :: As.flatten, H1 a = none := fun a ha => (List.mem_cons.mp ha).elim (fun e => e ▸ hD) (fr a)
    have lst2 : Hid H2 (Dl :: As.flatten) := Hid.cons hacc ro.cells
    have rd' : Rep X.K (mask H3 (Dl :: As.flatten)) x (h z) := rd _ fun a ha => ⟨fr1 a ha, fun e => lst2.some ha e⟩
    have s13 : Same H1 H3 := s2.trans s3
    have enM : EnvS X.K (wipe σ (own.map (·.2))) (mask H3 (Dl :: As.flatten)) (wipeD ρ (own.map (·.2))) := ((en.mono s1).mono (mask_same_of s13 fr1)).wipe _
    intro s H0 C cl fp
    refine (hg z hz s H0 C cl fp).run (wipe σ (own.map (·.2))) H3 _ x mask_same rd' _ fun ws rws => ?_
    refine ⟨wipe_setAll his, ?_⟩
    have en2 : EnvS X.K (setAll (wipe σ (own.map (·.2))) is ws) (mask H3 (Dl :: As.flatten)) (setD (wipeD ρ (own.map (·.2))) is (bs z)) := enM.setAll' rws
    intro s' H0' C' cl' fp'
    refine (ht z hz s' H0' C' cl' fp').run _ H3 (en2.mono mask_same) _ fun H5 s5 => ?_
    have s25 : Same H2 H5 := s3.trans s5
    have s15 : Same H1 H5 := s2.trans s25
    have tk : (L.take (i + 1)).filter f = (L.take i).filter f ++ (if f z = true then [z] else []) := by
      rw [List.take_add_one, List.filter_append, List.getElem?_eq_getElem hlt', hx]
      by_cases hf : f z = true <;> simp [hf]
    have ro5 : RepOs X.K H5 (mask H5 (Dl :: As.flatten)) acc (((L.take i).filter f).map g) As :=
      ro.keep (fun a ha u e => s25 a u e) fun b u e => by
        obtain ⟨e1, e2⟩ := mask_some e
        rw [mask_out e2]
        exact s25 b u e1
    by_cases hf : f z = true
    · rw [hf]
      refine iteT ?_
      intro s6 H06 C6 cl6 fp6
      have lst5 : Hid H5 (Dl :: As.flatten) := lst2.up fun a _ u e => s25 a u e
      have en5 : EnvS X.K (setAll (wipe σ (own.map (·.2))) is ws) (mask H5 (Dl :: As.flatten)) (setD (wipeD ρ (own.map (·.2))) is (bs z)) := en2.mono fun b u e => by
        obtain ⟨e1, e2⟩ := mask_some e
        rw [mask_out e2]
        exact s5 b u e1
      refine (WE.frame lst5 ((he z hz hf s6 H06 C6 cl6 fp6).run _ (mask H5 (Dl :: As.flatten)) en5 (fun v M => ∃ A, Same (mask H5 (Dl :: As.flatten)) M ∧ (∀ a ∈ A, mask H5 (Dl :: As.flatten) a = none) ∧ A.Nodup ∧ RepO X.K M (mask M A) v (g z) A) fun v M A q1 q2 q3 q4 => ⟨A, q1, q2, q3, q4⟩)).mono ?_
      rintro v H6 ⟨M, ⟨A, q1, q2, q3, q4⟩, rfl, q5, q6⟩
      have hD6 : join M H5 (Dl :: As.flatten) Dl = some (.lst acc) := by
        rw [join_in (List.mem_cons_self ..)]
        exact s25 _ _ hacc
      have nA : ∀ a ∈ A, a ∉ Dl :: As.flatten := fun a ha z => by
        exact q4.cells.some ha (q5 a z)
      have hlen : acc.length < sizeLine := by
        rw [ro.1, List.length_map]
        have h1 := List.length_filter_le f (L.take i)
        have h2 : (L.take i).length ≤ L.length := by rw [List.length_take]; omega
        omega
      refine ⟨acc, hD6, hlen, acc ++ [v], As ++ [A], upd_same, ?_, ?_, ?_, ?_⟩
      · intro b u e
        have hb : b ∉ Dl :: As.flatten := fun z => by rw [fr1 b z] at e; cases e
        rw [upd_ne (fun z => hb (by simp [z])), join_out hb]
        refine q1 b u ?_
        rw [mask_out hb]
        exact s15 b u e
      · rw [List.flatten_append, List.flatten_singleton]
        rw [← List.cons_append]
        refine List.nodup_append.mpr ⟨nd, q3, fun a ha b hb e => nA b hb (e ▸ ha)⟩
      · intro a ha
        rw [List.flatten_append, List.flatten_singleton] at ha
        rcases List.mem_append.mp ha with ha | ha
        · exact fr a ha
        · have hb := nA a ha
          have e := q2 a ha
          rw [mask_out hb] at e
          exact s15.free e
      · rw [tk, if_pos hf, List.map_append]
        have upM : ∀ b u, M b = some u → (upd (join M H5 (Dl :: As.flatten)) Dl (.lst (acc ++ [v]))) b = some u := fun b u e => by
          have hb : b ∉ Dl :: As.flatten := fun z => by rw [q5 b z] at e; cases e
          rw [upd_ne (fun z => hb (by simp [z])), join_out hb]
          exact e
        refine RepOs.snoc (ro5.keep (fun a ha u e => ?_) fun b u e => ?_) (q4.keep (fun a ha u e => upM a u e) fun b u e => ?_)
        · rw [upd_ne (fun z : a = Dl => (List.nodup_cons.mp nd).1 (by rw [← z]; exact ha)), join_in (List.mem_cons_of_mem _ ha)]
          exact e
        · obtain ⟨e1, e2⟩ := mask_some e
          have hbA : b ∉ A := fun z => by have := q2 b z; rw [this] at e; cases e
          rw [mask_out (by rw [List.flatten_append, List.flatten_singleton, ← List.cons_append]; exact fun z => (List.mem_append.mp z).elim e2 hbA)]
          exact upM b u (q1 b u e)
        · obtain ⟨e1, e2⟩ := mask_some e
          have hb : b ∉ Dl :: As.flatten := fun z => by rw [q5 b z] at e1; cases e1
          rw [mask_out (by rw [List.flatten_append, List.flatten_singleton, ← List.cons_append]; exact fun z => (List.mem_append.mp z).elim hb e2)]
          exact upM b u e1
    · have hf' : f z = false := by simpa using hf
      rw [hf']
      refine iteF ⟨acc, As, s25 _ _ hacc, s15, nd, fr, ?_⟩
      rw [tk, if_neg hf, List.append_nil]
      exact ro5
  · rintro H' ⟨acc, As, hacc, s2, nd, fr, ro⟩
    rw [List.take_length] at ro
    refine q _ _ _ (s1.trans s2) (fun a ha => ?_) nd (.ls hacc ro.1 ro.2.1 ro.2.2)
    rcases List.mem_cons.mp ha with rfl | ha
    · exact s1.free hD
    · exact s1.free (fr a ha)
theorem EvO.compFP {α : Type} {elt tg iter : Expr} {ifs : List Expr} {scope : Scope} {own : List (Str × Nat)} (L : List α) (h : α → D) (f : α → Bool) (g : α → O) (is : List Nat) (bs : α → List D)
    (hc : L2H.HotC X) (hN : X.N.Nodup) (hi : EvIH X ρ tg iter (L.map h)) (ok : BlkOk X.N X.env.scope scope own) (his : ∀ i ∈ is, i ∈ own.map (·.2))
    (hg : ∀ x ∈ L, ∀ (s : Shared) (H : Hp) (C : Addr) (cl : List (Str × Addr)) (fp : List Addr), EvG (X.blkP s H scope (compEnvC scope cl C X.env) fp) tg (h x) is (bs x))
    (ht : ∀ x ∈ L, ∀ (s : Shared) (H : Hp) (C : Addr) (cl : List (Str × Addr)) (fp : List Addr), EvTs (X.blkP s H scope (compEnvC scope cl C X.env) fp) (setD (wipeD ρ (own.map (·.2))) is (bs x)) ifs (f x))
    (he : ∀ x ∈ L, f x = true → ∀ (s : Shared) (H : Hp) (C : Addr) (cl : List (Str × Addr)) (fp : List Addr), EvO (X.blkP s H scope (compEnvC scope cl C X.env) fp) (setD (wipeD ρ (own.map (·.2))) is (bs x)) elt (g x))
    (hl : L.length < sizeLine) (hs : ∀ x, foldedSetIterable iter X.env x = pure x := by intro _; rfl) : EvO X ρ (.ListComp elt [⟨tg, iter, ifs, 0⟩] scope pos) (.ls ((L.filter f).map g)) :=
  ⟨fun σ H en Q q => we_of (pe_lcH (g := blkGP X scope tg) (tt := blkTP X scope ifs) (te := blkEP X scope elt)
    hc hN pih_wih ok (fun s H0 C cl fp => ⟨fun pins s' σ' H' v u Q' I r w => w s H0 C cl fp pins s' u I r⟩) (fun s H0 C cl fp => ⟨fun pins s' σ' H' Q' I w => w s H0 C cl fp pins s' I⟩) (fun s H0 C cl fp => ⟨fun pins s' σ' H' Q' I w => w s H0 C cl fp pins s' I⟩) hs)
    (compF_readP L h f g is bs hi his hg ht he hl σ H en Q q)⟩
end
end VL
namespace L2
open PySem PySem.Spec PyProof.Rows
section
variable {X : Cx} {CX : CXT} {k : Nat} {f C : Addr} {fd : FuncData} {ps : List Str} {sp : Sp} {E : L2.St → XK} {m : Str} {pos apos : Pos} {e o : Expr} {es : List Expr} {ta : TE} {t : TA}
theorem pe_methA {pl : Sem Bool} (he : PE X o ta) (c : Cls X.K C) (hm : Meth X.K C m f) (F : FnOk X.prog X.w X.K X.mg X.base CX k f fd ps sp) (hr : Room k X.A) (hb : Binds X.K fd ps []) (hx : ∀ σ, PassesAt CX X σ (E σ)) (ha : PA X (e :: es) t)
    (hst : starEach (e :: es) X.env = (false, eval e X.env) :: starEach es X.env := by rfl) (hpl : (backTo pos (starEach es X.env)).any (·.1) = false := by rfl)
    (ht : eval (.Call (.Attribute o m apos) (e :: es) [] pos) X.env = (do
      let ov ← eval o X.env
      standAt apos.atName
      let (f, first) ← holding [ov] (getMethod ov m pl)
      callWith pos f first (backTo pos (starEach (e :: es) X.env)) (backToKw pos (keywordEach [] X.env))) := by rfl) :
    PE X (.Call (.Attribute o m apos) (e :: es) [] pos) (L2H.tMethH C m sp E ta t) := by
  refine ⟨fun pins s σ H Q I h => ?_⟩
  refine PySem.W.methodCall_KW (pl := pl) (thn (he.run pins s σ H _ I h) fun u s1 ⟨x, H1, I1, rx, a, dx, fs, ex, ea, l, q⟩ => ?_) ht
  subst ex
  obtain rfl : u = Value.ref a := rx
  refine getmeth_ok I1 ea c hm l ?_
  refine PySem.W.callWith_K (first := [.ref a]) (h₀ := X.base) I.ok.mod.kin hm.kp (thn (ha.run pos pins s1 σ H1 _ I1 q) fun us s2 ⟨vs, H2, I2, r, q2⟩ => ⟨I2.kIn, ?_⟩) hst hpl
  exact run_fnS (us := .ref a :: us) (vs := .ref a :: vs) F hr hb (hx σ) I2 (.cons rfl r) q2
theorem pe_methA0 {pl : Sem Bool} (he : PE X o ta) (c : Cls X.K C) (hm : Meth X.K C m f) (F : FnOk X.prog X.w X.K X.mg X.base CX k f fd ps sp) (hr : Room k X.A) (hb : Binds X.K fd ps []) (hx : ∀ σ, PassesAt CX X σ (E σ))
    (ht : eval (.Call (.Attribute o m apos) [] [] pos) X.env = (do
      let ov ← eval o X.env
      standAt apos.atName
      let (f, first) ← holding [ov] (getMethod ov m pl)
      callWith pos f first (backTo pos (starEach [] X.env)) (backToKw pos (keywordEach [] X.env))) := by rfl) :
    PE X (.Call (.Attribute o m apos) [] [] pos) (L2H.tMethH C m sp E ta tNil) := by
  refine ⟨fun pins s σ H Q I h => ?_⟩
  refine PySem.W.methodCall_KW (pl := pl) (thn (he.run pins s σ H _ I h) fun u s1 ⟨x, H1, I1, rx, a, dx, fs, ex, ea, l, q⟩ => ?_) ht
  subst ex
  obtain rfl : u = Value.ref a := rx
  refine getmeth_ok I1 ea c hm l ?_
  exact PySem.W.callWith_K0 (first := [.ref a]) I1.kIn hm.kp (run_fnS (us := [.ref a]) (vs := [.ref a]) F hr hb (hx σ) I1 (.cons rfl .nil) q)
end
end L2
namespace VL
open PySem L2 PySem.Spec PyProof.Rows
/-- a method that raises Ce, its context None -/
structure VXMN (P : Program) (w : World) (K : PySem.W.Frag) (mg : Str → Option Value) (base : Heap) (k : Nat) (C : Addr) (m : Str) (ds : List D) (Ce : Addr) : Prop where
  ex : ∃ (f : Addr) (fd : FuncData) (ps : List Str), Meth K C m f ∧ Binds K fd ps [] ∧ FnOk P w K mg base (L2N.CX P w) k f fd ps (spX K ds Ce)
section
variable {P : Program} {w : World} {K : PySem.W.Frag} {mg : Str → Option Value} {base : Heap}
theorem VXMN.of {C : Addr} {m qual : Str} {st : Stmt} {N ps : List Str} {k : Nat} {ds : List D} {Ce : Addr} {ρ : RhoW} (F : DfM K C m qual st ps) (S : FnScope N ps (defScope st)) (hρ : startW N.length ds = ρ)
    (h : ∀ (f : Addr) (cdv : Value) (A : Around) (outer : List Env) (s : Shared) (H : Hp) (E : XK), Room k (cxOf (L2N.CX P w) P w K mg base N qual (defScope st) f cdv A outer s H E).A →
      L2N.Takes (cxOf (L2N.CX P w) P w K mg base N qual (defScope st) f cdv A outer s H E) (fun c d _ H => E c d H) →
      Ws (cxOf (L2N.CX P w) P w K mg base N qual (defScope st) f cdv A outer s H E) ρ (defBody st) { nx := fun _ => False, rt := fun _ => False, xs := fun c => c = .ref Ce, xw := fun c d _ H => E c d H }) (hl : ps.length = ds.length := by rfl) : VXMN P w K mg base (k + 1) C m ds Ce := by
  obtain ⟨f, fd, h1, h2, h3, h4⟩ := F.ex
  refine ⟨f, fd, ps, ⟨h1, h2, h3.kp⟩, h4, okN h3 S (fun vs H Q E q => by rw [hl]; exact q.1.1) fun cdv A outer s H vs Q E hr q => ?_⟩
  obtain ⟨r, q⟩ := q
  refine ⟨_, pss_wss, ?_⟩
  exact (h f cdv A outer s H E hr (L2N.takes_of rfl rfl rfl rfl)).run H (L2.start N vs) H _ (hρ ▸ start_env r) ⟨fun _ _ _ p => p.elim, fun _ _ _ p => p.elim, fun _ _ _ p => p.elim, fun _ _ _ _ p => p.elim, fun _ _ _ _ _ p => p.elim, fun c σ H' e _ s => by subst e; exact q H' s⟩
end
section
variable {X : Cx} {ρ : Rho} {C Ce : Addr} {xw : WX} {m : Str} {k : Nat} {e a : Expr} {es : List Expr} {p apos pos : Pos} {ks : List Str} {xds ds : List D}
theorem EvR.methN {pl : Sem Bool} (F : VXMN X.prog X.w X.K X.mg X.base k C m (.ob C ks xds :: ds) Ce) (hc : Cls X.K C) (hr : Room k X.A) (tk : L2N.Takes X xw) (h : Ev X ρ a (.ob C ks xds)) (ha : EvA X ρ (e :: es) ds)
    (hst : starEach (e :: es) X.env = (false, eval e X.env) :: starEach es X.env := by rfl) (hpl : (backTo pos (starEach es X.env)).any (·.1) = false := by rfl)
    (ht : eval (.Call (.Attribute a m apos) (e :: es) [] pos) X.env = (do
      let ov ← eval a X.env
      standAt apos.atName
      let (f, first) ← holding [ov] (getMethod ov m pl)
      callWith pos f first (backTo pos (starEach (e :: es) X.env)) (backToKw pos (keywordEach [] X.env))) := by rfl) : EvR X ρ (.Call (.Attribute a m apos) (e :: es) [] pos) Ce xw := by
  obtain ⟨f, fd, ps, h1, h3, h4⟩ := F.ex
  refine ⟨fun σ H en hx Q => we_of (pe_methA (pl := pl) pe_we hc h1 h4 hr h3 (fun σ => L2N.passAt tk σ) pa_wa hst hpl ht) (h.run σ H en _ fun v H1 s1 r1 => ?_)⟩
  have r1' := r1
  cases r1 with
  | @ob b _ dx fs _ vs _ g1 g2 g3 g6 g4 g5 =>
    refine ⟨b, dx, fs, rfl, g1, look_none h1 g6, ha.run σ H1 (en.mono s1) _ fun vs H2 s2 r2 => ?_⟩
    exact ⟨.cons (r1'.mono s2) r2, fun H' s => hx H' ((s1.trans s2).trans s)⟩
theorem EvR.methN0 {pl : Sem Bool} (F : VXMN X.prog X.w X.K X.mg X.base k C m [.ob C ks xds] Ce) (hc : Cls X.K C) (hr : Room k X.A) (tk : L2N.Takes X xw) (h : Ev X ρ a (.ob C ks xds))
    (ht : eval (.Call (.Attribute a m apos) [] [] pos) X.env = (do
      let ov ← eval a X.env
      standAt apos.atName
      let (f, first) ← holding [ov] (getMethod ov m pl)
      callWith pos f first (backTo pos (starEach [] X.env)) (backToKw pos (keywordEach [] X.env))) := by rfl) : EvR X ρ (.Call (.Attribute a m apos) [] [] pos) Ce xw := by
  obtain ⟨f, fd, ps, h1, h3, h4⟩ := F.ex
  refine ⟨fun σ H en hx Q => we_of (pe_methA0 (pl := pl) pe_we hc h1 h4 hr h3 (fun σ => L2N.passAt tk σ) ht) (h.run σ H en _ fun v H1 s1 r1 => ?_)⟩
  have r1' := r1
  cases r1 with
  | @ob b _ dx fs _ vs _ g1 g2 g3 g6 g4 g5 =>
    exact ⟨b, dx, fs, rfl, g1, look_none h1 g6, .cons r1' .nil, fun H' s => hx H' (s1.trans s)⟩
/-- ('..', e), e raises -/
theorem EvR.tupS {t : Str} {j : Nat} {p1 : Pos} {x1} (h : EvR X ρ e Ce xw) (hs : starEach [.Constant (.str t) j p1, e] X.env = (false, eval (.Constant (.str t) j p1) X.env) :: starEach [e] X.env := by rfl) (hs2 : starEach [e] X.env = (false, eval e X.env) :: starEach [] X.env := by rfl) :
    EvR X ρ (.Tuple [.Constant (.str t) j p1, e] x1 pos) Ce xw :=
  ⟨fun σ H en hx Q => we_of (pe_tup (pa_cons pe_str (pa_cons pe_we pa_nil hs2) hs)) (h.run σ H en hx _)⟩
end
section
variable {X : Cx} {ρ : RhoW} {Φ : Post} {rest body suite : List Stmt} {x n : Str} {b₀ : Stmt} {np pos pos' : Pos} {c : Value} {h₀ : ExceptHandler} {hs : List ExceptHandler}
/-- as Ws.tryAs, the caught one's context None -/
theorem Ws.tryAsN (i : Nat) (xs : Value → Prop) (hN : X.N.Nodup) (hc : Names X x c) (tk : L2N.Takes X Φ.xw)
    (hx : ∀ v, xs v → PySem.W.exmOne X.K v c = some true)
    (hb : ∀ (W : WX) (pn : List (Addr × Obj)) (xe : Value → Shared → Prop), L2N.Takes (X.tr pn xe) W → PassesOwn (model X.prog X.w) X.A X.env xe → Ws (X.tr pn xe) ρ body { nx := fun ρ => Ws X ρ rest Φ, rt := Φ.rt, xs := xs, xw := W })
    (hsu : ∀ (v : Value) (a : Addr) (oe : Obj) (pn : List (Addr × Obj)), xs v → L2N.Zn v none oe → (∃ vs, oe.data = .fields vs) → Ws (X.suite a ((a, oe) :: pn)) ((List.replicate ρ.length none).set i (some (.sh (.raw a)))) (b₀ :: suite) { nx := fun _ => False, rt := Φ.rt })
    (hs : X.stack = X.env :: X.outer := by rfl) (hf : X.env.frame = some X.env.locals := by rfl) (hi : X.N[i]? = some n := by rfl) (hln : X.env.kindOf n = some .local := by rfl) :
    Ws X ρ (.Try body [.ExceptHandler (some (.Name x np)) (some n) (b₀ :: suite) pos'] [] [] pos :: rest) Φ := ⟨fun H0 σ H D E k =>
  WSs.cons (ws_of (L2N.ps_try_as (Wout := Φ.xw) (i := i)
      (tb := fun W D σ H => ∀ (pn : List (Addr × Obj)) (xe : Value → Shared → Prop), L2N.Takes (X.tr pn xe) W → PassesOwn (model X.prog X.w) X.A X.env xe → WSs (X.tr pn xe) body σ H D)
      (ts := fun a cls d D σ H => ∀ (oe : Obj) (pn : List (Addr × Obj)), L2N.Zn cls d oe → (∃ vs, oe.data = .fields vs) → WSs (X.suite a ((a, oe) :: pn)) (b₀ :: suite) σ H D)
      hs hf hN hi hln hc tk (fun W pn xe t po => ⟨fun pins s σ H D I h => h pn xe t po pins s I⟩) (fun a oe cls d pn hz hd => ⟨fun pins s σ H D I h => h oe pn hz hd pins s I⟩)) (by
    have hl : σ.length = ρ.length := E.len
    intro pn xe t po
    refine (hb _ pn xe t po).run H0 σ H _ E ⟨fun σ' H' ρ' q l E' => q.run H0 σ' H' D E' (k.cast l.symm), fun _ _ _ q => q.elim, fun _ _ _ q => q.elim, k.rt, fun _ _ _ _ _ q => q.elim, fun v σ' H' q l s => ?_⟩
    refine ⟨true, hx v q, fun _ a na oe pn' hz hd => ?_, fun z => by cases z⟩
    refine (hsu v a oe pn' q hz hd).run H0 _ H' _ (env_raw l s) ⟨fun _ _ _ q => q.elim, fun _ _ _ q => q.elim, fun _ _ _ q => q.elim, k.rt, fun _ _ _ _ _ q => q.elim, fun _ _ _ q => q.elim⟩))⟩
/-- a try whose body lets nothing out -/
theorem Ws.tryThru (h : Ws X.nox ρ body { nx := fun ρ => Ws X ρ rest Φ, rt := Φ.rt, rs := Φ.rs }) : Ws X ρ (.Try body (h₀ :: hs) [] [] pos :: rest) Φ := ⟨fun H0 σ H D E k =>
  WSs.cons (ws_of (ps_try_thru0 (t := fun D σ H => WSs X.nox body σ H D) pss_wss) (by
    refine h.run H0 σ H _ E ⟨fun σ' H' ρ' q l E' => q.run H0 σ' H' D E' (k.cast l.symm), fun _ _ _ q => q.elim, fun _ _ _ q => q.elim, k.rt, k.rs, fun _ _ _ q => q.elim⟩))⟩
end
section
variable {X : Cx} {ρ : RhoW} {e a : Expr} {t : Str} {j : Nat} {p1 pos : Pos} {Ψ : W → RhoW → Prop} {d d1 d2 : D}
/-- ('..', e) -/
theorem EvW.tupS {x1} (h : EvW X ρ e fun w ρ' => ∃ d, w = .sh d ∧ Ψ (.sh (.tup [.str t, d])) ρ') (hs : starEach [.Constant (.str t) j p1, e] X.env = (false, eval (.Constant (.str t) j p1) X.env) :: starEach [e] X.env := by rfl) (hs2 : starEach [e] X.env = (false, eval e X.env) :: starEach [] X.env := by rfl) :
    EvW X ρ (.Tuple [.Constant (.str t) j p1, e] x1 pos) Ψ := ⟨fun H0 σ H E Q q => we_of (pe_tup (pa_cons pe_str (pa_cons pe_we pa_nil hs2) hs)) (h.run H0 σ H E _ fun v H' w ρ' p l E' => by
  obtain ⟨d, rfl, hk⟩ := p
  have hl : σ.length = ρ'.length := by have := E'.len; simpa using this
  refine ⟨by show 2 ≤ sizeLine; decide, fun tt htt => ?_⟩
  have E2 := E'.grow (Same.new (u := .tup [V.str t, v]) htt)
  obtain ⟨F, E2⟩ := E2
  obtain ⟨u, e1, r1⟩ := E2.get ρ'.length (.sh d) (by simp)
  have ev : u = v := by rw [← hl] at e1; simp at e1; exact e1.symm
  subst ev
  have nt : tt ∉ allOf F (ρ' ++ [some (W.sh d)]).length := fun z => E2.notup tt z _ upd_same
  have r2 : Rep X.K (mask (upd H' tt (.tup [V.str t, u])) (allOf F (ρ' ++ [some (W.sh d)]).length)) (.ref tt) (.tup [.str t, d]) := .tup' (by rw [mask_out nt]; exact upd_same) (.cons (.str t) (.cons r1.1 .nil))
  have E3 := E2.pushS r2
  exact q (.ref tt) _ (.sh (.tup [.str t, d])) ρ' hk l (EnvW.dropMid (τ := [some u]) (π := [some (.sh d)]) ⟨_, E3⟩ hl rfl))⟩
/-- a == e, a of what is shared, e changes things -/
theorem EvW.cmpW {op : CmpOp} {b : Bool} (ha : Ev X (hide ρ) a d1) (hc : CmpD X op d1 d2 b) (h : EvW X ρ e fun w ρ' => w = .sh d2 ∧ Ψ (.sh (.bl b)) ρ') (hm : behindInMarks op e = false := by exact nomark _) :
    EvW X ρ (.Compare a [op] [e] pos) Ψ := ⟨fun H0 σ H E Q q => by
  obtain ⟨r, ho, hr⟩ := hc
  obtain ⟨F, E0⟩ := id E
  have hl : σ.length = ρ.length := E.len
  refine we_of (pe_cmpR ho pe_we pe_we hm) ((WE.frame E0.cells (ha.run σ (mask H (allOf F ρ.length)) E0.envH (fun v M => Same (mask H (allOf F ρ.length)) M ∧ Rep X.K M v d1) fun v M s rv => ⟨s, rv⟩)).mono ?_)
  rintro x H1 ⟨M, ⟨s1, r1⟩, rfl, n1, up1⟩
  have EP := EnvA.pushO (A := []) (o := .sh d1) E0 s1 n1 (by simp) List.nodup_nil (.sh (by rw [mask_nil]; exact r1)) (show (O.sh d1).data = d1 by rw [O.data])
  obtain ⟨F1, EP⟩ := EP
  have s01 : Same H0 (mask (join M H (allOf F ρ.length)) (allOf F1 (ρ ++ [some (W.ow (.sh d1) d1)]).length)) := mask_same_of EP.same fun a ha => EP.fresh a ha
  obtain ⟨u, e1, ru⟩ := EP.get ρ.length (.ow (.sh d1) d1) (by simp)
  have ev : u = x := by rw [← hl] at e1; simp at e1; exact e1.symm
  subst ev
  have rb := ru.2.sh_inv.2
  refine h.run _ σ _ (EnvW.pop ⟨_, EP.rebase⟩) _ fun v H2 w ρ' p l E2 => ?_
  obtain ⟨rfl, hk⟩ := p
  have hl2 : σ.length = ρ'.length := by have := E2.len; simpa using this
  obtain ⟨F2, E2⟩ := E2
  obtain ⟨u2, e2, r2⟩ := E2.get ρ'.length (.sh d2) (by simp)
  have ev : u2 = v := by rw [← hl2] at e2; simp at e2; exact e2.symm
  subst ev
  refine hr u u2 H2 (rb.mono E2.same) (r2.1.mono mask_same) _ fun v3 H3 s3 r3 => ?_
  have E3 := (EnvW.unbase ⟨_, E2⟩ s01).pop.grow s3
  obtain ⟨F3, E3⟩ := E3
  obtain rfl := r3.bl_inv
  exact q _ H3 (.sh (.bl b)) ρ' hk l ⟨_, E3.pushS (.bl b)⟩⟩
end
section
variable {X : Cx} {ρ : Rho} {a : Expr} {ks : List L2.Key} {ds : List D} {d : D} {x : Str} {n : Nat} {q pos : Pos}
/-- a["..."], a a dict of such keys -/
theorem Ev.ixDd (hu : X.A.units + 1 < cLine) (ha : Ev X ρ a (.dd ks ds)) (k : Nat) (hk : ks[k]? = some (.inr x)) (hd : ds[k]? = some d) (hs : NoSl (.Constant (.str x) n q) := by exact fun _ _ => rfl) : Ev X ρ (.Subscript a (.Constant (.str x) n q) pos) d :=
  ⟨fun σ H en Q q => we_of (pe_dget hu pe_we pe_str hs) (ha.run σ H en _ fun v H1 s1 r1 => by
    cases r1 with
    | @dd b kvs vs _ _ h1 h2 h3 h4 h5 =>
      have hl := (List.getElem?_eq_some_iff.mp hk).1
      have hv : vs[k]? = some (vs[k]'(by omega)) := List.getElem?_eq_getElem (by omega)
      exact ⟨b, _, rfl, h3 k _ _ hk hv ▸ DGet.k (k := .inr x) h1, q _ H1 s1 (h5 k _ d hv hd)⟩)⟩
end
end VL
set_option Elab.async false
set_option linter.all false
set_option maxRecDepth 100000
set_option maxHeartbeats 1000000
/-! value layer, part 39: the pinned parts of own things seen as bare references; a loop over these; own triples -/
namespace VL
open PySem L2 PySem.Spec PyProof.Rows
mutual
def O.raw : O → D
  | .sh d => d
  | .ls xs => .lst (rawAll xs)
  | .tu xs => .tup (rawAll xs)
  | .ob C ks xs => .ob C ks (rawAll xs)
  | .dd ks xs => .dd ks (rawAll xs)
  | .pin a _ => .raw a
def rawAll : List O → List D
  | [] => []
  | x :: xs => x.raw :: rawAll xs
end
theorem rawAll_map : ∀ xs : List O, rawAll xs = xs.map O.raw
  | [] => by simp [rawAll]
  | x :: xs => by simp [rawAll, rawAll_map xs]
theorem RepO.raw {K : PySem.W.Frag} {H S : Hp} {v : V} {o : O} {A : List Addr} (r : RepO K H S v o A) (s : Same S H) : Rep K H v o.raw := by
  induction r with
  | sh q => rw [O.raw]; exact q.mono s
  | ls h1 h2 h3 h4 ih =>
    rw [O.raw, rawAll_map]
    refine .lst h1 (by simp [h2]) fun i v d q1 q2 => ?_
    rw [List.getElem?_map] at q2
    obtain ⟨o', e, rfl⟩ := Option.map_eq_some_iff.mp q2
    have l := (List.getElem?_eq_some_iff.mp e).1
    exact ih i v o' _ q1 e (List.getElem?_eq_getElem (by omega))
  | tu h1 h2 h3 h4 ih =>
    rw [O.raw, rawAll_map]
    refine .tup (s _ _ h1) (by simp [h2]) fun i v d q1 q2 => ?_
    rw [List.getElem?_map] at q2
    obtain ⟨o', e, rfl⟩ := Option.map_eq_some_iff.mp q2
    have l := (List.getElem?_eq_some_iff.mp e).1
    exact ih i v o' _ q1 e (List.getElem?_eq_getElem (by omega))
  | ob h1 h2 hz h3 h4 h5 h6 h7 h8 ih =>
    rw [O.raw, rawAll_map]
    refine .ob h1 h3 h4 h5 (by simp [h6]) fun i v d q1 q2 => ?_
    rw [List.getElem?_map] at q2
    obtain ⟨o', e, rfl⟩ := Option.map_eq_some_iff.mp q2
    have l := (List.getElem?_eq_some_iff.mp e).1
    exact ih i v o' _ q1 e (List.getElem?_eq_getElem (by omega))
  | dd h1 h2 h3 h4 h5 h6 ih =>
    rw [O.raw, rawAll_map]
    refine .dd (s _ _ h1) h2 h3 (by simp [h4]) fun i v d q1 q2 => ?_
    rw [List.getElem?_map] at q2
    obtain ⟨o', e, rfl⟩ := Option.map_eq_some_iff.mp q2
    have l := (List.getElem?_eq_some_iff.mp e).1
    exact ih i v o' _ q1 e (List.getElem?_eq_getElem (by omega))
  | pin r ih => rw [O.raw]; exact .raw _
def rawW : Option W → Option D
  | some (.sh d) => some d
  | some (.ow o _) => some o.raw
  | none => none
def raws (ρ : RhoW) : Rho := ρ.map rawW
section
variable {K : PySem.W.Frag} {H0 H : Hp} {σ : L2.St} {ρ : RhoW}
theorem EnvW.envRaw (E : EnvW K H0 σ H ρ) : EnvS K σ H (raws ρ) := by
  obtain ⟨F, E⟩ := E
  refine ⟨by unfold raws; rw [List.length_map]; exact E.len, fun i d h => ?_⟩
  unfold raws at h
  rw [List.getElem?_map] at h
  obtain ⟨q, e, hq⟩ := Option.map_eq_some_iff.mp h
  cases q with
  | none => cases hq
  | some w =>
    obtain ⟨v, h1, r⟩ := E.get i _ e
    refine ⟨v, h1, ?_⟩
    cases w with
    | sh d' =>
      obtain rfl : d' = d := Option.some.inj hq
      exact r.1.mono mask_same
    | ow o d' =>
      obtain rfl : o.raw = d := Option.some.inj hq
      exact r.2.raw mask_same
/-- its parts are shared, itself is not -/
theorem RepO.kids {S M : Hp} {v : V} {os : List O} {A : List Addr} (r : RepO K H S v (.ls os) A) (hm : ∀ b, v = .ref b → ∀ c ∈ A, c ≠ b → ∀ u, H c = some u → M c = some u) (s : Same S M) (nd : A.Nodup) :
    ∃ b, v = .ref b ∧ b ∈ A ∧ RepO K H M v (oL (os.map O.data)) [b] := by
  cases r with
  | @ls b vs _ As h1 h2 h3 h4 =>
    refine ⟨b, rfl, List.mem_cons_self .., ?_⟩
    obtain ⟨nb, nd'⟩ := List.nodup_cons.mp nd
    have := RepO.ls (K := K) (H := H) (S := M) (a := b) (vs := vs) (os := (os.map O.data).map O.sh) (As := (os.map O.data).map fun _ => []) h1 (by simp [h2]) (by simp) fun i w o B q1 q2 q3 => by
      rw [List.getElem?_map, List.getElem?_map] at q2
      rw [List.getElem?_map, List.getElem?_map] at q3
      obtain ⟨o1, e1, rfl⟩ := Option.map_eq_some_iff.mp q2
      obtain ⟨o2, e2, rfl⟩ := Option.map_eq_some_iff.mp e1
      have l := (List.getElem?_eq_some_iff.mp e2).1
      have hB : As[i]? = some As[i] := List.getElem?_eq_getElem (by omega)
      rw [e1] at q3
      obtain rfl : [] = B := by simpa [e2] using q3
      refine .sh ?_
      have ri := h4 i w o2 _ q1 e2 hB
      have inA : ∀ c ∈ As[i], c ∈ As.flatten := fun c hc => List.mem_flatten.mpr ⟨_, List.mem_of_getElem? hB, hc⟩
      exact ri.into (fun c hc u e => hm b rfl c (List.mem_cons_of_mem _ (inA c hc)) (fun z => nb (z ▸ inA c hc)) u e) s
    rw [flat_nil] at this
    exact this
theorem EnvW.shareK (E : EnvW K H0 σ H ρ) {i : Nat} {os : List O} {d d' : D} (hi : ρ[i]? = some (some (.ow (.ls os) d))) (hd : (O.ls os).data = d') : EnvW K H0 σ H (ρ.set i (some (.ow (oL (os.map O.data)) d'))) := by
  obtain ⟨F, E⟩ := E
  have hi' := (List.getElem?_eq_some_iff.mp hi).1
  obtain ⟨v, h1, r⟩ := E.get i _ hi
  obtain ⟨b, hvb, hbF⟩ : ∃ b, v = .ref b ∧ b ∈ F i := by
    have r2 := r.2
    generalize F i = Fi at r2
    cases r2 with
    | ls _ _ _ _ => exact ⟨_, rfl, List.mem_cons_self ..⟩
  let G : Nat → List Addr := fun j => if j = i then [b] else F j
  have sub : ∀ a ∈ allOf G (ρ.set i (some (.ow (oL (os.map O.data)) d'))).length, a ∈ allOf F ρ.length ∧ (a ∈ F i → a = b) := fun a ha => by
    obtain ⟨j, hj, h1⟩ := mem_allOf.mp ha
    dsimp only [G] at h1
    split at h1
    · have : a = b := by simpa using h1
      exact ⟨this ▸ E.mem hbF, fun _ => this⟩
    · exact ⟨E.mem h1, fun z => by have := E.dj _ _ _ h1 z; contradiction⟩
  refine ⟨G, by simp [E.len], fun j => ?_, fun j j' a h1 h2 => ?_, fun a ha => E.fresh a (sub a ha).1, E.same, fun j w hw => ?_, fun j hj => ?_⟩
  · dsimp only [G]
    split
    · simp
    · exact E.nd j
  · have key : ∀ j, a ∈ G j → a ∈ F j := fun j h => by
      dsimp only [G] at h
      split at h
      · rename_i e; subst e
        have : a = b := by simpa using h
        exact this ▸ hbF
      · exact h
    exact E.dj j j' a (key _ h1) (key _ h2)
  · rw [List.getElem?_set] at hw
    by_cases e : i = j
    · subst e
      rw [if_pos rfl, if_pos hi'] at hw
      obtain rfl := Option.some.inj (Option.some.inj hw)
      obtain ⟨b2, e2, _, rk⟩ := RepO.kids (M := mask H (allOf G (ρ.set i (some (.ow (oL (os.map O.data)) d'))).length)) r.2 (fun b3 e3 c hc hne u e => by
        rw [mask_out (fun z => ?_)]
        · exact e
        · have := (sub c z).2 hc
          rw [hvb] at e3
          cases e3
          exact hne this) (mask_sub fun a ha => (sub a ha).1) (E.nd i)
      rw [hvb] at e2
      cases e2
      refine ⟨v, h1, ?_, by dsimp only [G]; rw [if_pos rfl]; exact rk⟩
      rw [oL_data]
      rw [← hd, O.data, dataAll_map]
    · rw [if_neg e] at hw
      obtain ⟨v, h1, r⟩ := E.get j w hw
      refine ⟨v, h1, ?_⟩
      dsimp only [G]
      rw [if_neg (Ne.symm e)]
      exact r.keep (fun _ _ _ z => z) (mask_sub fun a ha => (sub a ha).1)
  · dsimp only [G]
    split
    · rename_i e
      subst e
      exact absurd (List.getElem?_set_self hi') (hj _)
    · rename_i e
      refine E.off j fun w z => hj w ?_
      rw [List.getElem?_set_ne (Ne.symm e)]
      exact z
/-- another word for what stands in a slot -/
theorem EnvW.recast (E : EnvW K H0 σ H ρ) {i : Nat} {o o' : O} {d d' : D} (hi : ρ[i]? = some (some (.ow o d))) (hd : o'.data = d') (h : ∀ (v : V) (H S : Hp) (A : List Addr), σ[i]? = some (some v) → RepO K H S v o A → RepO K H S v o' A) : EnvW K H0 σ H (ρ.set i (some (.ow o' d'))) := by
  obtain ⟨F, E⟩ := E
  have hi' := (List.getElem?_eq_some_iff.mp hi).1
  refine ⟨F, by simp [E.len], E.nd, E.dj, by simpa using E.fresh, E.same, fun j x hj => ?_, fun j hj => ?_⟩
  · rw [List.length_set]
    by_cases e : j = i
    · subst e
      rw [List.getElem?_set_self hi'] at hj
      obtain rfl := Option.some.inj (Option.some.inj hj)
      obtain ⟨v, h1, h2⟩ := E.get j _ hi
      exact ⟨_, h1, hd, h v _ _ _ h1 h2.2⟩
    · rw [List.getElem?_set_ne (Ne.symm e)] at hj
      exact E.get j x hj
  · by_cases e : j = i
    · subst e
      exact absurd (List.getElem?_set_self hi') (hj _)
    · exact E.off j fun x z => hj x (by rw [List.getElem?_set_ne (Ne.symm e)]; exact z)
end
def O.isLs : O → Bool
  | .ls _ => true
  | .ob _ _ _ => true
  | .dd _ _ => true
  | _ => false
theorem RepO.ls_ref {K : PySem.W.Frag} {H S : Hp} {v : V} {o : O} {A : List Addr} (r : RepO K H S v o A) (h : o.isLs = true) : ∃ a, v = .ref a := by
  cases r with
  | ls _ _ _ _ => exact ⟨_, rfl⟩
  | ob _ _ _ _ _ _ _ _ _ => exact ⟨_, rfl⟩
  | dd _ _ _ _ _ _ => exact ⟨_, rfl⟩
  | _ => cases h
def refA : V → Addr
  | .ref a => a
  | _ => default
/-- the parts of a list pinned -/
theorem RepO.pinLs {K : PySem.W.Frag} {H S : Hp} {v : V} {os : List O} {A : List Addr} (r : RepO K H S v (.ls os) A) (h : ∀ o ∈ os, o.isLs = true) : ∃ as : List Addr, as.length = os.length ∧ RepO K H S v (.ls (List.zipWith O.pin as os)) A := by
  cases r with
  | @ls b vs _ As h1 h2 h3 h4 =>
    refine ⟨vs.map refA, by simp [h2], .ls h1 (by simp [h2]) (by simp [h2, h3]) fun i w o B q1 q2 q3 => ?_⟩
    rw [List.getElem?_zipWith, List.getElem?_map, q1] at q2
    have li : i < os.length := by rw [← h2]; exact (List.getElem?_eq_some_iff.mp q1).1
    have ho : os[i]? = some os[i] := List.getElem?_eq_getElem li
    rw [ho] at q2
    obtain rfl : O.pin (refA w) os[i] = o := by simpa using q2
    have ri := h4 i w _ B q1 ho q3
    obtain ⟨a, rfl⟩ := ri.ls_ref (h _ (List.mem_of_getElem? ho))
    exact .pin ri
theorem RepO.pinTu {K : PySem.W.Frag} {H S : Hp} {v : V} {os : List O} {A : List Addr} (r : RepO K H S v (.tu os) A) (h : ∀ o ∈ os, o.isLs = true) : ∃ as : List Addr, as.length = os.length ∧ RepO K H S v (.tu (List.zipWith O.pin as os)) A := by
  cases r with
  | @tu b vs _ As h1 h2 h3 h4 =>
    refine ⟨vs.map refA, by simp [h2], .tu h1 (by simp [h2]) (by simp [h2, h3]) fun i w o B q1 q2 q3 => ?_⟩
    rw [List.getElem?_zipWith, List.getElem?_map, q1] at q2
    have li : i < os.length := by rw [← h2]; exact (List.getElem?_eq_some_iff.mp q1).1
    have ho : os[i]? = some os[i] := List.getElem?_eq_getElem li
    rw [ho] at q2
    obtain rfl : O.pin (refA w) os[i] = o := by simpa using q2
    have ri := h4 i w _ B q1 ho q3
    obtain ⟨a, rfl⟩ := ri.ls_ref (h _ (List.mem_of_getElem? ho))
    exact .pin ri
theorem pin_data : ∀ {as : List Addr} {os : List O}, as.length = os.length → dataAll (List.zipWith O.pin as os) = dataAll os
  | [], [], _ => rfl
  | [], _ :: _, h => by cases h
  | _ :: _, [], h => by cases h
  | a :: as, o :: os, h => by
    simp only [List.zipWith_cons_cons]
    rw [dataAll, dataAll, O.data, pin_data (by simpa using h)]
theorem pin_raw : ∀ {as : List Addr} {os : List O}, as.length = os.length → rawAll (List.zipWith O.pin as os) = as.map D.raw
  | [], [], _ => rfl
  | [], _ :: _, h => by cases h
  | _ :: _, [], h => by cases h
  | a :: as, o :: os, h => by
    simp only [List.zipWith_cons_cons, List.map_cons]
    rw [rawAll, O.raw, pin_raw (by simpa using h)]
theorem RepO.atPin {K : PySem.W.Frag} {H S : Hp} {a : Addr} {o1 : O} : ∀ {p : List Pe} {v : V} {o : O} {A : List Addr}, RepO K H S v o A → Same S H → o.okP p → o.sub p = some (.pin a o1) → At H (.ref a) p v
  | [], v, o, A, r, s, _, h => by
    obtain rfl := Option.some.inj h
    cases r with
    | pin _ => rfl
  | q :: p, v, o, A, r, s, ok, h => by
    unfold O.sub at h
    obtain ⟨x, hx, h⟩ := Option.bind_eq_some_iff.mp h
    obtain ⟨ok1, ok2⟩ := ok
    have ok2 := ok2 x hx
    have key : ∀ (vs : List V) (xs : List O) (As : List (List Addr)), vs.length = xs.length → As.length = xs.length →
        (∀ (i : Nat) v o A, vs[i]? = some v → xs[i]? = some o → As[i]? = some A → RepO K H S v o A) → xs[q.n]? = some x → ∃ w, vs[q.n]? = some w ∧ At H (.ref a) p w := by
      intro vs xs As l1 l2 hr hxk
      have hk := (List.getElem?_eq_some_iff.mp hxk).1
      have hw : vs[q.n]? = some vs[q.n] := List.getElem?_eq_getElem (by omega)
      have hB : As[q.n]? = some As[q.n] := List.getElem?_eq_getElem (by omega)
      exact ⟨_, hw, RepO.atPin (hr q.n _ _ _ hw hxk hB) s ok2 h⟩
    cases r with
    | sh q => cases hx
    | @ls b vs xs As h1 h2 h3 h4 =>
      cases q with
      | ix k =>
        obtain ⟨w, q0, q1⟩ := key vs xs As h2 h3 h4 hx
        exact ⟨w, ⟨b, vs, rfl, .inl h1, q0⟩, q1⟩
      | fld C k f => exact ok1.elim
      | pin => exact ok1.elim
      | key k y => exact ok1.elim
    | @tu b vs xs As h1 h2 h3 h4 =>
      cases q with
      | ix k =>
        obtain ⟨w, q0, q1⟩ := key vs xs As h2 h3 h4 hx
        exact ⟨w, ⟨b, vs, rfl, .inr (s _ _ h1), q0⟩, q1⟩
      | fld C k f => exact ok1.elim
      | pin => exact ok1.elim
      | key k y => exact ok1.elim
    | @ob b C dx fs ks vs xs As h1 h2 hz h3 h4 h5 h6 h7 h8 =>
      cases q with
      | ix k => exact ok1.elim
      | pin => exact ok1.elim
      | key k y => exact ok1.elim
      | fld C' k f =>
        obtain ⟨w, q0, q1⟩ := key vs xs As h6 h7 h8 hx
        obtain ⟨rfl, hf⟩ := ok1
        exact ⟨w, ⟨b, dx, fs, rfl, h1, h4 k f w hf q0⟩, q1⟩
    | @dd b kvs vs ks xs As h1 h2 h3 h4 h5 h6 =>
      cases q with
      | ix k => exact ok1.elim
      | fld C k f => exact ok1.elim
      | pin => exact ok1.elim
      | key k y =>
        obtain ⟨w, q0, q1⟩ := key vs xs As h4 h5 h6 hx
        exact ⟨w, ⟨b, kvs, rfl, s _ _ h1, h3 k y w ok1 q0⟩, q1⟩
    | @pin b o2 A2 r2 =>
      cases q with
      | ix k => exact ok1.elim
      | fld C k f => exact ok1.elim
      | key k y => exact ok1.elim
      | pin =>
        obtain rfl : o2 = x := by simpa [O.kid, Pe.n] using hx
        exact ⟨.ref b, rfl, RepO.atPin r2 s ok2 h⟩
theorem O.sub_snoc {q : Pe} : ∀ {p : List Pe} {o x : O}, o.sub p = some x → o.sub (p ++ [q]) = x.kid q.n
  | [], o, x, h => by
    obtain rfl := Option.some.inj h
    show (o.kid q.n).bind (fun x => x.sub []) = _
    cases o.kid q.n <;> rfl
  | r :: p, o, x, h => by
    unfold O.sub at h
    obtain ⟨y, hy, h⟩ := Option.bind_eq_some_iff.mp h
    show (o.kid r.n).bind (fun x => x.sub (p ++ [q])) = _
    rw [hy]
    exact O.sub_snoc h
theorem O.okP_snoc {q : Pe} : ∀ {p : List Pe} {o x : O}, o.okP p → o.sub p = some x → x.okK q → o.okP (p ++ [q])
  | [], o, x, _, h, k => by
    obtain rfl := Option.some.inj h
    exact ⟨k, fun y _ => trivial⟩
  | r :: p, o, x, ⟨h1, h2⟩, h, k => by
    unfold O.sub at h
    obtain ⟨y, hy, h⟩ := Option.bind_eq_some_iff.mp h
    exact ⟨h1, fun z hz => by
      rw [hy] at hz
      obtain rfl := Option.some.inj hz
      exact O.okP_snoc (h2 _ hy) h k⟩
theorem O.put_snoc {a : Addr} {n : O} {x : O} : ∀ {p : List Pe} {o : O}, o.sub p = some (.pin a x) → o.put n (p ++ [.pin]) = o.put (.pin a n) p
  | [], o, h => by
    obtain rfl := Option.some.inj h
    rfl
  | r :: p, o, h => by
    unfold O.sub at h
    obtain ⟨y, hy, h⟩ := Option.bind_eq_some_iff.mp h
    show (match o.kid r.n with | some x => o.setKid r.n (x.put n (p ++ [.pin])) | none => o) = match o.kid r.n with | some x => o.setKid r.n (x.put (.pin a n) p) | none => o
    rw [hy]
    show o.setKid r.n (y.put n (p ++ [.pin])) = o.setKid r.n (y.put (.pin a n) p)
    rw [O.put_snoc h]
section
variable {X : Cx} {ρ : RhoW} {Φ : Post} {rest body : List Stmt} {e : Expr} {pos cpos apos : Pos} {d d' d1 : D} {o : O} {ds : List D} {p : List Pe} {Ψ : W → RhoW → Prop}
/-- a new thing put together in another sight of the slots -/
theorem EvW.sight {r : Rho} (hr : ∀ (H0 : Hp) (σ : L2.St) (H : Hp), EnvW X.K H0 σ H ρ → EnvS X.K σ H r) (h : EvO X r e o) (hf : o.free = true) (hd : o.data = d) (k : Ψ (.ow o d) ρ) : EvW X ρ e Ψ := ⟨fun H0 σ H E Q q => by
  have en := hr _ _ _ E
  obtain ⟨F, E⟩ := E
  refine h.run σ H en _ fun v H' A s f nd r => ?_
  have nA : ∀ a ∈ A, a ∉ allOf F ρ.length := fun a ha z => by
    exact E.cells.some z (f a ha)
  refine q v H' (.ow o d) ρ k rfl ⟨_, E.push (B := A) (fun a ha u e => s a u e) (fun b u e => ?_) f nd ?_⟩
  · obtain ⟨e1, e2⟩ := mask_some e
    have hbA : b ∉ A := fun z => by rw [f b z] at e1; cases e1
    rw [mask_out (fun z => (List.mem_append.mp z).elim e2 hbA)]
    exact s b u e1
  · exact ⟨hd, RepO.maskF r hf ((E.cells.up fun a _ u e => s a u e).app r.cells) fun a ha => List.mem_append_right _ ha⟩⟩
theorem EvW.rawO (h : EvO X (raws ρ) e o) (hf : o.free = true) (hd : o.data = d) (k : Ψ (.ow o d) ρ) : EvW X ρ e Ψ := .sight (fun _ _ _ E => E.envRaw) h hf hd k
/-- a loop over a new list -/
theorem Ws.forW {tg iter : Expr} {items : List D} (Iv : Nat → RhoW → Prop) (is : List Nat) (bs : Nat → List D) (hp : PassesOwn (model X.prog X.w) X.A X.env X.xe) (hc : X.calm = true) (hi : EvW X ρ iter fun w ρ' => (∃ d1, w = .ow (oL items) d1) ∧ Iv 0 ρ')
    (hg : ∀ i d, items[i]? = some d → EvG X tg d is (bs i))
    (hb : ∀ i d ρ', items[i]? = some d → Iv i ρ' → ρ'.length = ρ.length → Ws X (setW ρ' is (bs i)) body { nx := Iv (i + 1), rt := Φ.rt, bk := fun ρ => Ws X ρ rest Φ, ct := Iv (i + 1), rs := Φ.rs, xs := Φ.xs, xw := Φ.xw })
    (hd : ∀ ρ', Iv items.length ρ' → ρ'.length = ρ.length → Ws X ρ' rest Φ) (hs : ∀ x, foldedSetIterable iter X.env x = pure x := by intro _; rfl) : Ws X ρ (.For tg iter body [] pos :: rest) Φ := ⟨fun H0 σ H D E0 k => by
  refine WSs.cons (ws_of (ps_for hp hc (pi_list pe_we) pg_wg pss_wss hs) ?_)
  refine hi.run H0 σ H E0 _ fun v H1 w ρ0 h0 l0 E1 => ?_
  obtain ⟨⟨dd, rfl⟩, iv0⟩ := h0
  have hl := E1.len
  simp at hl
  have E2 := E1.share (i := ρ0.length) (o := oL items) (d := dd) (by simp)
  rw [List.set_append_right _ _ (Nat.le_refl _), Nat.sub_self, List.set_cons_zero] at E2
  obtain ⟨F, E3⟩ := E2
  obtain ⟨u, hu, ru⟩ := E3.get ρ0.length (.sh dd) (by simp)
  obtain rfl : v = u := by rw [← hl] at hu; simpa using hu
  have hdd : dd = .lst items := by
    obtain ⟨F', E1'⟩ := E1
    obtain ⟨_, _, r1⟩ := E1'.get ρ0.length (.ow (oL items) dd) (by simp)
    rw [← r1.1, oL_data]
  subst hdd
  obtain ⟨a, vs, rfl, ha, rs⟩ := ru.1.lst_inv
  generalize hM : mask H1 (allOf F (ρ0 ++ [some (W.sh (.lst items))]).length) = M at ha rs
  have E4 := E3.rebase
  rw [hM] at E4
  have s0 : Same H0 M := fun b z e => by
    rw [← hM, mask_out (fun y => by rw [E3.fresh b y] at e; cases e)]
    exact E3.same b z e
  have E5 : EnvW X.K M σ H1 ρ0 := EnvW.pop ⟨F, E4⟩
  refine ⟨a, rfl, ⟨vs, SqL.of (mask_same _ _ (hM ▸ ha))⟩, ?_⟩
  have hlen := rs.1
  refine for_it (g := WG X tg) (tb := fun D σ H => WSs X body σ H D) (D := { D with nx := fun σ' H' => WSs X rest σ' H' D }) (walk_list (K := X.K) (a := a) (xs := vs)) (fun i σ' H' => ∃ ρ', Iv i ρ' ∧ ρ'.length = ρ.length ∧ EnvW X.K M σ' H' ρ') ⟨ρ0, iv0, l0, E5⟩ (fun i σ' H' _ ⟨ρ', _, _, E'⟩ => ?_) (fun i x σ' H' H2 hlt ⟨ρ', iv, lr, E'⟩ y => ?_) (fun σ' H' ⟨ρ', iv, lr, E'⟩ => ?_)
  · obtain ⟨F', E'⟩ := E'
    exact SqL.of (E'.same _ _ ha)
  · obtain ⟨F', E'⟩ := E'
    obtain ⟨rfl, hx⟩ := y
    have hd' : items[i]? = some (items[i]'(by omega)) := List.getElem?_eq_getElem (by omega)
    generalize items[i]'(by omega) = di at hd'
    have rd' : Rep X.K (mask H2 (allOf F' ρ'.length)) x di := (rs.2 i x di hx hd').mono (mask_same_of E'.same E'.fresh)
    show WG X tg x σ' H2 _
    refine (hg i di hd').run σ' H2 _ x mask_same rd' _ fun vs rs => ?_
    have E4 : EnvW X.K M (setAll σ' is vs) H2 (setW ρ' is (bs i)) := EnvW.store E' (Same.refl _) rs
    refine (hb i di ρ' hd' iv lr).run M _ H2 _ E4 ⟨fun σ H ρ'' q l E => ⟨ρ'', q, by rw [l, setW_length, lr], E⟩, fun σ H ρ'' q l E => ?_, fun σ H ρ'' q l E => ⟨ρ'', q, by rw [l, setW_length, lr], E⟩, fun o v H A q s f nd r => ?_, fun σ v w H ρ'' q l E => ?_, fun c σ H q l s => k.ex c σ H q (by rw [l, setW_length, lr]) (s0.trans s)⟩
    · exact q.run H0 σ H D (E.unbase s0) (k.cast (by rw [l, setW_length, lr]))
    · exact k.rt o v H A q (s0.trans s) (fun a ha => s0.free (f a ha)) nd r
    · exact k.rs σ v w H ρ'' q (by rw [l, setW_length, lr]) (E.unbase s0)
  · rw [hlen] at iv
    exact (hd ρ' iv lr).run H0 σ' H' D (E'.unbase s0) (k.cast lr.symm)⟩
/-- x.append(e), x the address of a pinned list at a place of slot i -/
theorem Ws.appendRaw {x : Str} {q1 q2 : Pos} {a : Addr} (j i : Nat) (p : List Pe) (hj : ρ[j]? = some (some (.sh (.raw a)))) (he : Ev X (VL.bor ρ) e d) (hf : d.free = true) (hs : o.sub p = some (.pin a (oL ds))) (hp : o.okP p) (hd : (o.put (.pin a (oL (ds ++ [d]))) p).data = d') (k : Ws X (ρ.set i (some (.ow (o.put (.pin a (oL (ds ++ [d]))) p) d'))) rest Φ)
    (hz : ds.length < 100000) (hρ : ρ[i]? = some (some (.ow o d1))) (hN : X.N[j]? = some x := by rfl) (hpv : PE X (.Name x q1) (tVar j) := by exact pv _)
    (hpe : ∀ {t2}, PE X (.Name x q1) (tVar j) → PE X e t2 → PE X (.Call (.Attribute (.Name x q1) "append" apos) [e] [] cpos) (tBM X.K "list" rAppend (tVar j) (tCons t2 tNil)) := by
      intro t2 h1 h2; exact pe_bm PySem.F.plainAttrs_list PySem.F.slot_list_append PySem.F.type_list_append mt_append h1 (pa_cons h2 pa_nil))
    (hsw : swapsWith (.Call (.Attribute (.Name x q1) "append" apos) [e] [] cpos) none pos.line X.env = pure false := by rfl) : Ws X ρ (.Expr (.Call (.Attribute (.Name x q1) "append" apos) [e] [] cpos) pos :: rest) Φ := ⟨fun H0 σ H D E kk =>
  WSs.cons (ws_of (ps_expr (hpe hpv pe_we) hsw) (by
    have hs' : o.sub (p ++ [.pin]) = some (oL ds) := O.sub_snoc hs
    have hp' : o.okP (p ++ [.pin]) := O.okP_snoc hp hs trivial
    have hput : ∀ n, o.put n (p ++ [.pin]) = o.put (.pin a n) p := fun n => O.put_snoc hs
    have main : ∀ H2, EnvW X.K H0 σ H2 ρ → ∃ (F : Nat → List Addr) (E2 : EnvA X.K H0 σ H2 ρ F) (vs : List V), H2 a = some (.lst vs) ∧ Reps X.K (mask H2 (allOf F ρ.length)) vs ds ∧
        ∀ vs' ds', Reps X.K (mask H2 (allOf F ρ.length)) vs' ds' → (o.put (.pin a (oL ds')) p).data = d' → EnvA X.K H0 σ (upd H2 a (.lst vs')) (ρ.set i (some (.ow (o.put (.pin a (oL ds')) p) d'))) F := by
      rintro H2 ⟨F, E1⟩
      obtain ⟨v, b, vs, hσ, hat, ha, rs, K'⟩ := E1.mutP (d' := d') hρ hp' hs'
      obtain ⟨w, hw1, hw2⟩ := hat.snoc
      obtain rfl : (V.ref b) = w := hw2
      obtain ⟨v2, hσ2, rv⟩ := E1.get i _ hρ
      obtain rfl : v = v2 := by rw [hσ] at hσ2; simpa using hσ2
      have := RepO.atPin rv.2 mask_same hp hs
      obtain rfl : b = a := by have := this.det (Same.refl _) hw1; simpa using this
      refine ⟨F, E1, vs, ha, rs, fun vs' ds' r hd => ?_⟩
      have := (K' vs' ds' r (by rw [hput]; exact hd)).1
      rw [hput] at this
      exact this
    have hσj : σ[j]? = some (some (.ref a)) := by
      obtain ⟨F, E1⟩ := E
      obtain ⟨v, h1, r⟩ := E1.get j _ hj
      rw [h1]
      have := r.1
      cases this
      rfl
    obtain ⟨F, E1, vs, ha, _, _⟩ := main H E
    refine ⟨.ref a, hσj, .inl ⟨rfl, vs, SqL.of ha⟩, he.run σ H E1.envB _ fun u H2 s2 ru => ?_⟩
    obtain ⟨F2, E2, vs', ha', rs', K'⟩ := main H2 (E.grow s2)
    refine ⟨a, vs', u, rfl, rfl, ha', by rw [rs'.1]; exact Nat.lt_of_lt_of_le hz (by decide), ?_⟩
    exact k.run H0 σ _ D ⟨_, K' _ _ (rs'.append (.cons (ru.maskF hf E2.notup) .nil)) hd⟩ (kk.cast (by simp))))⟩
theorem Ws.shareK {i : Nat} {os : List O} (hi : ρ[i]? = some (some (.ow (.ls os) d))) (hd : (O.ls os).data = d') (h : Ws X (ρ.set i (some (.ow (oL (os.map O.data)) d'))) body Φ) : Ws X ρ body Φ := ⟨fun H0 σ H D E k => h.run H0 σ H D (E.shareK hi hd) (k.cast (by simp))⟩
theorem Ws.pinLs {i : Nat} {os : List O} (hi : ρ[i]? = some (some (.ow (.ls os) d))) (hd : (O.ls os).data = d') (hls : ∀ o ∈ os, o.isLs = true) (h : ∀ as : List Addr, as.length = os.length → Ws X (ρ.set i (some (.ow (.ls (List.zipWith O.pin as os)) d'))) body Φ) : Ws X ρ body Φ := ⟨fun H0 σ H D E k => by
  obtain ⟨F, E1⟩ := id E
  obtain ⟨v, h1, r⟩ := E1.get i _ hi
  have hi' := (List.getElem?_eq_some_iff.mp hi).1
  obtain ⟨as, l, r2⟩ := r.2.pinLs hls
  refine (h as l).run H0 σ H D ⟨F, by simp [E1.len], E1.nd, E1.dj, by simpa using E1.fresh, E1.same, fun j x hj => ?_, fun j hj => ?_⟩ (k.cast (by simp))
  · rw [List.length_set]
    by_cases e : j = i
    · subst e
      rw [List.getElem?_set_self hi'] at hj
      obtain rfl := Option.some.inj (Option.some.inj hj)
      exact ⟨_, h1, by rw [O.data, pin_data l, ← hd, O.data], r2⟩
    · rw [List.getElem?_set_ne (Ne.symm e)] at hj
      exact E1.get j x hj
  · by_cases e : j = i
    · subst e
      exact absurd (List.getElem?_set_self hi') (hj _)
    · exact E1.off j fun x z => hj x (by rw [List.getElem?_set_ne (Ne.symm e)]; exact z)⟩
theorem Ws.pinTu {i : Nat} {os : List O} (hi : ρ[i]? = some (some (.ow (.tu os) d))) (hd : (O.tu os).data = d') (hls : ∀ o ∈ os, o.isLs = true) (h : ∀ as : List Addr, as.length = os.length → Ws X (ρ.set i (some (.ow (.tu (List.zipWith O.pin as os)) d'))) body Φ) : Ws X ρ body Φ := ⟨fun H0 σ H D E k => by
  obtain ⟨F, E1⟩ := id E
  obtain ⟨v, h1, r⟩ := E1.get i _ hi
  have hi' := (List.getElem?_eq_some_iff.mp hi).1
  obtain ⟨as, l, r2⟩ := r.2.pinTu hls
  refine (h as l).run H0 σ H D ⟨F, by simp [E1.len], E1.nd, E1.dj, by simpa using E1.fresh, E1.same, fun j x hj => ?_, fun j hj => ?_⟩ (k.cast (by simp))
  · rw [List.length_set]
    by_cases e : j = i
    · subst e
      rw [List.getElem?_set_self hi'] at hj
      obtain rfl := Option.some.inj (Option.some.inj hj)
      exact ⟨_, h1, by rw [O.data, pin_data l, ← hd, O.data], r2⟩
    · rw [List.getElem?_set_ne (Ne.symm e)] at hj
      exact E1.get j x hj
  · by_cases e : j = i
    · subst e
      exact absurd (List.getElem?_set_self hi') (hj _)
    · exact E1.off j fun x z => hj x (by rw [List.getElem?_set_ne (Ne.symm e)]; exact z)⟩
/-- an own thing of which the reference is known by name -/
theorem Ws.pin0 {i : Nat} (hi : ρ[i]? = some (some (.ow o d))) (hls : o.isLs = true) (h : ∀ a : Addr, Ws X (ρ.set i (some (.ow (.pin a o) d))) body Φ) : Ws X ρ body Φ := ⟨fun H0 σ H D E k => by
  obtain ⟨F, E1⟩ := id E
  obtain ⟨v, h1, r⟩ := E1.get i _ hi
  obtain ⟨a, rfl⟩ := r.2.ls_ref hls
  exact (h a).run H0 σ H D (E.pinned hi h1) (k.cast (by simp))⟩
end
end VL
set_option Elab.async false
set_option linter.all false
set_option maxRecDepth 100000
set_option maxHeartbeats 1000000
/-! value layer, part 40: own tuples of any length put together and taken apart -/
namespace VL
open PySem L2 PySem.Spec PyProof.Rows
theorem nodup_flatF {F : Nat → List Addr} (nd : ∀ i, (F i).Nodup) (dj : ∀ i j a, a ∈ F i → a ∈ F j → i = j) (n : Nat) : ∀ m, ((List.range m).map fun t => F (n + t)).flatten.Nodup
  | 0 => by simp
  | m + 1 => by
    rw [List.range_succ, List.map_append, List.flatten_append]
    refine List.nodup_append.mpr ⟨nodup_flatF nd dj n m, by simpa using nd _, fun a h1 b h2 e => ?_⟩
    subst e
    obtain ⟨l, hl, ha⟩ := List.mem_flatten.mp h1
    obtain ⟨t, ht, rfl⟩ := List.mem_map.mp hl
    have := dj _ _ _ ha (show a ∈ F (n + m) by simpa using h2)
    have := List.mem_range.mp ht
    omega
section
variable {K : PySem.W.Frag} {H0 H : Hp} {σ : L2.St} {ρ : RhoW} {v : V} {d : D}
theorem EnvW.tuple {vs : List V} {ws : List W} {q : Addr} (E : EnvW K H0 (σ ++ vs.map some) H (ρ ++ ws.map some)) (hl : σ.length = ρ.length) (hv : vs.length = ws.length) (hq : H q = none) (hd : (O.tu (ws.map W.toO)).data = d) :
    EnvW K H0 (σ ++ [some (.ref q)]) (upd H q (.tup vs)) (ρ ++ [some (.ow (.tu (ws.map W.toO)) d)]) := by
  obtain ⟨F, E⟩ := E
  generalize hn : ρ.length = n at *
  let As := (List.range ws.length).map fun t => F (n + t)
  let G : Nat → List Addr := fun k => if k = n then As.flatten else if n < k then [] else F k
  have Gn : G n = As.flatten := if_pos rfl
  have Go : ∀ k, k < n → G k = F k := fun k h => by dsimp only [G]; rw [if_neg (by omega), if_neg (by omega)]
  have Gb : ∀ k, n < k → G k = [] := fun k h => by dsimp only [G]; rw [if_neg (by omega), if_pos h]
  have inAs : ∀ a, a ∈ As.flatten ↔ ∃ t, t < ws.length ∧ a ∈ F (n + t) := fun a => by
    constructor
    · intro h
      obtain ⟨l, hl, ha⟩ := List.mem_flatten.mp h
      obtain ⟨t, ht, rfl⟩ := List.mem_map.mp hl
      exact ⟨t, List.mem_range.mp ht, ha⟩
    · rintro ⟨t, ht, h⟩
      exact List.mem_flatten.mpr ⟨_, List.mem_map.mpr ⟨t, List.mem_range.mpr ht, rfl⟩, h⟩
  have lenF : (ρ ++ ws.map some).length = n + ws.length := by simp [hn]
  have lenG : (ρ ++ [some (W.ow (.tu (ws.map W.toO)) d)]).length = n + 1 := by simp [hn]
  have hall : ∀ a, a ∈ allOf G (n + 1) ↔ a ∈ allOf F (n + ws.length) := fun a => by
    rw [mem_allOf, mem_allOf]
    constructor
    · rintro ⟨i, hi, h⟩
      by_cases e : i = n
      · subst e
        rw [Gn] at h
        obtain ⟨t, ht, h⟩ := (inAs a).mp h
        exact ⟨_, by omega, h⟩
      · rw [Go i (by omega)] at h
        exact ⟨i, by omega, h⟩
    · rintro ⟨i, hi, h⟩
      by_cases e : i < n
      · exact ⟨i, by omega, by rw [Go i e]; exact h⟩
      · exact ⟨n, by omega, by rw [Gn]; exact (inAs a).mpr ⟨i - n, by omega, by rw [show n + (i - n) = i by omega]; exact h⟩⟩
  have hmask : ∀ J : Hp, mask J (allOf G (n + 1)) = mask J (allOf F (n + ws.length)) := fun J => by
    funext b
    unfold mask
    by_cases hb : b ∈ allOf F (n + ws.length)
    · rw [if_pos hb, if_pos ((hall b).mpr hb)]
    · rw [if_neg hb, if_neg (fun z => hb ((hall b).mp z))]
  have hqa : q ∉ allOf F (n + ws.length) := fun z => by
    have := E.cells
    rw [lenF] at this
    exact this.some z hq
  have sn : Same H (upd H q (.tup vs)) := Same.new hq
  have sm : Same (mask H (allOf F (n + ws.length))) (mask (upd H q (.tup vs)) (allOf F (n + ws.length))) := fun b u e => by
    obtain ⟨e1, e2⟩ := mask_some e
    rw [mask_out e2]
    exact sn b u e1
  have big : ∀ t c, c ∈ F t → t < n + ws.length := fun t c h => Classical.byContradiction fun z => by
    rw [E.off t (fun x e => by rw [List.getElem?_eq_none (by rw [lenF]; omega)] at e; cases e)] at h
    cases h
  have inF : ∀ j c, c ∈ G j → (j = n ∧ ∃ t, t < ws.length ∧ c ∈ F (n + t)) ∨ (j < n ∧ c ∈ F j) := fun j c h => by
    by_cases e : j = n
    · subst e; rw [Gn] at h; exact .inl ⟨rfl, (inAs c).mp h⟩
    · by_cases e2 : j < n
      · rw [Go j e2] at h; exact .inr ⟨e2, h⟩
      · rw [Gb j (by omega)] at h; cases h
  have fr := E.fresh
  rw [lenF] at fr
  refine ⟨G, by simp [hl, hn], fun k => ?_, fun j k a h1 h2 => ?_, fun a ha => fr a (by rw [lenG] at ha; exact (hall a).mp ha), E.same.trans sn, fun i w h => ?_, fun i h => ?_⟩
  · by_cases e : k = n
    · subst e; rw [Gn]; exact nodup_flatF E.nd E.dj k ws.length
    · by_cases e2 : k < n
      · rw [Go k e2]; exact E.nd k
      · rw [Gb k (by omega)]; exact List.nodup_nil
  · rcases inF j a h1 with ⟨e1, t, ht, q1⟩ | ⟨e1, q1⟩ <;> rcases inF k a h2 with ⟨e2, t2, ht2, q2⟩ | ⟨e2, q2⟩
    · omega
    · have := E.dj _ _ _ q1 q2; omega
    · have := E.dj _ _ _ q1 q2; omega
    · exact E.dj _ _ _ q1 q2
  · rw [lenG, hmask]
    have get := E.get
    rw [lenF] at get
    by_cases hi : i < n
    · rw [List.getElem?_append_left (by omega)] at h
      obtain ⟨v', e, r'⟩ := get i w (by rw [List.getElem?_append_left (by omega)]; exact h)
      rw [List.getElem?_append_left (by omega)] at e
      refine ⟨v', by rw [List.getElem?_append_left (by omega)]; exact e, ?_⟩
      rw [Go i hi]
      exact r'.keep (fun a _ u e => sn a u e) sm
    · have hi2 := (List.getElem?_eq_some_iff.mp h).1
      rw [lenG] at hi2
      have e : i = n := by omega
      subst e
      rw [← hn, List.getElem?_append_right (Nat.le_refl _)] at h
      simp at h
      subst h
      refine ⟨.ref q, by rw [← hl]; simp, hd, ?_⟩
      rw [Gn]
      refine .tu (by rw [mask_out hqa]; exact upd_same) (by simp [hv]) (by simp [As]) fun t u o B q1 q2 q3 => ?_
      have tl := (List.getElem?_eq_some_iff.mp q1).1
      rw [List.getElem?_map] at q2
      obtain ⟨w, e1, rfl⟩ := Option.map_eq_some_iff.mp q2
      obtain rfl : F (i + t) = B := by
        have : t < ws.length := by omega
        simpa [As, this] using q3
      obtain ⟨u', g, r⟩ := get (i + t) w (by rw [List.getElem?_append_right (by omega)]; simp [hn, e1])
      obtain rfl : u = u' := by
        rw [List.getElem?_append_right (by omega), hl] at g
        simp [q1] at g
        exact g
      exact (r.keep (fun a _ u e => sn a u e) sm).toO
  · by_cases e : i = n
    · exact absurd (by rw [e, ← hn]; simp) (h (.ow (.tu (ws.map W.toO)) d))
    · by_cases e2 : i < n
      · rw [Go i e2]
        refine E.off i fun x e => h x ?_
        rw [List.getElem?_append_left (by omega)] at e
        rw [List.getElem?_append_left (by omega)]
        exact e
      · exact Gb i (by omega)
theorem EnvW.untuple {os : List O} (E : EnvW K H0 (σ ++ [some v]) H (ρ ++ [some (.ow (.tu os) d)])) :
    ∃ q vs, v = .ref q ∧ H q = some (.tup vs) ∧ vs.length = os.length ∧ EnvW K H0 (σ ++ vs.map some) H (ρ ++ os.map fun o => some (.ow o o.data)) := by
  obtain ⟨F, E⟩ := E
  have hl : σ.length = ρ.length := by have := E.len; simpa using this
  generalize hn : ρ.length = n at *
  have lenF : (ρ ++ [some (W.ow (.tu os) d)]).length = n + 1 := by simp [hn]
  obtain ⟨u, g, r⟩ := E.get n (.ow (.tu os) d) (by rw [← hn]; simp)
  obtain rfl : u = v := by rw [← hl] at g; simp at g; exact g.symm
  have r' : RepO K H (mask H (allOf F (ρ ++ [some (W.ow (.tu os) d)]).length)) u (.tu os) (F n) := r.2
  have ndn := E.nd n
  generalize hS : mask H (allOf F (ρ ++ [some (W.ow (.tu os) d)]).length) = S at r'
  generalize hFn : F n = Fn at r' ndn
  cases r' with
  | @tu q vs _ As q1 q2 q3 q4 =>
  have hq : H q = some (.tup vs) := by rw [← hS] at q1; exact (mask_some q1).1
  let G : Nat → List Addr := fun k => if k < n then F k else (As[k - n]?).getD []
  have Go : ∀ k, k < n → G k = F k := fun k h => if_pos h
  have Gb : ∀ k A, ¬ k < n → As[k - n]? = some A → G k = A := fun k A h e => by dsimp only [G]; rw [if_neg h, e]; rfl
  have inG : ∀ k c, c ∈ G k → (k < n ∧ c ∈ F k) ∨ (¬ k < n ∧ ∃ A, As[k - n]? = some A ∧ c ∈ A ∧ c ∈ F n) := fun k c h => by
    by_cases e : k < n
    · rw [Go k e] at h; exact .inl ⟨e, h⟩
    · dsimp only [G] at h
      rw [if_neg e] at h
      cases e2 : As[k - n]? with
      | none => rw [e2] at h; cases h
      | some A =>
        rw [e2] at h
        exact .inr ⟨e, A, rfl, h, by rw [hFn]; exact List.mem_flatten.mpr ⟨A, List.mem_of_getElem? e2, h⟩⟩
  have lenG : (ρ ++ os.map fun o => some (W.ow o o.data)).length = n + os.length := by simp [hn]
  have hall : ∀ a, a ∈ allOf G (n + os.length) ↔ a ∈ allOf F (n + 1) := fun a => by
    rw [mem_allOf, mem_allOf]
    constructor
    · rintro ⟨i, hi, h⟩
      rcases inG i a h with ⟨h1, h2⟩ | ⟨h1, A, h2, h3, h4⟩
      · exact ⟨i, by omega, h2⟩
      · exact ⟨n, by omega, h4⟩
    · rintro ⟨i, hi, h⟩
      by_cases e : i < n
      · exact ⟨i, by omega, by rw [Go i e]; exact h⟩
      · have e : i = n := by omega
        subst e
        rw [hFn] at h
        obtain ⟨A, hA, h⟩ := List.mem_flatten.mp h
        obtain ⟨t, ht⟩ := List.getElem?_of_mem hA
        have := (List.getElem?_eq_some_iff.mp ht).1
        exact ⟨i + t, by omega, by rw [Gb (i + t) A (by omega) (by rw [Nat.add_sub_cancel_left]; exact ht)]; exact h⟩
  have hmask : mask H (allOf G (n + os.length)) = S := by
    rw [← hS, lenF]
    funext b
    unfold mask
    by_cases hb : b ∈ allOf F (n + 1)
    · rw [if_pos hb, if_pos ((hall b).mpr hb)]
    · rw [if_neg hb, if_neg (fun z => hb ((hall b).mp z))]
  have flatk : ∀ (As : List (List Addr)), As.flatten.Nodup → (∀ (t : Nat) A, As[t]? = some A → A.Nodup) ∧ ∀ (t t2 : Nat) A B c, As[t]? = some A → As[t2]? = some B → c ∈ A → c ∈ B → t = t2 := fun As nd => by
    refine ⟨fun t A h => ?_, fun t t2 A B c h1 h2 h3 h4 => Classical.byContradiction fun hne => ?_⟩
    · rw [flat_split h] at nd
      exact (List.nodup_append.mp (List.nodup_append.mp nd).2.1).1
    · exact flat_other nd h1 h2 (fun e => hne e.symm) h3 h4
  obtain ⟨ndk, djk⟩ := flatk As ndn
  refine ⟨q, vs, rfl, hq, q2, G, by simp [hl, hn, q2], fun k => ?_, fun j k a h1 h2 => ?_, fun a ha => E.fresh a (by rw [lenF]; rw [lenG] at ha; exact (hall a).mp ha), E.same, fun i w h => ?_, fun i h => ?_⟩
  · by_cases e : k < n
    · rw [Go k e]; exact E.nd k
    · dsimp only [G]
      rw [if_neg e]
      cases e2 : As[k - n]? with
      | none => exact List.nodup_nil
      | some A => exact ndk _ _ e2
  · rcases inG j a h1 with ⟨a1, b1⟩ | ⟨a1, A, b1, c1, d1⟩ <;> rcases inG k a h2 with ⟨a2, b2⟩ | ⟨a2, B, b2, c2, d2⟩
    · exact E.dj _ _ _ b1 b2
    · have := E.dj _ _ _ b1 d2; omega
    · have := E.dj _ _ _ d1 b2; omega
    · have := djk _ _ _ _ a b1 b2 c1 c2; omega
  · rw [lenG, hmask]
    by_cases hi : i < n
    · rw [List.getElem?_append_left (by omega)] at h
      obtain ⟨v', e, r'⟩ := E.get i w (by rw [List.getElem?_append_left (by omega)]; exact h)
      rw [List.getElem?_append_left (by omega)] at e
      rw [hS] at r'
      exact ⟨v', by rw [List.getElem?_append_left (by omega)]; exact e, by rw [Go i hi]; exact r'⟩
    · rw [List.getElem?_append_right (by omega), List.getElem?_map, hn] at h
      obtain ⟨o, e1, e2⟩ := Option.map_eq_some_iff.mp h
      obtain rfl := Option.some.inj e2
      have ol := (List.getElem?_eq_some_iff.mp e1).1
      have hv : vs[i - n]? = some (vs[i - n]'(by omega)) := List.getElem?_eq_getElem (by omega)
      have hA : As[i - n]? = some (As[i - n]'(by omega)) := List.getElem?_eq_getElem (by omega)
      refine ⟨_, by rw [List.getElem?_append_right (by omega), List.getElem?_map, hl, hv]; rfl, rfl, ?_⟩
      rw [Gb i _ hi hA]
      exact q4 _ _ _ _ hv e1 hA
  · by_cases e : i < n
    · rw [Go i e]
      refine E.off i fun x e => h x ?_
      rw [List.getElem?_append_left (by omega)] at e
      rw [List.getElem?_append_left (by omega)]
      exact e
    · dsimp only [G]
      rw [if_neg e]
      cases e2 : As[i - n]? with
      | none => rfl
      | some A =>
        have := (List.getElem?_eq_some_iff.mp e2).1
        have ol : i - n < os.length := by omega
        exact absurd (by rw [List.getElem?_append_right (by omega), hn, List.getElem?_map, List.getElem?_eq_getElem ol]; rfl) (h (.ow (os[i - n]'ol) (os[i - n]'ol).data))
/-- some things to the end, their slots left -/
def noneAll (ρ : RhoW) (ss : List Nat) : RhoW := ss.foldl (fun r s => r.set s none) ρ
theorem noneAll_length : ∀ (ss : List Nat) (ρ : RhoW), (noneAll ρ ss).length = ρ.length
  | [], ρ => rfl
  | s :: ss, ρ => by
    show (noneAll (ρ.set s none) ss).length = _
    rw [noneAll_length ss, List.length_set]
theorem noneAll_get : ∀ {ss : List Nat} {ρ : RhoW} {j : Nat} {w : W}, (noneAll ρ ss)[j]? = some (some w) → j ∉ ss ∧ ρ[j]? = some (some w)
  | [], ρ, j, w, h => ⟨by simp, h⟩
  | s :: ss, ρ, j, w, h => by
    obtain ⟨h1, h2⟩ := noneAll_get (ss := ss) (ρ := ρ.set s none) h
    rw [List.getElem?_set] at h2
    split at h2
    · split at h2 <;> cases h2
    · rename_i e
      exact ⟨fun z => (List.mem_cons.mp z).elim (fun z => e z.symm) h1, h2⟩
theorem EnvW.gather {τ : L2.St} {π : RhoW} {vs : List V} {ws : List W} {ss : List Nat} (E : EnvW K H0 (σ ++ τ) H (ρ ++ π)) (hl : σ.length = ρ.length) (hs : ss.length = ws.length) (hv : vs.length = ws.length) (nd : ss.Nodup)
    (h : ∀ (t : Nat) s w v, ss[t]? = some s → ws[t]? = some w → vs[t]? = some v → (ρ ++ π)[s]? = some (some w) ∧ (σ ++ τ)[s]? = some (some v)) :
    EnvW K H0 (σ ++ vs.map some) H (noneAll ρ ss ++ ws.map some) := by
  refine E.remap (fun j => if j < ρ.length then (if j ∈ ss then none else some j) else ss[j - ρ.length]?) (by simp [noneAll_length, hl, hv]) (fun j w hj => ?_) fun j j' k h1 h2 => ?_
  · by_cases e : j < ρ.length
    · rw [List.getElem?_append_left (by rw [noneAll_length]; exact e)] at hj
      obtain ⟨h1, h2⟩ := noneAll_get hj
      exact ⟨j, by rw [if_pos e, if_neg h1], by rw [List.getElem?_append_left e]; exact h2, by rw [List.getElem?_append_left (by omega), List.getElem?_append_left (by omega)]⟩
    · rw [List.getElem?_append_right (by rw [noneAll_length]; omega), noneAll_length, List.getElem?_map] at hj
      obtain ⟨w', e1, e2⟩ := Option.map_eq_some_iff.mp hj
      obtain rfl := Option.some.inj e2
      have wl := (List.getElem?_eq_some_iff.mp e1).1
      have hsj : ss[j - ρ.length]? = some (ss[j - ρ.length]'(by omega)) := List.getElem?_eq_getElem (by omega)
      have hvj : vs[j - ρ.length]? = some (vs[j - ρ.length]'(by omega)) := List.getElem?_eq_getElem (by omega)
      obtain ⟨q1, q2⟩ := h _ _ _ _ hsj e1 hvj
      refine ⟨_, by rw [if_neg e]; exact hsj, q1, ?_⟩
      rw [q2, List.getElem?_append_right (by omega), List.getElem?_map, hl, hvj]; rfl
  · have inj : ∀ t t2 k, ss[t]? = some k → ss[t2]? = some k → t = t2 := fun t t2 k a b => by
      have l1 := (List.getElem?_eq_some_iff.mp a).1
      exact (List.getElem?_inj l1 nd).mp (a.trans b.symm)
    split at h1 <;> split at h2
    · split at h1
      · cases h1
      · split at h2
        · cases h2
        · cases h1; cases h2; rfl
    · split at h1
      · cases h1
      · rename_i hm
        cases h1
        exact absurd (List.mem_of_getElem? h2) hm
    · split at h2
      · cases h2
      · rename_i hm
        cases h2
        exact absurd (List.mem_of_getElem? h1) hm
    · have := inj _ _ _ h1 h2
      omega
end
section
variable {X : Cx} {ρ : RhoW} {Φ : Post} {rest : List Stmt} {e : Expr} {pos p1 p2 p3 tp : Pos} {d d1 d2 d3 : D} {o1 o2 o3 : O} {Ψ : W → RhoW → Prop} {x y z : Str} {k1 : Nat} {kt : _}
/-- two owned slots and a new thing -/
theorem own3 {H0 H : Hp} {σ : L2.St} {v3 : V} {v1 v2 : V} (i j : Nat) (hij : i ≠ j) (hρi : ρ[i]? = some (some (.ow o1 d1))) (hρj : ρ[j]? = some (some (.ow o2 d2))) (h1 : σ[i]? = some (some v1)) (h2 : σ[j]? = some (some v2)) (E : EnvW X.K H0 (σ ++ [some v3]) H (ρ ++ [some (.ow o3 d3)])) (ss : List Nat) (vs : List V) (ws : List W)
    (h : (ss, vs, ws) = ([i, j, ρ.length], [v1, v2, v3], [.ow o1 d1, .ow o2 d2, .ow o3 d3]) ∨ (ss, vs, ws) = ([i, ρ.length, j], [v1, v3, v2], [.ow o1 d1, .ow o3 d3, .ow o2 d2]) ∨ (ss, vs, ws) = ([ρ.length, i, j], [v3, v1, v2], [.ow o3 d3, .ow o1 d1, .ow o2 d2])) :
    EnvW X.K H0 (σ ++ vs.map some) H (noneAll ρ ss ++ ws.map some) := by
  have hi := (List.getElem?_eq_some_iff.mp hρi).1
  have hj := (List.getElem?_eq_some_iff.mp hρj).1
  have hl : σ.length = ρ.length := by have := E.len; simpa using this
  have g1 : (ρ ++ [some (W.ow o3 d3)])[i]? = some (some (.ow o1 d1)) ∧ (σ ++ [some v3])[i]? = some (some v1) := ⟨by rw [List.getElem?_append_left hi]; exact hρi, by rw [List.getElem?_append_left (by omega)]; exact h1⟩
  have g2 : (ρ ++ [some (W.ow o3 d3)])[j]? = some (some (.ow o2 d2)) ∧ (σ ++ [some v3])[j]? = some (some v2) := ⟨by rw [List.getElem?_append_left hj]; exact hρj, by rw [List.getElem?_append_left (by omega)]; exact h2⟩
  have g3 : (ρ ++ [some (W.ow o3 d3)])[ρ.length]? = some (some (.ow o3 d3)) ∧ (σ ++ [some v3])[ρ.length]? = some (some v3) := ⟨by simp, by rw [← hl]; simp⟩
  rcases h with h | h | h <;> (simp only [Prod.mk.injEq] at h; obtain ⟨rfl, rfl, rfl⟩ := h) <;> refine E.gather hl rfl rfl (by simp <;> omega) fun t s w v e1 e2 e3 => ?_
  all_goals
    match t, e1, e2, e3 with
    | 0, e1, e2, e3 => simp at e1 e2 e3; subst e1 e2 e3; first | exact g1 | exact g3
    | 1, e1, e2, e3 => simp at e1 e2 e3; subst e1 e2 e3; first | exact g1 | exact g2 | exact g3
    | 2, e1, e2, e3 => simp at e1 e2 e3; subst e1 e2 e3; first | exact g2 | exact g3
    | t + 3, e1, e2, e3 => simp at e1
theorem EvW.tupNNC (i j : Nat) (hij : i ≠ j) (hρi : ρ[i]? = some (some (.ow o1 d1))) (hρj : ρ[j]? = some (some (.ow o2 d2))) (h : EvW X ρ e fun w ρ' => w = .ow o3 d3 ∧ ρ' = ρ) (k : ∀ d, Ψ (.ow (.tu [o1, o2, o3]) d) (noneAll ρ [i, j, ρ.length]))
    (hpe : ∀ {t}, PE X e t → PE X (.Tuple [.Name x p1, .Name y p2, e] kt pos) (tTup (tCons (tVar i) (tCons (tVar j) (tCons t tNil)))) := by intro t h; exact pe_tup (pa_cons (pv _) (pa_cons (pv _) (pa_cons h pa_nil)))) : EvW X ρ (.Tuple [.Name x p1, .Name y p2, e] kt pos) Ψ := ⟨fun H0 σ H E Q q => we_of (hpe pe_we) (by
    obtain ⟨F, E'⟩ := id E
    obtain ⟨v1, h1, _⟩ := E'.get i _ hρi
    obtain ⟨v2, h2, _⟩ := E'.get j _ hρj
    refine ⟨v1, h1, v2, h2, h.run H0 σ H E _ fun v3 H' w ρ' p l E3 => ?_⟩
    obtain ⟨rfl, rfl⟩ := p
    refine ⟨by show 3 ≤ sizeLine; decide, fun t ht => ?_⟩
    exact q (.ref t) _ _ _ (k _) (by rw [noneAll_length]) ((own3 i j hij hρi hρj h1 h2 E3 _ _ _ (.inl rfl)).tuple (by rw [noneAll_length, E.len]) rfl ht rfl))⟩
theorem EvW.tupNCN (i j : Nat) (hij : i ≠ j) (hρi : ρ[i]? = some (some (.ow o1 d1))) (hρj : ρ[j]? = some (some (.ow o2 d2))) (h : EvW X ρ e fun w ρ' => w = .ow o3 d3 ∧ ρ' = ρ) (k : ∀ d, Ψ (.ow (.tu [o1, o3, o2]) d) (noneAll ρ [i, ρ.length, j]))
    (hpe : ∀ {t}, PE X e t → PE X (.Tuple [.Name x p1, e, .Name y p2] kt pos) (tTup (tCons (tVar i) (tCons t (tCons (tVar j) tNil)))) := by intro t h; exact pe_tup (pa_cons (pv _) (pa_cons h (pa_cons (pv _) pa_nil)))) : EvW X ρ (.Tuple [.Name x p1, e, .Name y p2] kt pos) Ψ := ⟨fun H0 σ H E Q q => we_of (hpe pe_we) (by
    obtain ⟨F, E'⟩ := id E
    obtain ⟨v1, h1, _⟩ := E'.get i _ hρi
    obtain ⟨v2, h2, _⟩ := E'.get j _ hρj
    refine ⟨v1, h1, h.run H0 σ H E _ fun v3 H' w ρ' p l E3 => ⟨v2, h2, ?_⟩⟩
    obtain ⟨rfl, rfl⟩ := p
    refine ⟨by show 3 ≤ sizeLine; decide, fun t ht => ?_⟩
    exact q (.ref t) _ _ _ (k _) (by rw [noneAll_length]) ((own3 i j hij hρi hρj h1 h2 E3 _ _ _ (.inr (.inl rfl))).tuple (by rw [noneAll_length, E.len]) rfl ht rfl))⟩
theorem EvW.tupCNN (i j : Nat) (hij : i ≠ j) (hρi : ρ[i]? = some (some (.ow o1 d1))) (hρj : ρ[j]? = some (some (.ow o2 d2))) (h : EvW X ρ e fun w ρ' => w = .ow o3 d3 ∧ ρ' = ρ) (k : ∀ d, Ψ (.ow (.tu [o3, o1, o2]) d) (noneAll ρ [ρ.length, i, j]))
    (hpe : ∀ {t}, PE X e t → PE X (.Tuple [e, .Name x p1, .Name y p2] kt pos) (tTup (tCons t (tCons (tVar i) (tCons (tVar j) tNil)))) := by intro t h; exact pe_tup (pa_cons h (pa_cons (pv _) (pa_cons (pv _) pa_nil)))) : EvW X ρ (.Tuple [e, .Name x p1, .Name y p2] kt pos) Ψ := ⟨fun H0 σ H E Q q => we_of (hpe pe_we) (by
    obtain ⟨F, E'⟩ := id E
    obtain ⟨v1, h1, _⟩ := E'.get i _ hρi
    obtain ⟨v2, h2, _⟩ := E'.get j _ hρj
    refine h.run H0 σ H E _ fun v3 H' w ρ' p l E3 => ⟨v1, h1, v2, h2, ?_⟩
    obtain ⟨rfl, rfl⟩ := p
    refine ⟨by show 3 ≤ sizeLine; decide, fun t ht => ?_⟩
    exact q (.ref t) _ _ _ (k _) (by rw [noneAll_length]) ((own3 i j hij hρi hρj h1 h2 E3 _ _ _ (.inr (.inr rfl))).tuple (by rw [noneAll_length, E.len]) rfl ht rfl))⟩
/-- x, y, z = e, e three own things -/
theorem Ws.unpack3 (i j m : Nat) (hc : X.calm = true) (hN : X.N.Nodup) (h : EvW X ρ e fun w ρ' => ∃ o1 o2 o3 d, w = .ow (.tu [o1, o2, o3]) d ∧ Ws X (((ρ'.set i (some (.ow o1 o1.data))).set j (some (.ow o2 o2.data))).set m (some (.ow o3 o3.data))) rest Φ) (hij : i ≠ j ∧ i ≠ m ∧ j ≠ m)
    (hps : ∀ {te}, X.N.Nodup → PE X e te → PS X (.Assign [.Tuple [.Name x p1, .Name y p2, .Name z p3] k1 tp] e pos) (tAsg te (gTup X.K 3 (gCons (gName i) (gCons (gName j) (gCons (gName m) gNil))))) := by
      intro te hN ht; exact ps_asg ht (pg_tup rfl (pgs_cons (pg_name hN rfl (by first | exact Or.inl rfl | exact Or.inr rfl)) (pgs_cons (pg_name hN rfl (by first | exact Or.inl rfl | exact Or.inr rfl)) (pgs_cons (pg_name hN rfl (by first | exact Or.inl rfl | exact Or.inr rfl)) pgs_nil)))))
    (hjd : (decide (i < ρ.length) && decide (j < ρ.length) && decide (m < ρ.length)) = true := by rfl) :
    Ws X ρ (.Assign [.Tuple [.Name x p1, .Name y p2, .Name z p3] k1 tp] e pos :: rest) Φ := ⟨fun H0 σ H D E kk =>
  WSs.cons (ws_of (hps hN pe_we) (h.run H0 σ H E _ fun v H' w ρ' q l E' => by
    simp only [Bool.and_eq_true, decide_eq_true_eq] at hjd
    obtain ⟨⟨hi, hj⟩, hm⟩ := hjd
    obtain ⟨o1, o2, o3, d, rfl, q⟩ := q
    obtain ⟨a, vs, rfl, ha, hv, E2⟩ := E'.untuple
    obtain ⟨v1, v2, v3, rfl⟩ : ∃ v1 v2 v3, vs = [v1, v2, v3] := by
      match vs, hv with
      | [v1, v2, v3], _ => exact ⟨v1, v2, v3, rfl⟩
    refine ⟨a, [v1, v2, v3], rfl, SqT.of ha, rfl, v1, [v2, v3], rfl, v2, [v3], rfl, v3, [], rfl, rfl, ?_⟩
    have hl : σ.length = ρ'.length := by have := E'.len; simpa using this
    have E3 : EnvW X.K H0 ((σ ++ [some v1] ++ [some v2]) ++ [some v3]) H' ((ρ' ++ [some (.ow o1 o1.data)] ++ [some (.ow o2 o2.data)]) ++ [some (.ow o3 o3.data)]) := by simpa using E2
    have E4 := E3.into m
    rw [List.set_append_left _ _ (by simp; omega), List.set_append_left _ _ (by omega), List.set_append_left _ _ (by simp; omega), List.set_append_left _ _ (by omega)] at E4
    have E5 := E4.into j
    rw [List.set_append_left _ _ (by simp; omega), List.set_append_left _ _ (by simp; omega)] at E5
    have E6 := E5.into i
    rw [List.set_comm _ _ hij.1.symm, List.set_comm _ _ hij.2.1.symm, List.set_comm _ _ hij.2.2.symm, List.set_comm _ _ hij.1.symm, List.set_comm _ _ hij.2.1.symm, List.set_comm _ _ hij.2.2.symm] at E6
    have e1 : ((σ.set j (some v2)).set m (some v3)).set i (some v1) = ((σ.set i (some v1)).set j (some v2)).set m (some v3) := by
      rw [List.set_comm _ _ hij.2.1.symm, List.set_comm _ _ hij.1.symm]
    exact q.run H0 _ H' D E6 (kk.cast (by simp [l]))))⟩
end
end VL
set_option Elab.async false
set_option linter.all false
set_option maxRecDepth 100000
set_option maxHeartbeats 1000000
/-! value layer, part 41: a part of an own thing shared -/
namespace VL
open PySem L2 PySem.Spec PyProof.Rows
theorem RepO.shareAt {K : PySem.W.Frag} {H S : Hp} {o1 : O} : ∀ {p : List Pe} {v : V} {o : O} {A : List Addr}, RepO K H S v o A → A.Nodup → o.okP p → o.sub p = some o1 →
    ∃ A', List.Sublist A' A ∧ ∀ S', Same S S' → (∀ c ∈ A, c ∉ A' → ∀ u, H c = some u → S' c = some u) → RepO K H S' v (o.put (.sh o1.data) p) A'
  | [], v, o, A, r, nd, _, h => by
    obtain rfl := Option.some.inj h
    exact ⟨[], List.nil_sublist _, fun S' s hc => .sh (r.into (fun c hm u e => hc c hm (by simp) u e) s)⟩
  | q :: p, v, o, A, r, nd, ok, h => by
    unfold O.sub at h
    obtain ⟨x, hx, h⟩ := Option.bind_eq_some_iff.mp h
    obtain ⟨ok1, ok2⟩ := ok
    have ok2 := ok2 x hx
    have key : ∀ (vs : List V) (xs : List O) (As : List (List Addr)), vs.length = xs.length → As.length = xs.length →
        (∀ (i : Nat) v o A, vs[i]? = some v → xs[i]? = some o → As[i]? = some A → RepO K H S v o A) → xs[q.n]? = some x → As.flatten.Nodup →
        ∃ As' : List (List Addr), List.Sublist As'.flatten As.flatten ∧ As'.length = xs.length ∧ ∀ S', Same S S' → (∀ c ∈ As.flatten, c ∉ As'.flatten → ∀ u, H c = some u → S' c = some u) →
          ∀ (i : Nat) v o A, vs[i]? = some v → (xs.set q.n (x.put (.sh o1.data) p))[i]? = some o → As'[i]? = some A → RepO K H S' v o A := by
      intro vs xs As l1 l2 hr hxk hnd
      have hk := (List.getElem?_eq_some_iff.mp hxk).1
      have hw : vs[q.n]? = some vs[q.n] := List.getElem?_eq_getElem (by omega)
      have hB : As[q.n]? = some As[q.n] := List.getElem?_eq_getElem (by omega)
      generalize As[q.n] = B at hB
      have fl := flat_split hB
      have ndB : B.Nodup := by
        rw [fl] at hnd
        exact (List.nodup_append.mp (List.nodup_append.mp hnd).2.1).1
      obtain ⟨B', sb, hb⟩ := RepO.shareAt (hr q.n _ _ _ hw hxk hB) ndB ok2 h
      have fl' : (As.set q.n B').flatten = (As.take q.n).flatten ++ (B' ++ (As.drop (q.n + 1)).flatten) := by
        rw [flat_split (As := As.set q.n B') (k := q.n) (B := B') (List.getElem?_set_self (by omega)), List.take_set_of_le (Nat.le_refl _), List.drop_set_of_lt (Nat.lt_succ_self _)]
      refine ⟨As.set q.n B', ?_, by simp [l2], fun S' s hc i v o A e1 e2 e3 => ?_⟩
      · rw [fl, fl']
        exact (List.Sublist.refl _).append (sb.append (List.Sublist.refl _))
      · by_cases hik : i = q.n
        · subst hik
          rw [hw] at e1
          rw [List.getElem?_set_self (by omega)] at e2 e3
          obtain rfl := Option.some.inj e1
          obtain rfl := Option.some.inj e2
          obtain rfl := Option.some.inj e3
          refine hb S' s fun c c1 c2 u e => hc c (List.mem_flatten.mpr ⟨B, List.mem_of_getElem? hB, c1⟩) (fun z => ?_) u e
          rw [fl'] at z
          rw [fl] at hnd
          obtain ⟨n1, n2, n3⟩ := List.nodup_append.mp hnd
          obtain ⟨n4, n5, n6⟩ := List.nodup_append.mp n2
          rcases List.mem_append.mp z with z | z
          · exact n3 c z c (List.mem_append_left _ c1) rfl
          · rcases List.mem_append.mp z with z | z
            · exact c2 z
            · exact n6 c c1 c z rfl
        · rw [List.getElem?_set_ne (Ne.symm hik)] at e2 e3
          exact (hr i v o A e1 e2 e3).keep (fun _ _ _ z => z) s
    cases r with
    | sh q => cases hx
    | @ls b vs xs As h1 h2 h3 h4 =>
      cases q with
      | ix k =>
        obtain ⟨nb, nd'⟩ := List.nodup_cons.mp nd
        obtain ⟨As', sub, l, hk⟩ := key vs xs As h2 h3 h4 hx nd'
        refine ⟨b :: As'.flatten, sub.cons₂ b, fun S' s hc => ?_⟩
        unfold O.put
        rw [hx]
        exact .ls (vs := vs) h1 (by simp [h2]) (by simp [l]) (hk S' s fun c c1 c2 u e => hc c (List.mem_cons_of_mem _ c1) (fun z => (List.mem_cons.mp z).elim (fun z => nb (z ▸ c1)) c2) u e)
      | fld C k f => exact ok1.elim
      | pin => exact ok1.elim
      | key k y => exact ok1.elim
    | @tu b vs xs As h1 h2 h3 h4 =>
      cases q with
      | ix k =>
        obtain ⟨As', sub, l, hk⟩ := key vs xs As h2 h3 h4 hx nd
        refine ⟨As'.flatten, sub, fun S' s hc => ?_⟩
        unfold O.put
        rw [hx]
        exact .tu (vs := vs) (s _ _ h1) (by simp [h2]) (by simp [l]) (hk S' s hc)
      | fld C k f => exact ok1.elim
      | pin => exact ok1.elim
      | key k y => exact ok1.elim
    | @ob b C dx fs ks vs xs As h1 h2 hz h3 h4 h5 h6 h7 h8 =>
      cases q with
      | ix k => exact ok1.elim
      | pin => exact ok1.elim
      | key k y => exact ok1.elim
      | fld C' k f =>
        obtain ⟨nb, nd'⟩ := List.nodup_cons.mp nd
        obtain ⟨nb2, nd2⟩ := List.nodup_cons.mp nd'
        obtain ⟨As', sub, l, hk⟩ := key vs xs As h6 h7 h8 hx nd2
        refine ⟨b :: dx :: As'.flatten, (sub.cons₂ dx).cons₂ b, fun S' s hc => ?_⟩
        unfold O.put
        rw [hx]
        refine .ob (vs := vs) h1 h2 hz h3 h4 h5 (by simp [h6]) (by simp [l]) (hk S' s fun c c1 c2 u e => hc c (List.mem_cons_of_mem _ (List.mem_cons_of_mem _ c1)) (fun z => ?_) u e)
        rcases List.mem_cons.mp z with z | z
        · exact nb (z ▸ List.mem_cons_of_mem _ c1)
        · rcases List.mem_cons.mp z with z | z
          · exact nb2 (z ▸ c1)
          · exact c2 z
    | @dd b kvs vs ks xs As h1 h2 h3 h4 h5 h6 =>
      cases q with
      | ix k => exact ok1.elim
      | fld C k f => exact ok1.elim
      | pin => exact ok1.elim
      | key k y =>
        obtain ⟨As', sub, l, hk⟩ := key vs xs As h4 h5 h6 hx nd
        refine ⟨As'.flatten, sub, fun S' s hc => ?_⟩
        unfold O.put
        rw [hx]
        exact .dd (vs := vs) (s _ _ h1) h2 h3 (by simp [h4]) (by simp [l]) (hk S' s hc)
    | @pin b o2 A2 r2 =>
      cases q with
      | ix k => exact ok1.elim
      | fld C k f => exact ok1.elim
      | key k y => exact ok1.elim
      | pin =>
        obtain rfl : o2 = x := by simpa [O.kid, Pe.n] using hx
        obtain ⟨A', sub, hk⟩ := RepO.shareAt r2 nd ok2 h
        refine ⟨A', sub, fun S' s hc => ?_⟩
        unfold O.put
        rw [show (O.pin b o2).kid Pe.pin.n = some o2 from rfl]
        exact .pin (hk S' s hc)
theorem EnvW.shareAt {K : PySem.W.Frag} {H0 H : Hp} {σ : L2.St} {ρ : RhoW} (E : EnvW K H0 σ H ρ) {i : Nat} {o o1 : O} {p : List Pe} {d d' : D} (hi : ρ[i]? = some (some (.ow o d))) (hp : o.okP p) (hs : o.sub p = some o1) (hd : (o.put (.sh o1.data) p).data = d') : EnvW K H0 σ H (ρ.set i (some (.ow (o.put (.sh o1.data) p) d'))) := by
  obtain ⟨F, E⟩ := E
  have hi' := (List.getElem?_eq_some_iff.mp hi).1
  obtain ⟨v, h1, r⟩ := E.get i _ hi
  obtain ⟨A', sb, hk⟩ := r.2.shareAt (E.nd i) hp hs
  let G : Nat → List Addr := fun j => if j = i then A' else F j
  have Gi : G i = A' := if_pos rfl
  have Go : ∀ j, j ≠ i → G j = F j := fun j h => if_neg h
  have sub : ∀ a ∈ allOf G (ρ.set i (some (.ow (o.put (.sh o1.data) p) d'))).length, a ∈ allOf F ρ.length ∧ (a ∈ F i → a ∈ A') := fun a ha => by
    obtain ⟨j, hj, h1⟩ := mem_allOf.mp ha
    by_cases e : j = i
    · rw [e, Gi] at h1
      exact ⟨E.mem (sb.subset h1), fun _ => h1⟩
    · rw [Go j e] at h1
      exact ⟨E.mem h1, fun z => by have := E.dj _ _ _ h1 z; contradiction⟩
  refine ⟨G, by simp [E.len], fun j => ?_, fun j j' a h1 h2 => ?_, fun a ha => E.fresh a (sub a ha).1, E.same, fun j w hw => ?_, fun j hj => ?_⟩
  · by_cases e : j = i
    · rw [e, Gi]; exact sb.nodup (E.nd i)
    · rw [Go j e]; exact E.nd j
  · have key : ∀ j, a ∈ G j → a ∈ F j := fun j h => by
      by_cases e : j = i
      · rw [e, Gi] at h; rw [e]; exact sb.subset h
      · rw [Go j e] at h; exact h
    exact E.dj j j' a (key _ h1) (key _ h2)
  · rw [List.getElem?_set] at hw
    by_cases e : i = j
    · subst e
      rw [if_pos rfl, if_pos hi'] at hw
      obtain rfl := Option.some.inj (Option.some.inj hw)
      refine ⟨v, h1, hd, ?_⟩
      rw [Gi]
      refine hk _ (mask_sub fun a ha => (sub a ha).1) fun c c1 c2 u e => ?_
      rw [mask_out (fun z => c2 ((sub c z).2 c1))]
      exact e
    · rw [if_neg e] at hw
      obtain ⟨v, h1, r⟩ := E.get j w hw
      refine ⟨v, h1, ?_⟩
      rw [Go j (Ne.symm e)]
      exact r.keep (fun _ _ _ z => z) (mask_sub fun a ha => (sub a ha).1)
  · by_cases e : j = i
    · subst e
      exact absurd (List.getElem?_set_self hi') (hj _)
    · rw [Go j e]
      refine E.off j fun w z => hj w ?_
      rw [List.getElem?_set_ne (Ne.symm e)]
      exact z
theorem Ws.shareAt {X : Cx} {ρ : RhoW} {body : List Stmt} {Φ : Post} {i : Nat} {o o1 : O} (p : List Pe) {d d' : D} (hi : ρ[i]? = some (some (.ow o d))) (hp : o.okP p) (hs : o.sub p = some o1) (hd : (o.put (.sh o1.data) p).data = d') (h : Ws X (ρ.set i (some (.ow (o.put (.sh o1.data) p) d'))) body Φ) : Ws X ρ body Φ := ⟨fun H0 σ H D E k => h.run H0 σ H D (E.shareAt hi hp hs hd) (k.cast (by simp))⟩
end VL
set_option Elab.async false
set_option linter.all false
set_option maxRecDepth 100000
set_option maxHeartbeats 1000000
/-! value layer, part 42: a dict display whose values are own -/
namespace VL
open PySem L2 PySem.Spec PyProof.Rows
mutual
def D.noDk : D → Bool
  | .non => true
  | .bl _ => true
  | .int _ => true
  | .str _ => true
  | .lst xs => noDkAll xs
  | .tup xs => noDkAll xs
  | _ => false
def noDkAll : List D → Bool
  | [] => true
  | x :: xs => x.noDk && noDkAll xs
end
theorem noDkAll_get : ∀ {xs : List D} {i : Nat} {d : D}, noDkAll xs = true → xs[i]? = some d → d.noDk = true
  | [], i, d, _, h => by simp at h
  | x :: xs, 0, d, f, h => by
    simp at h; subst h
    unfold noDkAll at f
    exact (Bool.and_eq_true_iff.mp f).1
  | x :: xs, i + 1, d, f, h => by
    unfold noDkAll at f
    exact noDkAll_get (Bool.and_eq_true_iff.mp f).2 (by simpa using h)
theorem noDkAll_map {α : Type} {h : α → D} (hh : ∀ x, (h x).noDk = true) : ∀ L : List α, noDkAll (L.map h) = true
  | [] => by simp [noDkAll]
  | x :: L => by simp [noDkAll, hh x, noDkAll_map hh L]
mutual
def O.noDk : O → Bool
  | .sh d => d.noDk
  | .ls xs => noDkO xs
  | .tu xs => noDkO xs
  | _ => false
def noDkO : List O → Bool
  | [] => true
  | x :: xs => x.noDk && noDkO xs
end
theorem noDkO_get : ∀ {xs : List O} {i : Nat} {o : O}, noDkO xs = true → xs[i]? = some o → o.noDk = true
  | [], i, d, _, h => by simp at h
  | x :: xs, 0, d, f, h => by
    simp at h; subst h
    unfold noDkO at f
    exact (Bool.and_eq_true_iff.mp f).1
  | x :: xs, i + 1, d, f, h => by
    unfold noDkO at f
    exact noDkO_get (Bool.and_eq_true_iff.mp f).2 (by simpa using h)
theorem oL_noDk {ds : List D} (h : noDkAll ds = true) : (oL ds).noDk = true := by
  unfold oL O.noDk
  induction ds with
  | nil => rfl
  | cons d ds ih =>
    unfold noDkAll at h
    have := Bool.and_eq_true_iff.mp h
    rw [List.map_cons]
    unfold noDkO O.noDk
    rw [this.1, ih this.2]; rfl
theorem Rep.offDk {K : PySem.W.Frag} {S S' : Hp} {v : V} {d : D} {p : Addr} {l : List (Key × V)} (r : Rep K S v d) (hn : d.noDk = true) (hp : S p = some (.dK l)) (hS : ∀ b, b ≠ p → ∀ u, S b = some u → S' b = some u) : Rep K S' v d := by
  induction r with
  | non => exact .non
  | bl b => exact .bl b
  | int i => exact .int i
  | str s => exact .str s
  | lst h1 h2 h3 ih =>
    rw [D.noDk] at hn
    exact .lst (hS _ (fun e => by rw [e, hp] at h1; cases h1) _ h1) h2 fun i v d q1 q2 => ih i v d q1 q2 (noDkAll_get hn q2)
  | tup h1 h2 h3 ih =>
    rw [D.noDk] at hn
    exact .tup (hS _ (fun e => by rw [e, hp] at h1; cases h1) _ h1) h2 fun i v d q1 q2 => ih i v d q1 q2 (noDkAll_get hn q2)
  | ro _ _ _ _ => simp [D.noDk] at hn
  | dk _ _ => simp [D.noDk] at hn
  | ob _ _ _ _ _ _ _ => simp [D.noDk] at hn
  | dd _ _ _ _ _ _ => simp [D.noDk] at hn
  | raw a => simp [D.noDk] at hn
theorem RepO.offDk {K : PySem.W.Frag} {H H' S S' : Hp} {v : V} {o : O} {A : List Addr} {p : Addr} {l : List (Key × V)} (r : RepO K H S v o A) (hn : o.noDk = true) (hp : S p = some (.dK l)) (hS : ∀ b, b ≠ p → ∀ u, S b = some u → S' b = some u) (hH : ∀ b ∈ A, ∀ u, H b = some u → H' b = some u) : RepO K H' S' v o A := by
  induction r with
  | sh q => rw [O.noDk] at hn; exact .sh (q.offDk hn hp hS)
  | ls h1 h2 h3 h4 ih =>
    rw [O.noDk] at hn
    refine .ls (hH _ (List.mem_cons_self ..) _ h1) h2 h3 fun i v o A q1 q2 q3 => ih i v o A q1 q2 q3 (noDkO_get hn q2) fun b hb u e => hH b (List.mem_cons_of_mem _ (List.mem_flatten.mpr ⟨A, List.mem_of_getElem? q3, hb⟩)) u e
  | tu h1 h2 h3 h4 ih =>
    rw [O.noDk] at hn
    refine .tu (hS _ (fun e => by rw [e, hp] at h1; cases h1) _ h1) h2 h3 fun i v o A q1 q2 q3 => ih i v o A q1 q2 q3 (noDkO_get hn q2) fun b hb u e => hH b (List.mem_flatten.mpr ⟨A, List.mem_of_getElem? q3, hb⟩) u e
  | ob _ _ _ _ _ _ _ _ _ _ => simp [O.noDk] at hn
  | dd _ _ _ _ _ _ _ => simp [O.noDk] at hn
  | pin _ _ => simp [O.noDk] at hn
/-- one after the other -/
def WSq (X : Cx) : List Expr → L2.St → Hp → (List V → Hp → Prop) → Prop
  | [], _, H, Q => Q [] H
  | e :: es, σ, H, Q => WE X e σ H fun v H1 => WSq X es σ H1 fun vs H2 => Q (v :: vs) H2
theorem Hid.join {H M : Hp} {as : List Addr} (h : Hid H as) : Hid (join M H as) as := h.up fun a ha u e => by rw [join_in ha]; exact e
theorem join_join {H M N : Hp} {as : List Addr} : join N (join M H as) as = join N H as := by
  funext b
  by_cases hb : b ∈ as
  · rw [join_in hb, join_in hb, join_in hb]
  · rw [join_out hb, join_out hb]
theorem WSq.mono {X : Cx} {σ : L2.St} : ∀ {es : List Expr} {H : Hp} {Q Q' : List V → Hp → Prop}, WSq X es σ H Q → (∀ vs H', Q vs H' → Q' vs H') → WSq X es σ H Q'
  | [], H, Q, Q', h, k => k _ _ h
  | e :: es, H, Q, Q', h, k => WE.mono h fun v H1 h1 => WSq.mono h1 fun vs H2 h2 => k _ _ h2
theorem WSq.frame {X : Cx} {σ : L2.St} {as : List Addr} : ∀ {es : List Expr} {H : Hp} {Q : List V → Hp → Prop}, Hid H as → WSq X es σ (mask H as) Q →
    WSq X es σ H fun vs H' => ∃ M, Q vs M ∧ H' = VL.join M H as ∧ (∀ a ∈ as, M a = none)
  | [], H, Q, hl, h => ⟨mask H as, h, by
      funext b
      by_cases hb : b ∈ as
      · rw [join_in hb]
      · rw [join_out hb, mask_out hb], fun a ha => mask_in ha⟩
  | e :: es, H, Q, hl, h => (WE.frame hl h).mono fun v H1 ⟨M, q, e1, n, up⟩ => by
      subst e1
      have hm : mask (VL.join M H as) as = M := by rw [mask_join, mask_of_none n]
      refine (WSq.frame (Q := fun vs H2 => Q (v :: vs) H2) (hl.join (M := M)) (by rw [hm]; exact q)).mono ?_
      rintro vs H2 ⟨M2, q2, e2, n2⟩
      exact ⟨M2, q2, by rw [e2, join_join], n2⟩
structure EvSq (X : Cx) (ρ : Rho) (es : List Expr) (os : List O) : Prop where
  run : ∀ (σ : L2.St) (H : Hp), EnvS X.K σ H ρ → ∀ Q : List V → Hp → Prop, (∀ vs H' As, Same H H' → (∀ a ∈ As.flatten, H a = none) → As.flatten.Nodup → RepOs X.K H' (mask H' As.flatten) vs os As → Q vs H') → WSq X es σ H Q
section
variable {X : Cx} {ρ : Rho} {e : Expr} {es : List Expr} {o : O} {os : List O}
theorem EvSq.nil : EvSq X ρ [] [] := ⟨fun σ H en Q q => q [] H [] (Same.refl H) (by simp) (by simp) .nil⟩
theorem EvSq.cons (h : EvO X ρ e o) (t : EvSq X ρ es os) : EvSq X ρ (e :: es) (o :: os) :=
  ⟨fun σ H en Q q => h.run σ H en _ fun v H1 A s1 f1 nd1 r1 => by
    refine (WSq.frame r1.cells (t.run σ (mask H1 A) (en.mono (mask_same_of s1 f1)) (fun vs M => ∃ As : List (List Addr), Same (mask H1 A) M ∧ (∀ a ∈ As.flatten, mask H1 A a = none) ∧ As.flatten.Nodup ∧ RepOs X.K M (mask M As.flatten) vs os As) fun vs M As s f n r => ⟨As, s, f, n, r⟩)).mono ?_
    rintro vs H2 ⟨M, ⟨As, s, f, nd, r⟩, rfl, n⟩
    have up : Same M (VL.join M H1 A) := fun b u z => by
      rw [join_out (fun y => by rw [n b y] at z; cases z)]
      exact z
    have hdis : ∀ a, a ∈ A → a ∈ As.flatten → False := fun a h1 h2 => by
      exact r.cells.some h2 (n a h1)
    refine q (v :: vs) _ (A :: As) (fun b u z => ?_) (fun a ha => ?_) ?_ (.cons (r1.keep (fun a ha u z => ?_) fun b u z => ?_) (r.keep (fun a ha u z => ?_) fun b u z => ?_))
    · have hb : b ∉ A := fun y => by rw [f1 b y] at z; cases z
      exact up _ _ (s _ _ (by rw [mask_out hb]; exact s1 _ _ z))
    · rw [List.flatten_cons] at ha
      rcases List.mem_append.mp ha with ha | ha
      · exact f1 a ha
      · have hA : a ∉ A := fun y => hdis a y ha
        have := f a ha
        rw [mask_out hA] at this
        cases hh : H a with
        | none => rfl
        | some u => rw [s1 _ _ hh] at this; cases this
    · rw [List.flatten_cons]
      exact List.nodup_append.mpr ⟨nd1, nd, fun a h1 b h2 e => hdis a h1 (e ▸ h2)⟩
    · rw [join_in ha]; exact z
    · obtain ⟨z1, z2⟩ := mask_some z
      have hM := s _ _ z
      have hf : b ∉ As.flatten := fun y => by rw [f b y] at z; cases z
      rw [List.flatten_cons, mask_out (fun y => (List.mem_append.mp y).elim z2 hf)]
      exact up _ _ hM
    · rw [join_out (fun y => hdis a y ha)]; exact z
    · obtain ⟨z1, z2⟩ := mask_some z
      have hbA : b ∉ A := fun y => by rw [n b y] at z1; cases z1
      rw [List.flatten_cons, mask_out (fun y => (List.mem_append.mp y).elim hbA z2), join_out hbA]
      exact z1⟩
end
section
variable {X : Cx} {ρ : Rho} {pos : Pos} {e1 e2 e3 : Expr} {o1 o2 o3 : O} {k1 k2 k3 : Str} {j1 j2 j3 : _} {p1 p2 p3 : Pos}
theorem EvO.dict3 (h1 : EvO X ρ e1 o1) (h2 : EvO X ρ e2 o2) (h3 : EvO X ρ e3 o3) (n1 : o1.noDk = true) (n2 : o2.noDk = true) (n3 : o3.noDk = true)
    (hv : ∀ v1 v2 v3 : V, valV (mergeK [] [((.inr k1 : Key), v1), (.inr k2, v2), (.inr k3, v3)]) (.inr k1) = some v1 ∧ valV (mergeK [] [((.inr k1 : Key), v1), (.inr k2, v2), (.inr k3, v3)]) (.inr k2) = some v2 ∧ valV (mergeK [] [((.inr k1 : Key), v1), (.inr k2, v2), (.inr k3, v3)]) (.inr k3) = some v3 := by intro _ _ _; exact ⟨rfl, rfl, rfl⟩) :
    EvO X ρ (.Dict [some (.Constant (.str k1) j1 p1), some (.Constant (.str k2) j2 p2), some (.Constant (.str k3) j3 p3)] [e1, e2, e3] pos) (.dd [.inr k1, .inr k2, .inr k3] [o1, o2, o3]) :=
  ⟨fun σ H en Q q => we_of (pe_disp (pps_cons pe_str pe_we (pps_cons pe_str pe_we (pps_cons pe_str pe_we pps_nil))) rfl rfl (by simp) (by simp)) fun p hp => by
    have s0 : Same H (upd H p (.dK [])) := Same.new hp
    refine (show WSq X [e1, e2, e3] σ (upd H p (.dK [])) (fun vs H2 => H2 p = some (.dK []) ∧ ∃ kvs : List (Key × V), List.zip [V.str k1, V.str k2, V.str k3] vs = kvs.map (fun kv => (kV kv.1, kv.2)) ∧ kvs.length ≤ 15 ∧ Q (.ref p) (upd H2 p (.dK (mergeK [] kvs)))) from ?_)
    refine (EvSq.cons h1 (EvSq.cons h2 (EvSq.cons h3 EvSq.nil))).run σ _ (en.mono s0) _ fun vs H3 As s f nd r => ?_
    obtain ⟨v1, v2, v3, rfl⟩ : ∃ v1 v2 v3, vs = [v1, v2, v3] := by
      match vs, r.1 with
      | [v1, v2, v3], _ => exact ⟨v1, v2, v3, rfl⟩
    have e3 : H3 p = some (.dK []) := s _ _ upd_same
    refine ⟨e3, [(.inr k1, v1), (.inr k2, v2), (.inr k3, v3)], rfl, by simp, ?_⟩
    obtain ⟨g1, g2, g3⟩ := hv v1 v2 v3
    generalize mergeK [] [((.inr k1 : Key), v1), (.inr k2, v2), (.inr k3, v3)] = kvs at g1 g2 g3
    have pA : p ∉ As.flatten := fun z => by have := f p z; rw [upd_same] at this; cases this
    have fH : ∀ a ∈ As.flatten, H a = none := fun a ha => by
      have := f a ha
      have hne : a ≠ p := fun z => by subst z; exact pA ha
      rw [upd_ne hne] at this
      exact this
    refine q (.ref p) _ As.flatten (fun b u z => ?_) fH nd ?_
    · rw [upd_ne (fun y => by rw [y, hp] at z; cases z)]
      exact s _ _ (s0 _ _ z)
    · refine .dd (vs := [v1, v2, v3]) (by rw [mask_out pA]; exact upd_same) rfl (fun i k v q1 q2 => ?_) r.1 r.2.1 fun i v o A q1 q2 q3 => ?_
      · match i, q1, q2 with
        | 0, q1, q2 => simp at q1 q2; subst q1 q2; exact g1
        | 1, q1, q2 => simp at q1 q2; subst q1 q2; exact g2
        | 2, q1, q2 => simp at q1 q2; subst q1 q2; exact g3
        | i + 3, q1, q2 => simp at q1
      · have hn : o.noDk = true := by
          match i, q2 with
          | 0, q2 => simp at q2; subst q2; exact n1
          | 1, q2 => simp at q2; subst q2; exact n2
          | 2, q2 => simp at q2; subst q2; exact n3
          | i + 3, q2 => simp at q2
        refine (r.2.2 i v o A q1 q2 q3).offDk hn (p := p) (l := []) (by rw [mask_out pA]; exact e3) (fun b hb u z => ?_) fun b hb u z => ?_
        · obtain ⟨z1, z2⟩ := mask_some z
          rw [mask_out z2, upd_ne hb]
          exact z1
        · have : b ∈ As.flatten := List.mem_flatten.mpr ⟨A, List.mem_of_getElem? q3, hb⟩
          have hne : b ≠ p := fun y => by subst y; exact pA this
          rw [upd_ne hne]
          exact z⟩
end
end VL
set_option Elab.async false
set_option linter.all false
set_option maxRecDepth 100000
set_option maxHeartbeats 1000000
/-! value layer, part 43: an except clause whose name is a cell (a comprehension of the suite sees it) -/
namespace L2N
open PySem PySem.Spec PyProof.Rows L2
section
variable {M : Model} {A : Around} {E : Value → Shared → Prop} {s : Shared}
theorem cellGoes {env : Env} {n : Str} {pos : Pos} {c : Addr} {v0 : Option Value} {Q : Unit → Shared → Prop} (hk : env.scope.kind = .function) (hl : env.kindOf n = some .cell) (hc : env.cells.lookup n = some c) (hv : s.heap.IsCell c v0)
    (h : ∀ h', h'.IsCell c none → Heap.SameBut c s.heap h' → Q () { s with heap := h' }) : wpAny M A (do bindName env n .none; unbindBehindTheSuite env n pos) Q E s := by
  refine wpAny_bind (wpAny_bindName (wpAny_storeName_cell hk hl hc hv fun h1 c1 b1 => ?_))
  unfold unbindBehindTheSuite
  refine wpAny_onRaise ?_
  unfold unbindName
  refine wpAny_bind (wpAny_point (wpAny_bind ?_))
  unfold deleteName
  simp only [hl]
  refine wpAny_bind (wpAny_cellOf hc (wpAny_bind (wpAny_cellGet (s := { s with heap := h1 }) c1 ?_)))
  simp only [Option.isSome_some, if_true]
  exact wpAny_cellSet (s := { s with heap := h1 }) c1 fun h2 c2 b2 => wpAny_point (h h2 c2 (b1.trans b2))
end
section
variable {X : Cx} {pins : List (Addr × Obj)} {σ : L2.St} {H : Hp} {s : Shared}
theorem goneC {M : Model} {A : Around} {E : Value → Shared → Prop} {i : Nat} {n : Str} {pos : Pos} {Q : Unit → Shared → Prop} (I : Inv X pins σ H s) (hN : X.N.Nodup) (hi : X.N[i]? = some n) (hk : X.env.kindOf n = some .cell) (hfn : X.fn n = true)
    (h : ∀ s', Inv X pins (σ.set i none) H s' → Q () s') : wpAny M A (do bindName X.env n .none; unbindBehindTheSuite X.env n pos) Q E s := by
  obtain ⟨m, hn, hl⟩ := id I.loc
  obtain ⟨c, hc⟩ := I.ok.has n (.inl hk)
  obtain ⟨w0, z⟩ := I.cell n c hc
  obtain ⟨oc, hoc, hocd⟩ := id z
  have low : ∀ b o, X.s_0.heap.get? b = some o → b ≠ c := fun b o e => Nat.ne_of_lt (Nat.lt_of_lt_of_le (Heap.lt_size e) (I.ok.cab n c hfn hc))
  refine cellGoes I.ok.kind hk hc z fun h' hc' hs => ?_
  refine h { s with heap := h' } ⟨I.ok, I.os, I.bare, ⟨fun b o e k hb hx => (hs.2 b (low b o e)).trans (I.base.keep b o e k hb hx), fun b o e k hb hx => ?_, I.base.free, fun b o e hx => ?_, I.base.tups, I.base.frzs, I.base.tbls⟩, ⟨m, hn.sameBut hs (Ne.symm (I.cne n c hc)), fun j y v' e1 e2 e3 => ?_⟩, fun y c2 e => ?_, I.free, I.freeC, fun p hp => ?_, fun b ob e => ?_, by simpa using I.len⟩
  · obtain ⟨sl, e1⟩ := I.base.slot b o e k hb hx
    exact ⟨sl, (hs.2 b (low b o e)).trans e1⟩
  · obtain ⟨o', e1⟩ := I.base.there b o e hx
    exact ⟨o', (hs.2 b (low b o e)).trans e1⟩
  · by_cases hj : j = i
    · subst hj
      by_cases hlt : j < σ.length
      · rw [List.getElem?_set_self hlt] at e2; cases e2
      · rw [List.getElem?_eq_none (by simpa using hlt)] at e2; cases e2
    · rw [List.getElem?_set_ne (Ne.symm hj)] at e2
      obtain ⟨u', r', q⟩ := hl j y v' e1 e2 e3
      refine ⟨u', r', ?_⟩
      rcases q with q | ⟨k, c', e, z'⟩
      · exact .inl q
      · refine .inr ⟨k, c', e, z'.sameBut hs fun ec => ?_⟩
        subst ec
        exact hj (nodup_ix hN e1 (I.ok.inj _ _ _ e hc ▸ hi))
  · by_cases ec : c2 = c
    · subst ec; exact ⟨none, hc'⟩
    · obtain ⟨w2, z2⟩ := I.cell y c2 e
      exact ⟨w2, z2.sameBut hs ec⟩
  · obtain ⟨e, k, ne, nf, d⟩ := I.pin p hp
    refine ⟨(hs.2 p.1 fun q => ?_).trans e, k, ne, nf, d⟩
    rw [q, hoc] at e
    have q' : oc = p.2 := Option.some.inj e
    exact d w0 (by rw [← q']; exact hocd)
  · refine (I.hok b ob e).stay (fun c1 w' hc1 q => (hs.2 c1 fun ec => ?_).trans q) (fun _ q => q) fun _ _ q => q
    subst ec
    rcases hc1 with hc1 | hc1
    · rw [← hc1, I.freeC n c1 hc] at e; cases e
    · rw [I.freeC n c1 hc] at hc1; cases hc1
end
/-- what is wished of what the body raises: the clause takes it -/
def wAsC (K : PySem.W.Frag) (c : Value) (i : Nat) (ts : Addr → Value → Option Addr → TS) (D : Ends) : WX := fun cls d σ H => PySem.W.exmOne K cls c = some true ∧ ∀ a, H a = none → ts a cls d { D with nx := fun σ H => D.nx (σ.set i none) H, bk := fun σ H => D.bk (σ.set i none) H, ct := fun σ H => D.ct (σ.set i none) H } (σ.set i (some (.ref a))) H
section
variable {X : Cx} {x n : Str} {c : Value} {i : Nat} {body suite : List Stmt} {b₀ : Stmt} {np pos pos' : Pos} {tb : WX → TS} {ts : Addr → Value → Option Addr → TS}
theorem ps_try_asC (hs : X.stack = X.env :: X.outer) (hf : X.env.frame = some X.env.locals) (hN : X.N.Nodup) (hi : X.N[i]? = some n) (hln : X.env.kindOf n = some .cell) (hfn : X.fn n = true) (hc : Names X x c)
    (hb : ∀ (W : WX) (pn : List (Addr × Obj)) (xe : Value → Shared → Prop), Takes (X.tr pn xe) W → PassesOwn (model X.prog X.w) X.A X.env xe → PSs (X.tr pn xe) body (tb W))
    (hsu : ∀ (a : Addr) (oe : Obj) (cls : Value) (d : Option Addr) (pn : List (Addr × Obj)), Zn cls d oe → (∃ vs, oe.data = .fields vs) → PSs (X.suite a ((a, oe) :: pn)) (b₀ :: suite) (ts a cls d)) :
    PS X (.Try body [.ExceptHandler (some (.Name x np)) (some n) (b₀ :: suite) pos'] [] [] pos) (fun D σ H => tb (wAsC X.K c i ts D) D σ H) := by
  refine ⟨fun pins s σ H D I h => ?_⟩
  have ok := I.ok
  have hfr : X.A.frames = some (X.env :: X.outer) := by rw [ok.frames, hs]
  refine wpAny_Try_except ?_
  refine wpAny_mono ((hb (wAsC X.K c i ts D) (X.pn ++ pins) (fun e s₁ => wpAny (model X.prog X.w) X.A (noteFrame e X.env) (fun _ s₂ => wpAny (model X.prog X.w) X.A (setFlight e none) (fun _ s₃ =>
    wpAny (model X.prog X.w) X.A (handleBy e X.env [.ExceptHandler (some (.Name x np)) (some n) (b₀ :: suite) pos']) (SP X pins D) X.xe s₃) X.xe s₂) X.xe s₁) (fun u s' xx => ?_) PassesOwn.looking).run [] s σ H D (I.toTry _) h) (fun f s1 hsp => ?_) (fun e s1 he => he)
  · obtain ⟨a, B, sI, pins', σ', H', cls, d, rfl, J', nb, up, sky, na, os, ag, hb1, hyes⟩ := xx
    have J : Inv X pins σ' H' sI := J'.ofTry ok
    have sky' : Sky B (X.env :: X.outer) a (Zn cls d) X.env.locals s'.heap := by rw [← hs]; exact sky
    show wpAny (model X.prog X.w) X.A (noteFrame (.ref a) X.env) _ _ _
    refine Sky.land Zn.steady hfr hf sky' fun h3 fl3 up3 => ?_
    have J3 : Inv X pins σ' H' { s' with heap := h3 } := J.landed nb fl3.1 (up.trans up3) os ag
    obtain ⟨oe3, vs3, he3, hz3, hd3⟩ := fl3.there
    have nfr : a ∉ frs (X.env :: X.outer) := fun hm => by
      obtain ⟨_, o', e', hnf⟩ := fl3.2.2.1.mem hm
      rw [he3] at e'; cases e'
      exact hnf _ hd3
    have nL : a ≠ X.env.locals := fun z => nfr (List.mem_filterMap.mpr ⟨X.env, List.mem_cons_self, by rw [hf, z]⟩)
    have nF : a ∉ X.fs := fun hm => by
      obtain ⟨e, he, q⟩ := List.mem_filterMap.mp hm
      exact nfr (List.mem_filterMap.mpr ⟨e, List.mem_cons_of_mem _ he, q⟩)
    have S3 := J3.suite he3 hd3 na nL nF
    refine wpAny_handleBy_cons (codeAny_handlers_test ?_) (by intro q; cases q)
    have LT : PySem.W.Looks (model X.prog X.w) h3 (typeOf (.ref a)) cls := fun A Q E s k q => wpAny_typeOf_ref (k _ _ he3) (by rw [hz3.1]; exact q)
    have LM := PySem.W.exm_one (M := model X.prog X.w) (J3.kIn) LT hb1
    have test : ∀ {Q : Value → Shared → Prop} {E : Value → Shared → Prop}, Q c { s' with heap := h3 } → wpAny (model X.prog X.w) (X.A.mark (some (.ref a))) (eval (.Name x np) X.env) Q E { s' with heap := h3 } := fun {Q E} q => by
      obtain ⟨hg, hdbg, hm | ⟨hm, hv, hnn⟩⟩ := hc
      · exact ld_glob (X := X.suite a ((a, oe3) :: (X.pn ++ pins))) S3 hg hm q hdbg
      · exact ld_blt (X := X.suite a ((a, oe3) :: (X.pn ++ pins))) S3 hg hm hv q hnn hdbg
    refine test (LM.here ?_)
    refine codeAny_handlers_suite_as ?_
    refine HandSPX.lands_againZ fl3 fun h4 fl4 up4 => ?_
    have J4 : Inv X pins σ' H' { s' with heap := h4 } := J.landed nb fl4.1 ((up.trans up3).trans up4) os ag
    obtain ⟨oe4, vs4, he4, hz4, hd4⟩ := fl4.there
    have S4 := J4.suite he4 hd4 na nL nF
    refine store_ok (X := X.suite a ((a, oe4) :: (X.pn ++ pins))) (v := .ref a) S4 hN hi (.inr hln) rfl (fun s5 S5 => ?_) (.inl hfn)
    refine wpAny_mono ((hsu a oe4 cls d (X.pn ++ pins) hz4 ⟨_, hd4⟩).run [] s5 _ H' _ S5 (hyes a na)) (fun f s6 hsp => ?_) (fun _ _ z => False.elim z)
    have end_ : ∀ {σ6 : L2.St} {H6 : Hp} {Q : Shared → Prop}, Inv (X.suite a ((a, oe4) :: (X.pn ++ pins))) [] σ6 H6 s6 → (∀ s7, Inv X pins (σ6.set i none) H6 s7 → Q s7) →
        wpAny (model X.prog X.w) X.A (do bindName X.env n .none; unbindBehindTheSuite X.env n pos') (fun _ s7 => Q s7) X.xe s6 := fun {σ6 H6 Q} S6 hq => goneC (S6.unsuite ok) hN hi hln hfn hq
    cases f with
    | next =>
      obtain ⟨σ6, H6, S6, q6⟩ := hsp
      exact end_ S6 fun s7 J7 => ⟨_, _, J7, q6⟩
    | brk =>
      obtain ⟨σ6, H6, S6, q6⟩ := hsp
      exact end_ S6 fun s7 J7 => ⟨_, _, J7, q6⟩
    | cont =>
      obtain ⟨σ6, H6, S6, q6⟩ := hsp
      exact end_ S6 fun s7 J7 => ⟨_, _, J7, q6⟩
    | ret u =>
      obtain ⟨v6, σ6, H6, S6, r6, q6⟩ := hsp
      exact end_ S6 fun s7 J7 => ⟨_, _, _, J7, r6, q6⟩
  · cases f with
    | next =>
      obtain ⟨σ', H', J', q⟩ := hsp
      exact wpAny_execs_nil ⟨σ', H', J'.ofTry ok, q⟩
    | brk =>
      obtain ⟨σ', H', J', q⟩ := hsp
      exact ⟨σ', H', J'.ofTry ok, q⟩
    | cont =>
      obtain ⟨σ', H', J', q⟩ := hsp
      exact ⟨σ', H', J'.ofTry ok, q⟩
    | ret u =>
      obtain ⟨v, σ', H', J', r, q⟩ := hsp
      exact ⟨v, σ', H', J'.ofTry ok, r, q⟩
end
end L2N
namespace VL
open PySem L2
section
variable {X : Cx} {ρ : RhoW} {Φ : Post} {rest body suite : List Stmt} {x n : Str} {b₀ : Stmt} {np pos pos' : Pos} {c : Value}
/-- as Ws.tryAsN, the clause's name a cell -/
theorem Ws.tryAsC (i : Nat) (xs : Value → Prop) (hN : X.N.Nodup) (hc : Names X x c)
    (hx : ∀ v, xs v → PySem.W.exmOne X.K v c = some true)
    (hb : ∀ (W : WX) (pn : List (Addr × Obj)) (xe : Value → Shared → Prop), L2N.Takes (X.tr pn xe) W → PassesOwn (model X.prog X.w) X.A X.env xe → Ws (X.tr pn xe) ρ body { nx := fun ρ => Ws X ρ rest Φ, rt := Φ.rt, xs := xs, xw := W })
    (hsu : ∀ (v : Value) (a : Addr) (oe : Obj) (pn : List (Addr × Obj)), xs v → L2N.Zn v none oe → (∃ vs, oe.data = .fields vs) → Ws (X.suite a ((a, oe) :: pn)) ((List.replicate ρ.length none).set i (some (.sh (.raw a)))) (b₀ :: suite) { nx := fun _ => False, rt := Φ.rt })
    (hs : X.stack = X.env :: X.outer := by rfl) (hf : X.env.frame = some X.env.locals := by rfl) (hi : X.N[i]? = some n := by rfl) (hln : X.env.kindOf n = some .cell := by rfl) (hfn : X.fn n = true := by rfl) :
    Ws X ρ (.Try body [.ExceptHandler (some (.Name x np)) (some n) (b₀ :: suite) pos'] [] [] pos :: rest) Φ := ⟨fun H0 σ H D E k =>
  WSs.cons (ws_of (L2N.ps_try_asC (i := i)
      (tb := fun W D σ H => ∀ (pn : List (Addr × Obj)) (xe : Value → Shared → Prop), L2N.Takes (X.tr pn xe) W → PassesOwn (model X.prog X.w) X.A X.env xe → WSs (X.tr pn xe) body σ H D)
      (ts := fun a cls d D σ H => ∀ (oe : Obj) (pn : List (Addr × Obj)), L2N.Zn cls d oe → (∃ vs, oe.data = .fields vs) → WSs (X.suite a ((a, oe) :: pn)) (b₀ :: suite) σ H D)
      hs hf hN hi hln hfn hc (fun W pn xe t po => ⟨fun pins s σ H D I h => h pn xe t po pins s I⟩) (fun a oe cls d pn hz hd => ⟨fun pins s σ H D I h => h oe pn hz hd pins s I⟩)) (by
    have hl : σ.length = ρ.length := E.len
    intro pn xe t po
    refine (hb _ pn xe t po).run H0 σ H _ E ⟨fun σ' H' ρ' q l E' => q.run H0 σ' H' D E' (k.cast l.symm), fun _ _ _ q => q.elim, fun _ _ _ q => q.elim, k.rt, fun _ _ _ _ _ q => q.elim, fun v σ' H' q l s => ?_⟩
    refine ⟨hx v q, fun a na oe pn' hz hd => ?_⟩
    refine (hsu v a oe pn' q hz hd).run H0 _ H' _ (env_raw l s) ⟨fun _ _ _ q => q.elim, fun _ _ _ q => q.elim, fun _ _ _ q => q.elim, k.rt, fun _ _ _ _ _ q => q.elim, fun _ _ _ q => q.elim⟩))⟩
end
end VL
set_option Elab.async false
set_option linter.all false
set_option maxRecDepth 100000
set_option maxHeartbeats 1000000
/-! value layer, part 44: an own list's part; a call with own arguments and a new thing -/
namespace VL
open PySem L2 PySem.Spec PyProof.Rows
section
variable {X : Cx} {ρ : Rho} {a b : Expr} {pos : Pos} {os : List O} {o : O}
theorem EvO.ixO (k : Nat) (ha : EvO X ρ a (.ls os)) (hb : Ev X ρ b (.int (k : Int))) (h : os[k]? = some o) (hs : PlainIx b := by exact fun _ _ => rfl) : EvO X ρ (.Subscript a b pos) o :=
  ⟨fun σ H en Q q => we_of (pe_ix ix_list pe_we pe_we hs) (ha.run σ H en _ fun x H1 A s1 f nd r1 => hb.run σ H1 (en.mono s1) _ fun y H2 s2 r2 => by
    obtain rfl := r2.int_inv
    cases r1 with
    | @ls p vs _ As h1 h2 h3 h4 =>
    have hk := (List.getElem?_eq_some_iff.mp h).1
    have hv : vs[k]? = some (vs[k]'(by omega)) := List.getElem?_eq_getElem (by omega)
    have hA : As[k]? = some (As[k]'(by omega)) := List.getElem?_eq_getElem (by omega)
    have rk := h4 k _ _ _ hv h hA
    have hflat := flat_split hA
    generalize As[k]'(by omega) = B at hA rk hflat
    have sub : ∀ c ∈ B, c ∈ p :: As.flatten := fun c hc => List.mem_cons_of_mem _ (by rw [hflat]; exact List.mem_append_right _ (List.mem_append_left _ hc))
    refine ⟨p, vs, (k : Int), vs[k]'(by omega), rfl, rfl, SqL.of (s2 _ _ h1), ?_, q _ H2 B (s1.trans s2) (fun c hc => f c (sub c hc)) ?_ (rk.keep (fun c _ u e => s2 c u e) fun c u e => ?_)⟩
    · unfold atI ixN
      rw [if_pos (by omega), if_pos (by omega)]
      show vs[(k : Int).toNat]? = _
      rw [Int.toNat_natCast]; exact hv
    · have nd2 := (List.nodup_cons.mp nd).2
      rw [hflat] at nd2
      exact (List.nodup_append.mp (List.nodup_append.mp nd2).2.1).1
    · obtain ⟨e1, e2⟩ := mask_some e
      rw [mask_out (fun z => e2 (sub c z))]
      exact s2 _ _ e1)⟩
end
section
variable {X : Cx} {ρ : RhoW} {x : Str} {k : Nat} {e e' : Expr} {es : List Expr} {p pos : Pos} {ps : List PSp} {o : O} {post : List (O × D) → W → Prop} {Ψ : W → RhoW → Prop}
theorem EvW.callGO (F : GF X.prog X.w X.K X.mg X.base k x (ps.map fun p => (p.a, p.o, p.d)) [o.data] post) (hr : Room k X.A) (ha : RcvA X (VL.bor ρ) (e :: es) ps [e']) (hd : EvO X (VL.bor ρ) e' o) (hf : o.free = true) (hok : okAll ps ρ) (hok0 : ∀ p ∈ ps, p.ok ρ)
    (hk : ∀ qs w, qs.length = ps.length → post qs w → okBack ps qs (outAll ps ρ) ∧ Ψ w (backAll ps qs (outAll ps ρ))) (hg : Gl X x := by rfl) (hdb : (x == ("__debug__" : Str)) = false := by decide)
    (he1 : starEach [e'] X.env = (false, eval e' X.env) :: starEach [] X.env := by rfl)
    (he : starEach (e :: es) X.env = (false, eval e X.env) :: starEach es X.env := by rfl) (hpl : (backTo pos (starEach es X.env)).any (·.1) = false := by rfl) : EvW X ρ (.Call (.Name x p) (e :: es) [] pos) Ψ := ⟨fun H0 σ H E Q q => by
  obtain ⟨f, fd, pn, h1, h2, h3, h4⟩ := F.ex
  have hl : σ.length = ρ.length := E.len
  refine we_of (pe_callF h4 hr hg h1 h2 h3 pa_wa hdb he hpl) ?_
  obtain ⟨F0, E0'⟩ := id E
  refine ha.run σ H _ E0'.envB (fun p hp => E.seeP (hok0 p hp)) fun H1 s1 => ?_
  refine wa_of (pa_cons pe_we pa_nil he1) (hd.run σ H1 (E0'.envB.mono s1) _ fun u H2 A s2 fr nd ro => ?_)
  have ET := EnvW.takeAll (ps := ps) (σ := σ) (τ := []) (ρ := ρ) (π := []) (by simpa using E.grow s1) hok
  simp only [List.nil_append] at ET
  obtain ⟨FT, ET⟩ := ET
  have nA : ∀ a ∈ A, a ∉ allOf FT (outAll ps ρ ++ ps.map fun p => some p.w).length := fun a ha z => ET.cells.some z (fr a ha)
  have EP0 : EnvW X.K H0 (σ ++ (ps.map fun p => some (.ref p.a)) ++ [some u]) H2 (outAll ps ρ ++ (ps.map fun p => some p.w) ++ [some (.ow o o.data)]) := ⟨_, ET.push (B := A) (fun a ha u e => s2 a u e) (fun b u e => by
    obtain ⟨e1, e2⟩ := mask_some e
    have hbA : b ∉ A := fun z => by rw [fr b z] at e1; cases e1
    rw [mask_out (fun z => (List.mem_append.mp z).elim e2 hbA)]
    exact s2 b u e1) fr nd ⟨rfl, RepO.maskF ro hf ((ET.cells.up fun a _ u e => s2 a u e).app ro.cells) fun a ha => List.mem_append_right _ ha⟩⟩
  have EP := EP0.share (i := (outAll ps ρ ++ ps.map fun p => some p.w).length) (o := o) (d := o.data) (by rw [List.getElem?_append_right (Nat.le_refl _), Nat.sub_self]; rfl)
  rw [List.set_append_right _ _ (Nat.le_refl _), Nat.sub_self, List.set_cons_zero, List.append_assoc, List.append_assoc] at EP
  have e1 : ((ps.map fun p => some (V.ref p.a)) ++ [some u]) = (((ps.map fun p => V.ref p.a) ++ [u]).map some) := by simp
  have e2 : ((ps.map fun p => some p.w) ++ [some (W.sh o.data)]) = ((((ps.map fun p => (p.a, p.o, p.d)).map fun q => W.ow (.pin q.1 q.2.1) q.2.2) ++ [o.data].map W.sh).map some) := by simp [PSp.w, Function.comp_def]
  rw [e1, e2] at EP
  obtain ⟨F3, EP⟩ := EP
  have hl2 : σ.length = (outAll ps ρ).length := by rw [outAll_length]; exact hl
  refine ⟨_, EP.hidN _, spG_run EP hl2 (by simp) fun ws' w r H' hw po Er => ?_⟩
  obtain ⟨qs, hq, rfl, po⟩ := po
  have hq' : qs.length = ps.length := by simpa using hq
  obtain ⟨hB, hΨ⟩ := hk qs w hq' po
  have e3 : (((ps.map fun p => V.ref p.a) ++ [u]).map some ++ [some r]) = (ps.map fun p => some (V.ref p.a)) ++ ([u].map some ++ [some r]) := by simp
  have e4 : (((((ps.map fun p => (p.a, p.o, p.d)).zip qs).map fun q => W.ow (.pin q.1.1 q.2.1) q.2.2) ++ [o.data].map W.sh).map some ++ [some w]) = ((ps.zip qs).map fun q => some (W.ow (.pin q.1.a q.2.1) q.2.2)) ++ (([o.data].map fun d => some (W.sh d)) ++ [some w]) := by
    simp [List.zip_map_left, Function.comp_def]
  rw [e3, e4] at Er
  have Ef := EnvW.putAll hq' hB hl2 (fun p hp => by
    obtain ⟨v, a1, a2⟩ := E.seeP (hok0 p hp)
    exact ⟨v, a1, fun e => by rw [e] at a2; exact a2⟩) Er
  rw [← List.append_assoc, ← List.append_assoc] at Ef
  have bl : ∀ (ps : List PSp) (qs : List (O × D)) (ρ : RhoW), (backAll ps qs ρ).length = ρ.length := by
    intro ps
    induction ps with
    | nil => intro qs ρ; rfl
    | cons p ps ih =>
      intro qs ρ
      cases qs with
      | nil => rfl
      | cons q qs => rw [backAll, ih, p.back_length]
  have Eg := Ef.dropMid (by rw [bl, outAll_length]; exact hl) (by simp)
  exact q r H' w _ hΨ (by rw [bl, outAll_length]) Eg⟩
end
end VL
set_option Elab.async false
set_option linter.all false
set_option maxRecDepth 100000
set_option maxHeartbeats 1000000
/-! value layer, part 45: a new thing is shared; an append to a pinned list at a place, of what is put together; pins within -/
namespace VL
open PySem L2 PySem.Spec PyProof.Rows
section
variable {X : Cx} {ρ : RhoW} {Φ : Post} {rest body : List Stmt} {r e : Expr} {pos cpos apos : Pos} {d d' d1 : D} {o : O} {ds : List D} {Ψ : W → RhoW → Prop} {c : Addr}
theorem EvW.shr (h : EvW X ρ e fun w ρ' => (∃ o, w = .ow o d) ∧ Ψ (.sh d) ρ') : EvW X ρ e Ψ := ⟨fun H0 σ H E Q q => h.run H0 σ H E _ fun v H' w ρ' p l E' => by
  obtain ⟨⟨o, rfl⟩, k⟩ := p
  have E2 := E'.share (i := ρ'.length) (o := o) (d := d) (by simp)
  rw [List.set_append_right _ _ (Nat.le_refl _), Nat.sub_self, List.set_cons_zero] at E2
  exact q v H' (.sh d) ρ' k l E2⟩
theorem leafPin {K : PySem.W.Frag} {H0 H2 : Hp} {σ : L2.St} {π : RhoW} {i : Nat} {p : List Pe} (hρ : π[i]? = some (some (.ow o d1))) (hp : o.okP p) (hs : o.sub p = some (.pin c (oL ds))) (E : EnvW K H0 σ H2 π) :
    ∃ (F : Nat → List Addr) (E2 : EnvA K H0 σ H2 π F) (v : V) (vs : List V), σ[i]? = some (some v) ∧ At H2 (.ref c) p v ∧ H2 c = some (.lst vs) ∧ Reps K (mask H2 (allOf F π.length)) vs ds ∧
      ∀ vs' ds', Reps K (mask H2 (allOf F π.length)) vs' ds' → (o.put (.pin c (oL ds')) p).data = d' → EnvA K H0 σ (upd H2 c (.lst vs')) (π.set i (some (.ow (o.put (.pin c (oL ds')) p) d'))) F := by
  have hs' : o.sub (p ++ [.pin]) = some (oL ds) := O.sub_snoc hs
  have hp' : o.okP (p ++ [.pin]) := O.okP_snoc hp hs trivial
  have hput : ∀ n, o.put n (p ++ [.pin]) = o.put (.pin c n) p := fun n => O.put_snoc hs
  obtain ⟨F, E1⟩ := E
  obtain ⟨v, b, vs, hσ, hat, ha, rs, K'⟩ := E1.mutP (d' := d') hρ hp' hs'
  obtain ⟨w, hw1, hw2⟩ := hat.snoc
  obtain rfl : (V.ref b) = w := hw2
  obtain ⟨v2, hσ2, rv⟩ := E1.get i _ hρ
  obtain rfl : v = v2 := by rw [hσ] at hσ2; simpa using hσ2
  have hc := RepO.atPin rv.2 mask_same hp hs
  obtain rfl : b = c := by have := hc.det (Same.refl _) hw1; simpa using this
  refine ⟨F, E1, v, vs, hσ, hc, ha, rs, fun vs' ds' r hd => ?_⟩
  have := (K' vs' ds' r (by rw [hput]; exact hd)).1
  rw [hput] at this
  exact this
theorem Ws.appendE (i : Nat) (p : List Pe) (hr : Rcv X r i p) (h : EvW X ρ e (shD d ρ)) (hs : o.sub p = some (.pin c (oL ds))) (hd : (o.put (.pin c (oL (ds ++ [d]))) p).data = d') (k : Ws X (ρ.set i (some (.ow (o.put (.pin c (oL (ds ++ [d]))) p) d'))) rest Φ)
    (hz : ds.length < 100000) (hρ : ρ[i]? = some (some (.ow o d1)) := by rfl) (hp : o.okP p := by walk_at "okp")
    (hpe : ∀ {t t2}, PE X r t → PE X e t2 → PE X (.Call (.Attribute r "append" apos) [e] [] cpos) (tBM X.K "list" rAppend t (tCons t2 tNil)) := by
      intro t t2 h1 h2; exact pe_bm PySem.F.plainAttrs_list PySem.F.slot_list_append PySem.F.type_list_append mt_append h1 (pa_cons h2 pa_nil))
    (hsw : swapsWith (.Call (.Attribute r "append" apos) [e] [] cpos) none pos.line X.env = pure false := by rfl) : Ws X ρ (.Expr (.Call (.Attribute r "append" apos) [e] [] cpos) pos :: rest) Φ := ⟨fun H0 σ H D E kk =>
  WSs.cons (ws_of (ps_expr (hpe pe_we pe_we) hsw) (by
    have hi := (List.getElem?_eq_some_iff.mp hρ).1
    have hl := E.len
    obtain ⟨F, E1, v, vs, hσ, hat, ha, _, _⟩ := leafPin (d' := d') hρ hp hs E
    refine hr.run σ H v (.ref c) _ hσ hat ⟨.inl ⟨rfl, vs, SqL.of ha⟩, ?_⟩
    refine h.run H0 σ H E _ fun u H' w ρ' q l E' => ?_
    obtain ⟨rfl, rfl⟩ := q
    have hρ' : (ρ' ++ [some (W.sh d)])[i]? = some (some (.ow o d1)) := by rw [List.getElem?_append_left hi]; exact hρ
    obtain ⟨F2, E2, v', vs', hσ', _, ha', rs', K'⟩ := leafPin (d' := d') hρ' hp hs E'
    obtain ⟨u', hu', ru'⟩ := E2.get ρ'.length (.sh d) (by simp)
    obtain rfl : u' = u := by rw [← hl] at hu'; simp at hu'; exact hu'.symm
    refine ⟨c, vs', u', rfl, rfl, ha', by rw [rs'.1]; exact Nat.lt_of_lt_of_le hz (by decide), ?_⟩
    have En := K' _ _ (rs'.append (.cons ru'.1 .nil)) hd
    rw [List.set_append_left _ _ hi] at En
    exact k.run H0 σ _ D (EnvW.pop ⟨_, En⟩) (kk.cast (by simp))))⟩
/-- another word for a slot, with something found -/
theorem Ws.recastX {τ : Type} {i : Nat} (o' : τ → O) (hi : ρ[i]? = some (some (.ow o d))) (hx : ∀ (v : V) (H S : Hp) (A : List Addr), RepO X.K H S v o A → ∃ x, RepO X.K H S v (o' x) A) (hd : ∀ x, (o' x).data = d') (h : ∀ x, Ws X (ρ.set i (some (.ow (o' x) d'))) body Φ) : Ws X ρ body Φ := ⟨fun H0 σ H D E k => by
  obtain ⟨F, E1⟩ := id E
  obtain ⟨v, h1, r⟩ := E1.get i _ hi
  have hi' := (List.getElem?_eq_some_iff.mp hi).1
  obtain ⟨x, r2⟩ := hx _ _ _ _ r.2
  refine (h x).run H0 σ H D ⟨F, by simp [E1.len], E1.nd, E1.dj, by simpa using E1.fresh, E1.same, fun j y hj => ?_, fun j hj => ?_⟩ (k.cast (by simp))
  · rw [List.length_set]
    by_cases e : j = i
    · subst e
      rw [List.getElem?_set_self hi'] at hj
      obtain rfl := Option.some.inj (Option.some.inj hj)
      exact ⟨_, h1, hd x, r2⟩
    · rw [List.getElem?_set_ne (Ne.symm e)] at hj
      exact E1.get j y hj
  · by_cases e : j = i
    · subst e
      exact absurd (List.getElem?_set_self hi') (hj _)
    · exact E1.off j fun x z => hj x (by rw [List.getElem?_set_ne (Ne.symm e)]; exact z)⟩
end
section
variable {K : PySem.W.Frag} {H S : Hp} {v : V} {A : List Addr} {o o1 o2 o3 : O} {ks : List Key}
theorem RepO.pinRef (r : RepO K H S v o A) (h : o.isLs = true) : ∃ a, RepO K H S v (.pin a o) A := by
  obtain ⟨a, rfl⟩ := r.ls_ref h
  exact ⟨a, .pin r⟩
theorem RepO.dd3 (r : RepO K H S v (.dd ks [o1, o2, o3]) A) (h : o3.isLs = true) : ∃ c, RepO K H S v (.dd ks [o1, o2, .pin c o3]) A := by
  cases r with
  | @dd b kvs vs _ _ As h1 h2 h3 h4 h5 h6 =>
  obtain ⟨v1, v2, v3, rfl⟩ : ∃ v1 v2 v3, vs = [v1, v2, v3] := by
    match vs, h4 with
    | [v1, v2, v3], _ => exact ⟨v1, v2, v3, rfl⟩
  obtain ⟨A1, A2, A3, rfl⟩ : ∃ A1 A2 A3, As = [A1, A2, A3] := by
    match As, h5 with
    | [A1, A2, A3], _ => exact ⟨A1, A2, A3, rfl⟩
  obtain ⟨c, r3⟩ := (h6 2 v3 o3 A3 rfl rfl rfl).pinRef h
  exact ⟨c, .dd h1 h2 h3 rfl rfl (RepOs.cons (h6 0 v1 o1 A1 rfl rfl rfl) (RepOs.cons (h6 1 v2 o2 A2 rfl rfl rfl) (RepOs.cons r3 RepOs.nil))).2.2⟩
theorem RepO.ls2 {τ τ' : Type} {f : τ → O} {g : τ' → O} (r : RepO K H S v (.ls [o1, o2]) A) (h1 : ∀ v A, RepO K H S v o1 A → ∃ x, RepO K H S v (f x) A) (h2 : ∀ v A, RepO K H S v o2 A → ∃ x, RepO K H S v (g x) A) : ∃ x : τ × τ', RepO K H S v (.ls [f x.1, g x.2]) A := by
  cases r with
  | @ls b vs _ As q1 q2 q3 q4 =>
  obtain ⟨v1, v2, rfl⟩ : ∃ v1 v2, vs = [v1, v2] := by
    match vs, q2 with
    | [v1, v2], _ => exact ⟨v1, v2, rfl⟩
  obtain ⟨A1, A2, rfl⟩ : ∃ A1 A2, As = [A1, A2] := by
    match As, q3 with
    | [A1, A2], _ => exact ⟨A1, A2, rfl⟩
  obtain ⟨x, r1⟩ := h1 _ _ (q4 0 v1 o1 A1 rfl rfl rfl)
  obtain ⟨y, r2⟩ := h2 _ _ (q4 1 v2 o2 A2 rfl rfl rfl)
  exact ⟨(x, y), .ls q1 rfl rfl (RepOs.cons r1 (RepOs.cons r2 RepOs.nil)).2.2⟩
end
end VL
set_option Elab.async false
set_option linter.all false
set_option maxRecDepth 100000
set_option maxHeartbeats 1000000
/-! value layer, part 46: a whole number is no truth -/
namespace VL
open PySem L2 PySem.Spec PyProof.Rows
section
variable {X : Cx}
theorem op_isIB : OpR X (compareOp .Is) (fun x y H Q => ∃ (i : Int) (b : Bool), x = .int i ∧ y = .bl b ∧ Q (.bl false) H) := by
  intro pins s σ H x y v u Q I rx ry h
  obtain ⟨i, b, rfl, rfl, q⟩ := h
  obtain ⟨t, rfl⟩ : ∃ t, v = Value.int i t := rx
  cases (show u = Value.bool b from ry)
  exact wpAny_is_other rfl (fun z => by cases z) ⟨.bl false, H, I, rfl, q⟩
theorem CmpD.isIB {i : Int} {b : Bool} : CmpD X .Is (.int i) (.bl b) false :=
  ⟨_, op_isIB, fun v w H rv rw Q q => ⟨i, b, rv.int_inv, rw.bl_inv, q _ H (Same.refl H) (.bl _)⟩⟩
end
end VL
set_option Elab.async false
set_option linter.all false
set_option maxRecDepth 100000
set_option maxHeartbeats 1000000
/-! value layer, part 47: four targets -/
namespace VL
open PySem L2 PySem.Spec PyProof.Rows
section
variable {X : Cx} {pos : Pos} {d1 d2 d3 d4 : D}
theorem EvG.four {x y z t : Str} (i j m n : Nat) {k : Nat} {p1 p2 p3 p4 : Pos}
    (hpg : X.N.Nodup → PG X (.Tuple [.Name x p1, .Name y p2, .Name z p3, .Name t p4] k pos) (gTup X.K 4 (gCons (gName i) (gCons (gName j) (gCons (gName m) (gCons (gName n) gNil)))))) (hN : X.N.Nodup) :
    EvG X (.Tuple [.Name x p1, .Name y p2, .Name z p3, .Name t p4] k pos) (.tup [d1, d2, d3, d4]) [i, j, m, n] [d1, d2, d3, d4] :=
  ⟨rfl, fun σ H M v sm r Q q => wg_of (hpg hN) (by
    obtain ⟨a, ws, rfl, h, rs⟩ := r.tup_inv
    obtain ⟨v1, w1, rfl, r1, rs1⟩ := id rs.cons_split
    obtain ⟨v2, w2, rfl, r2, rs2⟩ := id rs1.cons_split
    obtain ⟨v3, w3, rfl, r3, rs3⟩ := id rs2.cons_split
    obtain ⟨v4, w4, rfl, r4, rs4⟩ := id rs3.cons_split
    obtain rfl := rs4.nil_inv
    exact ⟨a, _, rfl, SqT.of (sm _ _ h), rfl, v1, [v2, v3, v4], rfl, v2, [v3, v4], rfl, v3, [v4], rfl, v4, [], rfl, rfl, q [v1, v2, v3, v4] rs⟩)⟩
end
end VL
namespace VL
open PySem L2

def topS (i : Nat) : Stmt := PySem.Challenge.pw_flatstrip_k07_folded_and_taken_back.main.body.getD i (.Pass ⟨0, 0, 0, 0⟩)
/-! is_whole: slots 0=thing -/
abbrev s_is_whole : Stmt := topS 9
abbrev n_is_whole : List Str := ["thing"]
theorem sc_is_whole : FnScope n_is_whole ["thing"] (defScope s_is_whole) := ⟨rfl, rfl, rfl, by decide +kernel, rfl, by decide +kernel, by decide +kernel⟩
/-! copied: slots 0=strip -/
abbrev s_copied : Stmt := topS 10
abbrev n_copied : List Str := ["strip"]
theorem sc_copied : FnScope n_copied ["strip"] (defScope s_copied) := ⟨rfl, rfl, rfl, by decide +kernel, rfl, by decide +kernel, by decide +kernel⟩
/-! moves: slots 0=strip 1=lengths 2=marks 3=found 4=crease -/
abbrev s_moves : Stmt := topS 12
abbrev n_moves : List Str := ["strip", "lengths", "marks", "found", "crease"]
theorem sc_moves : FnScope n_moves ["strip"] (defScope s_moves) := ⟨rfl, rfl, rfl, by decide +kernel, rfl, by decide +kernel, by decide +kernel⟩
/-! is_move: slots 0=thing 1=part -/
abbrev s_is_move : Stmt := topS 13
abbrev n_is_move : List Str := ["thing", "part"]
theorem sc_is_move : FnScope n_is_move ["thing"] (defScope s_is_move) := ⟨rfl, rfl, rfl, by decide +kernel, rfl, by decide +kernel, by decide +kernel⟩
/-! taken: slots 0=strip 1=move 2=lengths 3=marks 4=at 5=length -/
abbrev s_taken : Stmt := topS 14
abbrev n_taken : List Str := ["strip", "move", "lengths", "marks", "at", "length"]
theorem sc_taken : FnScope n_taken ["strip", "move"] (defScope s_taken) := ⟨rfl, rfl, rfl, by decide +kernel, rfl, by decide +kernel, by decide +kernel⟩
/-! laid: slots 0=below 1=piled 2=mark -/
abbrev s_laid : Stmt := topS 16
abbrev n_laid : List Str := ["below", "piled", "mark"]
theorem sc_laid : FnScope n_laid ["below", "piled", "mark"] (defScope s_laid) := ⟨rfl, rfl, rfl, by decide +kernel, rfl, by decide +kernel, by decide +kernel⟩
/-! pleated: slots 0=piles 1=at 2=mark 3=middle -/
abbrev s_pleated : Stmt := topS 17
abbrev n_pleated : List Str := ["piles", "at", "mark", "middle"]
theorem sc_pleated : FnScope n_pleated ["piles", "at", "mark"] (defScope s_pleated) := ⟨rfl, rfl, rfl, by decide +kernel, rfl, by decide +kernel, by decide +kernel⟩
/-! piled_up: slots 0=piles 1=marks 2=move 3=at -/
abbrev s_piled_up : Stmt := topS 18
abbrev n_piled_up : List Str := ["piles", "marks", "move", "at"]
theorem sc_piled_up : FnScope n_piled_up ["piles", "marks", "move"] (defScope s_piled_up) := ⟨rfl, rfl, rfl, by decide +kernel, rfl, by decide +kernel, by decide +kernel⟩
/-! _law_cell_at: slots 0=_law_script 1=_law_k -/
abbrev s_L_cell_at : Stmt := topS 21
abbrev n_L_cell_at : List Str := ["_law_script", "_law_k"]
theorem sc_L_cell_at : FnScope n_L_cell_at ["_law_script", "_law_k"] (defScope s_L_cell_at) := ⟨rfl, rfl, rfl, by decide +kernel, rfl, by decide +kernel, by decide +kernel⟩
/-! _law_unfolded: slots 0=_law_script 1=_law_first 2=_law_many 3=_law_lengths 4=_law_marks 5=_law_turn 6=_law_cell 7=_law_mark 8=_law_at 9=_law_step_here 10=_law_short -/
abbrev s_L_unfolded : Stmt := topS 22
abbrev n_L_unfolded : List Str := ["_law_script", "_law_first", "_law_many", "_law_lengths", "_law_marks", "_law_turn", "_law_cell", "_law_mark", "_law_at", "_law_step_here", "_law_short"]
theorem sc_L_unfolded : FnScope n_L_unfolded ["_law_script", "_law_first", "_law_many"] (defScope s_L_unfolded) := ⟨rfl, rfl, rfl, by decide +kernel, rfl, by decide +kernel, by decide +kernel⟩
/-! _law_strip: slots 0=_law_script 1=_law_head 2=_law_lengths 3=_law_marks 4=_law_cells 5=_law_more 6=_law_at 7=_law_cell 8=_law_found 9=_law_k 10=_law_length -/
abbrev s_L_strip : Stmt := topS 23
abbrev n_L_strip : List Str := ["_law_script", "_law_head", "_law_lengths", "_law_marks", "_law_cells", "_law_more", "_law_at", "_law_cell", "_law_found", "_law_k", "_law_length"]
theorem sc_L_strip : FnScope n_L_strip ["_law_script"] (defScope s_L_strip) := ⟨rfl, rfl, rfl, by decide +kernel, rfl, by decide +kernel, by decide +kernel⟩
/-! _law_left: slots 0=_law_script 1=_law_lengths 2=_law_marks 3=_law_cell -/
abbrev s_L_left : Stmt := topS 24
abbrev n_L_left : List Str := ["_law_script", "_law_lengths", "_law_marks", "_law_cell"]
theorem sc_L_left : FnScope n_L_left ["_law_script"] (defScope s_L_left) := ⟨rfl, rfl, rfl, by decide +kernel, rfl, by decide +kernel, by decide +kernel⟩
/-! _law_moves: slots 0=_law_lengths 1=_law_marks 2=_law_found 3=_law_k -/
abbrev s_L_moves : Stmt := topS 25
abbrev n_L_moves : List Str := ["_law_lengths", "_law_marks", "_law_found", "_law_k"]
theorem sc_L_moves : FnScope n_L_moves ["_law_lengths", "_law_marks"] (defScope s_L_moves) := ⟨rfl, rfl, rfl, by decide +kernel, rfl, by decide +kernel, by decide +kernel⟩
/-! _law_behind: slots 0=_law_lengths 1=_law_marks 2=_law_move 3=_law_k 4=_law_length -/
abbrev s_L_behind : Stmt := topS 26
abbrev n_L_behind : List Str := ["_law_lengths", "_law_marks", "_law_move", "_law_k", "_law_length"]
theorem sc_L_behind : FnScope n_L_behind ["_law_lengths", "_law_marks", "_law_move"] (defScope s_L_behind) := ⟨rfl, rfl, rfl, by decide +kernel, rfl, by decide +kernel, by decide +kernel⟩
/-! _law_piled: slots 0=_law_piles 1=_law_marks 2=_law_move 3=_law_rest 4=_law_k 5=_law_three -/
abbrev s_L_piled : Stmt := topS 27
abbrev n_L_piled : List Str := ["_law_piles", "_law_marks", "_law_move", "_law_rest", "_law_k", "_law_three"]
theorem sc_L_piled : FnScope n_L_piled ["_law_piles", "_law_marks", "_law_move"] (defScope s_L_piled) := ⟨rfl, rfl, rfl, by decide +kernel, rfl, by decide +kernel, by decide +kernel⟩
/-! _law_whole: slots 0=_law_found -/
abbrev s_L_whole : Stmt := topS 28
abbrev n_L_whole : List Str := ["_law_found"]
theorem sc_L_whole : FnScope n_L_whole ["_law_found"] (defScope s_L_whole) := ⟨rfl, rfl, rfl, by decide +kernel, rfl, by decide +kernel, by decide +kernel⟩
/-! _law_is_strip: slots 0=_law_found 1=_law_due 2=_law_length 3=_law_mark -/
abbrev s_L_is_strip : Stmt := topS 29
abbrev n_L_is_strip : List Str := ["_law_found", "_law_due", "_law_length", "_law_mark"]
theorem sc_L_is_strip : FnScope n_L_is_strip ["_law_found", "_law_due"] (defScope s_L_is_strip) := ⟨rfl, rfl, rfl, by decide +kernel, rfl, by decide +kernel, by decide +kernel⟩
/-! _law_sole: slots 0=_law_error 1=_law_due 2=_law_kinds_here -/
abbrev s_L_sole : Stmt := topS 30
abbrev n_L_sole : List Str := ["_law_error", "_law_due", "_law_kinds_here"]
theorem sc_L_sole : FnScope n_L_sole ["_law_error", "_law_due"] (defScope s_L_sole) := ⟨rfl, rfl, rfl, by decide +kernel, rfl, by decide +kernel, by decide +kernel⟩
/-! _law_kinds: slots 0=_law_move 1=_law_number -/
abbrev s_L_kinds : Stmt := topS 31
abbrev n_L_kinds : List Str := ["_law_move", "_law_number"]
theorem sc_L_kinds : FnScope n_L_kinds ["_law_move"] (defScope s_L_kinds) := ⟨rfl, rfl, rfl, by decide +kernel, rfl, by decide +kernel, by decide +kernel⟩
/-! _law_done: slots 0=_law_work 1=_law_move 2=_law_error 3=_law_word -/
abbrev s_L_done : Stmt := topS 32
abbrev n_L_done : List Str := ["_law_work", "_law_move", "_law_error", "_law_word"]
theorem sc_L_done : FnScope n_L_done ["_law_work", "_law_move"] (defScope s_L_done) := ⟨rfl, rfl, rfl, by decide +kernel, rfl, by decide +kernel, by decide +kernel⟩
/-! _law_looked: slots 0=_law_work 1=_law_turn 2=_law_strip_here 3=_law_moved 4=_law_rows -/
abbrev s_L_looked : Stmt := topS 33
abbrev n_L_looked : List Str := ["_law_work", "_law_turn", "_law_strip_here", "_law_moved", "_law_rows"]
theorem sc_L_looked : FnScope n_L_looked ["_law_work", "_law_turn"] (defScope s_L_looked) := ⟨rfl, rfl, rfl, by decide +kernel, rfl, by decide +kernel, by decide +kernel⟩
/-! _law_stands: slots 0=_law_work 1=_law_state 2=_law_held 3=_law_turn 4=_law_strip_here 5=_law_moved 6=_law_rows 7=_law_row 8=_law_told 9=_law_move 10=_law_piece -/
abbrev s_L_stands : Stmt := topS 34
abbrev n_L_stands : List Str := ["_law_work", "_law_state", "_law_held", "_law_turn", "_law_strip_here", "_law_moved", "_law_rows", "_law_row", "_law_told", "_law_move", "_law_piece"]
theorem sc_L_stands : FnScope n_L_stands ["_law_work", "_law_state", "_law_held", "_law_turn"] (defScope s_L_stands) := ⟨rfl, rfl, rfl, by decide +kernel, rfl, by decide +kernel, by decide +kernel⟩
/-! _law_deed: slots 0=_law_state 1=_law_cell 2=_law_lengths 3=_law_marks 4=_law_some 5=_law_kind 6=_law_odd -/
abbrev s_L_deed : Stmt := topS 35
abbrev n_L_deed : List Str := ["_law_state", "_law_cell", "_law_lengths", "_law_marks", "_law_some", "_law_kind", "_law_odd"]
theorem sc_L_deed : FnScope n_L_deed ["_law_state", "_law_cell"] (defScope s_L_deed) := ⟨rfl, rfl, rfl, by decide +kernel, rfl, by decide +kernel, by decide +kernel⟩
/-! _law_step: slots 0=_law_work 1=_law_state 2=_law_move 3=_law_found 4=_law_lengths 5=_law_marks -/
abbrev s_L_step : Stmt := topS 36
abbrev n_L_step : List Str := ["_law_work", "_law_state", "_law_move", "_law_found", "_law_lengths", "_law_marks"]
theorem sc_L_step : FnScope n_L_step ["_law_work", "_law_state", "_law_move"] (defScope s_L_step) := ⟨rfl, rfl, rfl, by decide +kernel, rfl, by decide +kernel, by decide +kernel⟩
/-! _law_again: slots 0=_law_work 1=_law_state 2=_law_lengths 3=_law_marks 4=_law_some 5=_law_move -/
abbrev s_L_again : Stmt := topS 37
abbrev n_L_again : List Str := ["_law_work", "_law_state", "_law_lengths", "_law_marks", "_law_some", "_law_move"]
theorem sc_L_again : FnScope n_L_again ["_law_work", "_law_state"] (defScope s_L_again) := ⟨rfl, rfl, rfl, by decide +kernel, rfl, by decide +kernel, by decide +kernel⟩
/-! law: slots 0=_law_script 1=_law_strip_here 2=_law_handed 3=_law_works 4=_law_piles 5=_law_states 6=_law_held 7=_law_at 8=_law_cell 9=_law_which 10=_law_k 11=_law_one 12=_law_two 13=_law_three 14=_law_four -/
abbrev s_law : Stmt := topS 38
abbrev n_law : List Str := ["_law_script", "_law_strip_here", "_law_handed", "_law_works", "_law_piles", "_law_states", "_law_held", "_law_at", "_law_cell", "_law_which", "_law_k", "_law_one", "_law_two", "_law_three", "_law_four"]
theorem sc_law : FnScope n_law ["_law_script"] (defScope s_law) := ⟨rfl, rfl, rfl, by decide +kernel, rfl, by decide +kernel, by decide +kernel⟩
/-! Fold.__init__: slots 0=self 1=strip 2=piece -/
abbrev s_Fold_init : Stmt := inClass (topS 19) 0
abbrev n_Fold_init : List Str := ["self", "strip", "piece"]
theorem sc_Fold_init : FnScope n_Fold_init ["self", "strip"] (defScope s_Fold_init) := ⟨rfl, rfl, rfl, by decide +kernel, rfl, by decide +kernel, by decide +kernel⟩
/-! Fold.here: slots 0=self -/
abbrev s_Fold_here : Stmt := inClass (topS 19) 1
abbrev n_Fold_here : List Str := ["self"]
theorem sc_Fold_here : FnScope n_Fold_here ["self"] (defScope s_Fold_here) := ⟨rfl, rfl, rfl, by decide +kernel, rfl, by decide +kernel, by decide +kernel⟩
/-! Fold.done: slots 0=self 1=step -/
abbrev s_Fold_done : Stmt := inClass (topS 19) 2
abbrev n_Fold_done : List Str := ["self", "step"]
theorem sc_Fold_done : FnScope n_Fold_done ["self"] (defScope s_Fold_done) := ⟨rfl, rfl, rfl, by decide +kernel, rfl, by decide +kernel, by decide +kernel⟩
/-! Fold.layers: slots 0=self 1=row -/
abbrev s_Fold_layers : Stmt := inClass (topS 19) 3
abbrev n_Fold_layers : List Str := ["self", "row"]
theorem sc_Fold_layers : FnScope n_Fold_layers ["self"] (defScope s_Fold_layers) := ⟨rfl, rfl, rfl, by decide +kernel, rfl, by decide +kernel, by decide +kernel⟩
/-! Fold.take: slots 0=self 1=move 2=later -/
abbrev s_Fold_take : Stmt := inClass (topS 19) 4
abbrev n_Fold_take : List Str := ["self", "move", "later"]
theorem sc_Fold_take : FnScope n_Fold_take ["self", "move"] (defScope s_Fold_take) := ⟨rfl, rfl, rfl, by decide +kernel, rfl, by decide +kernel, by decide +kernel⟩
/-! Fold.back: slots 0=self 1=move -/
abbrev s_Fold_back : Stmt := inClass (topS 19) 5
abbrev n_Fold_back : List Str := ["self", "move"]
theorem sc_Fold_back : FnScope n_Fold_back ["self"] (defScope s_Fold_back) := ⟨rfl, rfl, rfl, by decide +kernel, rfl, by decide +kernel, by decide +kernel⟩
structure Cl_Fold (K : PySem.W.Frag) (mg : Str → Option Value) (C : Addr) : Prop where
  F : ClsF K mg C "Fold" ["now", "piles", "past"]
  m_init : DfM K C "__init__" "Fold.__init__" s_Fold_init ["self", "strip"]
  m_here : DfM K C "here" "Fold.here" s_Fold_here ["self"]
  m_done : DfM K C "done" "Fold.done" s_Fold_done ["self"]
  m_layers : DfM K C "layers" "Fold.layers" s_Fold_layers ["self"]
  m_take : DfM K C "take" "Fold.take" s_Fold_take ["self", "move"]
  m_back : DfM K C "back" "Fold.back" s_Fold_back ["self"]
structure Fx (K : PySem.W.Frag) (mg : Str → Option Value) : Prop where
  d_is_whole : Df K mg "is_whole" s_is_whole ["thing"]
  d_copied : Df K mg "copied" s_copied ["strip"]
  d_moves : Df K mg "moves" s_moves ["strip"]
  d_is_move : Df K mg "is_move" s_is_move ["thing"]
  d_taken : Df K mg "taken" s_taken ["strip", "move"]
  d_laid : Df K mg "laid" s_laid ["below", "piled", "mark"]
  d_pleated : Df K mg "pleated" s_pleated ["piles", "at", "mark"]
  d_piled_up : Df K mg "piled_up" s_piled_up ["piles", "marks", "move"]
  d_L_cell_at : Df K mg "_law_cell_at" s_L_cell_at ["_law_script", "_law_k"]
  d_L_unfolded : Df K mg "_law_unfolded" s_L_unfolded ["_law_script", "_law_first", "_law_many"]
  d_L_strip : Df K mg "_law_strip" s_L_strip ["_law_script"]
  d_L_left : Df K mg "_law_left" s_L_left ["_law_script"]
  d_L_moves : Df K mg "_law_moves" s_L_moves ["_law_lengths", "_law_marks"]
  d_L_behind : Df K mg "_law_behind" s_L_behind ["_law_lengths", "_law_marks", "_law_move"]
  d_L_piled : Df K mg "_law_piled" s_L_piled ["_law_piles", "_law_marks", "_law_move"]
  d_L_whole : Df K mg "_law_whole" s_L_whole ["_law_found"]
  d_L_is_strip : Df K mg "_law_is_strip" s_L_is_strip ["_law_found", "_law_due"]
  d_L_sole : Df K mg "_law_sole" s_L_sole ["_law_error", "_law_due"]
  d_L_kinds : Df K mg "_law_kinds" s_L_kinds ["_law_move"]
  d_L_done : Df K mg "_law_done" s_L_done ["_law_work", "_law_move"]
  d_L_looked : Df K mg "_law_looked" s_L_looked ["_law_work", "_law_turn"]
  d_L_stands : Df K mg "_law_stands" s_L_stands ["_law_work", "_law_state", "_law_held", "_law_turn"]
  d_L_deed : Df K mg "_law_deed" s_L_deed ["_law_state", "_law_cell"]
  d_L_step : Df K mg "_law_step" s_L_step ["_law_work", "_law_state", "_law_move"]
  d_L_again : Df K mg "_law_again" s_L_again ["_law_work", "_law_state"]
  d_law : Df K mg "law" s_law ["_law_script"]
structure Bx (mg : Str → Option Value) : Prop where
  b_len : mg "len" = none
  b_min : mg "min" = none
  b_int : mg "int" = none
  b_str : mg "str" = none
  b_list : mg "list" = none
  b_tuple : mg "tuple" = none
  b_all : mg "all" = none
  b_range : mg "range" = none
  b_reversed : mg "reversed" = none
  b_isinstance : mg "isinstance" = none
  b_bool : mg "bool" = none
  b_ValueError : mg "ValueError" = none
variable {P : Program} {w : World} {K : PySem.W.Frag} {mg : Str → Option Value} {base : Heap}

/-! ### good strips -/
theorem pyget_mem {α : Type} [Inhabited α] {L : List α} {z : Int} (h : -(L.length : Int) ≤ z ∧ z < L.length) : pyget L z ∈ L := by
  unfold pyget
  have hk : (if 0 ≤ z then z else (L.length : Int) + z).toNat < L.length := by split <;> omega
  rw [List.getD_eq_getElem?_getD, List.getElem?_eq_getElem hk]
  exact List.getElem_mem hk
structure Good (n : Int) (ls : List Int) (ms : List Bool) : Prop where
  len : ls.length = ms.length + 1
  most : ls.length ≤ 30
  all : ∀ x ∈ ls, 1 ≤ x ∧ x ≤ n
theorem Good.pos {n : Int} {ls : List Int} {ms : List Bool} (g : Good n ls ms) : 1 ≤ ls.length := by have := g.len; omega
theorem Good.at {n : Int} {ls : List Int} {ms : List Bool} (g : Good n ls ms) {z : Int} (h : -(ls.length : Int) ≤ z ∧ z < ls.length) : 1 ≤ pyget ls z ∧ pyget ls z ≤ n := g.all _ (pyget_mem h)
theorem Good.mono {n m : Int} {ls : List Int} {ms : List Bool} (g : Good n ls ms) (h : n ≤ m) : Good m ls ms := ⟨g.len, g.most, fun x hx => by have := g.all x hx; omega⟩
/-- the data of a strip -/
def dS (ls : List Int) (ms : List Bool) : D := .tup [dI ls, dM ms]
def oS (ls : List Int) (ms : List Bool) : O := .tu [oI ls, oM ms]
theorem oS_data (ls : List Int) (ms : List Bool) : (oS ls ms).data = dS ls ms := by
  unfold oS dS
  rw [O.data, dataAll, dataAll, dataAll, oI_data, oM_data]
theorem Ev.ixHV {X : Cx} {ρ : Rho} {a b : Expr} {pos : Pos} {z : Int} (ha : Ev X ρ a (.lst [.str "hill", .str "valley"])) (hb : Ev X ρ b (.int z)) (hz : 0 ≤ z ∧ z < 2) (hs : PlainIx b := by exact fun _ _ => rfl) : Ev X ρ (.Subscript a b pos) (mkD (decide (z = 1))) :=
  (Ev.ix2 ha hb hz hs).is (by
    have : z = 0 ∨ z = 1 := by omega
    rcases this with rfl | rfl <;> rfl)
theorem Ev.ixVH {X : Cx} {ρ : Rho} {a b : Expr} {pos : Pos} {z : Int} (ha : Ev X ρ a (.lst [.str "valley", .str "hill"])) (hb : Ev X ρ b (.int z)) (hz : 0 ≤ z ∧ z < 2) (hs : PlainIx b := by exact fun _ _ => rfl) : Ev X ρ (.Subscript a b pos) (mkD (decide (z = 0))) :=
  (Ev.ix2 ha hb hz hs).is (by
    have : z = 0 ∨ z = 1 := by omega
    rcases this with rfl | rfl <;> rfl)

/-! ### places, first numbers -/
/-- the place at which the k-th piece begins -/
def plc (L : List Int) : Nat → Int
  | 0 => 0
  | k + 1 => if k % 2 = 0 then plc L k + L.getD k 0 else plc L k - L.getD k 0
def plcs (L : List Int) (n : Nat) : List Int := (List.range n).map (plc L)
theorem plcs_snoc (L : List Int) (n : Nat) : plcs L (n + 1) = plcs L n ++ [plc L n] := by unfold plcs; rw [List.range_succ, List.map_append]; rfl
theorem plcs_len (L : List Int) (n : Nat) : (plcs L n).length = n := by unfold plcs; simp
theorem plcs_last (L : List Int) (n : Nat) : pyget (plcs L (n + 1)) (-1) = plc L n := by
  rw [plcs_snoc]
  unfold pyget
  rw [if_neg (by omega)]
  have : ((plcs L n ++ [plc L n]).length + (-1) : Int).toNat = (plcs L n).length := by simp; omega
  rw [this]
  simp
theorem plcs_get (L : List Int) {n k : Nat} (h : k < n) : pyget (plcs L n) (k : Int) = plc L k := by
  rw [pyget_nat, List.getD_eq_getElem?_getD]
  unfold plcs
  rw [List.getElem?_map, List.getElem?_range h]
  rfl
/-- the k places in their order -/
def upto (n : Nat) : List Int := (List.range n).map fun (k : Nat) => (k : Int)
theorem upto_length (n : Nat) : (upto n).length = n := by unfold upto; simp
/-! ### orders -/
theorem upto_succ (n : Nat) : upto (n + 1) = upto n ++ [(n : Int)] := by unfold upto; rw [List.range_succ, List.map_append]; rfl
theorem mem_upto {n : Nat} {x : Int} : x ∈ upto n ↔ 0 ≤ x ∧ x < n := by
  unfold upto
  simp only [List.mem_map, List.mem_range]
  constructor
  · rintro ⟨k, hk, rfl⟩; omega
  · intro h; exact ⟨x.toNat, by omega, by omega⟩
theorem upto_pw (n : Nat) : (upto n).Pairwise (· ≤ ·) := by
  unfold upto
  rw [List.pairwise_map]
  exact List.pairwise_le_range.imp (by intro a b h; omega)
theorem upto_nodup (n : Nat) : (upto n).Nodup := by
  unfold upto List.Nodup
  rw [List.pairwise_map]
  exact (List.nodup_range (n := n)).imp (by intro a b h; omega)
theorem erase_perm {α : Type} {L : List α} {k : Nat} (h : k < L.length) : (L[k] :: L.eraseIdx k).Perm L := by
  rw [List.eraseIdx_eq_take_drop_succ]
  have e : L.take k ++ L[k] :: L.drop (k + 1) = L := by rw [← List.drop_eq_getElem_cons h, List.take_append_drop]
  have h1 := (List.perm_middle (a := L[k]) (l₁ := L.take k) (l₂ := L.drop (k + 1))).symm
  rw [e] at h1
  exact h1
theorem sort_upto {L : List Int} {n : Nat} (h : L.Perm (upto n)) : sortI L = upto n :=
  perm_sorted_unique ((sortI_perm L).trans h) (sortI_pw L) (upto_pw n)
theorem perm_ins {α : Type} (L : List α) (k : Nat) (x : α) : (L.take k ++ [x] ++ L.drop k).Perm (L ++ [x]) := by
  rw [List.append_assoc]
  have h := List.Perm.append_left (L.take k) (List.perm_append_comm (l₁ := [x]) (l₂ := L.drop k))
  rwa [← List.append_assoc (L.take k) (L.drop k), List.take_append_drop] at h
def partL (ls : List Int) (first last : Nat) : List Int := (ls.drop first).take (last + 1 - first)
def partM (ms : List Bool) (first last : Nat) : List Bool := (ms.drop first).take (last - first)
/-! ### whole numbers -/
def D.isInt : D → Bool
  | .int _ => true
  | _ => false
theorem Ev.isInt {X : Cx} {ρ : Rho} {a a' : Expr} {d : D} {p1 p2 p3 p4 p5 p6 q1 q2 : Pos} (hm : X.mg "isinstance" = none) (hi : X.mg "int" = none) (hb : X.mg "bool" = none) (hob : d.isOb = false)
    (h1 : ∀ c, kitB (tyD d) "int" = some c → Ev X ρ (.Call (.Name "isinstance" p1) [a, .Name "int" p2] [] p3) (.bl c)) (h2 : ∀ c, kitB (tyD d) "bool" = some c → Ev X ρ (.Call (.Name "isinstance" p4) [a', .Name "bool" p5] [] p6) (.bl c)) :
    Ev X ρ (.BoolOp .And [.Call (.Name "isinstance" p1) [a, .Name "int" p2] [] p3, .UnaryOp .Not (.Call (.Name "isinstance" p4) [a', .Name "bool" p5] [] p6) q1] q2) (.bl d.isInt) := by
  have main : ∀ c1 c2, kitB (tyD d) "int" = some c1 → kitB (tyD d) "bool" = some c2 → (c1 && !c2) = d.isInt → Ev X ρ (.BoolOp .And [.Call (.Name "isinstance" p1) [a, .Name "int" p2] [] p3, .UnaryOp .Not (.Call (.Name "isinstance" p4) [a', .Name "bool" p5] [] p6) q1] q2) (.bl d.isInt) :=
    fun c1 c2 e1 e2 e3 => (Ev.and (h1 c1 e1) fun _ => .one (.notV (h2 c2 e2))).is (by rw [e3])
  cases d with
  | non => exact main false false (show kitB (tyD .non) "int" = some false by decide +kernel) (show kitB (tyD .non) "bool" = some false by decide +kernel) rfl
  | bl b => exact main true true (show kitB (tyD (.bl true)) "int" = some true by decide +kernel) (show kitB (tyD (.bl true)) "bool" = some true by decide +kernel) rfl
  | int i => exact main true false (show kitB (tyD (.int 0)) "int" = some true by decide +kernel) (show kitB (tyD (.int 0)) "bool" = some false by decide +kernel) rfl
  | str x => exact main false false (show kitB (tyD (.str "")) "int" = some false by decide +kernel) (show kitB (tyD (.str "")) "bool" = some false by decide +kernel) rfl
  | lst x => exact main false false (show kitB (tyD (.lst [])) "int" = some false by decide +kernel) (show kitB (tyD (.lst [])) "bool" = some false by decide +kernel) rfl
  | tup x => exact main false false (show kitB (tyD (.tup [])) "int" = some false by decide +kernel) (show kitB (tyD (.tup [])) "bool" = some false by decide +kernel) rfl
  | ro x => exact main false false (show kitB (tyD (.ro [])) "int" = some false by decide +kernel) (show kitB (tyD (.ro [])) "bool" = some false by decide +kernel) rfl
  | dk x => exact main false false (show kitB (tyD (.dk [])) "int" = some false by decide +kernel) (show kitB (tyD (.dk [])) "bool" = some false by decide +kernel) rfl
  | dd k x => exact main false false (show kitB (tyD (.dk [])) "int" = some false by decide +kernel) (show kitB (tyD (.dk [])) "bool" = some false by decide +kernel) rfl
  | ob a k x => cases hob
  | raw a => cases hob

local macro_rules
  | `(tactic| walk_at "okp") => `(tactic| first | exact trivial | exact ⟨trivial, fun _ h => by cases h; walk_at "okp"⟩ | exact ⟨⟨rfl, rfl⟩, fun _ h => by cases h; walk_at "okp"⟩ | exact ⟨rfl, fun _ h => by cases h; walk_at "okp"⟩)
local macro_rules
  | `(tactic| walk_at "nm") => `(tactic| first | exact Ev.name 0 | exact Ev.name 1 | exact Ev.name 2 | exact Ev.name 3 | exact Ev.name 4 | exact Ev.name 5 | exact Ev.name 6 | exact Ev.name 7 | exact Ev.name 8 | exact Ev.name 9 | exact Ev.name 10 | exact Ev.name 11 | exact Ev.name 12 | exact Ev.name 13 | exact Ev.name 14 | exact Ev.name 15 | exact Ev.name 16)
local macro_rules
  | `(tactic| walk_at "sd") => `(tactic| first | assumption | omega | (simp; done) | (simp; omega) | decide | (unfold CDiv; omega) | (unfold CMul; omega))
local macro_rules
  | `(tactic| walk_at "cd") => `(tactic| first | exact CmpD.eqI | exact CmpD.lt | exact CmpD.le | exact CmpD.neI | exact CmpD.gt | exact CmpD.ge | exact CmpD.eqS | exact CmpD.neS | exact CmpD.eqB | exact CmpD.neB | exact CmpD.isN | exact CmpD.isNotN | exact CmpD.isB | exact CmpD.isNotB | exact CmpD.neM | exact CmpD.eqM | exact CmpD.eqMh | exact CmpD.eqMv)
local macro_rules
  | `(tactic| walk_at "ev") => `(tactic| first
    | exact Ev.int
    | exact Ev.str
    | walk_at "nm"
    | exact Ev.bl
    | exact Ev.non
    | (refine' Ev.add ?a ?b; (case a => walk_at "ev"); (case b => walk_at "ev"))
    | (refine' Ev.sub ?a ?b; (case a => walk_at "ev"); (case b => walk_at "ev"))
    | (refine' Ev.neg ?a; (case a => walk_at "ev"))
    | (refine' Ev.ixT0 ?a; (case a => walk_at "ev"))
    | (refine' Ev.ixT1 ?a; (case a => walk_at "ev"))
    | (refine' Ev.ixI ?a ?b ?c; (case a => walk_at "ev"); (case b => walk_at "ev"); (case c => walk_at "sd"))
    | (refine' Ev.ixM ?a ?b ?c; (case a => walk_at "ev"); (case b => walk_at "ev"); (case c => walk_at "sd"))
    | (refine' Ev.ixRoI ?a ?b ?c; (case a => walk_at "ev"); (case b => walk_at "ev"); (case c => walk_at "sd"))
    | (refine' Ev.ixHV ?a ?b ?c; (case a => walk_at "ev"); (case b => walk_at "ev"); (case c => walk_at "sd"))
    | (refine' Ev.ixVH ?a ?b ?c; (case a => walk_at "ev"); (case b => walk_at "ev"); (case c => walk_at "sd"))
    | (refine' Ev.ix2 ?a ?b ?c; (case a => walk_at "ev"); (case b => walk_at "ev"); (case c => walk_at "sd"))
    | (refine' Ev.mod ?a ?b ?c; (case a => walk_at "ev"); (case b => walk_at "ev"); (case c => walk_at "sd"))
    | (refine' Ev.div ?a ?b ?c; (case a => walk_at "ev"); (case b => walk_at "ev"); (case c => walk_at "sd"))
    | (refine' Ev.mul ?a ?b ?c; (case a => walk_at "ev"); (case b => walk_at "ev"); (case c => walk_at "sd"))
    | (refine' Ev.lenI ?h ?a; (case h => assumption); (case a => walk_at "ev"))
    | (refine' Ev.lenM ?h ?a; (case h => assumption); (case a => walk_at "ev"))
    | (refine' Ev.lenRoI ?h ?a; (case h => assumption); (case a => walk_at "ev"))
    | (refine' Ev.min2 rfl ?h ?a ?b; (case h => assumption); (case a => walk_at "ev"); (case b => walk_at "ev"))
    | (refine' Ev.max2 rfl ?h ?a ?b; (case h => assumption); (case a => walk_at "ev"); (case b => walk_at "ev"))
    | (refine' Ev.intB ?h ?a; (case h => assumption); (case a => walk_at "ev"))
    | (refine' Ev.cmp ?a ?b ?c; (case a => walk_at "ev"); (case b => walk_at "ev"); (case c => walk_at "cd"))
    | (refine' Ev.list ?a; (case a => walk_at "ea"))
    | (refine' Ev.tup ?a; (case a => walk_at "ea")))
local macro_rules
  | `(tactic| walk_at "ea") => `(tactic| first
    | exact EvA.nil
    | (refine' EvA.cons ?a ?b; (case a => walk_at "ev"); (case b => walk_at "ea")))
local macro_rules
  | `(tactic| walk_at "et") => `(tactic| first
    | (refine' EvT.cmp ?a ?b ?c; (case a => walk_at "ev"); (case b => walk_at "ev"); (case c => walk_at "cd"))
    | (refine' EvT.not ?a; (case a => walk_at "et"))
    | (refine' EvT.bool ?a; (case a => walk_at "ew"))
    | (refine' EvT.val ?a; (case a => walk_at "ev")))
local macro_rules
  | `(tactic| walk_at "ew") => `(tactic| first
    | (refine' EvW'.and1 ?a; (case a => walk_at "et"))
    | (refine' EvW'.or1 ?a; (case a => walk_at "et"))
    | (refine' EvW'.and ?a (fun h => ?b); (case a => walk_at "et"); (case b => ((try simp only [decide_eq_true_eq, Bool.not_eq_true', decide_eq_false_iff_not] at h); walk_at "ew")))
    | (refine' EvW'.or ?a (fun h => ?b); (case a => walk_at "et"); (case b => ((try simp only [decide_eq_true_eq, Bool.not_eq_true', decide_eq_false_iff_not] at h); walk_at "ew"))))

/-! ### moves, plainly -/
inductive Mv where
  | first | last | pleat (k : Nat)
instance : Inhabited Mv := ⟨.first⟩
def mvD : Mv → D
  | .first => .tup [.str "first"]
  | .last => .tup [.str "last"]
  | .pleat k => .tup [.str "pleat", .int (k : Int)]
def firstOk (ls : List Int) (ms : List Bool) : Bool := decide (0 < ms.length) && decide (ls.getD 0 0 ≤ ls.getD 1 0)
def lastOk (ls : List Int) (ms : List Bool) : Bool := decide (0 < ms.length) && decide (ls.getD (ls.length - 1) 0 ≤ ls.getD (ls.length - 2) 0)
def pleatOk (ls : List Int) (ms : List Bool) (k : Nat) : Bool := !decide (ms.getD k false = ms.getD (k + 1) false) && (decide (ls.getD (k + 1) 0 ≤ ls.getD k 0) && decide (ls.getD (k + 1) 0 ≤ ls.getD (k + 2) 0))
def endMoves (ls : List Int) (ms : List Bool) : List Mv := (if firstOk ls ms then [Mv.first] else []) ++ (if lastOk ls ms then [Mv.last] else [])
def pleats (ls : List Int) (ms : List Bool) (n : Nat) : List Mv := ((List.range n).filter (pleatOk ls ms)).map Mv.pleat
def movesF (ls : List Int) (ms : List Bool) : List Mv := endMoves ls ms ++ pleats ls ms (ms.length - 1)
theorem pleats_succ (ls : List Int) (ms : List Bool) (n : Nat) : pleats ls ms (n + 1) = pleats ls ms n ++ (if pleatOk ls ms n then [Mv.pleat n] else []) := by
  unfold pleats
  rw [List.range_succ, List.filter_append, List.map_append]
  congr 1
  by_cases h : pleatOk ls ms n
  · simp [h]
  · simp [h]
/-- what a move needs of the strip -/
def Mv.ok (ls : List Int) (ms : List Bool) : Mv → Prop
  | .first => firstOk ls ms = true
  | .last => lastOk ls ms = true
  | .pleat k => k + 1 < ms.length ∧ pleatOk ls ms k = true
theorem moves_ok {ls : List Int} {ms : List Bool} {m : Mv} (h : m ∈ movesF ls ms) : m.ok ls ms := by
  unfold movesF endMoves pleats at h
  simp only [List.mem_append, List.mem_map, List.mem_filter, List.mem_range] at h
  rcases h with (h | h) | ⟨k, ⟨hk, hp⟩, rfl⟩
  · split at h
    · simp at h; subst h; assumption
    · cases h
  · split at h
    · simp at h; subst h; assumption
    · cases h
  · exact ⟨by omega, hp⟩
theorem ok_moves {ls : List Int} {ms : List Bool} {m : Mv} (h : m.ok ls ms) : m ∈ movesF ls ms := by
  unfold movesF endMoves pleats
  simp only [List.mem_append, List.mem_map, List.mem_filter, List.mem_range]
  cases m with
  | first => exact .inl (.inl (by have h : firstOk ls ms = true := h; rw [if_pos h]; simp))
  | last => exact .inl (.inr (by have h : lastOk ls ms = true := h; rw [if_pos h]; simp))
  | pleat k => exact .inr ⟨k, ⟨by have := h.1; omega, h.2⟩, rfl⟩
theorem Mv.ok_pos {ls : List Int} {ms : List Bool} {m : Mv} (h : m.ok ls ms) : 0 < ms.length := by
  cases m with
  | first => unfold Mv.ok firstOk at h; simp at h; exact h.1
  | last => unfold Mv.ok lastOk at h; simp at h; exact h.1
  | pleat k => have := h.1; omega
theorem movesF_length (ls : List Int) (ms : List Bool) : (movesF ls ms).length ≤ ms.length + 2 := by
  unfold movesF endMoves pleats
  have := List.length_filter_le (pleatOk ls ms) (List.range (ms.length - 1))
  rw [List.length_range] at this
  simp only [List.length_append, List.length_map]
  split <;> split <;> simp <;> omega
theorem pyget_neg {α : Type} [Inhabited α] (L : List α) (k : Nat) (hk : 0 < k) (h : k ≤ L.length) : pyget L (-(k : Int)) = L.getD (L.length - k) default := by
  unfold pyget
  rw [if_neg (by omega)]
  congr 1
  omega
theorem mvD_good (m : Mv) : (mvD m).good = true := by cases m <;> simp [mvD, D.good, goodAll] <;> decide +kernel
theorem mvD_deep (m : Mv) : (mvD m).deep ≤ 1 := by cases m <;> simp [mvD, D.deep, deepAll]
theorem shp_mv (m : Mv) : Shp (mvD m) := shp_of (mvD_good m) (by have := mvD_deep m; omega)
def mvL (L : List Mv) : D := .lst (L.map mvD)
theorem good_mvL (L : List Mv) : (mvL L).good = true := by unfold mvL; rw [D.good]; exact goodAll_map mvD_good L
theorem deep_mvL (L : List Mv) : (mvL L).deep ≤ 2 := by
  unfold mvL
  rw [D.deep]
  have := deepAll_map mvD_deep L
  omega
theorem shp_mvL (L : List Mv) : Shp (mvL L) := shp_of (good_mvL L) (by have := deep_mvL L; omega)
def Mv.isFirst : Mv → Bool
  | .first => true
  | _ => false
def Mv.isLast : Mv → Bool
  | .last => true
  | _ => false
theorem eqv_first (m : Mv) : eqvD (mvD m) (mvD .first) = m.isFirst := by
  cases m with
  | first => decide +kernel
  | last => decide +kernel
  | pleat k => rfl
theorem eqv_last (m : Mv) : eqvD (mvD m) (mvD .last) = m.isLast := by
  cases m with
  | first => decide +kernel
  | last => decide +kernel
  | pleat k => rfl
/-- what a move leaves -/
def behindL (ls : List Int) : Mv → List Int
  | .first => ls.drop 1
  | .last => ls.take (ls.length - 1)
  | .pleat k => ls.take k ++ [ls.getD k 0 + ls.getD (k + 2) 0 - ls.getD (k + 1) 0] ++ ls.drop (k + 3)
def behindM (ms : List Bool) : Mv → List Bool
  | .first => ms.drop 1
  | .last => ms.take (ms.length - 1)
  | .pleat k => ms.take k ++ ms.drop (k + 2)
theorem behind_len {ls : List Int} {ms : List Bool} {m : Mv} (h : m.ok ls ms) (hl : ls.length = ms.length + 1) : (behindL ls m).length = (behindM ms m).length + 1 ∧ (behindM ms m).length < ms.length := by
  have hp := Mv.ok_pos h
  cases m with
  | first => simp [behindL, behindM]; omega
  | last => simp [behindL, behindM]; omega
  | pleat k =>
    have := h.1
    simp [behindL, behindM]
    omega

/-! ### piles, plainly -/
def dP (ps : List (List Int)) : D := .lst (ps.map dI)
def piledF (ps : List (List Int)) (ms : List Bool) : Mv → List (List Int)
  | .first => [if ms.getD 0 false then ps.getD 1 [] ++ (ps.getD 0 []).reverse else (ps.getD 0 []).reverse ++ ps.getD 1 []] ++ ps.drop 2
  | .last => ps.take (ps.length - 2) ++ [if ms.getD (ms.length - 1) false then ps.getD (ps.length - 2) [] ++ (ps.getD (ps.length - 1) []).reverse else (ps.getD (ps.length - 1) []).reverse ++ ps.getD (ps.length - 2) []]
  | .pleat k => ps.take k ++ [if ms.getD k false then ps.getD k [] ++ (ps.getD (k + 1) []).reverse ++ ps.getD (k + 2) [] else ps.getD (k + 2) [] ++ (ps.getD (k + 1) []).reverse ++ ps.getD k []] ++ ps.drop (k + 3)
theorem drop_getD {α : Type} [Inhabited α] (ps : List α) (k : Nat) (d : α) (h : k < ps.length) : ps.drop k = ps.getD k d :: ps.drop (k + 1) := by
  rw [List.drop_eq_getElem_cons h, List.getD_eq_getElem?_getD, List.getElem?_eq_getElem h]; rfl
theorem piled_perm (ps : List (List Int)) (ls : List Int) (ms : List Bool) (m : Mv) (ho : m.ok ls ms) (hp : ps.length = ms.length + 1) : (piledF ps ms m).flatten.Perm ps.flatten := by
  have h0 := Mv.ok_pos ho
  cases m with
  | first =>
    have e : ps = ps.getD 0 [] :: ps.getD 1 [] :: ps.drop 2 := by
      have h1 := drop_getD ps 0 [] (by omega)
      have h2 := drop_getD ps 1 [] (by omega)
      rw [List.drop_zero] at h1
      rw [← h2, ← h1]
    have key : ∀ (a b : List Int) (r : List (List Int)) (c : Bool), ([if c then b ++ a.reverse else a.reverse ++ b] ++ r).flatten.Perm (a :: b :: r).flatten := fun a b r c => by
      simp only [List.flatten_cons, List.singleton_append, ← List.append_assoc]
      refine List.Perm.append_right _ ?_
      cases c
      · exact (List.reverse_perm a).append_right b
      · exact (List.perm_append_comm).trans ((List.reverse_perm a).append_right b)
    have := key (ps.getD 0 []) (ps.getD 1 []) (ps.drop 2) (ms.getD 0 false)
    rw [← e] at this
    exact this
  | last =>
    have e : ps = ps.take (ps.length - 2) ++ [ps.getD (ps.length - 2) [], ps.getD (ps.length - 1) []] := by
      conv => lhs; rw [← List.take_append_drop (ps.length - 2) ps]
      congr 1
      rw [drop_getD ps (ps.length - 2) [] (by omega), drop_getD ps (ps.length - 2 + 1) [] (by omega), show ps.length - 2 + 1 = ps.length - 1 by omega, List.drop_of_length_le (by omega)]
    have key : ∀ (a b : List Int) (r : List (List Int)) (c : Bool), (r ++ [if c then a ++ b.reverse else b.reverse ++ a]).flatten.Perm (r ++ [a, b]).flatten := fun a b r c => by
      simp only [List.flatten_append, List.flatten_cons, List.flatten_nil, List.append_nil]
      refine List.Perm.append_left _ ?_
      cases c
      · exact (List.perm_append_comm).trans ((List.reverse_perm b).append_left a)
      · exact (List.reverse_perm b).append_left a
    have := key (ps.getD (ps.length - 2) []) (ps.getD (ps.length - 1) []) (ps.take (ps.length - 2)) (ms.getD (ms.length - 1) false)
    rw [← e] at this
    exact this
  | pleat k =>
    have hk := ho.1
    have e : ps = ps.take k ++ (ps.getD k [] :: ps.getD (k + 1) [] :: ps.getD (k + 2) [] :: ps.drop (k + 3)) := by
      conv => lhs; rw [← List.take_append_drop k ps]
      congr 1
      rw [drop_getD ps k [] (by omega), drop_getD ps (k + 1) [] (by omega), drop_getD ps (k + 2) [] (by omega)]
    have key : ∀ (a b c : List Int) (r s : List (List Int)) (x : Bool), (r ++ [if x then a ++ b.reverse ++ c else c ++ b.reverse ++ a] ++ s).flatten.Perm (r ++ (a :: b :: c :: s)).flatten := fun a b c r s x => by
      simp only [List.flatten_append, List.flatten_cons, List.flatten_nil, List.append_nil, List.append_assoc]
      refine List.Perm.append_left _ ?_
      rw [← List.append_assoc, ← List.append_assoc, ← List.append_assoc, ← List.append_assoc]
      refine List.Perm.append_right _ ?_
      cases x
      · have h1 : (c ++ b.reverse ++ a).Perm (a ++ (c ++ b.reverse)) := List.perm_append_comm
        refine h1.trans ?_
        rw [List.append_assoc]
        refine List.Perm.append_left _ ?_
        exact (List.perm_append_comm).trans ((List.reverse_perm b).append_right c)
      · exact ((List.reverse_perm b).append_left a).append_right c
    have := key (ps.getD k []) (ps.getD (k + 1) []) (ps.getD (k + 2) []) (ps.take k) (ps.drop (k + 3)) (ms.getD k false)
    rw [← e] at this
    exact this
theorem piled_len (ps : List (List Int)) (ls : List Int) (ms : List Bool) (m : Mv) (ho : m.ok ls ms) (hp : ps.length = ms.length + 1) : (piledF ps ms m).length = (behindM ms m).length + 1 := by
  have h0 := Mv.ok_pos ho
  cases m with
  | first => simp [piledF, behindM]; omega
  | last => simp [piledF, behindM]; omega
  | pleat k =>
    have := ho.1
    simp [piledF, behindM]
    omega
theorem pile_le (ps : List (List Int)) (k : Nat) : (ps.getD k []).length ≤ ps.flatten.length := by
  by_cases h : k < ps.length
  · have e : ps = ps.take k ++ ps.getD k [] :: ps.drop (k + 1) := by
      rw [← drop_getD ps k [] h, List.take_append_drop]
    conv => rhs; rw [e]
    simp only [List.flatten_append, List.flatten_cons, List.length_append]
    omega
  · rw [List.getD_eq_getElem?_getD, List.getElem?_eq_none (by omega)]; simp
section
variable {X : Cx} {ρ : Rho} {a b : Expr} {L : List Int} {ps qs : List (List Int)} {pos p2 : Pos} {lo hi : Option Int} {el eh : Option Expr}
theorem EvO.revI {k : Nat} {p1 p2 p3 : Pos} (ha : Ev X ρ a (dI L)) : EvO X ρ (.Subscript a (.Slice Option.none Option.none (Option.some (.UnaryOp .USub (.Constant (.int 1) k p1) p2)) p3) pos) (oI L.reverse) := (EvO.rev ha).is (by rw [← List.map_reverse]; rfl)
theorem Ev.revI {k : Nat} {p1 p2 p3 : Pos} (ha : Ev X ρ a (dI L)) : Ev X ρ (.Subscript a (.Slice Option.none Option.none (Option.some (.UnaryOp .USub (.Constant (.int 1) k p1) p2)) p3) pos) (dI L.reverse) := (EvO.revI ha).ev' (oI_data _)
theorem Ev.sliceP (ha : Ev X ρ a (dP ps)) (hl : EvP X ρ el lo) (hh : EvP X ρ eh hi) : Ev X ρ (.Subscript a (.Slice el eh Option.none p2) pos) (dP (cutL ps lo hi)) := Ev.is (Ev.slice ha hl hh) (by rw [cutD_map]; rfl)
theorem Ev.catP (ha : Ev X ρ a (dP ps)) (hb : Ev X ρ b (dP qs)) (hl : ps.length + qs.length ≤ 100000) : Ev X ρ (.BinOp a .Add b pos) (dP (ps ++ qs)) := Ev.is (Ev.cat ha hb (by simpa using hl)) (by rw [← List.map_append]; rfl)
theorem EvO.catP (ha : Ev X ρ a (dP ps)) (hb : Ev X ρ b (dP qs)) (hl : ps.length + qs.length ≤ 100000) : EvO X ρ (.BinOp a .Add b pos) (oL ((ps ++ qs).map dI)) := EvO.is (EvO.cat ha hb (Nat.le_trans (by simpa using hl) (show 100000 ≤ sizeLine by decide))) (by rw [← List.map_append])
theorem Ev.ixP {z : Int} (ha : Ev X ρ a (dP ps)) (hb : Ev X ρ b (.int z)) (hz : -(ps.length : Int) ≤ z ∧ z < ps.length) (hs : PlainIx b := by exact fun _ _ => rfl) : Ev X ρ (.Subscript a b pos) (dI (pyget ps z)) := Ev.ixMap ha hb hz hs
/-- [x, y][int(c)] -/
theorem Ev.pick {x y : D} {c : Bool} (ha : Ev X ρ a (.lst [x, y])) (hb : Ev X ρ b (.int (b2i c))) (hs : PlainIx b := by exact fun _ _ => rfl) : Ev X ρ (.Subscript a b pos) (if c then y else x) :=
  Ev.is (Ev.ix2 ha hb (by unfold b2i; split <;> omega) hs) (by cases c <;> rfl)
end
theorem if_dI {c : Bool} {a b : List Int} : (if c then dI a else dI b) = dI (if c then a else b) := by cases c <;> rfl

/-! ### faults, plainly -/
def rkOf (L : List Int) (x : Nat) : Int := (L.idxOf (x : Int) : Int)
theorem idx_lt {L : List Int} {n x : Nat} (h : L.Perm (upto n)) (hx : x < n) : L.idxOf (x : Int) < L.length := List.idxOf_lt_length_iff.mpr (h.mem_iff.mpr (mem_upto.mpr (by omega)))
theorem idx_get {L : List Int} {n x : Nat} (h : L.Perm (upto n)) (hx : x < n) : L.getD (L.idxOf (x : Int)) 0 = (x : Int) := by
  rw [List.getD_eq_getElem?_getD, List.getElem?_eq_getElem (idx_lt h hx)]
  simp
theorem perm_nodup {L : List Int} {n : Nat} (h : L.Perm (upto n)) : L.Nodup := h.nodup_iff.mpr (upto_nodup n)
theorem rk_get {L : List Int} {n x : Nat} (h : L.Perm (upto n)) (hx : x < n) : valV (rkN L L.length) (.inl (x : Int)) = some (.int (rkOf L x)) := by
  have := rkN_get L (perm_nodup h) L.length (L.idxOf (x : Int)) (idx_lt h hx) (Nat.le_refl _)
  rw [idx_get h hx] at this
  exact this
theorem rk_inj {L : List Int} {n x y : Nat} (h : L.Perm (upto n)) (hx : x < n) (hy : y < n) (e : rkOf L x = rkOf L y) : x = y := by
  have h1 := idx_get h hx
  have h2 := idx_get h hy
  unfold rkOf at e
  have e : L.idxOf (x : Int) = L.idxOf (y : Int) := by omega
  rw [e, h2] at h1
  omega
def markBad (ms : List Bool) (r : Nat → Int) (k : Nat) : Bool := !decide ((if k % 2 = 0 then decide (r k < r (k + 1)) else decide (r (k + 1) < r k)) = ms.getD k false)
def betw (r : Nat → Int) (p c : Nat) : Bool := decide (min (r c) (r (c + 1)) < r p) && decide (r p < max (r c) (r (c + 1)))
def thrBad (ls : List Int) (r : Nat → Int) (c p : Nat) : Bool := betw r p c && (decide (min (plc ls p) (plc ls (p + 1)) < plc ls (c + 1)) && decide (plc ls (c + 1) < max (plc ls p) (plc ls (p + 1))))
def crBad (ls : List Int) (r : Nat → Int) (a b : Nat) : Bool := decide (plc ls (a + 1) = plc ls (b + 1)) && !decide (betw r b a = betw r (b + 1) a)
inductive Flt where
  | mark (k : Nat) | through (c p : Nat) | crossed (a b : Nat)
def fltD : Flt → D
  | .mark k => .tup [.str "mark", .int (k : Int)]
  | .through c p => .tup [.str "through", .int (c : Int), .int (p : Int)]
  | .crossed a b => .tup [.str "crossed", .int (a : Int), .int (b : Int)]
def marksF (ms : List Bool) (r : Nat → Int) (n : Nat) : List Flt := ((List.range n).filter (markBad ms r)).map Flt.mark
def thrsF (ls : List Int) (r : Nat → Int) (c n : Nat) : List Flt := ((List.range n).filter (thrBad ls r c)).map (Flt.through c)
def crsF (ls : List Int) (r : Nat → Int) (a n : Nat) : List Flt := (((List.range n).map fun t => a + 2 + 2 * t).filter (crBad ls r a)).map (Flt.crossed a)
/-- how many turns of range(a + 2, m, 2) -/
def crN (m a : Nat) : Nat := (m - (a + 2) + 1) / 2
def allThr (ls : List Int) (r : Nat → Int) : Nat → List Flt
  | 0 => []
  | n + 1 => allThr ls r n ++ thrsF ls r n ls.length
def allCr (ls : List Int) (m : Nat) (r : Nat → Int) : Nat → List Flt
  | 0 => []
  | n + 1 => allCr ls m r n ++ crsF ls r n (crN m n)
def faultsF (ls : List Int) (ms : List Bool) (r : Nat → Int) : List Flt := marksF ms r ms.length ++ allThr ls r ms.length ++ allCr ls ms.length r ms.length
def liesF (ls : List Int) (ms : List Bool) (r : Nat → Int) : Bool := (faultsF ls ms r).isEmpty
theorem marksF_succ (ms : List Bool) (r : Nat → Int) (n : Nat) : marksF ms r (n + 1) = marksF ms r n ++ (if markBad ms r n then [Flt.mark n] else []) := by
  unfold marksF
  rw [List.range_succ, List.filter_append, List.map_append]
  congr 1
  by_cases h : markBad ms r n
  · simp [h]
  · simp [h]
theorem thrsF_succ (ls : List Int) (r : Nat → Int) (c n : Nat) : thrsF ls r c (n + 1) = thrsF ls r c n ++ (if thrBad ls r c n then [Flt.through c n] else []) := by
  unfold thrsF
  rw [List.range_succ, List.filter_append, List.map_append]
  congr 1
  by_cases h : thrBad ls r c n
  · simp [h]
  · simp [h]
theorem crsF_succ (ls : List Int) (r : Nat → Int) (a n : Nat) : crsF ls r a (n + 1) = crsF ls r a n ++ (if crBad ls r a (a + 2 + 2 * n) then [Flt.crossed a (a + 2 + 2 * n)] else []) := by
  unfold crsF
  rw [List.range_succ, List.map_append, List.filter_append, List.map_append]
  congr 1
  by_cases h : crBad ls r a (a + 2 + 2 * n)
  · simp [h]
  · simp [h]
theorem marksF_len (ms : List Bool) (r : Nat → Int) (n : Nat) : (marksF ms r n).length ≤ n := by
  unfold marksF
  rw [List.length_map]
  exact Nat.le_trans (List.length_filter_le _ _) (by simp)
theorem thrsF_len (ls : List Int) (r : Nat → Int) (c n : Nat) : (thrsF ls r c n).length ≤ n := by
  unfold thrsF
  rw [List.length_map]
  exact Nat.le_trans (List.length_filter_le _ _) (by simp)
theorem crsF_len (ls : List Int) (r : Nat → Int) (a n : Nat) : (crsF ls r a n).length ≤ n := by
  unfold crsF
  rw [List.length_map]
  exact Nat.le_trans (List.length_filter_le _ _) (by simp)
theorem allThr_len (ls : List Int) (r : Nat → Int) : ∀ n, (allThr ls r n).length ≤ n * ls.length
  | 0 => by simp [allThr]
  | n + 1 => by
    unfold allThr
    rw [List.length_append, Nat.succ_mul]
    have := allThr_len ls r n
    have := thrsF_len ls r n ls.length
    omega
theorem allCr_len (ls : List Int) (m : Nat) (r : Nat → Int) : ∀ n, (allCr ls m r n).length ≤ n * (m + 1)
  | 0 => by simp [allCr]
  | n + 1 => by
    unfold allCr
    rw [List.length_append, Nat.succ_mul]
    have := allCr_len ls m r n
    have := crsF_len ls r n (crN m n)
    unfold crN at this
    unfold crN
    omega
theorem fltD_good (f : Flt) : (fltD f).good = true := by cases f <;> simp [fltD, D.good, goodAll] <;> decide +kernel
theorem fltD_deep (f : Flt) : (fltD f).deep ≤ 1 := by cases f <;> simp [fltD, D.deep, deepAll]
theorem good_fltL (L : List Flt) : (D.lst (L.map fltD)).good = true := by rw [D.good]; exact goodAll_map fltD_good L
theorem deep_fltL (L : List Flt) : (D.lst (L.map fltD)).deep ≤ 2 := by
  rw [D.deep]
  have := deepAll_map fltD_deep L
  omega
theorem shp_fltL (L : List Flt) : Shp (D.lst (L.map fltD)) := shp_of (good_fltL L) (by have := deep_fltL L; omega)
section
variable {X : Cx} {ρ : Rho} {a b : Expr} {pos : Pos} {L : List Int} {n : Nat}
theorem Ev.ixRk (h : L.Perm (upto n)) {z : Int} {x : Nat} (ha : Ev X ρ a (.dk (rkN L L.length))) (hb : Ev X ρ b (.int z)) (hz : z = (x : Int)) (hx : x < n) (hu : X.A.units + 64 < cLine) (hs : NoSl b := by exact fun _ _ => rfl) : Ev X ρ (.Subscript a b pos) (.int (rkOf L x)) :=
  .ixDk (by omega) ha hb (by rw [hz]; exact rk_get h hx) hs
end
abbrev oF (L : List Flt) : O := oL (L.map fltD)
abbrev W.of (L : List Flt) : W := .ow (oF L) (.lst (L.map fltD))

def singles (n : Nat) : List (List Int) := (List.range n).map fun (k : Nat) => [(k : Int)]

/-! ### is_whole -/
theorem isw_ok (T : Fx K mg) (B : Bx mg) (d : D) (hob : d.isOb = false := by rfl) : VF P w K mg base 1 "is_whole" [d] (fun o => o = .sh (.bl d.isInt)) := by
  refine VF.of T.d_is_whole sc_is_whole rfl fun f cdv A outer s H E hr => ?_
  have hB := B; cases hB
  refine' Ws.ret (.bor ?a rfl rfl)
  case a =>
    refine' Ev.isInt ?m1 ?m2 ?m3 hob ?i ?j
    case i => exact fun c hc => .isi (by assumption) (by assumption) (.name 0) hc hob
    case j => exact fun c hc => .isi (by assumption) (by assumption) (.name 0) hc hob
    all_goals assumption

/-! ### kinds -/
theorem kb_lst {x : List D} : kitB (tyD (.lst x)) "list" = some true := show kitB (tyD (.lst [])) "list" = some true by decide +kernel
theorem kb_tup {x : List D} : kitB (tyD (.tup x)) "tuple" = some true := show kitB (tyD (.tup [])) "tuple" = some true by decide +kernel
theorem kb_str {x : Str} : kitB (tyD (.str x)) "str" = some true := show kitB (tyD (.str "")) "str" = some true by decide +kernel
theorem kb_bl {x : Bool} : kitB (tyD (.bl x)) "bool" = some true := show kitB (tyD (.bl true)) "bool" = some true by decide +kernel

/-! ### moves -/
theorem pmoves_ok (T : Fx K mg) (B : Bx mg) (ls : List Int) (ms : List Bool) (hl : ls.length = ms.length + 1) (hm : ls.length ≤ 1000) : VF P w K mg base 1 "moves" [dS ls ms] (fun o => o = oL ((movesF ls ms).map mvD)) := by
  refine VF.of T.d_moves sc_moves rfl fun f cdv A outer s H E hr => ?_
  have hB := B; cases hB
  have g0 : pyget ls 0 = ls.getD 0 0 := pyget_nat ls 0
  have g1 : pyget ls 1 = ls.getD 1 0 := pyget_nat ls 1
  refine' Ws.unpackS2 1 2 (d := dI ls) (d2 := dM ms) rfl sc_moves.nd (.sh (.name 0) ⟨rfl, ?_⟩)
  refine' Ws.asg 3 sc_moves.nd (.own (.list .nil) (oL_data _) ?_)
  have key : ∀ (i : Nat) (ds : List Mv), ds = endMoves ls ms → Ws (cxOf CX0 P w K mg base n_moves "moves" (defScope s_moves) f cdv A outer s H E).nox [some (.sh (dS ls ms)), some (.sh (dI ls)), some (.sh (dM ms)), some (.ow (oL (ds.map mvD)) (.lst (ds.map mvD))), none] ((defBody s_moves).drop 4) { nx := fun _ => O.sh .non = oL ((movesF ls ms).map mvD), rt := fun o => o = oL ((movesF ls ms).map mvD) } := by
    rintro _ ds rfl
    refine' Ws.for (fun i ρ => ∃ x, ρ = [some (.sh (dS ls ms)), some (.sh (dI ls)), some (.sh (dM ms)), some (.ow (oL ((endMoves ls ms ++ pleats ls ms i).map mvD)) (.lst ((endMoves ls ms ++ pleats ls ms i).map mvD))), x]) [4] (fun i => [.int (i : Int)]) .never rfl (.range1 (j := (ms.length : Int) - 1) (by assumption) ?a (by omega)) ?b ?c ?d ?e
    case a => walk_at "ev"
    case b =>
      intro i d hd
      obtain ⟨_, rfl⟩ := rangeD_get hd
      rw [show (0 : Int) + (i : Int) = (i : Int) by omega]
      exact .name 4 sc_moves.nd
    case c => exact ⟨none, by simp [pleats]⟩
    case d =>
      rintro i d ρ hd ⟨x, rfl⟩ _
      obtain ⟨hi, -⟩ := rangeD_get hd
      have e2 : (i : Int) + 1 = ((i + 1 : Nat) : Int) := by omega
      have e3 : (i : Int) + 2 = ((i + 2 : Nat) : Int) := by omega
      have hb : ((!decide (pyget ms (i : Int) = pyget ms ((i : Int) + 1))) && decide (pyget ls ((i : Int) + 1) ≤ min (pyget ls (i : Int)) (pyget ls ((i : Int) + 2)))) = pleatOk ls ms i := by
        rw [e3, e2, pyget_nat, pyget_nat, pyget_nat, pyget_nat, pyget_nat]
        unfold pleatOk
        congr 1
        rw [← Bool.decide_and]
        exact decide_eq_decide.mpr Int.le_min
      have hlen : (endMoves ls ms ++ pleats ls ms i).length ≤ 2 + i := by
        unfold endMoves pleats
        have := List.length_filter_le (pleatOk ls ms) (List.range i)
        rw [List.length_range] at this
        simp only [List.length_append, List.length_map]
        split <;> split <;> simp <;> omega
      refine' Ws.if (b := pleatOk ls ms i) (EvT.is ?t1 hb) (fun h => ?y1) (fun h => ?n1)
      case t1 => walk_at "et"
      case n1 => exact .nil (.nil ⟨some (.sh (.int (i : Int))), by rw [pleats_succ, h]; simp [setW]⟩)
      case y1 =>
        refine' Ws.append 3 ((endMoves ls ms ++ pleats ls ms (i + 1)).map mvD) (d := mvD (.pleat i)) (.bor ?a4 rfl ⟨rfl, rfl⟩) ?c41 (.nil (.nil ⟨_, rfl⟩)) (hz := by rw [List.length_map]; omega)
        case a4 => exact Ev.tup (.two .str (.name 4))
        case c41 => rw [pleats_succ, h]; simp
    case e =>
      rintro ρ ⟨x, rfl⟩ _
      rw [rangeD_length, show ((ms.length : Int) - 1).toNat = ms.length - 1 by omega]
      exact Ws.ret (.move 3 rfl rfl rfl)
  have key2 : ∀ (ds : List Mv), ds = (if firstOk ls ms then [Mv.first] else []) → Ws (cxOf CX0 P w K mg base n_moves "moves" (defScope s_moves) f cdv A outer s H E).nox [some (.sh (dS ls ms)), some (.sh (dI ls)), some (.sh (dM ms)), some (.ow (oL (ds.map mvD)) (.lst (ds.map mvD))), none] ((defBody s_moves).drop 3) { nx := fun _ => O.sh .non = oL ((movesF ls ms).map mvD), rt := fun o => o = oL ((movesF ls ms).map mvD) } := by
    rintro ds rfl
    have hb : (decide ((0 : Int) < (ms.length : Int)) && decide (pyget ls (-1) ≤ pyget ls (-2))) = lastOk ls ms := by
      unfold lastOk
      by_cases hz : 0 < ms.length
      · rw [show (-1 : Int) = -((1 : Nat) : Int) by rfl, show (-2 : Int) = -((2 : Nat) : Int) by rfl, pyget_neg ls 1 (by omega) (by omega), pyget_neg ls 2 (by omega) (by omega)]
        simp [hz]
        try rfl
      · have hz0 : ms.length = 0 := by omega
        rw [hz0]; rfl
    refine' Ws.if (b := lastOk ls ms) (EvT.is ?t2 hb) (fun h => ?y2) (fun h => ?n2)
    case t2 => walk_at "et"
    case n2 => exact .nil (key 0 (if firstOk ls ms then [Mv.first] else []) (by unfold endMoves; rw [h]; simp))
    case y2 =>
      refine' Ws.append 3 ((endMoves ls ms).map mvD) (d := mvD .last) (.bor (.tup (.one .str)) rfl ⟨rfl, rfl⟩) ?c42 (.nil (key 0 (endMoves ls ms) rfl)) (hz := by split <;> simp)
      case c42 => unfold endMoves; rw [h]; simp
  have hb : (decide ((0 : Int) < (ms.length : Int)) && decide (pyget ls 0 ≤ pyget ls 1)) = firstOk ls ms := by
    unfold firstOk
    rw [g0, g1]
    simp
  refine' Ws.if (b := firstOk ls ms) (EvT.is ?t3 hb) (fun h => ?y3) (fun h => ?n3)
  case t3 => walk_at "et"
  case n3 => exact .nil (key2 [] (by rw [h]; rfl))
  case y3 =>
    refine' Ws.append 3 ([Mv.first].map mvD) (d := mvD .first) (.bor (.tup (.one .str)) rfl ⟨rfl, rfl⟩) rfl (.nil (key2 [Mv.first] (by rw [h]; rfl)))

/-! ### copied -/
theorem copied_ok (T : Fx K mg) (B : Bx mg) (ls : List Int) (ms : List Bool) : VF P w K mg base 1 "copied" [dS ls ms] (fun o => o = oS ls ms) := by
  refine VF.of T.d_copied sc_copied rfl fun f cdv A outer s H E hr => ?_
  have hB := B; cases hB
  refine' Ws.ret (.own (.pairO (o1 := oI ls) (o2 := oM ms) (.listL ?a (.ixT0 (.name 0))) (.listL ?b (.ixT1 (.name 0)))) rfl rfl)
  case a => assumption
  case b => assumption

/-! ### is_move -/
def mvDs : Mv → List D
  | .first => [.str "first"]
  | .last => [.str "last"]
  | .pleat k => [.str "pleat", .int (k : Int)]
theorem mvD_eq (m : Mv) : mvD m = .tup (mvDs m) := by cases m <;> rfl
theorem mvDs_kind {m : Mv} {d : D} (h : d ∈ mvDs m) : (∃ x, d = .str x) ∨ ∃ i, d = .int i := by
  cases m <;> simp [mvDs] at h
  · exact .inl ⟨_, h⟩
  · exact .inl ⟨_, h⟩
  · rcases h with h | h
    · exact .inl ⟨_, h⟩
    · exact .inr ⟨_, h⟩
theorem truesD (L : List D) : (O.ls (L.map fun _ => O.sh (.bl true))).data = .lst ((L.map fun _ => true).map D.bl) := by
  rw [oL_of, oL_data, List.map_map]; rfl
theorem is_move_ok (T : Fx K mg) (B : Bx mg) (m : Mv) : VF P w K mg base 2 "is_move" [mvD m] (fun o => o = .sh (.bl true)) := by
  refine VF.of T.d_is_move sc_is_move rfl fun f cdv A outer s H E hr => ?_
  have hB := B; cases hB
  rw [mvD_eq]
  refine' Ws.if (b := false) (.is (.bool (.or (c1 := false) (.is (.not (.val (.isi (T' := "tuple") (c := true) ?h1 ?h2 (.name 0) rfl))) rfl) (fun _ => .or1 (c := false) (.is (.not (.val (.allB (bs := (mvDs m).map fun _ => true) rfl ?h5 ?h6))) ?e6)))) rfl) (fun h => by cases h) (fun _ => ?_)
  case h1 => assumption
  case h2 => assumption
  case h5 => assumption
  case e6 => simp
  case h6 =>
    refine' EvO.ev' (.comp (own := [("part", 1)]) (mvDs m) (fun d => d) (fun _ => .sh (.bl true)) [1] (fun x => [x]) rfl sc_is_move.nd (.is (.tup (.name 0)) (by simp)) (blkOk_by (N := n_is_move) (sc := defScope s_is_move) (by decide +kernel)) (by simp) (fun x _ s H C cl fp => .name 1 sc_is_move.nd) (fun x hx s H C cl fp => Ev.evO ?g1) ?g2) (truesD (mvDs m))
    case g1 =>
      rcases mvDs_kind hx with ⟨y, rfl⟩ | ⟨i, rfl⟩
      · refine' Ev.is (.or (c1 := true) (.isi (T' := "str") (c := true) ?i1 ?i2 (.name 1) rfl) (c2 := true) (fun h => by cases h)) rfl
        case i1 => assumption
        case i2 => assumption
      · refine' Ev.is (.or (c1 := false) (.isi (T' := "str") (c := false) ?i3 ?i4 (.name 1) (show kitB (tyD (.int i)) "str" = some false from (show kitB (tyD (.int 0)) "str" = some false by decide +kernel))) (c2 := true) (fun h => .one ?i5)) rfl
        case i3 => assumption
        case i4 => assumption
        case i5 => exact .call (isw_ok T B (.int i)) (hr.mono (by decide)) (.one (.name 1)) (fun o e => by rw [e]; rfl)
    case g2 => exact Nat.lt_of_lt_of_le (m := 100000) (by cases m <;> simp [mvDs]) (by decide)
  refine Ws.nil ?_
  have shpP : Shp (.tup [.str "pleat"]) := shp_of (by decide +kernel) (by simp [D.deep, deepAll])
  cases m with
  | first =>
    refine' Ws.ret (.bor (.is (.or (c1 := true) (.is (.cmp (.sliceT (ds := [.str "first"]) (.name 0) .none (.some .int)) (.tup (ds := [.str "pleat"]) (.one .str)) (.neD hr.units ?j3 shpP)) ?j4) (c2 := true) (fun h => by cases h)) rfl) rfl rfl)
    case j3 => exact shp_mv .first
    case j4 => exact congrArg (fun b => D.bl (!b)) (show eqvD (.tup [.str "first"]) (.tup [.str "pleat"]) = false by decide +kernel)
  | last =>
    refine' Ws.ret (.bor (.is (.or (c1 := true) (.is (.cmp (.sliceT (ds := [.str "last"]) (.name 0) .none (.some .int)) (.tup (ds := [.str "pleat"]) (.one .str)) (.neD hr.units ?k3 shpP)) ?k4) (c2 := true) (fun h => by cases h)) rfl) rfl rfl)
    case k3 => exact shp_mv .last
    case k4 => exact congrArg (fun b => D.bl (!b)) (show eqvD (.tup [.str "last"]) (.tup [.str "pleat"]) = false by decide +kernel)
  | pleat k =>
    refine' Ws.ret (.bor (.is (.or (c1 := false) (.is (.cmp (.sliceT (ds := [.str "pleat", .int (k : Int)]) (.name 0) .none (.some .int)) (.tup (ds := [.str "pleat"]) (.one .str)) (.neD hr.units ?l3 shpP)) ?l4) (c2 := true) (fun h => .one (.is (.cmp (.lenT (ds := [.str "pleat", .int (k : Int)]) ?l5 (.name 0)) .int .eqI) rfl))) rfl) rfl rfl)
    case l3 => exact shpP
    case l4 => exact congrArg (fun b => D.bl (!b)) (show eqvD (.tup [.str "pleat"]) (.tup [.str "pleat"]) = true by decide +kernel)
    case l5 => assumption

/-! ### taken: what is no move is refused -/
def D.isSI : D → Bool
  | .str _ => true
  | .int _ => true
  | _ => false
def isMoveF : D → Bool
  | .tup ds => ds.all D.isSI && (!eqvD (.tup (cutD ds none (some 1))) (.tup [.str "pleat"]) || decide (ds.length = 2))
  | _ => false
theorem isMoveF_tup (ds : List D) : isMoveF (.tup ds) = (ds.all D.isSI && (!eqvD (.tup (cutD ds none (some 1))) (.tup [.str "pleat"]) || decide (ds.length = 2))) := rfl
def D.isTup : D → Bool
  | .tup _ => true
  | _ => false
/-- a thing of which may be asked whether it is a move -/
def AskM (d : D) : Prop := d.isOb = false ∧ ∀ ds, d = .tup ds → (∀ x ∈ ds, x.isOb = false) ∧ ds.length ≤ 1000 ∧ (ds.all D.isSI = true → Shp (.tup (cutD ds none (some 1))))
theorem kit_tup {d : D} (h : d.isOb = false) : kitB (tyD d) "tuple" = some d.isTup := by
  cases d with
  | non => exact (show kitB (tyD .non) "tuple" = some false by decide +kernel)
  | bl b => exact (show kitB (tyD (.bl true)) "tuple" = some false by decide +kernel)
  | int i => exact (show kitB (tyD (.int 0)) "tuple" = some false by decide +kernel)
  | str x => exact (show kitB (tyD (.str "")) "tuple" = some false by decide +kernel)
  | lst x => exact (show kitB (tyD (.lst [])) "tuple" = some false by decide +kernel)
  | tup x => exact (show kitB (tyD (.tup [])) "tuple" = some true by decide +kernel)
  | ro x => exact (show kitB (tyD (.ro [])) "tuple" = some false by decide +kernel)
  | dk x => exact (show kitB (tyD (.dk [])) "tuple" = some false by decide +kernel)
  | dd k x => exact (show kitB (tyD (.dk [])) "tuple" = some false by decide +kernel)
  | ob a k x => cases h
  | raw a => cases h
def D.isStr : D → Bool
  | .str _ => true
  | _ => false
theorem kit_str {d : D} (h : d.isOb = false) : kitB (tyD d) "str" = some d.isStr := by
  cases d with
  | non => exact (show kitB (tyD .non) "str" = some false by decide +kernel)
  | bl b => exact (show kitB (tyD (.bl true)) "str" = some false by decide +kernel)
  | int i => exact (show kitB (tyD (.int 0)) "str" = some false by decide +kernel)
  | str x => exact (show kitB (tyD (.str "")) "str" = some true by decide +kernel)
  | lst x => exact (show kitB (tyD (.lst [])) "str" = some false by decide +kernel)
  | tup x => exact (show kitB (tyD (.tup [])) "str" = some false by decide +kernel)
  | ro x => exact (show kitB (tyD (.ro [])) "str" = some false by decide +kernel)
  | dk x => exact (show kitB (tyD (.dk [])) "str" = some false by decide +kernel)
  | dd k x => exact (show kitB (tyD (.dk [])) "str" = some false by decide +kernel)
  | ob a k x => cases h
  | raw a => cases h
theorem isSI_or (d : D) : (d.isStr || d.isInt) = d.isSI := by cases d <;> rfl
theorem is_moveD_ok (T : Fx K mg) (B : Bx mg) (d : D) (hd : AskM d) : VF P w K mg base 2 "is_move" [d] (fun o => o = .sh (.bl (isMoveF d))) := by
  refine VF.of T.d_is_move sc_is_move rfl fun f cdv A outer s H E hr => ?_
  have hB := B; cases hB
  have shpP : Shp (.tup [.str "pleat"]) := shp_of (by decide +kernel) (by simp [D.deep, deepAll])
  by_cases ht : d.isTup = true
  · obtain ⟨ds, rfl⟩ : ∃ ds, d = .tup ds := by cases d <;> first | exact ⟨_, rfl⟩ | cases ht
    obtain ⟨_, h2⟩ := hd
    obtain ⟨h3, h4, h5⟩ := h2 ds rfl
    refine' Ws.if (b := !ds.all D.isSI) (.is (.bool (.or (c1 := false) (.is (.not (.val (.isi (T' := "tuple") (c := true) ?h1 ?h2 (.name 0) (kit_tup rfl)))) rfl) (fun _ => .or1 (.not (.val (.allB (bs := ds.map D.isSI) rfl ?h5 ?h6)))))) ?e6) (fun h => ?y) (fun h => ?n)
    case h1 => assumption
    case h2 => assumption
    case h5 => assumption
    case e6 => simp [List.all_map]
    case h6 =>
      refine' EvO.ev' (.comp (own := [("part", 1)]) ds (fun d => d) (fun x => .sh (.bl x.isSI)) [1] (fun x => [x]) rfl sc_is_move.nd (.is (.tup (.name 0)) (by simp)) (blkOk_by (N := n_is_move) (sc := defScope s_is_move) (by decide +kernel)) (by simp) (fun x _ s H C cl fp => .name 1 sc_is_move.nd) (fun x hx s H C cl fp => Ev.evO ?g1) ?g2) ?g3
      case g1 =>
        refine' Ev.is (.or (.isi (T' := "str") ?i1 ?i2 (.name 1) (kit_str (h3 x hx)) (hob := h3 x hx)) (fun h => .one ?i5)) (by rw [isSI_or])
        case i1 => assumption
        case i2 => assumption
        case i5 => exact .call (isw_ok T B x (h3 x hx)) (hr.mono (by decide)) (.one (.name 1)) (fun o e => by rw [e]; rfl)
      case g2 => exact Nat.lt_of_lt_of_le (m := 100000) (by omega) (by decide)
      case g3 => rw [oL_of, oL_data, List.map_map]; rfl
    case y =>
      have h : ds.all D.isSI = false := by simpa using h
      refine' Ws.ret (.bor (d := .bl false) .bl rfl ?y1)
      case y1 => rw [isMoveF_tup, h]; rfl
    case n =>
      have h : ds.all D.isSI = true := by simpa using h
      refine' Ws.nil (Ws.ret (.bor (.or (.cmp (.sliceT (ds := ds) (.name 0) .none (.some .int)) (.tup (ds := [.str "pleat"]) (.one .str)) (.neD hr.units (h5 h) shpP)) (fun _ => .one (.cmp (.lenT (ds := ds) ?n5 (.name 0)) .int .eqI))) rfl ?n1))
      case n5 => assumption
      case n1 =>
        show O.sh _ = O.sh _
        rw [isMoveF_tup, h, Bool.true_and, show decide ((ds.length : Int) = 2) = decide (ds.length = 2) from decide_eq_decide.mpr (by omega)]
  · have ht : d.isTup = false := by simpa using ht
    have hF : isMoveF d = false := by cases d <;> first | rfl | cases ht
    refine' Ws.if (b := true) (.is (.bool (.or (c1 := true) (.is (.not (c := false) (.val (.isi (T' := "tuple") ?h1 ?h2 (.name 0) (by rw [← ht]; exact kit_tup hd.1) (hob := hd.1)))) rfl) (c2 := true) (fun h => by cases h))) rfl) (fun _ => ?_) (fun h => by cases h)
    case h1 => assumption
    case h2 => assumption
    exact Ws.ret (.bor (d := .bl false) .bl rfl (by show O.sh _ = O.sh _; rw [hF]))
theorem takenN_ok (T : Fx K mg) (B : Bx mg) {Dx Fx' : Addr} (W : ErrW K mg 2 "NoFold" Dx Fx') (ls : List Int) (ms : List Bool) (d : D) (hd : AskM d) (hn : isMoveF d = true → Shp d ∧ ((movesF ls ms).map mvD).any (fun z => eqvD z d) = false) (hl : ls.length = ms.length + 1) (hm : ls.length ≤ 1000) : VXN P w K mg base 3 "taken" [dS ls ms, d] Dx := by
  refine VXN.of T.d_taken sc_taken rfl fun f cdv A outer s H E hr tk => ?_
  have hB := B; cases hB
  refine' Ws.if (b := true) (.is (.bool (.or (c1 := !isMoveF d) (.not (.val (.call (is_moveD_ok T B d hd) (hr.mono (by decide)) (.one (.name 1)) (fun o e => by rw [e]; rfl)))) (c2 := isMoveF d) (fun h => .or1 ?h0))) ?e) (fun _ => ?_) (fun h => by cases h)
  case h0 =>
    have hM : isMoveF d = true := by simpa using h
    obtain ⟨s1, s2⟩ := hn hM
    refine' EvT.is (.cmp (.name 1) (d2 := mvL (movesF ls ms)) ?h1 (.notInD ?h3 s1 (shp_mvL _)) rfl) ?h2
    case h1 => exact .call (pmoves_ok T B ls ms hl hm) (hr.mono (by decide)) (.one (.name 0)) (fun o e => by rw [e]; exact oL_data _)
    case h3 => exact units65 hr
    case h2 => rw [s2, hM]; rfl
  case e => cases isMoveF d <;> rfl
  exact Ws.raiseN W.er rfl tk rfl

/-! ### taken: a move that can be done -/
theorem mv_any {L : List Mv} {m : Mv} (h : m ∈ L) : ((L.map mvD).any fun z => eqvD z (mvD m)) = true := by
  rw [List.any_map, List.any_eq_true]
  exact ⟨m, h, eqvD_refl (mvD_good m)⟩
theorem taken_ok (T : Fx K mg) (B : Bx mg) (ls : List Int) (ms : List Bool) (m : Mv) (ho : m.ok ls ms) (hl : ls.length = ms.length + 1) (hm : ls.length ≤ 1000) : VF P w K mg base 3 "taken" [dS ls ms, mvD m] (fun o => o = oS (behindL ls m) (behindM ms m)) := by
  refine VF.of T.d_taken sc_taken rfl fun f cdv A outer s H E hr => ?_
  have hB := B; cases hB
  have hp := Mv.ok_pos ho
  refine' Ws.if (b := false) (.is (.bool (.or (c1 := false) (.is (.not (.val (.call (is_move_ok T B m) (hr.mono (by decide)) (.one (.name 1)) (fun o e => by rw [e]; rfl)))) rfl) (fun _ => .or1 (c := false) (.is (.cmp (.name 1) (d2 := mvL (movesF ls ms)) ?h1 (.notInD ?h3 (shp_mv m) (shp_mvL _)) rfl) ?h2)))) rfl) (fun h => by cases h) (fun _ => ?_)
  case h1 => exact .call (pmoves_ok T B ls ms hl hm) (hr.mono (by decide)) (.one (.name 0)) (fun o e => by rw [e]; exact oL_data _)
  case h3 => exact units65 hr
  case h2 => rw [mv_any (ok_moves ho)]; rfl
  refine' Ws.nil (Ws.unpackS2 2 3 (d := dI ls) (d2 := dM ms) rfl sc_taken.nd (.sh (.name 0) ⟨rfl, ?_⟩))
  cases m with
  | first =>
    refine' Ws.if (b := true) (.is (.cmp (.ixT0 (x := .str "first") (.name 1)) .str .eqS) (by decide +kernel)) (fun _ => ?_) (fun h => by cases h)
    refine' Ws.ret (.own (.pairO (.sliceI (.name 2) (.some .int) .none) (.sliceM (.name 3) (.some .int) .none)) rfl ?d)
    case d =>
      show O.tu [_, _] = oS _ _
      rw [show (1 : Int) = ((1 : Nat) : Int) by rfl, cutL_from, cutL_from]; rfl
  | last =>
    refine' Ws.if (b := false) (.is (.cmp (.ixT0 (x := .str "last") (.name 1)) .str .eqS) (by decide +kernel)) (fun h => by cases h) (fun _ => .nil ?_)
    refine' Ws.if (b := true) (.is (.cmp (.ixT0 (x := .str "last") (.name 1)) .str .eqS) (by decide +kernel)) (fun _ => ?_) (fun h => by cases h)
    refine' Ws.ret (.own (.pairO (.sliceI (.name 2) .none (.some (.neg .int))) (.sliceM (.name 3) .none (.some (.neg .int)))) rfl ?d2)
    case d2 =>
      show O.tu [_, _] = oS _ _
      rw [show (-1 : Int) = -((1 : Nat) : Int) by rfl, cutL_to_neg _ _ (by omega), cutL_to_neg _ _ (by omega)]; rfl
  | pleat k =>
    have hk := ho.1
    refine' Ws.if (b := false) (.is (.cmp (.ixT0 (x := .str "pleat") (.name 1)) .str .eqS) (by decide +kernel)) (fun h => by cases h) (fun _ => .nil ?_)
    refine' Ws.if (b := false) (.is (.cmp (.ixT0 (x := .str "pleat") (.name 1)) .str .eqS) (by decide +kernel)) (fun h => by cases h) (fun _ => .nil ?_)
    refine' Ws.asg 4 sc_taken.nd (.bor (d := .int (k : Int)) (.ixT1 (.name 1)) rfl ?_)
    have e2 : (k : Int) + 2 = ((k + 2 : Nat) : Int) := by omega
    have e1 : (k : Int) + 1 = ((k + 1 : Nat) : Int) := by omega
    have e3 : (k : Int) + 3 = ((k + 3 : Nat) : Int) := by omega
    refine' Ws.asg 5 sc_taken.nd (.bor (d := .int (ls.getD k 0 + ls.getD (k + 2) 0 - ls.getD (k + 1) 0)) (Ev.is ?a4 ?e4) rfl ?_)
    case a4 => walk_at "ev"
    case e4 => rw [e1, e2, pyget_nat, pyget_nat, pyget_nat]; exact congrArg D.int (show ls.getD k 0 - ls.getD (k + 1) 0 + ls.getD (k + 2) 0 = _ by omega)
    have q1 := cutL_length ls none (some (k : Int))
    have q2 := cutL_length ls (some ((k : Int) + 3)) none
    have q3 := cutL_length ms none (some (k : Int))
    have q4 := cutL_length ms (some ((k : Int) + 2)) none
    refine' Ws.ret (.own (.pairO (.catI (.catI (.sliceI ?b5 .none (.some ?c5)) (Ev.is (Ev.list (.one ?d5)) (show D.lst [.int _] = dI [_] from rfl)) ?l5) (.sliceI ?e5 (.some ?f5) .none) ?l6) (.catM (.sliceM ?g5 .none (.some ?h5)) (.sliceM ?i5 (.some ?j5) .none) ?l7)) rfl ?p5)
    case b5 => walk_at "nm"
    case c5 => walk_at "nm"
    case d5 => walk_at "nm"
    case e5 => walk_at "nm"
    case f5 => walk_at "ev"
    case g5 => walk_at "nm"
    case h5 => walk_at "nm"
    case i5 => walk_at "nm"
    case j5 => walk_at "ev"
    case l5 => walk_at "sd"
    case l6 => walk_at "sd"
    case l7 => walk_at "sd"
    case p5 =>
      show O.tu [_, _] = oS _ _
      rw [e2, e3, cutL_to, cutL_from, cutL_to, cutL_from]; rfl

/-! ### laid, pleated, piled_up -/
theorem laid_ok (T : Fx K mg) (B : Bx mg) (a b : List Int) (m : Bool) (hl : a.length + b.length ≤ 100000) : VF P w K mg base 1 "laid" [dI a, dI b, mkD m] (fun o => o = oI (if m then a ++ b.reverse else b.reverse ++ a)) := by
  refine VF.of T.d_laid sc_laid rfl fun f cdv A outer s H E hr => ?_
  have hB := B; cases hB
  refine' Ws.if (b := m) (.cmp (.name 2) .str .eqMv) (fun h => ?y) (fun h => ?n)
  case y =>
    subst h
    refine' Ws.ret (.own (.catI (L' := b.reverse) (.name 0) (.is (EvO.ev' (.listRev rfl ?a1 ?a2 (.name 1)) (oL_data _)) (by rw [← List.map_reverse]; rfl)) ?a3) (oI_data _) rfl)
    case a1 => assumption
    case a2 => assumption
    case a3 => simpa using hl
  case n =>
    subst h
    refine' Ws.nil (Ws.ret (.own (.catI (L := b.reverse) (.is (EvO.ev' (.listRev rfl ?b1 ?b2 (.name 1)) (oL_data _)) (by rw [← List.map_reverse]; rfl)) (.name 0) ?b3) (oI_data _) rfl))
    case b1 => assumption
    case b2 => assumption
    case b3 => simp; omega
theorem pleated_ok (T : Fx K mg) (B : Bx mg) (ps : List (List Int)) (k : Nat) (m : Bool) (hk : k + 2 < ps.length) (hf : ps.flatten.length ≤ 1000) : VF P w K mg base 1 "pleated" [dP ps, .int (k : Int), mkD m] (fun o => o = oI (if m then ps.getD k [] ++ (ps.getD (k + 1) []).reverse ++ ps.getD (k + 2) [] else ps.getD (k + 2) [] ++ (ps.getD (k + 1) []).reverse ++ ps.getD k [])) := by
  refine VF.of T.d_pleated sc_pleated rfl fun f cdv A outer s H E hr => ?_
  have hB := B; cases hB
  have hpl := pile_le ps
  have e2 : (k : Int) + 2 = ((k + 2 : Nat) : Int) := by omega
  have e1 : (k : Int) + 1 = ((k + 1 : Nat) : Int) := by omega
  have g0 : pyget ps (k : Int) = ps.getD k [] := pyget_nat ps k
  have g1 : pyget ps ((k : Int) + 1) = ps.getD (k + 1) [] := by rw [e1]; exact pyget_nat ps (k + 1)
  have g2 : pyget ps ((k : Int) + 2) = ps.getD (k + 2) [] := by rw [e2]; exact pyget_nat ps (k + 2)
  have u0 := hpl k
  have u1 := hpl (k + 1)
  have u2 := hpl (k + 2)
  generalize ps.getD k [] = x at g0 u0
  generalize ps.getD (k + 1) [] = y at g1 u1
  generalize ps.getD (k + 2) [] = z at g2 u2
  refine' Ws.asg 3 sc_pleated.nd (.own (o := oI y.reverse) (.is (.listRev (ds := y.map D.int) rfl ?a1 ?a2 (.is (.ixP (.name 0) (.add (.name 1) .int) (by omega)) (by rw [g1]; rfl))) (by rw [← List.map_reverse]; rfl)) (oI_data _) ?_)
  case a1 => assumption
  case a2 => assumption
  refine Ws.share (i := 3) rfl ?_
  refine' Ws.if (b := m) (.cmp (.name 2) .str .eqMv) (fun h => ?y) (fun h => ?n)
  case y =>
    subst h
    refine' Ws.ret (.own (.catI (.catI (L' := y.reverse) (.is (.ixP (.name 0) (.name 1) (by omega)) (by rw [g0])) (.name 3) ?c1) (.is (.ixP (.name 0) (.add (.name 1) .int) (by omega)) (by rw [g2])) ?c2) (oI_data _) rfl)
    case c1 => simp only [List.length_reverse]; omega
    case c2 => simp only [List.length_append, List.length_reverse]; omega
  case n =>
    subst h
    refine' Ws.nil (Ws.ret (.own (.catI (.catI (L' := y.reverse) (.is (.ixP (.name 0) (.add (.name 1) .int) (by omega)) (by rw [g2])) (.name 3) ?d1) (.is (.ixP (.name 0) (.name 1) (by omega)) (by rw [g0])) ?d2) (oI_data _) rfl))
    case d1 => simp only [List.length_reverse]; omega
    case d2 => simp only [List.length_append, List.length_reverse]; omega
theorem piled_up_ok (T : Fx K mg) (B : Bx mg) (ps : List (List Int)) (ls : List Int) (ms : List Bool) (m : Mv) (ho : m.ok ls ms) (hl : ps.length = ms.length + 1) (hm : ps.length ≤ 1000) (hf : ps.flatten.length ≤ 1000) : VF P w K mg base 2 "piled_up" [dP ps, dM ms, mvD m] (fun o => o = oL ((piledF ps ms m).map dI)) := by
  refine VF.of T.d_piled_up sc_piled_up rfl fun f cdv A outer s H E hr => ?_
  have hB := B; cases hB
  have hp := Mv.ok_pos ho
  have hpl := pile_le ps
  cases m with
  | first =>
    have g0 : pyget ps 0 = ps.getD 0 [] := pyget_nat ps 0
    have g1 : pyget ps 1 = ps.getD 1 [] := pyget_nat ps 1
    have g2 : pyget ms 0 = ms.getD 0 false := pyget_nat ms 0
    have u0 := hpl 0
    have u1 := hpl 1
    have q2 := cutL_length ps (some 2) none
    refine' Ws.if (b := true) (.is (.cmp (.ixT0 (x := .str "first") (.name 2)) .str .eqS) (by decide +kernel)) (fun _ => ?_) (fun h => by cases h)
    refine' Ws.ret (.own (.catP (ps := [if ms.getD 0 false then ps.getD 1 [] ++ (ps.getD 0 []).reverse else (ps.getD 0 []).reverse ++ ps.getD 1 []]) (.list (.one (.call (laid_ok T B (ps.getD 1 []) (ps.getD 0 []) (ms.getD 0 false) (by omega)) (hr.mono (by decide)) (.cons ?a1 (.two ?a2 ?a3)) (fun o e => by rw [e]; exact oI_data _)))) (.sliceP (.name 0) (.some .int) .none) ?a4) (oL_data _) ?a5)
    case a1 => exact .is (.ixP (.name 0) .int (by omega)) (by rw [g1])
    case a2 => exact .is (.ixP (.name 0) .int (by omega)) (by rw [g0])
    case a3 => exact .is (.ixM (.name 1) .int (by omega)) (by rw [g2])
    case a4 => simp; omega
    case a5 =>
      show oL _ = oL _
      rw [show (2 : Int) = ((2 : Nat) : Int) by rfl, cutL_from]; rfl
  | last =>
    have g0 : pyget ps (-1) = ps.getD (ps.length - 1) [] := pyget_neg ps 1 (by omega) (by omega)
    have g1 : pyget ps (-2) = ps.getD (ps.length - 2) [] := pyget_neg ps 2 (by omega) (by omega)
    have g2 : pyget ms (-1) = ms.getD (ms.length - 1) false := pyget_neg ms 1 (by omega) (by omega)
    have u0 := hpl (ps.length - 1)
    have u1 := hpl (ps.length - 2)
    have q2 := cutL_length ps none (some (-2))
    refine' Ws.if (b := false) (.is (.cmp (.ixT0 (x := .str "last") (.name 2)) .str .eqS) (by decide +kernel)) (fun h => by cases h) (fun _ => .nil ?_)
    refine' Ws.if (b := true) (.is (.cmp (.ixT0 (x := .str "last") (.name 2)) .str .eqS) (by decide +kernel)) (fun _ => ?_) (fun h => by cases h)
    refine' Ws.ret (.own (.catP (qs := [if ms.getD (ms.length - 1) false then ps.getD (ps.length - 2) [] ++ (ps.getD (ps.length - 1) []).reverse else (ps.getD (ps.length - 1) []).reverse ++ ps.getD (ps.length - 2) []]) (.sliceP (.name 0) .none (.some (.neg .int))) (.list (.one (.call (laid_ok T B (ps.getD (ps.length - 2) []) (ps.getD (ps.length - 1) []) (ms.getD (ms.length - 1) false) (by omega)) (hr.mono (by decide)) (.cons ?b1 (.two ?b2 ?b3)) (fun o e => by rw [e]; exact oI_data _)))) ?b4) (oL_data _) ?b5)
    case b1 => exact .is (.ixP (.name 0) (.neg .int) (by omega)) (by rw [g1])
    case b2 => exact .is (.ixP (.name 0) (.neg .int) (by omega)) (by rw [g0])
    case b3 => exact .is (.ixM (.name 1) (.neg .int) (by omega)) (by rw [g2])
    case b4 => simp; omega
    case b5 =>
      show oL _ = oL _
      rw [show (-2 : Int) = -((2 : Nat) : Int) by rfl, cutL_to_neg _ _ (by omega)]; rfl
  | pleat k =>
    have hk := ho.1
    have e1 : (k : Int) + 3 = ((k + 3 : Nat) : Int) := by omega
    have gm : pyget ms (k : Int) = ms.getD k false := pyget_nat ms k
    have q1 := cutL_length ps none (some (k : Int))
    have q2 := cutL_length ps (some ((k : Int) + 3)) none
    refine' Ws.if (b := false) (.is (.cmp (.ixT0 (x := .str "pleat") (.name 2)) .str .eqS) (by decide +kernel)) (fun h => by cases h) (fun _ => .nil ?_)
    refine' Ws.if (b := false) (.is (.cmp (.ixT0 (x := .str "pleat") (.name 2)) .str .eqS) (by decide +kernel)) (fun h => by cases h) (fun _ => .nil ?_)
    refine' Ws.asg 3 sc_piled_up.nd (.bor (d := .int (k : Int)) (.ixT1 (.name 2)) rfl ?_)
    refine' Ws.ret (.own (.catP (.catP (qs := [if ms.getD k false then ps.getD k [] ++ (ps.getD (k + 1) []).reverse ++ ps.getD (k + 2) [] else ps.getD (k + 2) [] ++ (ps.getD (k + 1) []).reverse ++ ps.getD k []]) (.sliceP (.name 0) .none (.some (.name 3))) (.list (.one (.call (pleated_ok T B ps k (ms.getD k false) (by omega) hf) (hr.mono (by decide)) (.cons (.name 0) (.two (.name 3) ?c3)) (fun o e => by rw [e]; exact oI_data _)))) ?c4) (.sliceP (.name 0) (.some (.add (.name 3) .int)) .none) ?c5) (oL_data _) ?c6)
    case c3 => exact .is (.ixM (.name 1) (.name 3) (by omega)) (by rw [gm])
    case c4 => simp; omega
    case c5 => simp; omega
    case c6 =>
      show oL _ = oL _
      rw [e1, cutL_to, cutL_from]; rfl

/-! ### Fold -/
abbrev foldK : List Str := ["now", "piles", "past"]
/-- one item of the past: the move, the strip, the layers -/
def pastD (q : Mv × (List Int × List Bool) × List (List Int)) : D := .tup [mvD q.1, dS q.2.1.1 q.2.1.2, dP q.2.2]
def foldX (ls : List Int) (ms : List Bool) (ps : List (List Int)) (past : List (Mv × (List Int × List Bool) × List (List Int))) : List O := [.sh (dS ls ms), .sh (dP ps), oL (past.map pastD)]
def foldO (C : Addr) (ls : List Int) (ms : List Bool) (ps : List (List Int)) (past : List (Mv × (List Int × List Bool) × List (List Int))) : O := .ob C foldK (foldX ls ms ps past)
def foldD (C : Addr) (ls : List Int) (ms : List Bool) (ps : List (List Int)) (past : List (Mv × (List Int × List Bool) × List (List Int))) : D := .ob C foldK [dS ls ms, dP ps, .lst (past.map pastD)]
theorem foldO_data (C : Addr) (ls : List Int) (ms : List Bool) (ps : List (List Int)) (past : List (Mv × (List Int × List Bool) × List (List Int))) : (foldO C ls ms ps past).data = foldD C ls ms ps past := by
  unfold foldO foldD foldX
  rw [O.data, dataAll, dataAll, dataAll, dataAll, oL_data]; rfl
theorem here_ok {C : Addr} (T : Fx K mg) (B : Bx mg) (Cf : Cl_Fold K mg C) (ls : List Int) (ms : List Bool) (ks : List Str) (ds : List D) : VM P w K mg base 2 C "here" [.ob C ("now" :: ks) (dS ls ms :: ds)] (fun o => o = oS ls ms) := by
  refine VM.of Cf.m_here sc_Fold_here rfl fun f cdv A outer s H E hr => ?_
  have hB := B; cases hB
  refine' Ws.ret (.own (.call (copied_ok T B ls ms) (hr.mono (by decide)) (.one (.fld (.name 0) 0 rfl rfl Cf.F.cl (Cf.F.no _ (by simp)))) (fun o e => e)) (oS_data _ _) rfl)

theorem done_ok {C : Addr} (T : Fx K mg) (B : Bx mg) (Cf : Cl_Fold K mg C) (a b : D) (past : List (Mv × (List Int × List Bool) × List (List Int))) (hp : past.length ≤ 100000) : VM P w K mg base 1 C "done" [.ob C foldK [a, b, .lst (past.map pastD)]] (fun o => o = oL ((past.map (·.1)).map mvD)) := by
  refine VM.of Cf.m_done sc_Fold_done rfl fun f cdv A outer s H E hr => ?_
  have hB := B; cases hB
  refine' Ws.ret (.own (o := oL ((past.map (·.1)).map mvD)) (.is (.comp (own := [("step", 1)]) past pastD (fun q => .sh (mvD q.1)) [1] (fun q => [pastD q]) rfl sc_Fold_done.nd (.list (.fld (.name 0) 2 rfl rfl Cf.F.cl (Cf.F.no _ (by simp)))) (blkOk_by (N := n_Fold_done) (sc := defScope s_Fold_done) (by decide +kernel)) (by simp) (fun x _ s H C cl fp => .name 1 sc_Fold_done.nd) (fun x hx s H C cl fp => Ev.evO (.ixT0 (.name 1))) (Nat.lt_of_le_of_lt hp (by decide))) ?e) (oL_data _) rfl)
  case e => rw [oL_of, List.map_map]; rfl
theorem layers_ok {C : Addr} (T : Fx K mg) (B : Bx mg) (Cf : Cl_Fold K mg C) (a c : D) (ps : List (List Int)) (hp : ps.length ≤ 100000) : VM P w K mg base 1 C "layers" [.ob C foldK [a, dP ps, c]] (fun o => o = .ls (ps.map oI)) := by
  refine VM.of Cf.m_layers sc_Fold_layers rfl fun f cdv A outer s H E hr => ?_
  have hB := B; cases hB
  refine' Ws.ret (.own (.comp (own := [("row", 1)]) ps dI oI [1] (fun q => [dI q]) rfl sc_Fold_layers.nd (.list (.fld (.name 0) 1 rfl rfl Cf.F.cl (Cf.F.no _ (by simp)))) (blkOk_by (N := n_Fold_layers) (sc := defScope s_Fold_layers) (by decide +kernel)) (by simp) (fun x _ s H C cl fp => .name 1 sc_Fold_layers.nd) (fun x hx s H C cl fp => .listL ?a (.name 1)) (Nat.lt_of_le_of_lt hp (by decide))) rfl rfl)
  case a => assumption
theorem fold_init_ok {C : Addr} (T : Fx K mg) (B : Bx mg) (Cf : Cl_Fold K mg C) (ls : List Int) (ms : List Bool) (hm : ls.length ≤ 1000) : VI P w K mg base 2 C "Fold" [dS ls ms] (fun o => o = foldO C ls ms (singles ls.length) []) := by
  refine VI.of Cf.F Cf.m_init sc_Fold_init fun f a cdv A outer s H E hr => ?_
  have hB := B; cases hB
  refine' Ws.fldNew 0 Cf.F.cl (Cf.F.no _ (by simp)) (.sh (d := dS ls ms) (.call (copied_ok T B ls ms) (hr.mono (by decide)) (.one (.name 1)) (fun o e => by rw [e]; exact oS_data _ _)) ⟨rfl, ?_⟩)
  refine' Ws.fldNew 0 Cf.F.cl (Cf.F.no _ (by simp)) (.sh (d := dP (singles ls.length)) (EvO.ev' (o := .ls ((List.range ls.length).map fun (k : Nat) => oI [(k : Int)])) (.comp (own := [("piece", 2)]) (List.range ls.length) (fun (k : Nat) => D.int (k : Int)) (fun (k : Nat) => oI [(k : Int)]) [2] (fun (k : Nat) => [.int (k : Int)]) rfl sc_Fold_init.nd (.is (.range1 (j := (ls.length : Int)) ?r (.lenI ?r1 (.ixT0 (.name 1))) (by omega)) ?r2) (blkOk_by (N := n_Fold_init) (sc := defScope s_Fold_init) (by decide +kernel)) (by simp) (fun x _ s H C cl fp => .name 2 sc_Fold_init.nd) (fun x hx s H C cl fp => .list (.one (.name 2))) ?r3) ?r4) ⟨rfl, ?_⟩)
  case r => assumption
  case r1 => assumption
  case r2 => unfold rangeD; simp
  case r3 => rw [List.length_range]; exact Nat.lt_of_le_of_lt hm (by decide)
  case r4 =>
    rw [O.data, dataAll_map, List.map_map]
    unfold dP singles
    rw [List.map_map]
    refine congrArg D.lst (List.map_congr_left fun k _ => ?_)
    exact oI_data [(k : Int)]
  refine' Ws.fldNew 0 Cf.F.cl (Cf.F.no _ (by simp)) (.own (.list .nil) (oL_data _) ⟨rfl, ?_⟩)
  exact .nil ⟨_, _, rfl, rfl⟩
theorem dI_noOb (L : List Int) : (dI L).noOb = true := by unfold dI; rw [D.noOb]; exact noObAll_map (fun x => by simp [D.noOb]) L
theorem dM_noOb (L : List Bool) : (dM L).noOb = true := by unfold dM; rw [D.noOb]; exact noObAll_map (fun x => by simp [mkD, D.noOb]) L
theorem dS_noOb (ls : List Int) (ms : List Bool) : (dS ls ms).noOb = true := by unfold dS; rw [D.noOb, noObAll, noObAll, noObAll, dI_noOb, dM_noOb]; rfl
theorem dP_noOb (ps : List (List Int)) : (dP ps).noOb = true := by unfold dP; rw [D.noOb]; exact noObAll_map dI_noOb ps
theorem mvD_noOb (m : Mv) : (mvD m).noOb = true := by cases m <;> simp [mvD, D.noOb, noObAll]
theorem pastD_noOb (q : Mv × (List Int × List Bool) × List (List Int)) : (pastD q).noOb = true := by unfold pastD; rw [D.noOb, noObAll, noObAll, noObAll, noObAll, mvD_noOb, dS_noOb, dP_noOb]; rfl
theorem oS_noOb (ls : List Int) (ms : List Bool) : (oS ls ms).noOb = true := by
  have h1 := dI_noOb ls
  have h2 := dM_noOb ms
  unfold dI at h1
  unfold dM at h2
  rw [D.noOb] at h1 h2
  unfold oS oI oM
  rw [O.noOb, noObO, noObO, noObO, oL_noOb h1, oL_noOb h2]; rfl
theorem take_ok {C : Addr} (T : Fx K mg) (B : Bx mg) (Cf : Cl_Fold K mg C) (ls : List Int) (ms : List Bool) (ps : List (List Int)) (past : List (Mv × (List Int × List Bool) × List (List Int))) (m : Mv) (ho : m.ok ls ms) (hl : ls.length = ms.length + 1) (hm : ls.length ≤ 1000) (hp : ps.length = ms.length + 1) (hf : ps.flatten.length ≤ 1000) (hz : past.length ≤ 1000) :
    GM P w K mg base 4 C "take" (foldO C ls ms ps past) (foldD C ls ms ps past) [mvD m] (fun o' d' w => o' = foldO C (behindL ls m) (behindM ms m) (piledF ps ms m) (past ++ [(m, (ls, ms), ps)]) ∧ d' = foldD C (behindL ls m) (behindM ms m) (piledF ps ms m) (past ++ [(m, (ls, ms), ps)]) ∧ w = .sh .non) := by
  refine GM.of Cf.m_take sc_Fold_take fun f a cdv A outer s H E hr => ?_
  have hB := B; cases hB
  refine' Ws.asg 2 sc_Fold_take.nd (.vwO (.call (taken_ok T B ls ms m ho hl hm) (hr.mono (by decide)) (.two (.fld (.name 0) 0 rfl rfl Cf.F.cl (Cf.F.no _ (by simp))) (.name 1)) (fun o e => e)) ?n1 (oS_data _ _) ?_)
  case n1 => exact oS_noOb _ _
  refine Ws.share (i := 2) rfl ?_
  refine' Ws.appendV 0 [.pin, .fld C 2 "past"] ((((Rcv.name 0)).pin).fld C 2 Cf.F.cl (Cf.F.no _ (by simp))) (d := pastD (m, (ls, ms), ps)) (.tup (.cons (.name 1) (.two (.fld (.name 0) 0 rfl rfl Cf.F.cl (Cf.F.no _ (by simp))) (.fld (.name 0) 1 rfl rfl Cf.F.cl (Cf.F.no _ (by simp)))))) ?n2 (ds := past.map pastD) rfl rfl ?_ ?n3
  case n2 => exact pastD_noOb _
  case n3 => rw [List.length_map]; omega
  refine' Ws.fldOld 0 1 Cf.F.cl (Cf.F.no _ (by simp)) rfl (.vw (d := dP (piledF ps ms m)) (.call (piled_up_ok T B ps ls ms m ho hp (by omega) hf) (hr.mono (by decide)) (.cons (.fld (.name 0) 1 rfl rfl Cf.F.cl (Cf.F.no _ (by simp))) (.two (.ixT1 (.fld (.name 0) 0 rfl rfl Cf.F.cl (Cf.F.no _ (by simp)))) (.name 1))) (fun o e => by rw [e]; exact oL_data _)) ?n4 ⟨rfl, ?_⟩)
  case n4 => exact dP_noOb _
  refine' Ws.fldOld 0 0 Cf.F.cl (Cf.F.no _ (by simp)) rfl (.sh (.name 2) ⟨rfl, ?_⟩)
  refine .nil ⟨_, _, rfl, ?_, ?_, rfl⟩
  · show O.ob C foldK [_, _, oL (past.map pastD ++ [pastD (m, (ls, ms), ps)])] = _
    rw [← List.map_singleton (f := pastD) (a := (m, (ls, ms), ps)), ← List.map_append]; rfl
  · show (O.ob C foldK [.sh (dS (behindL ls m) (behindM ms m)), .sh (dP (piledF ps ms m)), oL (past.map pastD ++ [pastD (m, (ls, ms), ps)])]).data = _
    rw [← List.map_singleton (f := pastD) (a := (m, (ls, ms), ps)), ← List.map_append]
    exact foldO_data C (behindL ls m) (behindM ms m) (piledF ps ms m) (past ++ [(m, (ls, ms), ps)])

/-! ### _law_cell_at -/
def cellF (ns : List Int) (k : Int) : Int := if k < ns.length then (pyget ns k * 48271 + 7919 * k) % 2147483647 else 0
theorem cellF_nn (ns : List Int) (k : Int) : 0 ≤ cellF ns k := by unfold cellF; split <;> omega
theorem cellF_lt (ns : List Int) (k : Int) : cellF ns k < 2147483647 := by unfold cellF; split <;> omega
theorem cell_ok (T : Fx K mg) (B : Bx mg) (ns : List Int) (k : Int) (hk : 0 ≤ k) : VF P w K mg base 1 "_law_cell_at" [.ro (ns.map D.int), .int k] (fun o => o = .sh (.int (cellF ns k))) := by
  refine VF.of T.d_L_cell_at sc_L_cell_at rfl fun f cdv A outer s H E hr => ?_
  have hB := B; cases hB
  refine' Ws.if ?t (fun h => ?y) (fun h => ?n)
  case t => walk_at "et"
  case y =>
    simp at h
    refine' Ws.ret (.bor ?a ?f ?g)
    case a => walk_at "ev"
    case f => rfl
    case g => show O.sh _ = O.sh _; rw [cellF, if_pos h]
  case n =>
    simp at h
    refine' Ws.nil (Ws.ret (.bor ?a ?f ?g))
    case a => walk_at "ev"
    case f => rfl
    case g => show O.sh _ = O.sh _; rw [cellF, if_neg (by omega)]
theorem Ev.cell {X : Cx} {ρ : Rho} {a b : Expr} {p pos : Pos} {ns : List Int} {k : Int} {j : Nat} (T : Fx X.K X.mg) (B : Bx X.mg) (hr : Room (j + 1) X.A) (ha : Ev X ρ a (.ro (ns.map D.int))) (hb : Ev X ρ b (.int k)) (hk : 0 ≤ k) (hg : Gl X "_law_cell_at" := by rfl)
    (hs : starEach [a, b] X.env = (false, eval a X.env) :: starEach [b] X.env := by rfl) (hs2 : starEach [b] X.env = (false, eval b X.env) :: starEach [] X.env := by rfl) (hpl : (backTo pos (starEach [b] X.env)).any (·.1) = false := by rfl) : Ev X ρ (.Call (.Name "_law_cell_at" p) [a, b] [] pos) (.int (cellF ns k)) :=
  .call (cell_ok T B ns k hk) (hr.mono (by omega)) (.two ha hb hs hs2) (fun o' e => by rw [e, O.data]) hg (by decide) hs hpl

/-! ### _law_unfolded -/
theorem good_pleat {ls : List Int} {ms : List Bool} (g : Good 9 ls ms) {a : Nat} (ha : a < ls.length) (hl : ls.length < 29) {st sh : Int} (h0 : 0 ≤ st) (h1 : st < ls.getD a 0) (h2 : 1 ≤ sh) (h3 : sh ≤ ls.getD a 0 - st) (m1 m2 : Bool) :
    Good 9 (ls.take a ++ [sh + st, sh, ls.getD a 0 - st] ++ ls.drop (a + 1)) (ms.take a ++ [m1, m2] ++ ms.drop a) := by
  have gl := g.len
  have hx : ls.getD a 0 ∈ ls := by
    rw [List.getD_eq_getElem?_getD, List.getElem?_eq_getElem ha]
    exact List.getElem_mem ha
  have := g.all _ hx
  refine ⟨?_, ?_, fun x hx => ?_⟩
  · simp; omega
  · simp; omega
  · simp only [List.mem_append, List.mem_cons, List.not_mem_nil, or_false] at hx
    rcases hx with (hx | hx) | hx
    · exact g.all x (List.mem_of_mem_take hx)
    · rcases hx with rfl | rfl | rfl <;> omega
    · exact g.all x (List.mem_of_mem_drop hx)
theorem unfolded_ok (T : Fx K mg) (B : Bx mg) (ns : List Int) (first many : Int) (hf : 0 ≤ first) (hm : 0 ≤ many ∧ many ≤ 1000) : VF P w K mg base 2 "_law_unfolded" [.ro (ns.map D.int), .int first, .int many] (fun o => ∃ ls ms, o = oS ls ms ∧ Good 9 ls ms) := by
  refine VF.of T.d_L_unfolded sc_L_unfolded rfl fun f cdv A outer s H E hr => ?_
  have hB := B; cases hB
  refine' Ws.asg 3 sc_L_unfolded.nd (.own (.list (.one (.add .int (.mod (.cell T B hr ?a ?b hf) .int (by decide))))) (oL_data _) ?_)
  case a => walk_at "nm"
  case b => walk_at "nm"
  have c0 := cellF_nn ns first
  generalize cellF ns first = c at c0 ⊢
  refine' Ws.asg 4 sc_L_unfolded.nd (.own (.list .nil) (oL_data _) ?_)
  refine' Ws.for (fun i ρ => ∃ ls ms x5 x6 x7 x8 x9 x10, ρ = [some (.sh (.ro (ns.map D.int))), some (.sh (.int first)), some (.sh (.int many)), some (.oi ls), some (.om ms), x5, x6, x7, x8, x9, x10] ∧ Good 9 ls ms) [5] (fun i => [.int (i : Int)]) .never rfl (.range1 (j := many) (by assumption) ?a (by omega)) ?b ?c ?d ?e
  case a => walk_at "nm"
  case b =>
    intro i d hd
    obtain ⟨_, rfl⟩ := rangeD_get hd
    rw [show (0 : Int) + (i : Int) = i by omega]
    exact .name 5 sc_L_unfolded.nd
  case c => exact ⟨[1 + c % 9], [], _, _, _, _, _, _, rfl, rfl, by simp, by simp; omega⟩
  case e =>
    rintro ρ ⟨ls, ms, x5, x6, x7, x8, x9, x10, rfl, g⟩ _
    exact Ws.ret (.tup2 3 4 (by decide) ⟨ls, ms, rfl, g⟩ (oI_data _) (oM_data _))
  case d =>
    rintro i d ρ hd ⟨ls, ms, x5, x6, x7, x8, x9, x10, rfl, g⟩ _
    have hi := (rangeD_get hd).1
    have gl := g.len
    have gm := g.most
    have gp := g.pos
    have g0 := g.at (z := 0) (by omega)
    have g1 := g.at (z := -1) (by omega)
    refine' Ws.asg 6 sc_L_unfolded.nd (.bor (.add (.cell T B hr ?a ?b ?c) ?d) rfl ?_)
    case a => walk_at "nm"
    case b => walk_at "ev"
    case c => walk_at "sd"
    case d => walk_at "ev"
    have c1 := cellF_nn ns (first + 1 + (i : Int) % 12)
    generalize hc2 : cellF ns (first + 1 + (i : Int) % 12) + 31 * (i : Int) = c2
    have c2n : 0 ≤ c2 := by omega
    clear hc2 c1
    refine' Ws.asg 7 sc_L_unfolded.nd (.bor (.ixHV ?a ?b ?c) rfl ?_)
    case a => walk_at "ev"
    case b => walk_at "ev"
    case c => walk_at "sd"
    generalize decide (c2 / 3 % 2 = 1) = mk1
    refine' Ws.if (.bool ?t) (fun h => ?y) (fun h => ?n)
    case t => walk_at "ew"
    case y =>
      simp at h
      refine' Ws.insert 3 (((1 + c2 / 6 % pyget ls 0) :: ls).map D.int) .int ?a rfl (by omega) (by simp; omega) rfl ?_
      case a => walk_at "ev"
      refine' Ws.insert 4 ((mk1 :: ms).map mkD) .int (d := mkD mk1) ?a rfl (by omega) (by simp; omega) rfl ?_
      case a => walk_at "ev"
      refine .nil (.nil ⟨_, _, _, _, _, _, _, _, rfl, by simp [gl], by simp; omega, fun x hx => ?_⟩)
      rcases List.mem_cons.mp hx with rfl | hx
      · have := Int.emod_nonneg (c2 / 6) (show pyget ls 0 ≠ 0 by omega)
        have := Int.emod_lt_of_pos (c2 / 6) (show 0 < pyget ls 0 by omega)
        omega
      · exact g.all x hx
    case n =>
      clear h
      refine' Ws.if (.bool ?t2) (fun h => ?y2) (fun h => ?n2)
      case t2 => walk_at "ew"
      case y2 =>
        simp at h
        refine' Ws.append 3 ((ls ++ [1 + c2 / 6 % pyget ls (-1)]).map D.int) (.bor ?a ?f ⟨rfl, rfl⟩) ?h ?_
        case a => walk_at "ev"
        case f => rfl
        case h => simp
        refine' Ws.append 4 ((ms ++ [mk1]).map mkD) (d := mkD mk1) (.bor ?a ?f ⟨rfl, rfl⟩) ?h ?_
        case a => walk_at "ev"
        case f => rfl
        case h => simp
        refine .nil (.nil (.nil ⟨_, _, _, _, _, _, _, _, rfl, by simp [gl], by simp; omega, fun x hx => ?_⟩))
        rcases List.mem_append.mp hx with hx | hx
        · exact g.all x hx
        · have := Int.emod_nonneg (c2 / 6) (show pyget ls (-1) ≠ 0 by omega)
          have := Int.emod_lt_of_pos (c2 / 6) (show 0 < pyget ls (-1) by omega)
          simp at hx
          omega
      case n2 =>
        clear h
        refine' Ws.if ?t3 (fun h => ?y3) (fun h => ?n3)
        case t3 => walk_at "et"
        case n3 => exact .nil (.nil (.nil (.nil ⟨_, _, _, _, _, _, _, _, rfl, g⟩)))
        case y3 =>
          simp at h
          refine' Ws.asg 8 sc_L_unfolded.nd (.bor ?a ?f ?_)
          case a => walk_at "ev"
          case f => rfl
          have ha0 := Int.emod_nonneg (c2 / 6) (show (ls.length : Int) ≠ 0 by omega)
          have ha1 := Int.emod_lt_of_pos (c2 / 6) (show 0 < (ls.length : Int) by omega)
          obtain ⟨a, ha⟩ := Int.eq_ofNat_of_zero_le ha0
          rw [ha] at ha1 ⊢
          clear ha ha0
          have ga := g.at (z := (a : Int)) (by omega)
          have hpa : pyget ls (a : Int) = ls.getD a 0 := pyget_nat ls a
          refine' Ws.asg 9 sc_L_unfolded.nd (.bor ?a ?f ?_)
          case a => walk_at "ev"
          case f => rfl
          have hs0 := Int.emod_nonneg (c2 / 60) (show pyget ls (a : Int) ≠ 0 by omega)
          have hs1 := Int.emod_lt_of_pos (c2 / 60) (show 0 < pyget ls (a : Int) by omega)
          generalize c2 / 60 % pyget ls (a : Int) = st at hs0 hs1 ⊢
          refine' Ws.asg 10 sc_L_unfolded.nd (.bor ?a ?f ?_)
          case a => walk_at "ev"
          case f => rfl
          have hh0 := Int.emod_nonneg (c2 / 420) (show pyget ls (a : Int) - st ≠ 0 by omega)
          have hh1 := Int.emod_lt_of_pos (c2 / 420) (show 0 < pyget ls (a : Int) - st by omega)
          generalize c2 / 420 % (pyget ls (a : Int) - st) = sh at hh0 hh1 ⊢
          have q1 := cutL_length ls none (some (a : Int))
          have q2 := cutL_length ls (some ((a : Int) + 1)) none
          refine' Ws.asg 3 sc_L_unfolded.nd (.borO (.catI (.catI (.sliceI ?a .none (.some ?b)) ((Ev.list ?c).is (d1 := dI [1 + sh + st, 1 + sh, pyget ls (a : Int) - st]) rfl) ?l1) (.sliceI ?d (.some ?e) .none) ?l2) (oI_free _) (oI_data _) ?_)
          case a => walk_at "ev"
          case b => walk_at "ev"
          case c => walk_at "ea"
          case d => walk_at "ev"
          case e => walk_at "ev"
          case l1 => walk_at "sd"
          case l2 => walk_at "sd"
          have q3 := cutL_length ms none (some (a : Int))
          have q4 := cutL_length ms (some (a : Int)) none
          refine' Ws.asg 4 sc_L_unfolded.nd (.borO (.catM (.catM (.sliceM ?a .none (.some ?b)) ((Ev.list (.two (d1 := mkD mk1) ?c1 (.ixVH ?c2 ?c3 ?c4))).is (d1 := dM [mk1, decide (c2 / 3 % 2 = 0)]) rfl) ?l1) (.sliceM ?d (.some ?e) .none) ?l2) (oM_free _) (oM_data _) ?_)
          case a => walk_at "ev"
          case b => walk_at "ev"
          case c1 => walk_at "ev"
          case c2 => walk_at "ev"
          case c3 => walk_at "ev"
          case c4 => walk_at "sd"
          case d => walk_at "ev"
          case e => walk_at "ev"
          case l1 => walk_at "sd"
          case l2 => walk_at "sd"
          rw [show (a : Int) + 1 = ((a + 1 : Nat) : Int) by omega, cutL_to, cutL_from, cutL_to, cutL_from, hpa]
          exact .nil (.nil (.nil (.nil ⟨_, _, _, _, _, _, _, _, rfl, good_pleat g (by omega) (by omega) hs0 (by omega) (by omega) (by omega) mk1 _⟩)))

/-! ### _law_strip -/
theorem good_set {n m : Int} {ls : List Int} {ms : List Bool} (g : Good n ls ms) (hnm : n ≤ m) {k : Nat} {x : Int} (h : 1 ≤ x ∧ x ≤ m) : Good m (ls.set k x) ms :=
  ⟨by simp [g.len], by simp [g.most], fun y hy => by
    rcases List.mem_or_eq_of_mem_set hy with hy | rfl
    · have := g.all y hy; omega
    · exact h⟩
theorem good_setM {n : Int} {ls : List Int} {ms : List Bool} (g : Good n ls ms) (k : Nat) (b : Bool) : Good n ls (ms.set k b) := ⟨by simp [g.len], g.most, g.all⟩
theorem mulp {a b n m : Int} (h1 : 1 ≤ a) (h2 : a ≤ n) (h3 : 1 ≤ b) (h4 : b ≤ m) : 1 ≤ a * b ∧ a * b ≤ n * m := by
  refine ⟨?_, ?_⟩
  · have := Int.mul_le_mul h1 h3 (by omega) (by omega)
    omega
  · exact Int.mul_le_mul h2 h4 (by omega) (by omega)
theorem strip_ok (T : Fx K mg) (B : Bx mg) (ns : List Int) : VF P w K mg base 3 "_law_strip" [.ro (ns.map D.int)] (fun o => ∃ ls ms, o = oS ls ms ∧ Good 1000 ls ms) := by
  refine VF.of T.d_L_strip sc_L_strip rfl fun f cdv A outer s H E hr => ?_
  have hB := B; cases hB
  -- head
  refine' Ws.asg 1 sc_L_strip.nd (.bor (.cell T B hr ?a .int (by decide)) ?f ?_)
  case a => walk_at "nm"
  case f => rfl
  have c0 := cellF_nn ns 0
  generalize cellF ns 0 = c0v at c0 ⊢
  -- lengths, marks
  have hmany : ∃ m : Int, 0 ≤ m ∧ m ≤ 1000 ∧ (if b2i (decide (c0v / 660 % 8 = 1)) = 0 then D.int (c0v / 2 % 10) else D.int (c0v / 20 % 33)) = D.int m := by
    split
    · exact ⟨_, by omega, by omega, rfl⟩
    · exact ⟨_, by omega, by omega, rfl⟩
  obtain ⟨m, hm0, hm1, hme⟩ := hmany
  refine' Ws.unpack2 2 3 rfl sc_L_strip.nd (.evN O.data (.call (unfolded_ok T B ns 3 m (by omega) ⟨hm0, hm1⟩) (hr.mono (by decide)) (.cons ?a (.cons .int (.cons (Ev.is (Ev.ix2 ?b ?c ?d) hme) .nil)))) (fun _ _ => rfl) ?_) (by decide)
  case a => walk_at "nm"
  case b => walk_at "ev"
  case c => walk_at "ev"
  case d => unfold b2i; split <;> omega
  rintro o ⟨ls, ms, rfl, g⟩
  refine ⟨oI ls, oM ms, _, rfl, ?_⟩
  rw [oI_data, oM_data]
  clear hme
  -- the drawn ones
  have key : ∀ ls ms x4, Good 9 ls ms → Ws (cxOf CX0 P w K mg base n_L_strip "_law_strip" (defScope s_L_strip) f cdv A outer s H E).nox
      [some (.sh (.ro (ns.map D.int))), some (.sh (.int c0v)), some (.oi ls), some (.om ms), x4, none, none, none, none, none, none] ((defBody s_L_strip).drop 3)
      { nx := fun _ => ∃ ls ms, O.sh D.non = oS ls ms ∧ Good 1000 ls ms, rt := fun o => ∃ ls ms, o = oS ls ms ∧ Good 1000 ls ms } := by
    clear g
    intro ls ms x4 g
    have gl := g.len
    have gp := g.pos
    have gm := g.most
    refine' Ws.asg 5 sc_L_strip.nd (.bor (.cell T B hr ?a .int (by decide)) ?f ?_)
    case a => walk_at "nm"
    case f => rfl
    have m0 := cellF_nn ns 1
    generalize cellF ns 1 = mo at m0 ⊢
    have key2 : ∀ ls ms x4 x6, Good 9 ls ms → Ws (cxOf CX0 P w K mg base n_L_strip "_law_strip" (defScope s_L_strip) f cdv A outer s H E).nox
      [some (.sh (.ro (ns.map D.int))), some (.sh (.int c0v)), some (.oi ls), some (.om ms), x4, some (.sh (.int mo)), x6, none, none, none, none] ((defBody s_L_strip).drop 5)
      { nx := fun _ => ∃ ls ms, O.sh D.non = oS ls ms ∧ Good 1000 ls ms, rt := fun o => ∃ ls ms, o = oS ls ms ∧ Good 1000 ls ms } := by
      clear g gl gp gm
      intro ls ms x4 x6 g
      have gl := g.len
      have gp := g.pos
      have gm := g.most
      have key3 : ∀ ls ms, Good 9 ls ms → Ws (cxOf CX0 P w K mg base n_L_strip "_law_strip" (defScope s_L_strip) f cdv A outer s H E).nox
        [some (.sh (.ro (ns.map D.int))), some (.sh (.int c0v)), some (.oi ls), some (.om ms), x4, some (.sh (.int mo)), x6, none, none, none, none] ((defBody s_L_strip).drop 6)
        { nx := fun _ => ∃ ls ms, O.sh D.non = oS ls ms ∧ Good 1000 ls ms, rt := fun o => ∃ ls ms, o = oS ls ms ∧ Good 1000 ls ms } := by
        clear g gl gp gm
        intro ls ms g
        have gl := g.len
        have gp := g.pos
        have gm := g.most
        refine' Ws.asg 7 sc_L_strip.nd (.bor (.cell T B hr ?a .int (by decide)) ?f ?_)
        case a => walk_at "nm"
        case f => rfl
        have e0 := cellF_nn ns 2
        generalize cellF ns 2 = ce at e0 ⊢
        refine Ws.share (i := 2) rfl ?_
        have hp : pyget [1, 1, 1, 7, 100] (ce % 5) ∈ ([1, 1, 1, 7, 100] : List Int) := pyget_mem (by simp; omega)
        have hpb : 1 ≤ pyget ([1, 1, 1, 7, 100] : List Int) (ce % 5) ∧ pyget ([1, 1, 1, 7, 100] : List Int) (ce % 5) ≤ 100 := by simp at hp; omega
        refine' Ws.asgCI n_L_strip (defScope s_L_strip) 8 10 ls D.int (fun x => pyget [1, 1, 1, 7, 100] (ce % 5) * x) rfl sc_L_strip.nd (.list ?a) (by omega) (fun x hx s H C cl fp => .mul (.ixI ((Ev.list ?b).is (d1 := dI [1, 1, 1, 7, 100]) rfl) ?c ?d) ?e ?g) ?_
        case a => walk_at "ev"
        case b => walk_at "ea"
        case c => walk_at "ev"
        case d => simp; omega
        case e => walk_at "ev"
        case g => exact Or.inl ⟨by omega, by omega⟩
        generalize pyget ([1, 1, 1, 7, 100] : List Int) (ce % 5) = fa at hpb ⊢
        have g2 : Good 1000 (ls.map fun x => fa * x) ms := ⟨by simp [gl], by simp [gm], fun y hy => by
          obtain ⟨x, hx, rfl⟩ := List.mem_map.mp hy
          have := g.all x hx
          have := mulp hpb.1 hpb.2 this.1 this.2
          omega⟩
        clear hp
        generalize (ls.map fun x => fa * x) = fs at g2 ⊢
        have fl := g2.len
        refine' Ws.if ?t (fun h => ?y4) (fun h => ?n4)
        case t => walk_at "et"
        case n4 => exact .nil (Ws.ret (.tup2 8 3 (by decide) ⟨_, _, rfl, g2⟩ (oI_data _) (oM_data _)))
        case y4 =>
          have hv : ∃ v : Int, 1 ≤ v ∧ v ≤ 1000 ∧ atI [D.int 1000, D.int 999, D.int (1 + ce / 1200 % 1000)] (ce / 1200 % 3) = some (D.int v) := by
            have : ce / 1200 % 3 = 0 ∨ ce / 1200 % 3 = 1 ∨ ce / 1200 % 3 = 2 := by omega
            rcases this with e | e | e
            · rw [e]; exact ⟨1000, by omega, by omega, rfl⟩
            · rw [e]; exact ⟨999, by omega, by omega, rfl⟩
            · rw [e]; exact ⟨1 + ce / 1200 % 1000, by omega, by omega, rfl⟩
          obtain ⟨v, v1, v2, hv⟩ := hv
          refine' Ws.setItem 8 ((fs.set (ce / 40 % fs.length).toNat v).map D.int) (.ixL ?a ?b hv) rfl ?c ?d ?e ?_
          case a => walk_at "ev"
          case b => walk_at "ev"
          case c => walk_at "ev"
          case d =>
            rw [List.length_map]
            exact ixN_of ⟨Int.emod_nonneg _ (by omega), Int.emod_lt_of_pos _ (by omega)⟩
          case e => simp
          exact .nil (Ws.ret (.tup2 8 3 (by decide) ⟨_, _, rfl, good_set g2 (by omega) ⟨v1, v2⟩⟩ (oI_data _) (oM_data _)))
      refine' Ws.if ?t (fun h => ?y3) (fun h => ?n3)
      case t => walk_at "et"
      case n3 => exact .nil (key3 ls ms g)
      case y3 =>
        refine' Ws.setItem 2 ((ls.set (mo / 4 % ls.length).toNat (1 + mo / 120 % 9)).map D.int) ?a ?f ?c ?d ?e ?_
        case a => walk_at "ev"
        case f => rfl
        case c => walk_at "ev"
        case d =>
          rw [List.length_map]
          exact ixN_of ⟨Int.emod_nonneg _ (by omega), Int.emod_lt_of_pos _ (by omega)⟩
        case e => simp
        exact .nil (key3 _ _ (good_set g (by omega) (by omega)))
    refine' Ws.if (.bool (.and ?t (fun _ => .and1 (.cmp ?u (.list .nil) (.neNil hr.units (shp_dM ms)))))) (fun h => ?y2) (fun h => ?n2)
    case t => walk_at "et"
    case u => walk_at "nm"
    case n2 => exact .nil (key2 ls ms _ _ g)
    case y2 =>
      simp at h
      have mp : 0 < ms.length := List.length_pos_iff.mpr h.2
      refine' Ws.asg 6 sc_L_strip.nd (.bor ?a ?f ?_)
      case a => walk_at "ev"
      case f => rfl
      have a0 := Int.emod_nonneg (mo / 4) (show (ms.length : Int) ≠ 0 by omega)
      have a1 := Int.emod_lt_of_pos (mo / 4) (show 0 < (ms.length : Int) by omega)
      generalize mo / 4 % (ms.length : Int) = at' at a0 a1 ⊢
      refine' Ws.setItem 3 ((ms.set at'.toNat (decide (b2i (!pyget ms at') = 1))).map mkD) (.ixHV ?a (.intB ?hb (.cmp (.ixM ?b ?c ?e) .str .eqMh)) ?d) ?f ?g ?h ?i ?_
      case a => walk_at "ev"
      case hb => assumption
      case b => walk_at "ev"
      case c => walk_at "ev"
      case e => walk_at "sd"
      case d => unfold b2i; split <;> omega
      case f => rfl
      case g => walk_at "ev"
      case h => rw [List.length_map]; exact ixN_of ⟨a0, a1⟩
      case i => simp
      exact .nil (key2 _ _ _ _ (good_setM g _ _))
  refine' Ws.if ?t (fun h => ?y) (fun h => ?n)
  case t => walk_at "et"
  case n => exact .nil (key ls ms _ g)
  case y =>
    refine' Ws.asgCI n_L_strip (defScope s_L_strip) 4 9 (List.range (1 + c0v / 2 % 7).toNat) (fun (k : Nat) => D.int (k : Int)) (fun (k : Nat) => cellF ns (3 + (k : Int)) + 17 * (k : Int)) rfl sc_L_strip.nd (.rangeN (j := 1 + c0v / 2 % 7) (by assumption) ?a (by omega)) (by simp; omega) (fun k hk s H C cl fp => .add (.cell T B hr ?b ?c (by omega)) ?d) ?_
    case a => walk_at "ev"
    case b => walk_at "nm"
    case c => walk_at "ev"
    case d => walk_at "ev"
    refine Ws.share (i := 4) rfl ?_
    have hcl : ∀ c ∈ (List.range (1 + c0v / 2 % 7).toNat).map (fun (k : Nat) => cellF ns (3 + (k : Int)) + 17 * (k : Int)), 0 ≤ c := fun c hc => by
      obtain ⟨k, _, rfl⟩ := List.mem_map.mp hc
      have := cellF_nn ns (3 + (k : Int))
      omega
    have hln : ((List.range (1 + c0v / 2 % 7).toNat).map (fun (k : Nat) => cellF ns (3 + (k : Int)) + 17 * (k : Int))).length = (1 + c0v / 2 % 7).toNat := by simp
    generalize (List.range (1 + c0v / 2 % 7).toNat).map (fun (k : Nat) => cellF ns (3 + (k : Int)) + 17 * (k : Int)) = cs at hcl hln ⊢
    have hp : pyget [2, 3, 6, 9] (c0v / 14 % 4) ∈ ([2, 3, 6, 9] : List Int) := pyget_mem (by simp; omega)
    have hpb : 2 ≤ pyget ([2, 3, 6, 9] : List Int) (c0v / 14 % 4) ∧ pyget ([2, 3, 6, 9] : List Int) (c0v / 14 % 4) ≤ 9 := by simp at hp; omega
    refine' Ws.asgCI n_L_strip (defScope s_L_strip) 2 7 cs D.int (fun c => 1 + c / 2 % pyget [2, 3, 6, 9] (c0v / 14 % 4)) rfl sc_L_strip.nd (.list ?a) (by omega) (fun x hx s H C cl fp => .add .int (.mod ?b (.ixI ((Ev.list ?c).is (d1 := dI [2, 3, 6, 9]) rfl) ?d ?e) ?g)) ?_
    case a => walk_at "ev"
    case b => walk_at "ev"
    case c => walk_at "ea"
    case d => walk_at "ev"
    case e => simp; omega
    case g => omega
    refine' Ws.asgCM n_L_strip (defScope s_L_strip) 3 7 (cutL cs (some 1) none) D.int (fun c => decide (c % 2 = 1)) rfl sc_L_strip.nd (.list (.sliceI ?a (.some .int) .none)) (by have := cutL_length cs (some 1) none; omega) (fun x hx s H C cl fp => .ixHV ?b ?c ?d) ?_
    case a => walk_at "nm"
    case b => walk_at "ev"
    case c => walk_at "ev"
    case d => omega
    refine .nil (key _ _ _ ⟨?_, ?_, fun y hy => ?_⟩)
    · have : (cutL cs (some 1) none).length = cs.length - 1 := by
        have := cutL_from cs 1
        rw [show ((1 : Nat) : Int) = 1 by rfl] at this
        rw [this]; simp
      simp [this]
      omega
    · simp; omega
    · obtain ⟨c, hc, rfl⟩ := List.mem_map.mp hy
      have := hcl c hc
      have := Int.emod_nonneg (c / 2) (show pyget ([2, 3, 6, 9] : List Int) (c0v / 14 % 4) ≠ 0 by omega)
      have := Int.emod_lt_of_pos (c / 2) (show 0 < pyget ([2, 3, 6, 9] : List Int) (c0v / 14 % 4) by omega)
      omega

/-! ### _law_left -/
theorem left_ok (T : Fx K mg) (B : Bx mg) (ns : List Int) : VF P w K mg base 4 "_law_left" [.ro (ns.map D.int)] (fun o => ∃ ls ms, o = oS ls ms ∧ Good 1999 ls ms) := by
  refine VF.of T.d_L_left sc_L_left rfl fun f cdv A outer s H E hr => ?_
  have hB := B; cases hB
  refine' Ws.unpack2 1 2 rfl sc_L_left.nd (.evN O.data (.call (strip_ok T B ns) (hr.mono (by decide)) (.one ?a)) (fun _ _ => rfl) ?_) (by decide)
  case a => walk_at "nm"
  rintro o ⟨ls, ms, rfl, g⟩
  refine ⟨oI ls, oM ms, _, rfl, ?_⟩
  rw [oI_data, oM_data]
  have gl := g.len
  have gp := g.pos
  refine' Ws.asg 3 sc_L_left.nd (.bor (.cell T B hr ?a .int (by decide)) ?f ?_)
  case a => walk_at "nm"
  case f => rfl
  have c0 := cellF_nn ns 2
  generalize cellF ns 2 = c at c0 ⊢
  refine' Ws.if (.bool ?t) (fun h => ?y) (fun h => ?n)
  case t => walk_at "ew"
  case n => exact .nil (Ws.ret (.tup2 1 2 (by decide) ⟨ls, ms, rfl, g.mono (m := 1999) (by decide)⟩ (oI_data _) (oM_data _)))
  case y =>
    refine' Ws.setItem 1 ((ls.set (c / 42 % ls.length).toNat (1001 + c / 1300 % 999)).map D.int) ?a ?f ?c ?d ?e ?_
    case a => walk_at "ev"
    case f => rfl
    case c => walk_at "ev"
    case d =>
      rw [List.length_map]
      exact ixN_of ⟨Int.emod_nonneg _ (by omega), Int.emod_lt_of_pos _ (by omega)⟩
    case e => simp
    exact .nil (Ws.ret (.tup2 1 2 (by decide) ⟨ls.set (c / 42 % ls.length).toNat (1001 + c / 1300 % 999), ms, rfl, good_set (m := 1999) g (by decide) (by omega)⟩ (oI_data _) (oM_data _)))

/-! ### _law_whole -/
theorem whole_ok (T : Fx K mg) (B : Bx mg) (d : D) (hob : d.isOb = false := by rfl) : VF P w K mg base 1 "_law_whole" [d] (fun o => o = .sh (.bl d.isInt)) := by
  refine VF.of T.d_L_whole sc_L_whole rfl fun f cdv A outer s H E hr => ?_
  have hB := B; cases hB
  refine' Ws.ret (.bor ?a rfl rfl)
  case a =>
    refine' Ev.isInt ?m1 ?m2 ?m3 hob ?i ?j
    case i => exact fun c hc => .isi (by assumption) (by assumption) (.name 0) hc hob
    case j => exact fun c hc => .isi (by assumption) (by assumption) (.name 0) hc hob
    all_goals assumption

/-! ### _law_is_strip -/
theorem truesM {α : Type} (L : List α) : (O.ls (L.map fun _ => O.sh (.bl true))).data = .lst ((L.map fun _ => true).map D.bl) := by
  rw [oL_of, oL_data, List.map_map]; rfl
theorem kb_mk {b : Bool} : kitB (tyD (mkD b)) "str" = some true := by cases b <;> exact kb_str
theorem iss_ok (T : Fx K mg) (B : Bx mg) (ls : List Int) (ms : List Bool) (hl : ls.length ≤ 1000) (hm : ms.length ≤ 1000) : VF P w K mg base 2 "_law_is_strip" [dS ls ms, dS ls ms] (fun o => o = .sh (.bl true)) := by
  refine VF.of T.d_L_is_strip sc_L_is_strip rfl fun f cdv A outer s H E hr => ?_
  have hB := B; cases hB
  refine' Ws.if (b := false) (.is (.bool (.or (.not (.val ?a1)) (fun _ => .or1 (.cmp ?a2 .int .neI)))) ?a3) (fun h => by cases h) (fun _ => ?_)
  case a1 => exact .isi (by assumption) (by assumption) (.name 0) kb_tup
  case a2 => exact .lenT (by assumption) (ds := [dI ls, dM ms]) (.name 0)
  case a3 => rfl
  refine' Ws.nil (Ws.if (b := false) (.is (.bool (.or (.not (.val ?b1)) (fun _ => .or1 (.not (.val ?b2))))) ?b3) (fun h => by cases h) (fun _ => ?_))
  case b1 => exact .isi (by assumption) (by assumption) (.ixT0 (.name 0)) kb_lst
  case b2 => exact .isi (by assumption) (by assumption) (.ixT1 (.name 0)) kb_lst
  case b3 => rfl
  refine' Ws.nil (Ws.if (b := false) (.is (.bool (.or (.not (.val (.allB (bs := ls.map fun _ => true) rfl ?c1 ?c2))) (fun _ => .or1 (.not (.val (.allB (bs := ms.map fun _ => true) rfl ?c3 ?c4)))))) ?c5) (fun h => by cases h) (fun _ => ?_))
  case c1 => assumption
  case c3 => assumption
  case c2 =>
    refine' EvO.ev' (.comp (own := [("_law_length", 2)]) ls D.int (fun _ => .sh (.bl true)) [2] (fun x => [.int x]) rfl sc_L_is_strip.nd (.list (.ixT0 (.name 0))) (blkOk_by (N := n_L_is_strip) (sc := defScope s_L_is_strip) (by decide +kernel)) (by simp) (fun x _ s H C cl fp => .name 2 sc_L_is_strip.nd) (fun x _ s H C cl fp => Ev.evO ?g1) (Nat.lt_of_lt_of_le (m := 100000) (by omega) (by decide))) (truesM _)
    case g1 => exact .call (whole_ok T B (.int x)) (hr.mono (by decide)) (.one (.name 2)) (fun o e => by rw [e]; rfl)
  case c4 =>
    refine' EvO.ev' (.comp (own := [("_law_mark", 3)]) ms mkD (fun _ => .sh (.bl true)) [3] (fun x => [mkD x]) rfl sc_L_is_strip.nd (.list (.ixT1 (.name 0))) (blkOk_by (N := n_L_is_strip) (sc := defScope s_L_is_strip) (by decide +kernel)) (by simp) (fun x _ s H C cl fp => .name 3 sc_L_is_strip.nd) (fun x _ s H C cl fp => Ev.evO ?g2) (Nat.lt_of_lt_of_le (m := 100000) (by omega) (by decide))) (truesM _)
    case g2 => exact .isi (by assumption) (by assumption) (.name 3) kb_mk
  case c5 => simp
  refine' Ws.nil (Ws.ret (.bor (d := .bl true) (.is (.and (c1 := true) (c2 := true) ?d1 fun _ => .one ?d2) rfl) rfl rfl))
  case d1 => exact .is (.cmp (.ixT0 (.name 0)) (.ixT0 (.name 1)) (.eqD hr.units (shp_dI ls) (shp_dI ls))) (by rw [eqvD_refl (good_dI _)])
  case d2 => exact .is (.cmp (.ixT1 (.name 0)) (.ixT1 (.name 1)) (.eqD hr.units (shp_dM ms) (shp_dM ms))) (by rw [eqvD_refl (good_dM _)])

/-! ### _law_kinds -/
def mvI : Mv → List Int
  | .pleat k => [(k : Int)]
  | _ => []
theorem lkinds_ok (T : Fx K mg) (B : Bx mg) (m : Mv) : VF P w K mg base 2 "_law_kinds" [mvD m] (fun o => o = .sh (.bl true)) := by
  refine VF.of T.d_L_kinds sc_L_kinds rfl fun f cdv A outer s H E hr => ?_
  have hB := B; cases hB
  obtain ⟨x, t, e, he, hc⟩ : ∃ (x : Str) (t : List D), mvD m = .tup (.str x :: t) ∧ t = (mvI m).map D.int ∧ cutD (.str x :: t) (some 1) none = t := by
    cases m with
    | first => exact ⟨_, _, rfl, rfl, rfl⟩
    | last => exact ⟨_, _, rfl, rfl, rfl⟩
    | pleat k => exact ⟨_, _, rfl, rfl, rfl⟩
  rw [e]
  refine' Ws.if (b := false) (.is (.bool (.or (c1 := false) (.is (.not (.val (.isi ?h1 ?h2 (.name 0) kb_tup))) rfl) (fun _ => .or1 (c := false) (.is (.not (.val (.isi ?h3 ?h4 (.ixT0 (.name 0)) kb_str))) rfl)))) rfl) (fun h => by cases h) (fun _ => .nil ?_)
  case h1 => assumption
  case h2 => assumption
  case h3 => assumption
  case h4 => assumption
  refine' Ws.ret (.bor (d := .bl true) (.is (.allB (bs := (mvI m).map fun _ => true) rfl ?h5 ?h6) ?e6) rfl rfl)
  case h5 => assumption
  case e6 => simp
  case h6 =>
    refine' EvO.ev' (.comp (own := [("_law_number", 1)]) (mvI m) D.int (fun _ => .sh (.bl true)) [1] (fun x => [.int x]) rfl sc_L_kinds.nd (.is (.tup (.sliceT (.name 0) (.some .int) .none)) ?g0) (blkOk_by (N := n_L_kinds) (sc := defScope s_L_kinds) (by decide +kernel)) (by simp) (fun x _ s H C cl fp => .name 1 sc_L_kinds.nd) (fun x hx s H C cl fp => Ev.evO ?g1) ?g2) (truesM (mvI m))
    case g0 => rw [hc, he]
    case g1 => exact .call (whole_ok T B (.int x)) (hr.mono (by decide)) (.one (.name 1)) (fun o e => by rw [e]; rfl)
    case g2 => exact Nat.lt_of_lt_of_le (m := 100000) (by cases m <;> simp [mvI]) (by decide)

/-! ### _law_moves -/
theorem lmoves_ok (T : Fx K mg) (B : Bx mg) (ls : List Int) (ms : List Bool) (hl : ls.length = ms.length + 1) (hm : ls.length ≤ 1000) : VF P w K mg base 1 "_law_moves" [dI ls, dM ms] (fun o => o = oL ((movesF ls ms).map mvD)) := by
  refine VF.of T.d_L_moves sc_L_moves rfl fun f cdv A outer s H E hr => ?_
  have hB := B; cases hB
  have g0 : pyget ls 0 = ls.getD 0 0 := pyget_nat ls 0
  have g1 : pyget ls 1 = ls.getD 1 0 := pyget_nat ls 1
  refine' Ws.asg 2 sc_L_moves.nd (.own (.list .nil) (oL_data _) ?_)
  have key : ∀ (i : Nat) (ds : List Mv), ds = endMoves ls ms → Ws (cxOf CX0 P w K mg base n_L_moves "_law_moves" (defScope s_L_moves) f cdv A outer s H E).nox [some (.sh (dI ls)), some (.sh (dM ms)), some (.ow (oL (ds.map mvD)) (.lst (ds.map mvD))), none] ((defBody s_L_moves).drop 3) { nx := fun _ => O.sh .non = oL ((movesF ls ms).map mvD), rt := fun o => o = oL ((movesF ls ms).map mvD) } := by
    rintro _ ds rfl
    refine' Ws.for (fun i ρ => ∃ x, ρ = [some (.sh (dI ls)), some (.sh (dM ms)), some (.ow (oL ((endMoves ls ms ++ pleats ls ms i).map mvD)) (.lst ((endMoves ls ms ++ pleats ls ms i).map mvD))), x]) [3] (fun i => [.int ((i : Int) + 1)]) .never rfl (.range2 (i := 1) (j := (ms.length : Int)) (by assumption) .int ?a (by omega)) ?b ?c ?d ?e
    case a => walk_at "ev"
    case b =>
      intro i d hd
      obtain ⟨_, rfl⟩ := rangeD_get hd
      rw [show (1 : Int) + (i : Int) = (i : Int) + 1 by omega]
      exact .name 3 sc_L_moves.nd
    case c => exact ⟨none, by simp [pleats]⟩
    case d =>
      rintro i d ρ hd ⟨x, rfl⟩ _
      obtain ⟨hi, -⟩ := rangeD_get hd
      have e1 : ((i : Int) + 1) - 1 = (i : Int) := by omega
      have e2 : (i : Int) + 1 = ((i + 1 : Nat) : Int) := by omega
      have e3 : ((i : Int) + 1) + 1 = ((i + 2 : Nat) : Int) := by omega
      have hb : ((!decide (pyget ms ((i : Int) + 1 - 1) = pyget ms ((i : Int) + 1))) && (decide (pyget ls ((i : Int) + 1) ≤ pyget ls ((i : Int) + 1 - 1)) && decide (pyget ls ((i : Int) + 1) ≤ pyget ls ((i : Int) + 1 + 1)))) = pleatOk ls ms i := by
        rw [e1, e3, e2, pyget_nat, pyget_nat, pyget_nat, pyget_nat, pyget_nat]; rfl
      have hlen : (endMoves ls ms ++ pleats ls ms i).length ≤ 2 + i := by
        unfold endMoves pleats
        have := List.length_filter_le (pleatOk ls ms) (List.range i)
        rw [List.length_range] at this
        simp only [List.length_append, List.length_map]
        split <;> split <;> simp <;> omega
      refine' Ws.if (b := pleatOk ls ms i) (EvT.is ?t1 hb) (fun h => ?y1) (fun h => ?n1)
      case t1 => walk_at "et"
      case n1 => exact .nil (.nil ⟨some (.sh (.int ((i : Int) + 1))), by rw [pleats_succ, h]; simp [setW]⟩)
      case y1 =>
        refine' Ws.append 2 ((endMoves ls ms ++ pleats ls ms (i + 1)).map mvD) (d := mvD (.pleat i)) (.bor ?a4 rfl ⟨rfl, rfl⟩) ?c41 (.nil (.nil ⟨_, rfl⟩)) (hz := by rw [List.length_map]; omega)
        case a4 =>
          refine' Ev.tup (.two .str ?v)
          case v => exact Ev.is (.sub (.name 3) .int) (by rw [e1])
        case c41 => rw [pleats_succ, h]; simp
    case e =>
      rintro ρ ⟨x, rfl⟩ _
      rw [rangeD_length, show ((ms.length : Int) - 1).toNat = ms.length - 1 by omega]
      exact Ws.ret (.move 2 rfl rfl rfl)
  have key2 : ∀ (ds : List Mv), ds = (if firstOk ls ms then [Mv.first] else []) → Ws (cxOf CX0 P w K mg base n_L_moves "_law_moves" (defScope s_L_moves) f cdv A outer s H E).nox [some (.sh (dI ls)), some (.sh (dM ms)), some (.ow (oL (ds.map mvD)) (.lst (ds.map mvD))), none] ((defBody s_L_moves).drop 2) { nx := fun _ => O.sh .non = oL ((movesF ls ms).map mvD), rt := fun o => o = oL ((movesF ls ms).map mvD) } := by
    rintro ds rfl
    have hb : (decide ((0 : Int) < (ms.length : Int)) && decide (pyget ls (-1) ≤ pyget ls (-2))) = lastOk ls ms := by
      unfold lastOk
      by_cases hz : 0 < ms.length
      · rw [show (-1 : Int) = -((1 : Nat) : Int) by rfl, show (-2 : Int) = -((2 : Nat) : Int) by rfl, pyget_neg ls 1 (by omega) (by omega), pyget_neg ls 2 (by omega) (by omega)]
        simp [hz]
        try rfl
      · have hz0 : ms.length = 0 := by omega
        rw [hz0]; rfl
    refine' Ws.if (b := lastOk ls ms) (EvT.is ?t2 hb) (fun h => ?y2) (fun h => ?n2)
    case t2 => walk_at "et"
    case n2 => exact .nil (key 0 (if firstOk ls ms then [Mv.first] else []) (by unfold endMoves; rw [h]; simp))
    case y2 =>
      refine' Ws.append 2 ((endMoves ls ms).map mvD) (d := mvD .last) (.bor (.tup (.one .str)) rfl ⟨rfl, rfl⟩) ?c42 (.nil (key 0 (endMoves ls ms) rfl)) (hz := by split <;> simp)
      case c42 => unfold endMoves; rw [h]; simp
  have hb : (decide ((0 : Int) < (ms.length : Int)) && decide (pyget ls 0 ≤ pyget ls 1)) = firstOk ls ms := by
    unfold firstOk
    rw [g0, g1]
    simp
  refine' Ws.if (b := firstOk ls ms) (EvT.is ?t3 hb) (fun h => ?y3) (fun h => ?n3)
  case t3 => walk_at "et"
  case n3 => exact .nil (key2 [] (by rw [h]; rfl))
  case y3 =>
    refine' Ws.append 2 ([Mv.first].map mvD) (d := mvD .first) (.bor (.tup (.one .str)) rfl ⟨rfl, rfl⟩) rfl (.nil (key2 [Mv.first] (by rw [h]; rfl)))

/-! ### _law_behind -/
theorem lbehind_ok (T : Fx K mg) (B : Bx mg) (ls : List Int) (ms : List Bool) (m : Mv) (ho : m.ok ls ms) (hl : ls.length = ms.length + 1) (hm : ls.length ≤ 1000) : VF P w K mg base 1 "_law_behind" [dI ls, dM ms, mvD m] (fun o => o = oS (behindL ls m) (behindM ms m)) := by
  refine VF.of T.d_L_behind sc_L_behind rfl fun f cdv A outer s H E hr => ?_
  have hB := B; cases hB
  have hp := Mv.ok_pos ho
  refine' Ws.if (b := m.isFirst) (EvT.is (.cmp ?a (.tup (ds := [.str "first"]) (.one .str)) (.eqD hr.units (shp_mv m) (shp_mv .first))) (eqv_first m)) (fun h => ?y) (fun h => ?n)
  case a => walk_at "nm"
  case y =>
    obtain rfl : m = .first := by cases m <;> first | rfl | cases h
    refine' Ws.ret (.own (.pairO (.sliceI ?b (.some .int) .none) (.sliceM ?c (.some .int) .none)) rfl ?d)
    case b => walk_at "nm"
    case c => walk_at "nm"
    case d =>
      show O.tu [_, _] = oS _ _
      rw [show (1 : Int) = ((1 : Nat) : Int) by rfl, cutL_from, cutL_from]; rfl
  case n =>
    refine' Ws.nil (Ws.if (b := m.isLast) (EvT.is (.cmp ?a2 (.tup (ds := [.str "last"]) (.one .str)) (.eqD hr.units (shp_mv m) (shp_mv .last))) (eqv_last m)) (fun h => ?y2) (fun h => ?n2))
    case a2 => walk_at "nm"
    case y2 =>
      obtain rfl : m = .last := by cases m <;> first | rfl | cases h
      refine' Ws.ret (.own (.pairO (.sliceI ?b2 .none (.some (.neg .int))) (.sliceM ?c2 .none (.some (.neg .int)))) rfl ?d2)
      case b2 => walk_at "nm"
      case c2 => walk_at "nm"
      case d2 =>
        show O.tu [_, _] = oS _ _
        rw [show (-1 : Int) = -((1 : Nat) : Int) by rfl, cutL_to_neg _ _ (by omega), cutL_to_neg _ _ (by omega)]; rfl
    case n2 =>
      obtain ⟨k, rfl⟩ : ∃ k, m = .pleat k := by
        cases m with
        | first => cases ‹Mv.first.isFirst = false›
        | last => cases h
        | pleat k => exact ⟨k, rfl⟩
      have hk := ho.1
      refine' Ws.nil (Ws.asg 3 sc_L_behind.nd (.bor (d := .int (k : Int)) (.ixT1 ?a3) rfl ?_))
      case a3 => walk_at "nm"
      have e2 : (k : Int) + 2 = ((k + 2 : Nat) : Int) := by omega
      have e1 : (k : Int) + 1 = ((k + 1 : Nat) : Int) := by omega
      have e3 : (k : Int) + 3 = ((k + 3 : Nat) : Int) := by omega
      refine' Ws.asg 4 sc_L_behind.nd (.bor (d := .int (ls.getD k 0 + ls.getD (k + 2) 0 - ls.getD (k + 1) 0)) (Ev.is ?a4 ?e4) rfl ?_)
      case a4 => walk_at "ev"
      case e4 => rw [e1, e2, pyget_nat, pyget_nat, pyget_nat]; rfl
      have q1 := cutL_length ls none (some (k : Int))
      have q2 := cutL_length ls (some ((k : Int) + 3)) none
      have q3 := cutL_length ms none (some (k : Int))
      have q4 := cutL_length ms (some ((k : Int) + 2)) none
      refine' Ws.ret (.own (.pairO (.catI (.catI (.sliceI ?b5 .none (.some ?c5)) (Ev.is (Ev.list (.one ?d5)) (show D.lst [.int _] = dI [_] from rfl)) ?l5) (.sliceI ?e5 (.some ?f5) .none) ?l6) (.catM (.sliceM ?g5 .none (.some ?h5)) (.sliceM ?i5 (.some ?j5) .none) ?l7)) rfl ?p5)
      case b5 => walk_at "nm"
      case c5 => walk_at "nm"
      case d5 => walk_at "nm"
      case e5 => walk_at "nm"
      case f5 => walk_at "ev"
      case g5 => walk_at "nm"
      case h5 => walk_at "nm"
      case i5 => walk_at "nm"
      case j5 => walk_at "ev"
      case l5 => walk_at "sd"
      case l6 => walk_at "sd"
      case l7 => walk_at "sd"
      case p5 =>
        show O.tu [_, _] = oS _ _
        rw [e2, e3, cutL_to, cutL_from, cutL_to, cutL_from]; rfl

/-! ### _law_piled -/
theorem lpiled_ok (T : Fx K mg) (B : Bx mg) (ps : List (List Int)) (ls : List Int) (ms : List Bool) (m : Mv) (ho : m.ok ls ms) (hl : ps.length = ms.length + 1) (hm : ps.length ≤ 1000) (hf : ps.flatten.length ≤ 1000) : VF P w K mg base 1 "_law_piled" [dP ps, dM ms, mvD m] (fun o => o = oL ((piledF ps ms m).map dI)) := by
  refine VF.of T.d_L_piled sc_L_piled rfl fun f cdv A outer s H E hr => ?_
  have hB := B; cases hB
  have hp := Mv.ok_pos ho
  have hpl := pile_le ps
  refine' Ws.if (b := m.isFirst) (EvT.is (.cmp ?a (.tup (ds := [.str "first"]) (.one .str)) (.eqD hr.units (shp_mv m) (shp_mv .first))) (eqv_first m)) (fun h => ?y) (fun h => ?n)
  case a => walk_at "nm"
  case y =>
    obtain rfl : m = .first := by cases m <;> first | rfl | cases h
    have g0 : pyget ps 0 = ps.getD 0 [] := pyget_nat ps 0
    have g1 : pyget ps 1 = ps.getD 1 [] := pyget_nat ps 1
    have g2 : pyget ms 0 = ms.getD 0 false := pyget_nat ms 0
    refine' Ws.asg 3 sc_L_piled.nd (.sh (d := dI (ps.getD 0 []).reverse) (.revI (.is (.ixP ?b .int ?c) (by rw [g0]))) ?_)
    case b => walk_at "nm"
    case c => omega
    have u0 := hpl 0
    have u1 := hpl 1
    have q2 := cutL_length ps (some 2) none
    refine' Ws.ret (.own (.catP (.is (.list (.one (.pick (c := ms.getD 0 false) (.list (.two (.catI (L := (ps.getD 0 []).reverse) ?d (.is (.ixP ?e .int ?f) (by rw [g1])) ?g) (.catI (L' := (ps.getD 0 []).reverse) (.is (.ixP ?e2 .int ?f2) (by rw [g1])) ?d2 ?g2))) ?i))) ?j) (.sliceP ?k (.some .int) .none) ?l) (oL_data _) ?m)
    case d => walk_at "nm"
    case e => walk_at "nm"
    case f => omega
    case g => simp only [List.length_reverse]; omega
    case d2 => walk_at "nm"
    case e2 => walk_at "nm"
    case f2 => omega
    case g2 => simp only [List.length_reverse]; omega
    case i => exact .intB (by assumption) (.is (.cmp (.ixM (.name 1) .int (by omega)) .str .eqMv) (by rw [g2]))
    case j => exact (show D.lst [ite _ (dI _) (dI _)] = dP [_] by rw [if_dI]; rfl)
    case k => walk_at "nm"
    case l => simp; omega
    case m =>
      show oL _ = oL _
      rw [show (2 : Int) = ((2 : Nat) : Int) by rfl, cutL_from]; rfl
  case n =>
    refine' Ws.nil (Ws.if (b := m.isLast) (EvT.is (.cmp ?a2 (.tup (ds := [.str "last"]) (.one .str)) (.eqD hr.units (shp_mv m) (shp_mv .last))) (eqv_last m)) (fun h => ?y2) (fun h => ?n2))
    case a2 => walk_at "nm"
    case y2 =>
      obtain rfl : m = .last := by cases m <;> first | rfl | cases h
      have g0 : pyget ps (-1) = ps.getD (ps.length - 1) [] := pyget_neg ps 1 (by omega) (by omega)
      have g1 : pyget ps (-2) = ps.getD (ps.length - 2) [] := pyget_neg ps 2 (by omega) (by omega)
      have g2 : pyget ms (-1) = ms.getD (ms.length - 1) false := pyget_neg ms 1 (by omega) (by omega)
      refine' Ws.asg 3 sc_L_piled.nd (.sh (d := dI (ps.getD (ps.length - 1) []).reverse) (.revI (.is (.ixP ?b3 (.neg .int) ?c3) (by rw [g0]))) ?_)
      case b3 => walk_at "nm"
      case c3 => omega
      have u0 := hpl (ps.length - 1)
      have u1 := hpl (ps.length - 2)
      have q2 := cutL_length ps none (some (-2))
      refine' Ws.ret (.own (.catP (.sliceP ?k3 .none (.some (.neg .int))) (.is (.list (.one (.pick (c := ms.getD (ms.length - 1) false) (.list (.two (.catI (L := (ps.getD (ps.length - 1) []).reverse) ?d3 (.is (.ixP ?e3 (.neg .int) ?f3) (by rw [g1])) ?g3) (.catI (L' := (ps.getD (ps.length - 1) []).reverse) (.is (.ixP ?e4 (.neg .int) ?f4) (by rw [g1])) ?d4 ?g4))) ?i3))) ?j3) ?l3) (oL_data _) ?m3)
      case d3 => walk_at "nm"
      case e3 => walk_at "nm"
      case f3 => omega
      case g3 => simp only [List.length_reverse]; omega
      case d4 => walk_at "nm"
      case e4 => walk_at "nm"
      case f4 => omega
      case g4 => simp only [List.length_reverse]; omega
      case i3 => exact .intB (by assumption) (.is (.cmp (.ixM (.name 1) (.neg .int) (by omega)) .str .eqMv) (by rw [g2]))
      case j3 => exact (show D.lst [ite _ (dI _) (dI _)] = dP [_] by rw [if_dI]; rfl)
      case k3 => walk_at "nm"
      case l3 => simp; omega
      case m3 =>
        show oL _ = oL _
        rw [show (-2 : Int) = -((2 : Nat) : Int) by rfl, cutL_to_neg _ _ (by omega)]; rfl
    case n2 =>
      obtain ⟨k, rfl⟩ : ∃ k, m = .pleat k := by
        cases m with
        | first => cases ‹Mv.first.isFirst = false›
        | last => cases h
        | pleat k => exact ⟨k, rfl⟩
      have hk := ho.1
      refine' Ws.nil (Ws.asg 4 sc_L_piled.nd (.bor (d := .int (k : Int)) (.ixT1 ?a5) rfl ?_))
      case a5 => walk_at "nm"
      have e2 : (k : Int) + 2 = ((k + 2 : Nat) : Int) := by omega
      have e1 : (k : Int) + 1 = ((k + 1 : Nat) : Int) := by omega
      have e3 : (k : Int) + 3 = ((k + 3 : Nat) : Int) := by omega
      have g0 : pyget ps (k : Int) = ps.getD k [] := pyget_nat ps k
      have g1 : pyget ps ((k : Int) + 1) = ps.getD (k + 1) [] := by rw [e1]; exact pyget_nat ps (k + 1)
      have g2 : pyget ps ((k : Int) + 2) = ps.getD (k + 2) [] := by rw [e2]; exact pyget_nat ps (k + 2)
      have gm : pyget ms (k : Int) = ms.getD k false := pyget_nat ms k
      have u0 := hpl k
      have u1 := hpl (k + 1)
      have u2 := hpl (k + 2)
      generalize hx : ps.getD k [] = x at g0 u0
      generalize hy : (ps.getD (k + 1) []).reverse = y
      have uy : y.length ≤ 1000 := by rw [← hy, List.length_reverse]; omega
      generalize hz : ps.getD (k + 2) [] = z at g2 u2
      refine' Ws.asg 5 sc_L_piled.nd (.own (.list (ds := [dI x, dI y, dI z]) (.cons ?a6 (.two ?b6 ?c6))) (oL_data _) ?_)
      case a6 => exact .is (.ixP (.name 0) (.name 4) (by omega)) (by rw [g0])
      case b6 => exact .is (.revI (.ixP (.name 0) (.add (.name 4) .int) (by omega))) (by rw [g1, hy])
      case c6 => exact .is (.ixP (.name 0) (.add (.name 4) .int) (by omega)) (by rw [g2])
      have key : ∀ x z : List Int, x.length ≤ 1000 → z.length ≤ 1000 → piledF ps ms (.pleat k) = ps.take k ++ [x ++ y ++ z] ++ ps.drop (k + 3) → Ws (cxOf CX0 P w K mg base n_L_piled "_law_piled" (defScope s_L_piled) f cdv A outer s H E).nox [some (.sh (dP ps)), some (.sh (dM ms)), some (.sh (mvD (.pleat k))), none, some (.sh (.int (k : Int))), some (.ow (oL [dI x, dI y, dI z]) (.lst [dI x, dI y, dI z]))] ((defBody s_L_piled).drop 5) { nx := fun _ => O.sh .non = oL ((piledF ps ms (.pleat k)).map dI), rt := fun o => o = oL ((piledF ps ms (.pleat k)).map dI) } := by
        intro x z hx hz hF
        refine Ws.share (i := 5) rfl ?_
        have q1 := cutL_length ps none (some (k : Int))
        have q2 := cutL_length ps (some ((k : Int) + 3)) none
        refine' Ws.ret (.own (.catP (.catP (.sliceP ?a7 .none (.some ?b7)) (.is (.list (.one (.catI (.catI (L := x) (L' := y) ?c7 ?d7 ?e7) (L' := z) ?f7 ?g7))) (show D.lst [dI _] = dP [_] from rfl)) ?l7) (.sliceP ?h7 (.some ?i7) .none) ?m7) (oL_data _) ?p7)
        case a7 => walk_at "nm"
        case b7 => walk_at "nm"
        case c7 => exact .ixL (.name 5) .int rfl
        case d7 => exact .ixL (.name 5) .int rfl
        case f7 => exact .ixL (.name 5) .int rfl
        case e7 => omega
        case g7 => rw [List.length_append]; omega
        case h7 => walk_at "nm"
        case i7 => walk_at "ev"
        case l7 => simp; omega
        case m7 => simp; omega
        case p7 =>
          show oL _ = oL _
          rw [hF, e3, cutL_to, cutL_from]
      refine' Ws.if (b := !ms.getD k false) (.cmp (.is (.ixM (.name 1) (.name 4) (by omega)) (by rw [gm])) .str .eqMh) (fun h => ?y8) (fun h => ?n8)
      case y8 =>
        refine' Ws.reverse 5 [dI z, dI y, dI x] rfl (.nil (key z x (by omega) (by omega) ?c8))
        case c8 =>
          have h' : ms.getD k false = false := by simpa using h
          show ps.take k ++ [if ms.getD k false = true then _ else _] ++ _ = _
          rw [h', hx, hy, hz]; rfl
      case n8 =>
        refine' Ws.nil (key x z (by omega) (by omega) ?c9)
        case c9 =>
          have h' : ms.getD k false = true := by simpa using h
          show ps.take k ++ [if ms.getD k false = true then _ else _] ++ _ = _
          rw [h', hx, hy, hz]; rfl

/-! ### _law_sole -/
theorem sole_eq {j : Nat} (hj : j < 6) : (((([0, 1, 2] : List Nat).map fun i => D.bl (decide (i = j))) ++ (([3, 4, 5] : List Nat).map fun i => D.bl (decide (i = j)))).countP fun z => eqvD z (.bl true)) = 1 ∧ (∃ z, ((([0, 1, 2] : List Nat).map fun i => D.bl (decide (i = j))) ++ (([3, 4, 5] : List Nat).map fun i => D.bl (decide (i = j))))[j]? = some z ∧ eqvD z (.bl true) = true) ∧ ∀ m z', m < j → ((([0, 1, 2] : List Nat).map fun i => D.bl (decide (i = j))) ++ (([3, 4, 5] : List Nat).map fun i => D.bl (decide (i = j))))[m]? = some z' → eqvD z' (.bl true) = false := by
  have key : ∀ m, ((([0, 1, 2] : List Nat).map fun i => D.bl (decide (i = j))) ++ (([3, 4, 5] : List Nat).map fun i => D.bl (decide (i = j))))[m]? = if m < 6 then some (.bl (decide (m = j))) else none := by
    intro m
    match m with
    | 0 => rfl
    | 1 => rfl
    | 2 => rfl
    | 3 => rfl
    | 4 => rfl
    | 5 => rfl
    | m + 6 => simp
  have eqt : eqvD (.bl true) (.bl true) = true := by decide +kernel
  have eqf : eqvD (.bl false) (.bl true) = false := by decide +kernel
  refine ⟨?_, ⟨.bl (decide (j = j)), by rw [key, if_pos hj], by simp [eqt]⟩, fun m z' hm h => ?_⟩
  · have : j = 0 ∨ j = 1 ∨ j = 2 ∨ j = 3 ∨ j = 4 ∨ j = 5 := by omega
    rcases this with rfl | rfl | rfl | rfl | rfl | rfl <;> simp [eqt, eqf]
  · rw [key, if_pos (by omega)] at h
    obtain rfl := Option.some.inj h
    rw [decide_eq_false (by omega)]
    exact eqf
theorem shp_bls (bs : List Bool) : Shp (.lst (bs.map D.bl)) := by
  refine shp_of ?_ ?_
  · rw [D.good]; exact goodAll_map (fun b => by simp [D.good]) bs
  · rw [D.deep]
    have := deepAll_map (h := D.bl) (n := 0) (fun b => by simp [D.deep]) bs
    omega
theorem sole_ok (T : Fx K mg) (B : Bx mg) {j : Nat} {x : Str} {Dx Fx' a : Addr} {oe : Obj} (W : ErrW K mg j x Dx Fx') (hj : j < 6) (hz : Zc (.ref Dx) none oe) (hf : ∃ vs, oe.data = .fields vs) : VE P w K mg base 1 "_law_sole" a oe [.raw a, .str (errT.getD j "")] (fun o => o = .sh (.bl true)) := by
  refine VE.of T.d_L_sole sc_L_sole rfl fun f cdv A outer s H E hr => ?_
  have hB := B; cases hB
  have hpn : (a, oe) ∈ (L2H.cxH CX0 P w K mg base n_L_sole "_law_sole" (defScope s_L_sole) f cdv A outer s H E (a, oe)).nox.pn := List.mem_singleton.mpr rfl
  obtain ⟨c0, g0, k0⟩ := W.kits 0 _ rfl
  obtain ⟨c1, g1, k1⟩ := W.kits 1 _ rfl
  obtain ⟨c2, g2, k2⟩ := W.kits 2 _ rfl
  obtain ⟨c3, g3, k3⟩ := W.kits 3 _ rfl
  obtain ⟨c4, g4, k4⟩ := W.kits 4 _ rfl
  obtain ⟨c5, g5, k5⟩ := W.kits 5 _ rfl
  obtain ⟨q1, ⟨z, q2, q3⟩, q4⟩ := sole_eq hj
  refine' Ws.asg 2 sc_L_sole.nd (.own (o := oL (([0, 1, 2] : List Nat).map fun i => D.bl (decide (i = j)))) (.list (.cons (.isEC W.ec hz hf hpn ?m0 (.name 0) g0 k0) (.two (.isEC W.ec hz hf hpn ?m1 (.name 0) g1 k1) (.isEC W.ec hz hf hpn ?m2 (.name 0) g2 k2)))) (oL_data _) ?_)
  case m0 => assumption
  case m1 => assumption
  case m2 => assumption
  refine Ws.share (i := 2) rfl ?_
  refine' Ws.asg 2 sc_L_sole.nd (.own (o := oL ((([0, 1, 2] : List Nat).map fun i => D.bl (decide (i = j))) ++ (([3, 4, 5] : List Nat).map fun i => D.bl (decide (i = j))))) (.cat (.name 2) (.list (ds := ([3, 4, 5] : List Nat).map fun i => D.bl (decide (i = j))) (.cons (.isEC W.ec hz hf hpn ?m3 (.name 0) g3 k3) (.two (.isEC W.ec hz hf hpn ?m4 (.name 0) g4 k4) (.isEC W.ec hz hf hpn ?m5 (.name 0) g5 k5)))) ?z0) (oL_data _) ?_)
  case m3 => assumption
  case m4 => assumption
  case m5 => assumption
  case z0 => exact Nat.le_trans (show 6 ≤ 100000 by decide) (show 100000 ≤ sizeLine by decide)
  refine Ws.share (i := 2) rfl ?_
  have shp : Shp (.lst ((([0, 1, 2] : List Nat).map fun i => D.bl (decide (i = j))) ++ (([3, 4, 5] : List Nat).map fun i => D.bl (decide (i = j))))) := shp_bls [decide (0 = j), decide (1 = j), decide (2 = j), decide (3 = j), decide (4 = j), decide (5 = j)]
  generalize (([0, 1, 2] : List Nat).map fun i => D.bl (decide (i = j))) ++ (([3, 4, 5] : List Nat).map fun i => D.bl (decide (i = j))) = ks at q1 q2 q4 shp
  have hu : (L2H.cxH CX0 P w K mg base n_L_sole "_law_sole" (defScope s_L_sole) f cdv A outer s H E (a, oe)).nox.A.units + 65 < cLine := unitsH hr
  have shb : Shp (.bl true) := shp_of (by simp [D.good]) (by simp [D.deep])
  refine' Ws.if (b := false) (.is (.bool (.or (c1 := false) (.is (.cmp (.count hu (ds := ks) (.name 2) .bl shb shp) .int .neI) (by rw [q1]; rfl)) (fun _ => .or1 (c := false) (.is (.not (.val (.isEB W.ec hz hf hpn ?m6 (.name 0) ?m7 W.kv))) rfl)))) rfl) (fun h => by cases h) (fun _ => .nil ?_)
  case m6 => assumption
  case m7 => assumption
  refine' Ws.ret (.bor (d := .bl true) (.is (.cmp (.ixL (ds := errT.map D.str) (d := .str (errT.getD j "")) (.list (.cons .str (.cons .str (.cons .str (.cons .str (.two .str .str)))))) (.indexD hu (ds := ks) (.name 2) .bl shb shp q2 q3 q4) ?i1) (.name 1) .eqS) (by simp)) rfl rfl)
  case i1 =>
    have : j = 0 ∨ j = 1 ∨ j = 2 ∨ j = 3 ∨ j = 4 ∨ j = 5 := by omega
    rcases this with rfl | rfl | rfl | rfl | rfl | rfl <;> rfl

/-! ### Fold: its parts own; the last move taken back; what is refused -/
abbrev Past := List (Mv × (List Int × List Bool) × List (List Int))
theorem gd_dI (L : List Int) : (dI L).good = true ∧ (dI L).deep ≤ 1 := by
  unfold dI
  rw [D.good, D.deep]
  refine ⟨goodAll_map (fun x => by simp [D.good]) L, ?_⟩
  have := deepAll_map (h := D.int) (n := 0) (fun x => by simp [D.deep]) L
  omega
theorem gd_dM (L : List Bool) : (dM L).good = true ∧ (dM L).deep ≤ 1 := by
  unfold dM
  rw [D.good, D.deep]
  refine ⟨goodAll_map (fun x => by cases x <;> (simp [mkD, D.good]; decide +kernel)) L, ?_⟩
  have := deepAll_map (h := mkD) (n := 0) (fun x => by cases x <;> simp [mkD, D.deep]) L
  omega
theorem gd_dS (ls : List Int) (ms : List Bool) : (dS ls ms).good = true ∧ (dS ls ms).deep ≤ 2 := by
  have h1 := gd_dI ls
  have h2 := gd_dM ms
  unfold dS
  rw [D.good, D.deep]
  refine ⟨by simp [goodAll, h1.1, h2.1], ?_⟩
  simp [deepAll]; omega
theorem gd_dP (ps : List (List Int)) : (dP ps).good = true ∧ (dP ps).deep ≤ 2 := by
  unfold dP
  rw [D.good, D.deep]
  refine ⟨goodAll_map (fun x => (gd_dI x).1) ps, ?_⟩
  have := deepAll_map (h := dI) (n := 1) (fun x => (gd_dI x).2) ps
  omega
theorem gd_past (q : Mv × (List Int × List Bool) × List (List Int)) : (pastD q).good = true ∧ (pastD q).deep ≤ 3 := by
  have h1 := gd_dS q.2.1.1 q.2.1.2
  have h2 := gd_dP q.2.2
  have h3 := mvD_good q.1
  have h4 := mvD_deep q.1
  unfold pastD
  rw [D.good, D.deep]
  refine ⟨by simp [goodAll, h1.1, h2.1, h3], ?_⟩
  simp [deepAll]; omega
theorem shp_past (past : Past) : Shp (.lst (past.map pastD)) := shp_of (by rw [D.good]; exact goodAll_map (fun q => (gd_past q).1) past) (by
  rw [D.deep]
  have := deepAll_map (h := pastD) (n := 3) (fun x => (gd_past x).2) past
  omega)
theorem shp_dS7 (ls : List Int) (ms : List Bool) : Shp (dS ls ms) := shp_of (gd_dS ls ms).1 (by have := (gd_dS ls ms).2; omega)
theorem shp_dP7 (ps : List (List Int)) : Shp (dP ps) := shp_of (gd_dP ps).1 (by have := (gd_dP ps).2; omega)
theorem fold_new_ok {C : Addr} (T : Fx K mg) (B : Bx mg) (Cf : Cl_Fold K mg C) (ls : List Int) (ms : List Bool) (hm : ls.length ≤ 1000) : VI P w K mg base 2 C "Fold" [dS ls ms] (fun o => o = .ob C foldK [oS ls ms, .ls ((singles ls.length).map oI), oL []]) := by
  refine VI.of Cf.F Cf.m_init sc_Fold_init fun f a cdv A outer s H E hr => ?_
  have hB := B; cases hB
  refine' Ws.fldNew 0 Cf.F.cl (Cf.F.no _ (by simp)) (.own (.call (copied_ok T B ls ms) (hr.mono (by decide)) (.one (.name 1)) (fun o e => e)) (oS_data _ _) ⟨rfl, ?_⟩)
  refine' Ws.fldNew 0 Cf.F.cl (Cf.F.no _ (by simp)) (.own (o := .ls ((List.range ls.length).map fun (k : Nat) => oI [(k : Int)])) (.comp (own := [("piece", 2)]) (List.range ls.length) (fun (k : Nat) => D.int (k : Int)) (fun (k : Nat) => oI [(k : Int)]) [2] (fun (k : Nat) => [.int (k : Int)]) rfl sc_Fold_init.nd (.is (.range1 (j := (ls.length : Int)) ?r (.lenI ?r1 (.ixT0 (.name 1))) (by omega)) ?r2) (blkOk_by (N := n_Fold_init) (sc := defScope s_Fold_init) (by decide +kernel)) (by simp) (fun x _ s H C cl fp => .name 2 sc_Fold_init.nd) (fun x hx s H C cl fp => .list (.one (.name 2))) ?r3) rfl ⟨rfl, ?_⟩)
  case r => assumption
  case r1 => assumption
  case r2 => unfold rangeD; simp
  case r3 => rw [List.length_range]; exact Nat.lt_of_le_of_lt hm (by decide)
  refine' Ws.fldNew 0 Cf.F.cl (Cf.F.no _ (by simp)) (.own (.list .nil) (oL_data _) ⟨rfl, ?_⟩)
  refine .nil ⟨_, _, rfl, ?_⟩
  show O.ob C foldK [oS ls ms, .ls ((List.range ls.length).map fun (k : Nat) => oI [(k : Int)]), oL []] = _
  unfold singles
  rw [List.map_map]; rfl
theorem back_ok {C : Addr} (T : Fx K mg) (B : Bx mg) (Cf : Cl_Fold K mg C) (ls ls' : List Int) (ms ms' : List Bool) (ps ps' : List (List Int)) (past : Past) (m : Mv) :
    GM P w K mg base 1 C "back" (foldO C ls' ms' ps' (past ++ [(m, (ls, ms), ps)])) (foldD C ls' ms' ps' (past ++ [(m, (ls, ms), ps)])) [] (fun o' d' w => o' = foldO C ls ms ps past ∧ d' = foldD C ls ms ps past ∧ w = .sh (mvD m)) := by
  refine GM.of Cf.m_back sc_Fold_back fun f a cdv A outer s H E hr => ?_
  have hB := B; cases hB
  refine' Ws.if (b := false) (.is (.cmp (.fld (.name 0) 2 rfl rfl Cf.F.cl (Cf.F.no _ (by simp))) (.list .nil) (.eqNil hr.units (shp_past _))) (by simp)) (fun h => by cases h) (fun _ => .nil ?_)
  refine' Ws.unpackF 1 0 0 1 (C := C) (ks := foldK) (d1 := mvD m) (d2 := dS ls ms) (d3 := dP ps) rfl sc_Fold_back.nd Cf.F.cl (Cf.F.no _ (by simp)) (Cf.F.no _ (by simp)) rfl rfl (by decide) (.popP 0 [.pin, .fld C 2 "past"] (d := pastD (m, (ls, ms), ps)) (ds := past.map pastD) ((((Rcv.name 0)).pin).fld C 2 Cf.F.cl (Cf.F.no _ (by simp))) ?hs rfl ⟨rfl, rfl, ?_⟩)
  case hs =>
    show some (oL ((past ++ [(m, (ls, ms), ps)]).map pastD)) = _
    rw [List.map_append]; rfl
  refine' Ws.retS (.sh (.name 1) ⟨_, _, rfl, rfl, ?_, rfl⟩)
  show (O.ob C foldK [.sh (dS ls ms), .sh (dP ps), oL (past.map pastD)]).data = _
  exact foldO_data C ls ms ps past
theorem backN_ok {C : Addr} (T : Fx K mg) (B : Bx mg) (Cf : Cl_Fold K mg C) {Dx Fx' : Addr} (W : ErrW K mg 3 "NothingDone" Dx Fx') (a b : D) : VXMN P w K mg base 1 C "back" [.ob C foldK [a, b, .lst []]] Dx := by
  refine VXMN.of Cf.m_back sc_Fold_back rfl fun f cdv A outer s H E hr tk => ?_
  have hB := B; cases hB
  refine' Ws.if (b := true) (.is (.cmp (.fld (.name 0) 2 rfl rfl Cf.F.cl (Cf.F.no _ (by simp))) (.list .nil) (.eqNil hr.units (shp_past []))) (by simp)) (fun _ => ?_) (fun h => by cases h)
  exact Ws.raiseN W.er rfl tk rfl
theorem takeN_ok {C : Addr} (T : Fx K mg) (B : Bx mg) (Cf : Cl_Fold K mg C) {Dx Fx' : Addr} (W : ErrW K mg 2 "NoFold" Dx Fx') (ls : List Int) (ms : List Bool) (b c d : D) (hd : AskM d) (hn : isMoveF d = true → Shp d ∧ ((movesF ls ms).map mvD).any (fun z => eqvD z d) = false) (hl : ls.length = ms.length + 1) (hm : ls.length ≤ 1000) :
    VXMN P w K mg base 4 C "take" [.ob C foldK [dS ls ms, b, c], d] Dx := by
  refine VXMN.of Cf.m_take sc_Fold_take rfl fun f cdv A outer s H E hr tk => ?_
  have hB := B; cases hB
  exact Ws.asgR 2 sc_Fold_take.nd (.callN (takenN_ok T B W ls ms d hd hn hl hm) (hr.mono (by decide)) tk (.two (.fld (.name 0) 0 rfl rfl Cf.F.cl (Cf.F.no _ (by simp))) (.name 1))) rfl

/-! ### _law_sole, of any word -/
theorem soleF_ok (T : Fx K mg) (B : Bx mg) {j : Nat} {x : Str} {Dx Fx' a : Addr} {oe : Obj} (W : ErrW K mg j x Dx Fx') (hj : j < 6) (u : Str) (hz : Zc (.ref Dx) none oe) (hf : ∃ vs, oe.data = .fields vs) : VE P w K mg base 1 "_law_sole" a oe [.raw a, .str u] (fun o => o = .sh (.bl (decide (errT.getD j "" = u)))) := by
  refine VE.of T.d_L_sole sc_L_sole rfl fun f cdv A outer s H E hr => ?_
  have hB := B; cases hB
  have hpn : (a, oe) ∈ (L2H.cxH CX0 P w K mg base n_L_sole "_law_sole" (defScope s_L_sole) f cdv A outer s H E (a, oe)).nox.pn := List.mem_singleton.mpr rfl
  obtain ⟨c0, g0, k0⟩ := W.kits 0 _ rfl
  obtain ⟨c1, g1, k1⟩ := W.kits 1 _ rfl
  obtain ⟨c2, g2, k2⟩ := W.kits 2 _ rfl
  obtain ⟨c3, g3, k3⟩ := W.kits 3 _ rfl
  obtain ⟨c4, g4, k4⟩ := W.kits 4 _ rfl
  obtain ⟨c5, g5, k5⟩ := W.kits 5 _ rfl
  obtain ⟨q1, ⟨z, q2, q3⟩, q4⟩ := sole_eq hj
  refine' Ws.asg 2 sc_L_sole.nd (.own (o := oL (([0, 1, 2] : List Nat).map fun i => D.bl (decide (i = j)))) (.list (.cons (.isEC W.ec hz hf hpn ?m0 (.name 0) g0 k0) (.two (.isEC W.ec hz hf hpn ?m1 (.name 0) g1 k1) (.isEC W.ec hz hf hpn ?m2 (.name 0) g2 k2)))) (oL_data _) ?_)
  case m0 => assumption
  case m1 => assumption
  case m2 => assumption
  refine Ws.share (i := 2) rfl ?_
  refine' Ws.asg 2 sc_L_sole.nd (.own (o := oL ((([0, 1, 2] : List Nat).map fun i => D.bl (decide (i = j))) ++ (([3, 4, 5] : List Nat).map fun i => D.bl (decide (i = j))))) (.cat (.name 2) (.list (ds := ([3, 4, 5] : List Nat).map fun i => D.bl (decide (i = j))) (.cons (.isEC W.ec hz hf hpn ?m3 (.name 0) g3 k3) (.two (.isEC W.ec hz hf hpn ?m4 (.name 0) g4 k4) (.isEC W.ec hz hf hpn ?m5 (.name 0) g5 k5)))) ?z0) (oL_data _) ?_)
  case m3 => assumption
  case m4 => assumption
  case m5 => assumption
  case z0 => exact Nat.le_trans (show 6 ≤ 100000 by decide) (show 100000 ≤ sizeLine by decide)
  refine Ws.share (i := 2) rfl ?_
  have shp : Shp (.lst ((([0, 1, 2] : List Nat).map fun i => D.bl (decide (i = j))) ++ (([3, 4, 5] : List Nat).map fun i => D.bl (decide (i = j))))) := shp_bls [decide (0 = j), decide (1 = j), decide (2 = j), decide (3 = j), decide (4 = j), decide (5 = j)]
  generalize (([0, 1, 2] : List Nat).map fun i => D.bl (decide (i = j))) ++ (([3, 4, 5] : List Nat).map fun i => D.bl (decide (i = j))) = ks at q1 q2 q4 shp
  have hu : (L2H.cxH CX0 P w K mg base n_L_sole "_law_sole" (defScope s_L_sole) f cdv A outer s H E (a, oe)).nox.A.units + 65 < cLine := unitsH hr
  have shb : Shp (.bl true) := shp_of (by simp [D.good]) (by simp [D.deep])
  refine' Ws.if (b := false) (.is (.bool (.or (c1 := false) (.is (.cmp (.count hu (ds := ks) (.name 2) .bl shb shp) .int .neI) (by rw [q1]; rfl)) (fun _ => .or1 (c := false) (.is (.not (.val (.isEB W.ec hz hf hpn ?m6 (.name 0) ?m7 W.kv))) rfl)))) rfl) (fun h => by cases h) (fun _ => .nil ?_)
  case m6 => assumption
  case m7 => assumption
  refine' Ws.ret (.bor (d := .bl (decide (errT.getD j "" = u))) (.is (.cmp (.ixL (ds := errT.map D.str) (d := .str (errT.getD j "")) (.list (.cons .str (.cons .str (.cons .str (.cons .str (.two .str .str)))))) (.indexD hu (ds := ks) (.name 2) .bl shb shp q2 q3 q4) ?i1) (.name 1) .eqS) rfl) rfl rfl)
  case i1 =>
    have : j = 0 ∨ j = 1 ∨ j = 2 ∨ j = 3 ∨ j = 4 ∨ j = 5 := by omega
    rcases this with rfl | rfl | rfl | rfl | rfl | rfl <;> rfl
/-! ### _law_done -/
def wordE (j : Nat) : D := .tup [.str "refused", .lst [.str (errT.getD j "")]]
theorem doneN_ok {C : Addr} (T : Fx K mg) (B : Bx mg) (Cf : Cl_Fold K mg C) {j : Nat} {x : Str} {Dx Fx' : Addr} (W : ErrW K mg j x Dx Fx') (hj : j = 2 ∨ j = 3) (xds : List D) (d : D)
    (h : (d = .non ∧ VXMN P w K mg base 1 C "back" [.ob C foldK xds] Dx) ∨ (d.isNon = false ∧ VXMN P w K mg base 4 C "take" [.ob C foldK xds, d] Dx)) : VF P w K mg base 5 "_law_done" [.ob C foldK xds, d] (fun o => o.data = wordE j ∧ o.free = true) := by
  refine VF.of T.d_L_done sc_L_done rfl fun f cdv A outer s H E hr => ?_
  have hB := B; cases hB
  refine' Ws.tryAsC (c := .ref Fx') 2 (fun v => v = .ref Dx) sc_L_done.nd ⟨rfl, by decide, .inl W.gF⟩ (fun v h => by rw [h]; exact W.ex) ?bd ?su
  case bd =>
    intro Wx pn xe tkN po
    rcases h with ⟨rfl, F⟩ | ⟨hd, F⟩
    · refine' Ws.if (b := true) (.is (.cmp (.name 1) .non .isN) rfl) (fun _ => ?_) (fun h => by cases h)
      exact Ws.retR (.tupS (.methN0 F Cf.F.cl (hr.mono (by decide)) tkN (.name 0))) rfl
    · refine' Ws.if (b := false) (.is (.cmp (.name 1) .non .isN) hd) (fun h => by cases h) (fun _ => .nil ?_)
      exact Ws.retR (.tupS (.methN F Cf.F.cl (hr.mono (by decide)) tkN (.name 0) (.one (.name 1)))) rfl
  case su =>
    rintro v a oe pn rfl hz hf
    have hot : L2H.HotC (Cx.suite (cxOf CX0 P w K mg base n_L_done "_law_done" (defScope s_L_done) f cdv A outer s H E).nox a ((a, oe) :: pn)) := by
      obtain ⟨vs, hv⟩ := hf
      exact ⟨(a, oe), ⟨rfl, vs, hv, hz.2.2 vs hv⟩, List.mem_cons_self ..⟩
    refine' Ws.ret (.own (o := .tu [.sh (.str "refused"), .ls ((([2, 3] : List Nat).filter fun i => decide (errT.getD j "" = errT.getD i "")).map fun i => .sh (.str (errT.getD i "")))]) (.pairO (Ev.evO .str) (.compFP (own := [("_law_word", 3)]) ([2, 3] : List Nat) (fun i => .str (errT.getD i "")) (fun i => decide (errT.getD j "" = errT.getD i "")) (fun i => .sh (.str (errT.getD i ""))) [3] (fun i => [.str (errT.getD i "")]) hot sc_L_done.nd (.tup (.tup (.two .str .str))) (blkOk_by (N := n_L_done) (sc := defScope s_L_done) (by decide +kernel)) (by simp) (fun x _ s H C cl fp => .name 3 sc_L_done.nd) (fun i hi s H C cl fp => .one (.val ?t1)) (fun i hi hf s H C cl fp => Ev.evO (.name 3)) (by decide))) rfl ?g)
    case t1 =>
      exact .callE (soleF_ok T B W (by omega) (errT.getD i "") hz.zc hf) (roomM (hr.mono (by decide))) (List.mem_cons_self ..) (.two (.name 2) (.name 3)) (fun o e => by rw [e]; rfl)
    case g =>
      rcases hj with rfl | rfl
      · exact ⟨rfl, rfl⟩
      · exact ⟨rfl, rfl⟩

/-! ### _law_done, done -/
theorem done_take_ok {C : Addr} (T : Fx K mg) (B : Bx mg) (Cf : Cl_Fold K mg C) (a : Addr) (ls : List Int) (ms : List Bool) (ps : List (List Int)) (past : Past) (m : Mv) (ho : m.ok ls ms) (hl : ls.length = ms.length + 1) (hm : ls.length ≤ 1000) (hp : ps.length = ms.length + 1) (hf : ps.flatten.length ≤ 1000) (hz : past.length ≤ 1000) :
    GF P w K mg base 5 "_law_done" [(a, foldO C ls ms ps past, foldD C ls ms ps past)] [mvD m] (fun qs w => qs = [(foldO C (behindL ls m) (behindM ms m) (piledF ps ms m) (past ++ [(m, (ls, ms), ps)]), foldD C (behindL ls m) (behindM ms m) (piledF ps ms m) (past ++ [(m, (ls, ms), ps)]))] ∧ w = .sh (.tup [.str "told", .non])) := by
  refine GF.of T.d_L_done sc_L_done rfl fun f cdv A outer s H E hr => ?_
  have hB := B; cases hB
  refine' Ws.tryThru ?_
  refine' Ws.if (b := false) (.is (.cmp (.name 1) .non .isN) (by cases m <;> rfl)) (fun h => by cases h) (fun _ => .nil ?_)
  refine' Ws.retS (.tupS (.mutP 0 (take_ok T B Cf ls ms ps past m ho hl hm hp hf hz) Cf.F.cl (hr.mono (by decide)) (.one (.name 1)) fun o' d' w hq => ?_))
  obtain ⟨rfl, rfl, rfl⟩ := hq
  exact ⟨_, rfl, _, held1 rfl, rfl, rfl⟩
theorem done_back_ok {C : Addr} (T : Fx K mg) (B : Bx mg) (Cf : Cl_Fold K mg C) (a : Addr) (ls ls' : List Int) (ms ms' : List Bool) (ps ps' : List (List Int)) (past : Past) (m : Mv) :
    GF P w K mg base 5 "_law_done" [(a, foldO C ls' ms' ps' (past ++ [(m, (ls, ms), ps)]), foldD C ls' ms' ps' (past ++ [(m, (ls, ms), ps)]))] [.non] (fun qs w => qs = [(foldO C ls ms ps past, foldD C ls ms ps past)] ∧ w = .sh (.tup [.str "told", mvD m])) := by
  refine GF.of T.d_L_done sc_L_done rfl fun f cdv A outer s H E hr => ?_
  have hB := B; cases hB
  refine' Ws.tryThru ?_
  refine' Ws.if (b := true) (.is (.cmp (.name 1) .non .isN) rfl) (fun _ => ?_) (fun h => by cases h)
  refine' Ws.retS (.tupS (.mutP0 0 (back_ok T B Cf ls ls' ms ms' ps ps' past m) Cf.F.cl (hr.mono (by decide)) fun o' d' w hq => ?_))
  obtain ⟨rfl, rfl, rfl⟩ := hq
  exact ⟨_, rfl, _, held1 rfl, rfl, rfl⟩
/-! ### _law_looked -/
theorem looked_ok {C : Addr} (T : Fx K mg) (B : Bx mg) (Cf : Cl_Fold K mg C) (ls : List Int) (ms : List Bool) (ps : List (List Int)) (past : Past) (turn : Int) (hp : ps.length ≤ 100000) (hz : past.length ≤ 100000) :
    VF P w K mg base 3 "_law_looked" [foldD C ls ms ps past, .int turn] (fun o => o = .tu [oS ls ms, oL ((past.map (·.1)).map mvD), .ls (ps.map oI)]) := by
  refine VF.of T.d_L_looked sc_L_looked rfl fun f cdv A outer s H E hr => ?_
  have hB := B; cases hB
  refine' Ws.if (b := decide (turn % 3 = 0)) (.cmp (.mod (.name 1) .int (by decide)) .int .eqI) (fun _ => ?_) (fun _ => .nil ?_)
  · refine' Ws.asg 2 sc_L_looked.nd (.own (EvN.evO (.meth0 (here_ok T B Cf ls ms ["piles", "past"] [dP ps, .lst (past.map pastD)]) Cf.F.cl (hr.mono (by decide)) (.name 0))) (oS_data _ _) ?_)
    refine' Ws.asg 3 sc_L_looked.nd (.own (EvN.evO (.meth0 (done_ok T B Cf _ _ past hz) Cf.F.cl (hr.mono (by decide)) (.name 0))) (oL_data _) ?_)
    refine' Ws.ret (.tupNNC 2 3 (by decide) rfl rfl (.own (EvN.evO (.meth0 (layers_ok T B Cf _ _ ps hp) Cf.F.cl (hr.mono (by decide)) (.name 0))) rfl ⟨rfl, rfl⟩) fun d => rfl)
  refine' Ws.if (b := decide (turn % 3 = 1)) (.cmp (.mod (.name 1) .int (by decide)) .int .eqI) (fun _ => ?_) (fun _ => .nil ?_)
  · refine' Ws.asg 4 sc_L_looked.nd (.own (EvN.evO (.meth0 (layers_ok T B Cf _ _ ps hp) Cf.F.cl (hr.mono (by decide)) (.name 0))) rfl ?_)
    refine' Ws.asg 2 sc_L_looked.nd (.own (EvN.evO (.meth0 (here_ok T B Cf ls ms ["piles", "past"] [dP ps, .lst (past.map pastD)]) Cf.F.cl (hr.mono (by decide)) (.name 0))) (oS_data _ _) ?_)
    refine' Ws.ret (.tupNCN 2 4 (by decide) rfl rfl (.own (EvN.evO (.meth0 (done_ok T B Cf _ _ past hz) Cf.F.cl (hr.mono (by decide)) (.name 0))) (oL_data _) ⟨rfl, rfl⟩) fun d => rfl)
  refine' Ws.asg 3 sc_L_looked.nd (.own (EvN.evO (.meth0 (done_ok T B Cf _ _ past hz) Cf.F.cl (hr.mono (by decide)) (.name 0))) (oL_data _) ?_)
  refine' Ws.asg 4 sc_L_looked.nd (.own (EvN.evO (.meth0 (layers_ok T B Cf _ _ ps hp) Cf.F.cl (hr.mono (by decide)) (.name 0))) rfl ?_)
  refine' Ws.ret (.tupCNN 3 4 (by decide) rfl rfl (.own (EvN.evO (.meth0 (here_ok T B Cf ls ms ["piles", "past"] [dP ps, .lst (past.map pastD)]) Cf.F.cl (hr.mono (by decide)) (.name 0))) (oS_data _ _) ⟨rfl, rfl⟩) fun d => rfl)

/-! ### the state of the law; what is held -/
abbrev keysS : List Key := [.inr "strips", .inr "moves", .inr "piles"]
def stS (L : List Int) (M : List Bool) (past : Past) : List D := past.map (fun q => dS q.2.1.1 q.2.1.2) ++ [dS L M]
def stM (past : Past) : List D := (past.map (·.1)).map mvD
def stP (Q : List (List Int)) (past : Past) : List D := past.map (fun q => dP q.2.2) ++ [dP Q]
def stateO (c : Addr) (L : List Int) (M : List Bool) (Q : List (List Int)) (past : Past) : O := .dd keysS [oL (stS L M past), oL (stM past), .pin c (oL (stP Q past))]
def stateD (L : List Int) (M : List Bool) (Q : List (List Int)) (past : Past) : D := .dd keysS [.lst (stS L M past), .lst (stM past), .lst (stP Q past)]
theorem stateO_data (c : Addr) (L : List Int) (M : List Bool) (Q : List (List Int)) (past : Past) : (stateO c L M Q past).data = stateD L M Q past := by
  unfold stateO stateD
  rw [O.data, dataAll, dataAll, dataAll, dataAll, O.data, oL_data, oL_data, oL_data]
theorem atI_last7 {α : Type} (xs : List α) (x : α) : atI (xs ++ [x]) (-1) = some x := by
  unfold atI ixN
  rw [if_neg (by omega), if_pos (by simp; omega)]
  show (xs ++ [x])[((-1 : Int) + ((xs ++ [x]).length : Nat)).toNat]? = some x
  have : ((-1 : Int) + ((xs ++ [x]).length : Nat)).toNat = xs.length := by simp; omega
  rw [this]; simp
def OkD (k : Nat) (ds : List D) : Prop := ds.length ≤ 2000 + k ∧ ∀ d ∈ ds, d.good = true ∧ d.deep ≤ 1 ∧ d.noOb = true
theorem OkD.up {k : Nat} {ds : List D} (h : OkD k ds) : OkD (k + 1) ds := ⟨by have := h.1; omega, h.2⟩
theorem OkD.snoc {k : Nat} {ds : List D} (h : OkD k ds) : OkD (k + 1) (ds ++ [.int 99]) := ⟨by have := h.1; simp; omega, fun d hd => by
  rcases List.mem_append.mp hd with hd | hd
  · exact h.2 d hd
  · obtain rfl : d = .int 99 := by simpa using hd
    exact ⟨by simp [D.good], by simp [D.deep], by simp [D.noOb]⟩⟩
theorem good_all {ds : List D} (h : ∀ d ∈ ds, d.good = true) : goodAll ds = true := by
  induction ds with
  | nil => rfl
  | cons d ds ih => unfold goodAll; rw [h d (List.mem_cons_self ..), ih fun x hx => h x (List.mem_cons_of_mem _ hx)]; rfl
theorem deep_all {ds : List D} {n : Nat} (h : ∀ d ∈ ds, d.deep ≤ n) : deepAll ds ≤ n := by
  induction ds with
  | nil => simp [deepAll]
  | cons d ds ih =>
    unfold deepAll
    have := h d (List.mem_cons_self ..)
    have := ih fun x hx => h x (List.mem_cons_of_mem _ hx)
    omega
theorem noOb_all {ds : List D} (h : ∀ d ∈ ds, d.noOb = true) : noObAll ds = true := by
  induction ds with
  | nil => rfl
  | cons d ds ih => unfold noObAll; rw [h d (List.mem_cons_self ..), ih fun x hx => h x (List.mem_cons_of_mem _ hx)]; rfl
def OkR (d : D) : Prop := d.good = true ∧ d.deep ≤ 2 ∧ d.noOb = true
theorem OkD.okR {k : Nat} {ds : List D} (h : OkD k ds) : OkR (.lst ds) := ⟨by rw [D.good]; exact good_all fun d hd => (h.2 d hd).1, by rw [D.deep]; have := deep_all fun d hd => (h.2 d hd).2.1; omega, by rw [D.noOb]; exact noOb_all fun d hd => (h.2 d hd).2.2⟩
def HeldOk (h : D) : Prop := ∃ R R2 : List D, h = .tup [.lst R, .lst R, .lst R2, .lst R2] ∧ (∀ d ∈ R, OkR d) ∧ ∀ d ∈ R2, OkR d
theorem OkR.lst {R : List D} (h : ∀ d ∈ R, OkR d) : (D.lst R).good = true ∧ (D.lst R).deep ≤ 3 ∧ (D.lst R).noOb = true := ⟨by rw [D.good]; exact good_all fun d hd => (h d hd).1, by rw [D.deep]; have := deep_all fun d hd => (h d hd).2.1; omega, by rw [D.noOb]; exact noOb_all fun d hd => (h d hd).2.2⟩
theorem HeldOk.noOb {h : D} (k : HeldOk h) : h.noOb = true := by
  obtain ⟨R, R2, rfl, h1, h2⟩ := k
  have a := (OkR.lst h1).2.2
  have b := (OkR.lst h2).2.2
  rw [D.noOb, noObAll, noObAll, noObAll, noObAll, noObAll, a, b]; rfl
theorem zp_len {as : List Addr} {dss : List (List D)} (l : as.length = dss.length) : (List.zipWith O.pin as (dss.map oL)).length = dss.length := by simp [l]
theorem zp_get {as : List Addr} {dss : List (List D)} {i : Nat} (l : as.length = dss.length) (h : i < dss.length) : (List.zipWith O.pin as (dss.map oL))[i]? = some (.pin (as.getD i default) (oL (dss.getD i []))) := by
  rw [List.getElem?_zipWith, List.getElem?_map, List.getD_eq_getElem?_getD, List.getD_eq_getElem?_getD, List.getElem?_eq_getElem h, List.getElem?_eq_getElem (show i < as.length by omega)]; rfl
theorem zp_set {as : List Addr} {dss : List (List D)} {i : Nat} {ds : List D} (l : as.length = dss.length) (h : i < dss.length) : (List.zipWith O.pin as (dss.map oL)).set i (.pin (as.getD i default) (oL ds)) = List.zipWith O.pin as ((dss.set i ds).map oL) := by
  apply List.ext_getElem?
  intro j
  rw [List.getElem?_set]
  by_cases e : i = j
  · subst e
    rw [if_pos rfl, if_pos (by rw [zp_len l]; exact h), zp_get (by simpa using l) (by simpa using h)]
    simp [List.getD_eq_getElem?_getD, h]
  · rw [if_neg e, List.getElem?_zipWith, List.getElem?_zipWith, List.getElem?_map, List.getElem?_map, List.getElem?_set_ne e]
def RS (w0 w1 w2 : W) (t : Int) (a1 a2 a3 : Addr) (as : List Addr) (dss : List (List D)) (e1 e2 e3 : List D) (x : Option W) : RhoW :=
  [some w0, some w1, some w2, some (.sh (.int t)), some (.ow (.tu [.pin a1 (oL e1), .pin a2 (oL e2)]) (.tup [.lst e1, .lst e2])), some (.ow (.pin a3 (oL e3)) (.lst e3)), some (.ow (.ls (List.zipWith O.pin as (dss.map oL))) (.lst (dss.map D.lst))), x, none, none, none]
theorem mem_set7 {α : Type} {L : List α} {i : Nat} {x y : α} (h : y ∈ L.set i x) : y ∈ L ∨ y = x := List.mem_or_eq_of_mem_set h
theorem getD_mem7 {α : Type} {L : List α} {i : Nat} (d : α) (h : i < L.length) : L.getD i d ∈ L := by
  rw [List.getD_eq_getElem?_getD, List.getElem?_eq_getElem h]; exact List.getElem_mem h

theorem stands_tail (T : Fx K mg) (B : Bx mg) {k : Nat} {f : Addr} {cdv : Value} {A : Around} {outer : List Env} {s : Shared} {H : Hp} {E : XK} (hr : Room k (cxOf CX0 P w K mg base n_L_stands "_law_stands" (defScope s_L_stands) f cdv A outer s H E).A)
    (w0 w1 : W) (c : Addr) (hs : List D) (hh : hs.length < 100000) (turn : Int) (a1 a2 a3 : Addr) (as : List Addr) (dss : List (List D)) (e1 e2 e3 : List D) (hasl : as.length = dss.length) (hdl : dss.length ≤ 1000) (hok : ∀ ds ∈ e1 :: e2 :: e3 :: dss, OkD 0 ds) (N : RhoW → Prop) (R : RhoW → W → Prop)
    (hR : ∀ h x4 x5 x6 x7 x8, HeldOk h → R [some w0, some w1, some (.ow (.pin c (oL (hs ++ [h]))) (.lst (hs ++ [h]))), some (.sh (.int turn)), x4, x5, x6, x7, x8, none, none] (.sh (.bl true))) :
    Ws (cxOf CX0 P w K mg base n_L_stands "_law_stands" (defScope s_L_stands) f cdv A outer s H E).nox (RS w0 w1 (.ow (.pin c (oL hs)) (.lst hs)) turn a1 a2 a3 as dss e1 e2 e3 none) ((defBody s_L_stands).drop 5) { nx := N, rt := fun _ => False, rs := R } := by
  have hB := B; cases hB
  have r4 : ∀ e1 e2 : List D, (O.tu [.pin a1 (oL e1), .pin a2 (oL e2)]).raw = .tup [.raw a1, .raw a2] := fun e1 e2 => by simp [O.raw, rawAll]
  have r5 : ∀ e3 : List D, (O.pin a3 (oL e3)).raw = .raw a3 := fun e3 => by simp [O.raw]
  have r6 : (O.ls (List.zipWith O.pin as (dss.map oL))).raw = .lst (as.map D.raw) := by rw [O.raw, pin_raw (by simpa using hasl)]
  have d6 : ∀ dss : List (List D), as.length = dss.length → (O.ls (List.zipWith O.pin as (dss.map oL))).data = .lst (dss.map D.lst) := fun dss h => by
    rw [O.data, pin_data (by simpa using h), dataAll_map, List.map_map]
    exact congrArg D.lst (List.map_congr_left fun k _ => oL_data k)
  have d4 : ∀ e1 e2 : List D, (O.tu [.pin a1 (oL e1), .pin a2 (oL e2)]).data = .tup [.lst e1, .lst e2] := fun e1 e2 => by
    rw [O.data, dataAll, dataAll, dataAll, O.data, O.data, oL_data, oL_data]
  have d5 : ∀ e3 : List D, (O.pin a3 (oL e3)).data = .lst e3 := fun e3 => by rw [O.data, oL_data]
  refine' Ws.forW (items := as.map D.raw ++ [D.raw a1, D.raw a2, D.raw a3]) (fun k ρ' => ∃ dss' e1 e2 e3 x, dss'.length = dss.length ∧ (∀ ds ∈ e1 :: e2 :: e3 :: dss', OkD k ds) ∧ ρ' = RS w0 w1 (.ow (.pin c (oL hs)) (.lst hs)) turn a1 a2 a3 as dss' e1 e2 e3 x) [7] (fun k => [(as.map D.raw ++ [D.raw a1, D.raw a2, D.raw a3]).getD k .non]) .never rfl (.rawO (.cat (.is (.name 6) r6) (.list (.cons (.ixT0 (.is (.name 4) (r4 e1 e2))) (.two (.ixT1 (.is (.name 4) (r4 e1 e2))) (.is (.name 5) (r5 e3))))) ?l) ?f rfl ⟨⟨_, rfl⟩, dss, e1, e2, e3, none, rfl, hok, rfl⟩) ?g ?b ?d
  case l =>
    simp
    exact Nat.le_trans (show as.length + 3 ≤ 100000 by omega) (by decide)
  case f =>
    refine oL_free ?_
    have : ∀ l : List Addr, freeAll (l.map D.raw) = true := fun l => freeAll_map (fun x => by simp [D.free]) l
    have e : as.map D.raw ++ [D.raw a1, .raw a2, .raw a3] = (as ++ [a1, a2, a3]).map D.raw := by simp
    rw [e]; exact this _
  case g =>
    intro i d hd
    rw [List.getD_eq_getElem?_getD, hd]
    exact .name 7 sc_L_stands.nd
  case b =>
    rintro i d ρ' hd ⟨dss', e1, e2, e3, x, hl, hk, rfl⟩ -
    rw [List.getD_eq_getElem?_getD, hd]
    have hi : i < as.length + 3 := by have := (List.getElem?_eq_some_iff.mp hd).1; simpa using this
    have k1 := hk e1 (by simp)
    have k2 := hk e2 (by simp)
    have k3 := hk e3 (by simp)
    have kd : ∀ ds ∈ dss', OkD i ds := fun ds h => hk ds (by simp [h])
    by_cases c1 : i < as.length
    · rw [List.getElem?_append_left (by simpa using c1), List.getElem?_map, List.getElem?_eq_getElem c1] at hd
      obtain rfl : D.raw as[i] = d := by simpa using hd
      have ea : as[i] = as.getD i default := by rw [List.getD_eq_getElem?_getD, List.getElem?_eq_getElem c1]; rfl
      have hl' : as.length = dss'.length := by omega
      have c2 : i < dss'.length := by omega
      have kr := kd _ (getD_mem7 [] c2)
      rw [ea]
      have hput : (O.ls (List.zipWith O.pin as (dss'.map oL))).put (.pin (as.getD i default) (oL (dss'.getD i [] ++ [D.int 99]))) [.ix i] = .ls (List.zipWith O.pin as ((dss'.set i (dss'.getD i [] ++ [D.int 99])).map oL)) := by
        have : (O.ls (List.zipWith O.pin as (dss'.map oL))).kid i = some (.pin (as.getD i default) (oL (dss'.getD i []))) := zp_get hl' c2
        show (match (O.ls (List.zipWith O.pin as (dss'.map oL))).kid i with | some x => O.setKid (O.ls (List.zipWith O.pin as (dss'.map oL))) i (x.put (.pin (as.getD i default) (oL (dss'.getD i [] ++ [D.int 99]))) []) | none => O.ls (List.zipWith O.pin as (dss'.map oL))) = _
        rw [this]
        show O.ls ((List.zipWith O.pin as (dss'.map oL)).set i (.pin (as.getD i default) (oL (dss'.getD i [] ++ [D.int 99])))) = _
        rw [zp_set hl' c2]
      refine' Ws.appendRaw (q2 := ⟨0, 0, 0, 0⟩) (o := .ls (List.zipWith O.pin as (dss'.map oL))) (d' := .lst ((dss'.set i (dss'.getD i [] ++ [D.int 99])).map D.lst)) (ds := dss'.getD i []) 7 6 [.ix i] rfl .int rfl ?s1 ?s2 (by rw [hput]; exact d6 _ (by simpa using hl')) (.nil ?s3) (by have := kr.1; omega) rfl
      case s1 =>
        show ((O.ls (List.zipWith O.pin as (dss'.map oL))).kid i).bind (fun x => x.sub []) = _
        rw [show (O.ls (List.zipWith O.pin as (dss'.map oL))).kid i = _ from zp_get hl' c2]; rfl
      case s2 => exact ⟨trivial, fun x _ => trivial⟩
      case s3 =>
        rw [hput]
        refine ⟨dss'.set i (dss'.getD i [] ++ [.int 99]), e1, e2, e3, _, by simpa using hl, fun ds hd => ?_, rfl⟩
        rcases List.mem_cons.mp hd with rfl | hd
        · exact k1.up
        · rcases List.mem_cons.mp hd with rfl | hd
          · exact k2.up
          · rcases List.mem_cons.mp hd with rfl | hd
            · exact k3.up
            · rcases mem_set7 hd with hd | rfl
              · exact (kd _ hd).up
              · exact kr.snoc
    · have c3 : i = as.length ∨ i = as.length + 1 ∨ i = as.length + 2 := by omega
      rcases c3 with rfl | rfl | rfl
      · rw [List.getElem?_append_right (by simp)] at hd
        simp at hd
        subst hd
        refine' Ws.appendRaw (q2 := ⟨0, 0, 0, 0⟩) (o := .tu [.pin a1 (oL e1), .pin a2 (oL e2)]) (d' := .tup [.lst (e1 ++ [.int 99]), .lst e2]) (ds := e1) 7 4 [.ix 0] rfl .int rfl rfl ⟨trivial, fun x _ => trivial⟩ (d4 (e1 ++ [.int 99]) e2) (.nil ?t3) (by have := k1.1; omega) rfl
        case t3 =>
          refine ⟨dss', e1 ++ [.int 99], e2, e3, _, hl, fun ds hd => ?_, rfl⟩
          rcases List.mem_cons.mp hd with rfl | hd
          · exact k1.snoc
          · exact (hk ds (List.mem_cons_of_mem _ hd)).up
      · rw [List.getElem?_append_right (by simp)] at hd
        simp at hd
        subst hd
        refine' Ws.appendRaw (q2 := ⟨0, 0, 0, 0⟩) (o := .tu [.pin a1 (oL e1), .pin a2 (oL e2)]) (d' := .tup [.lst e1, .lst (e2 ++ [.int 99])]) (ds := e2) 7 4 [.ix 1] rfl .int rfl rfl ⟨trivial, fun x _ => trivial⟩ (d4 e1 (e2 ++ [.int 99])) (.nil ?t4) (by have := k2.1; omega) rfl
        case t4 =>
          refine ⟨dss', e1, e2 ++ [.int 99], e3, _, hl, fun ds hd => ?_, rfl⟩
          rcases List.mem_cons.mp hd with rfl | hd
          · exact k1.up
          · rcases List.mem_cons.mp hd with rfl | hd
            · exact k2.snoc
            · exact (hk ds (List.mem_cons_of_mem _ (List.mem_cons_of_mem _ hd))).up
      · rw [List.getElem?_append_right (by simp)] at hd
        simp at hd
        subst hd
        refine' Ws.appendRaw (q2 := ⟨0, 0, 0, 0⟩) (o := .pin a3 (oL e3)) (d' := .lst (e3 ++ [.int 99])) (ds := e3) 7 5 [] rfl .int rfl rfl trivial (d5 (e3 ++ [.int 99])) (.nil ?t5) (by have := k3.1; omega) rfl
        case t5 =>
          refine ⟨dss', e1, e2, e3 ++ [.int 99], _, hl, fun ds hd => ?_, rfl⟩
          rcases List.mem_cons.mp hd with rfl | hd
          · exact k1.up
          · rcases List.mem_cons.mp hd with rfl | hd
            · exact k2.up
            · rcases List.mem_cons.mp hd with rfl | hd
              · exact k3.snoc
              · exact (kd ds hd).up
  case d =>
    rintro ρ' ⟨dss', e1, e2, e3, x, hl, hk, rfl⟩ -
    generalize (as.map D.raw ++ [D.raw a1, .raw a2, .raw a3]).length = kk at hk
    have hl' : as.length = dss'.length := by omega
    have ek : (List.zipWith O.pin as (dss'.map oL)).map O.data = dss'.map D.lst := by
      rw [← dataAll_map, pin_data (by simpa using hl'), dataAll_map, List.map_map]
      exact List.map_congr_left fun k _ => oL_data k
    refine' Ws.shareK (i := 6) rfl (d6 _ hl') ?_
    rw [ek]
    refine' Ws.append (ds := dss'.map D.lst) 6 (dss'.map D.lst ++ [.lst []]) (d := .lst []) (.sh (EvO.ev' (.list .nil) (oL_data _)) ⟨rfl, rfl⟩) rfl ?_ (hz := by rw [List.length_map]; omega)
    refine Ws.share (i := 6) rfl (Ws.share (i := 4) rfl (Ws.share (i := 5) rfl ?_))
    refine' Ws.asg 8 sc_L_stands.nd (.own (.cat (.name 6) (.list (.cons (.ixT0 (.name 4)) (.two (.ixT1 (.name 4)) (.name 5)))) ?l2) (oL_data _) ?_)
    case l2 =>
      simp
      exact Nat.le_trans (show dss'.length + 1 + 3 ≤ 100000 by omega) (by decide)
    refine Ws.share (i := 8) rfl ?_
    have okR : ∀ d ∈ dss'.map D.lst ++ [.lst []], OkR d := fun d hd => by
      rcases List.mem_append.mp hd with hd | hd
      · obtain ⟨ds, h, rfl⟩ := List.mem_map.mp hd
        exact (hk ds (by simp [h])).okR
      · obtain rfl : d = .lst [] := by simpa using hd
        exact ⟨by simp [D.good, goodAll], by simp [D.deep, deepAll], by simp [D.noOb, noObAll]⟩
    have okR2 : ∀ d ∈ dss'.map D.lst ++ [.lst []] ++ [.lst e1, .lst e2, .lst e3], OkR d := fun d hd => by
      rcases List.mem_append.mp hd with hd | hd
      · exact okR d hd
      · simp at hd
        rcases hd with rfl | rfl | rfl
        · exact (hk e1 (by simp)).okR
        · exact (hk e2 (by simp)).okR
        · exact (hk e3 (by simp)).okR
    have hR2 : ∃ dd : List (List D), dss'.map D.lst ++ [.lst []] ++ [.lst e1, .lst e2, .lst e3] = dd.map D.lst ∧ dd.length ≤ 2000 := ⟨dss' ++ [[], e1, e2, e3], by simp, by simp; omega⟩
    generalize dss'.map D.lst ++ [.lst []] ++ [.lst e1, .lst e2, .lst e3] = R2 at okR2 hR2
    generalize dss'.map D.lst ++ [.lst []] = R1 at okR
    obtain ⟨dd, rfl, hdd⟩ := hR2
    have hH : HeldOk (.tup [.lst R1, .lst R1, .lst (dd.map D.lst), .lst (dd.map D.lst)]) := ⟨_, _, rfl, okR, okR2⟩
    refine' Ws.appendV (o := .pin c (oL hs)) 2 [.pin] ((Rcv.name 2).pin) (d := .tup [.lst R1, .lst R1, .lst (dd.map D.lst), .lst (dd.map D.lst)]) (.tup (.cons (.name 6) (.cons (EvO.ev' (.listL ?v1 (.name 6)) (oL_data _)) (.two (.name 8) ?v2)))) hH.noOb (ds := hs) rfl (d' := .lst (hs ++ [.tup [.lst R1, .lst R1, .lst (dd.map D.lst), .lst (dd.map D.lst)]])) (by show (O.pin c (oL (hs ++ [_]))).data = _; rw [O.data, oL_data]) ?_ hh
    case v1 => assumption
    case v2 =>
      refine' EvO.ev' (.comp (own := [("_law_row", 7)]) dd D.lst (fun r => oL r) [7] (fun x => [.lst x]) rfl sc_L_stands.nd (.list (.name 8)) (blkOk_by (N := n_L_stands) (sc := defScope s_L_stands) (by decide +kernel)) (by simp) (fun x _ s H C cl fp => .name 7 sc_L_stands.nd) (fun x _ s H C cl fp => .listL ?v3 (.name 7)) (Nat.lt_of_lt_of_le (m := 100000) (by omega) (by decide))) ?v4
      case v3 => assumption
      case v4 =>
        rw [O.data, dataAll_map, List.map_map]
        exact congrArg D.lst (List.map_congr_left fun k _ => oL_data k)
    exact Ws.retS (.bor .bl rfl (hR _ _ _ _ _ _ hH))
theorem stands_ok {C : Addr} (T : Fx K mg) (B : Bx mg) (Cf : Cl_Fold K mg C) (a b c cp : Addr) (ls : List Int) (ms : List Bool) (ps : List (List Int)) (past : Past) (hs : List D) (turn : Int)
    (hlen : ls.length ≤ 1000) (hml : ms.length ≤ 1000) (hpl : ps.length ≤ 1000) (hrow : ∀ r ∈ ps, r.length ≤ 1000) (hz : past.length ≤ 1000) (hh : hs.length < 100000) :
    GF P w K mg base 4 "_law_stands" [(a, foldO C ls ms ps past, foldD C ls ms ps past), (b, stateO cp ls ms ps past, stateD ls ms ps past), (c, oL hs, .lst hs)] [.int turn]
      (fun qs w => ∃ h, HeldOk h ∧ qs = [(foldO C ls ms ps past, foldD C ls ms ps past), (stateO cp ls ms ps past, stateD ls ms ps past), (oL (hs ++ [h]), .lst (hs ++ [h]))] ∧ w = .sh (.bl true)) := by
  refine GF.of T.d_L_stands sc_L_stands rfl fun f cdv A outer s H E hr => ?_
  have hB := B; cases hB
  have hu : (cxOf CX0 P w K mg base n_L_stands "_law_stands" (defScope s_L_stands) f cdv A outer s H E).A.units + 1 < cLine := by have := hr.units; omega
  refine' Ws.unpack3 4 5 6 rfl sc_L_stands.nd (.borO (.call (looked_ok T B Cf ls ms ps past turn (by omega) (by omega)) (hr.mono (by decide)) (.two (.name 0) (.name 3)) (fun o e => e)) ?fr rfl ⟨_, _, _, _, rfl, ?_⟩) (by decide)
  case fr =>
    have h1 : (oL ((past.map (·.1)).map mvD)).free = true := oL_free (freeAll_map (fun m => by cases m <;> simp [mvD, D.free, freeAll]) _)
    have h2 : freeO (ps.map oI) = true := by
      induction ps with
      | nil => rfl
      | cons r ps ih => rw [List.map_cons]; unfold freeO; rw [oI_free, ih (by simp at hpl; omega) (fun x hx => hrow x (List.mem_cons_of_mem _ hx))]; rfl
    unfold oS
    simp only [O.free, freeO, oI_free, oM_free, h1, h2, Bool.and_true, Bool.and_self]
  have hrd : (O.ls (ps.map oI)).data = dP ps := by
    rw [O.data, dataAll_map, List.map_map]
    unfold dP
    refine congrArg D.lst (List.map_congr_left fun k _ => ?_)
    exact oI_data k
  rw [oS_data, oL_data, hrd]
  refine' Ws.if (b := false) (.is (.bool (.or (c1 := false) (.is (.not (c := true) (.val (.call (iss_ok T B ls ms hlen hml) (hr.mono (by decide)) (.two (.name 4) (.ixL (.ixDd hu (.name 1) 0 rfl rfl) (.neg .int) (atI_last7 _ _))) (fun o e => by rw [e]; rfl)))) rfl) (fun _ => .or (c1 := false) (.is (.cmp (.name 5) (.ixDd hu (.name 1) 1 rfl rfl) (.neD hr.units (shp_mvL _) (shp_mvL _))) ?e1) (fun _ => .or1 (c := false) (.is (.cmp (.name 6) (.ixL (.ixDd hu (.name 1) 2 rfl rfl) (.neg .int) (atI_last7 _ _)) (.neD hr.units (shp_dP7 ps) (shp_dP7 ps))) (by rw [eqvD_refl (gd_dP ps).1]; rfl)))))) rfl) (fun h => by cases h) (fun _ => .nil ?_)
  case e1 =>
    rw [eqvD_refl (good_mvL _)]; rfl
  refine' Ws.if (b := false) (.is (.bool (.or (c1 := false) (.is (.not (.val (.isi ?i1 ?i2 (.name 5) kb_lst))) rfl) (fun _ => .or (c1 := false) (.is (.not (.val (.isi ?i3 ?i4 (.name 6) kb_lst))) rfl) (fun _ => .or1 (c := false) (.is (.not (c := true) (.val (.is (.allB (bs := ps.map fun _ => true) rfl ?i5 ?i6) (by simp)))) rfl))))) rfl) (fun h => by cases h) (fun _ => .nil ?_)
  case i1 => assumption
  case i2 => assumption
  case i3 => assumption
  case i4 => assumption
  case i5 => assumption
  case i6 =>
    refine' EvO.ev' (.comp (own := [("_law_row", 7)]) ps dI (fun _ => .sh (.bl true)) [7] (fun x => [dI x]) rfl sc_L_stands.nd (.list (.name 6)) (blkOk_by (N := n_L_stands) (sc := defScope s_L_stands) (by decide +kernel)) (by simp) (fun x _ s H C cl fp => .name 7 sc_L_stands.nd) (fun x _ s H C cl fp => Ev.evO ?g1) (Nat.lt_of_lt_of_le (m := 100000) (by omega) (by decide))) (truesM _)
    case g1 => exact .isi (by assumption) (by assumption) (.name 7) kb_lst
  refine' Ws.if (b := false) (.is (.not (c := true) (.val (.is (.allB (bs := (past.map (·.1)).map fun _ => true) rfl ?k1 ?k2) (by simp)))) rfl) (fun h => by cases h) (fun _ => .nil ?_)
  case k1 => assumption
  case k2 =>
    refine' EvO.ev' (.comp (own := [("_law_move", 9)]) (past.map (·.1)) mvD (fun _ => .sh (.bl true)) [9] (fun x => [mvD x]) rfl sc_L_stands.nd (.list (.name 5)) (blkOk_by (N := n_L_stands) (sc := defScope s_L_stands) (by decide +kernel)) (by simp) (fun x _ s H C cl fp => .name 9 sc_L_stands.nd) (fun x _ s H C cl fp => Ev.evO ?g2) (Nat.lt_of_lt_of_le (m := 100000) (by simp; omega) (by decide))) (truesM _)
    case g2 => exact .call (lkinds_ok T B x) (hr.mono (by decide)) (.one (.name 9)) (fun o e => by rw [e]; rfl)
  refine' Ws.forTest [7] (fun j => [dI (ps.getD j [])]) .never rfl (.list (.name 6)) ?c1 ?c2 ?_
  case c1 =>
    intro j d hd
    obtain ⟨hj, rfl⟩ := map_get hd
    exact .name 7 sc_L_stands.nd
  case c2 =>
    intro j d hd
    obtain ⟨hj, -⟩ := map_get hd
    have hl := hrow _ (getD_mem7 [] hj)
    generalize ps.getD j [] = row at hl
    refine' .is (.not (c := true) (.val (.is (.allB (bs := row.map fun _ => true) rfl ?d1 ?d2) (by simp)))) rfl
    case d1 => assumption
    case d2 =>
      refine' EvO.ev' (.comp (own := [("_law_piece", 10)]) row D.int (fun _ => .sh (.bl true)) [10] (fun x => [.int x]) rfl sc_L_stands.nd (.list (.name 7)) (blkOk_by (N := n_L_stands) (sc := defScope s_L_stands) (by decide +kernel)) (by simp) (fun x _ s H C cl fp => .name 10 sc_L_stands.nd) (fun x _ s H C cl fp => Ev.evO ?g3) (Nat.lt_of_lt_of_le (m := 100000) (by omega) (by decide))) (truesM _)
      case g3 => exact .call (whole_ok T B (.int x)) (hr.mono (by decide)) (.one (.name 10)) (fun o e => by rw [e]; rfl)
  have e6 : ps.map oI = (ps.map fun r => r.map D.int).map oL := by rw [List.map_map]; rfl
  have d6 : ∀ dss : List (List D), (O.ls (dss.map oL)).data = .lst (dss.map D.lst) := fun dss => by
    rw [O.data, dataAll_map, List.map_map]
    exact congrArg D.lst (List.map_congr_left fun k _ => oL_data k)
  rw [e6]
  refine' Ws.pinLs (i := 6) rfl (d6 _) ?p1 fun as has => ?_
  case p1 =>
    intro o ho
    obtain ⟨r, _, rfl⟩ := List.mem_map.mp ho
    rfl
  refine' Ws.pinTu (i := 4) (os := [oI ls, oM ms]) rfl (d' := .tup [.lst (ls.map D.int), .lst (ms.map mkD)]) (oS_data _ _) ?p2 fun a4 ha4 => ?_
  case p2 =>
    intro o ho
    simp at ho
    rcases ho with rfl | rfl <;> rfl
  obtain ⟨a1, a2, rfl⟩ : ∃ a1 a2, a4 = [a1, a2] := by
    match a4, ha4 with
    | [a1, a2], _ => exact ⟨a1, a2, rfl⟩
  refine' Ws.pin0 (i := 5) rfl rfl fun a3 => ?_
  have hok : ∀ ds ∈ (ls.map D.int) :: (ms.map mkD) :: ((past.map (·.1)).map mvD) :: (ps.map fun r => r.map D.int), OkD 0 ds := by
    intro ds hd
    have g1 : ∀ r : List Int, r.length ≤ 1000 → OkD 0 (r.map D.int) := fun r hr => ⟨by simp; omega, fun d hd => by
      obtain ⟨x, _, rfl⟩ := List.mem_map.mp hd
      exact ⟨by simp [D.good], by simp [D.deep], by simp [D.noOb]⟩⟩
    rcases List.mem_cons.mp hd with rfl | hd
    · exact g1 ls hlen
    · rcases List.mem_cons.mp hd with rfl | hd
      · exact ⟨by simp; omega, fun d hd => by
          obtain ⟨x, _, rfl⟩ := List.mem_map.mp hd
          exact ⟨by cases x <;> (simp [mkD, D.good]; decide +kernel), by cases x <;> simp [mkD, D.deep], by cases x <;> simp [mkD, D.noOb]⟩⟩
      · rcases List.mem_cons.mp hd with rfl | hd
        · exact ⟨by simp; omega, fun d hd => by
            obtain ⟨x, _, rfl⟩ := List.mem_map.mp hd
            exact ⟨mvD_good x, mvD_deep x, mvD_noOb x⟩⟩
        · obtain ⟨r, hr, rfl⟩ := List.mem_map.mp hd
          exact g1 r (hrow r hr)
  have hasl : as.length = (ps.map fun r => r.map D.int).length := by simpa using has
  have hdl : (ps.map fun r => r.map D.int).length ≤ 1000 := by simpa using hpl
  have h0 : Ws (cxOf CX0 P w K mg base n_L_stands "_law_stands" (defScope s_L_stands) f cdv A outer s H E).nox (RS (.ow (.pin a (foldO C ls ms ps past)) (foldD C ls ms ps past)) (.ow (.pin b (stateO cp ls ms ps past)) (stateD ls ms ps past)) (.ow (.pin c (oL hs)) (.lst hs)) turn a1 a2 a3 as (ps.map fun r => r.map D.int) (ls.map D.int) (ms.map mkD) ((past.map (·.1)).map mvD) none) ((defBody s_L_stands).drop 5) { nx := fun ρ => ∃ qs, Held [(a, foldO C ls ms ps past, foldD C ls ms ps past), (b, stateO cp ls ms ps past, stateD ls ms ps past), (c, oL hs, .lst hs)] qs ρ ∧ (∃ h, HeldOk h ∧ qs = [(foldO C ls ms ps past, foldD C ls ms ps past), (stateO cp ls ms ps past, stateD ls ms ps past), (oL (hs ++ [h]), .lst (hs ++ [h]))] ∧ (W.sh .non) = .sh (.bl true)), rt := fun _ => False, rs := fun ρ w => ∃ qs, Held [(a, foldO C ls ms ps past, foldD C ls ms ps past), (b, stateO cp ls ms ps past, stateD ls ms ps past), (c, oL hs, .lst hs)] qs ρ ∧ (∃ h, HeldOk h ∧ qs = [(foldO C ls ms ps past, foldD C ls ms ps past), (stateO cp ls ms ps past, stateD ls ms ps past), (oL (hs ++ [h]), .lst (hs ++ [h]))] ∧ w = .sh (.bl true)) } := by
    exact stands_tail T B hr _ _ c hs hh turn a1 a2 a3 as _ _ _ _ hasl hdl hok _ _ fun h x4 x5 x6 x7 x8 hH => ⟨_, held3 rfl rfl rfl, h, hH, rfl, rfl⟩
  exact h0

/-! ### what is no move -/
theorem eqv_pleat (k : Nat) (j : Int) : eqvD (mvD (.pleat k)) (.tup [.str "pleat", .int j]) = decide ((k : Int) = j) := by
  unfold eqvD mvD
  simp only [D.py, pyAll, PyData.eqv, PyData.eqvAll]
  by_cases h : (k : Int) = j <;> simp [h]
/-- what is no move is none of the moves -/
def NoMove (ls : List Int) (ms : List Bool) (d : D) : Prop := AskM d ∧ (isMoveF d = true → Shp d ∧ ((movesF ls ms).map mvD).any (fun z => eqvD z d) = false)
theorem any_none {L : List Mv} {d : D} (h : ∀ m ∈ L, eqvD (mvD m) d = false) : ((L.map mvD).any fun z => eqvD z d) = false := by
  rw [List.any_map, List.any_eq_false]
  intro m hm
  show ¬ eqvD (mvD m) d = true
  rw [h m hm]; simp
theorem shp_pl (x : Str) (i : Int) (h : PyData.strOk x = true) : Shp (.tup [.str x, .int i]) := shp_of (by simp [D.good, goodAll, h]) (by simp [D.deep, deepAll])
theorem ask_t1 {x : Str} (h : PyData.strOk x = true) : AskM (.tup [.str x]) := ⟨rfl, fun ds e => by cases e; exact ⟨by simp [D.isOb], by simp, fun _ => shp_of (by show D.good (.tup [.str x]) = true; simp [D.good, goodAll, h]) (by show D.deep (.tup [.str x]) ≤ _; simp [D.deep, deepAll])⟩⟩
theorem ask_t2 {x : Str} {y : D} (h : PyData.strOk x = true) (hy : y.isOb = false) : AskM (.tup [.str x, y]) := ⟨rfl, fun ds e => by cases e; exact ⟨fun z hz => by (rcases List.mem_cons.mp hz with rfl | hz; · rfl); rw [List.mem_singleton.mp hz]; exact hy, by simp, fun _ => shp_of (by show D.good (.tup [.str x]) = true; simp [D.good, goodAll, h]) (by show D.deep (.tup [.str x]) ≤ _; simp [D.deep, deepAll])⟩⟩
theorem no_pleat {ls : List Int} {ms : List Bool} {j : Int} (h : ∀ k : Nat, (k : Int) = j → Mv.pleat k ∉ movesF ls ms) : NoMove ls ms (.tup [.str "pleat", .int j]) :=
  ⟨ask_t2 (by decide +kernel) rfl, fun _ => ⟨shp_pl _ _ (by decide +kernel), any_none fun m hm => by
    cases m with
    | first => rfl
    | last => rfl
    | pleat k =>
      rw [eqv_pleat]
      exact decide_eq_false fun e => h k e hm⟩⟩
/-! ### _law_deed -/
def oddO (n : Nat) : List O := [.sh (.tup [.str "pleat", .int (n : Int)]), .sh (.tup [.str "first", .int 0]), .sh (.str "last"), .sh .non, .sh (.tup [.str "pleat", .bl true]), oL [.str "first"]]
def deedO (L : List Int) (M : List Bool) (cell : Int) : O :=
  if cell / 2 % 8 = 7 ∧ cell / 16 % 6 ≠ 3 then (oddO M.length).getD (cell / 16 % 6).toNat (.sh .non)
  else if 5 < cell / 2 % 8 ∨ (movesF L M).isEmpty = true then .sh .non
  else .sh (mvD ((movesF L M).getD (cell / 16 % ((movesF L M).length : Int)).toNat default))
/-- what may be asked to be done -/
inductive DeedOk (L : List Int) (M : List Bool) : D → Prop
  | move (m : Mv) (h : m ∈ movesF L M) : DeedOk L M (mvD m)
  | back : DeedOk L M .non
  | odd (d : D) (h1 : NoMove L M d) (h2 : d.isNon = false) (h3 : Shp d) (h4 : ((movesF L M).map mvD).any (fun z => eqvD z d) = false ∨ d = .tup [.str "pleat", .bl true]) : DeedOk L M d
theorem no_simple {ls : List Int} {ms : List Bool} (d : D) (h1 : AskM d) (h2 : isMoveF d = false) : NoMove ls ms d := ⟨h1, fun z => by rw [h2] at z; cases z⟩
theorem deed_free (L : List Int) (M : List Bool) (cell : Int) : (deedO L M cell).free = true ∧ DeedOk L M (deedO L M cell).data := by
  unfold deedO
  have z0 := Int.emod_nonneg (cell / 16) (show (6 : Int) ≠ 0 by decide)
  have z1 := Int.emod_lt_of_pos (cell / 16) (show (0 : Int) < 6 by decide)
  split
  · rename_i h
    have hk : (cell / 16 % 6).toNat = 0 ∨ (cell / 16 % 6).toNat = 1 ∨ (cell / 16 % 6).toNat = 2 ∨ (cell / 16 % 6).toNat = 4 ∨ (cell / 16 % 6).toNat = 5 := by
      have := h.2; omega
    have ntup : ∀ d : D, d.isOb = false → d.isTup = false → NoMove L M d := fun d h1 h2 => no_simple d ⟨h1, fun ds e => by subst e; cases h2⟩ (by cases d <;> first | rfl | cases h2)
    have hp : ∀ k, Mv.pleat k ∈ movesF L M → k + 1 < M.length := fun k hk => (moves_ok hk).1
    rcases hk with e | e | e | e | e <;> rw [e]
    · refine ⟨rfl, .odd _ (no_pleat fun k e z => by have := hp k z; omega) rfl (shp_pl _ _ (by decide +kernel)) (.inl (any_none fun m hm => ?_))⟩
      cases m with
      | first => rfl
      | last => rfl
      | pleat k => exact (eqv_pleat k _).trans (decide_eq_false fun e => by have := hp k hm; omega)
    · exact ⟨rfl, .odd _ ⟨ask_t2 (by decide +kernel) rfl, fun _ => ⟨shp_pl _ _ (by decide +kernel), any_none fun m _ => by cases m <;> rfl⟩⟩ rfl (shp_pl _ _ (by decide +kernel)) (.inl (any_none fun m _ => by cases m <;> rfl))⟩
    · exact ⟨rfl, .odd _ (ntup _ rfl rfl) rfl (shp_of (by show D.good (.str "last") = true; decide +kernel) (by show D.deep (.str "last") ≤ 64; simp [D.deep])) (.inl (any_none fun m _ => by cases m <;> rfl))⟩
    · exact ⟨rfl, .odd _ (no_simple _ (ask_t2 (by decide +kernel) rfl) rfl) rfl (shp_of (by show D.good (.tup [.str "pleat", .bl true]) = true; decide +kernel) (by show D.deep (.tup [.str "pleat", .bl true]) ≤ 64; simp [D.deep, deepAll])) (.inr rfl)⟩
    · have e5 : (oL [.str "first"]).data = .lst [.str "first"] := oL_data _
      refine ⟨rfl, ?_⟩
      show DeedOk L M (oL [.str "first"]).data
      rw [e5]
      exact .odd _ (ntup _ rfl rfl) rfl (shp_of (by decide +kernel) (by simp [D.deep, deepAll])) (.inl (any_none fun m _ => by cases m <;> rfl))
  · split
    · exact ⟨rfl, by rw [O.data]; exact .back⟩
    · rename_i _ h2
      have hne : movesF L M ≠ [] := fun e => h2 (.inr (by rw [e]; rfl))
      have hpos : 0 < (movesF L M).length := List.length_pos_iff.mpr hne
      have y0 := Int.emod_nonneg (cell / 16) (show ((movesF L M).length : Int) ≠ 0 by omega)
      have y1 := Int.emod_lt_of_pos (cell / 16) (show (0 : Int) < ((movesF L M).length : Int) by omega)
      have hk : (cell / 16 % ((movesF L M).length : Int)).toNat < (movesF L M).length := by omega
      refine ⟨?_, ?_⟩
      · rw [O.free]
        generalize (movesF L M).getD _ default = m
        cases m <;> simp [mvD, D.free, freeAll]
      · rw [O.data]
        exact .move _ (getD_mem7 _ hk)
theorem deed_ok (T : Fx K mg) (B : Bx mg) (L : List Int) (M : List Bool) (Q : List (List Int)) (past : Past) (cell : Int) (hl : L.length = M.length + 1) (hm : L.length ≤ 1000) :
    VF P w K mg base 2 "_law_deed" [stateD L M Q past, .int cell] (fun o => o = deedO L M cell) := by
  refine VF.of T.d_L_deed sc_L_deed rfl fun f cdv A outer s H E hr => ?_
  have hB := B; cases hB
  have hu : (cxOf CX0 P w K mg base n_L_deed "_law_deed" (defScope s_L_deed) f cdv A outer s H E).A.units + 1 < cLine := by have := hr.units; omega
  have z0 := Int.emod_nonneg (cell / 16) (show (6 : Int) ≠ 0 by decide)
  have z1 := Int.emod_lt_of_pos (cell / 16) (show (0 : Int) < 6 by decide)
  have cd : ∀ j : Int, 0 < j ∧ j < 1073741824 → CDiv cell j := fun j h => h
  refine' Ws.unpackS2 2 3 rfl sc_L_deed.nd (.sh (.ixL (.ixDd hu (.name 0) 0 rfl rfl) (.neg .int) (atI_last7 _ _)) ⟨rfl, ?_⟩)
  refine' Ws.asg 4 sc_L_deed.nd (.sh (d := mvL (movesF L M)) (.call (lmoves_ok T B L M hl hm) (hr.mono (by decide)) (.two (.name 2) (.name 3)) (fun o e => by rw [e]; exact oL_data _)) ?_)
  refine' Ws.asg 5 sc_L_deed.nd (.bor (d := .int (cell / 2 % 8)) (.mod (.div (.name 1) .int (cd _ (by decide))) .int (by decide)) rfl ?_)
  have tail : ∀ x6 : Option W, ¬ (cell / 2 % 8 = 7 ∧ cell / 16 % 6 ≠ 3) → Ws (cxOf CX0 P w K mg base n_L_deed "_law_deed" (defScope s_L_deed) f cdv A outer s H E).nox [some (.sh (stateD L M Q past)), some (.sh (.int cell)), some (.sh (dI L)), some (.sh (dM M)), some (.sh (mvL (movesF L M))), some (.sh (.int (cell / 2 % 8))), x6] ((defBody s_L_deed).drop 4) { nx := fun _ => O.sh .non = deedO L M cell, rt := fun o => o = deedO L M cell } := fun x6 hn => by
    refine' Ws.if (b := decide (5 < cell / 2 % 8) || (movesF L M).isEmpty) (.bool (.or (.cmp (.name 5) .int .gt) (c2 := (movesF L M).isEmpty) fun _ => .or1 (.is (.cmp (.name 4) (.list .nil) (.eqNil hr.units (shp_mvL _))) (by rw [List.isEmpty_map])))) (fun h => ?_) (fun h => .nil ?_)
    · refine' Ws.ret (.bor .non rfl ?_)
      show O.sh .non = _
      unfold deedO
      rw [if_neg hn, if_pos (by simpa using h)]
    · have hn2 : ¬ (5 < cell / 2 % 8 ∨ (movesF L M).isEmpty = true) := by
        simp only [Bool.or_eq_false_iff, decide_eq_false_iff_not] at h
        rintro (z | z)
        · exact h.1 z
        · rw [h.2] at z; cases z
      have hne : movesF L M ≠ [] := fun e => hn2 (.inr (by rw [e]; rfl))
      have hpos : 0 < (movesF L M).length := List.length_pos_iff.mpr hne
      have y0 := Int.emod_nonneg (cell / 16) (show ((movesF L M).length : Int) ≠ 0 by omega)
      have y1 := Int.emod_lt_of_pos (cell / 16) (show (0 : Int) < ((movesF L M).length : Int) by omega)
      refine' Ws.ret (.sh (d := mvD ((movesF L M).getD (cell / 16 % ((movesF L M).length : Int)).toNat default)) (.ixL (ds := (movesF L M).map mvD) (.name 4) (.mod (.div (.name 1) .int (cd _ (by decide))) (.is (d1 := .int ((movesF L M).length : Int)) (.lenL (ds := (movesF L M).map mvD) ?l1 (.name 4)) ?l2) (by omega)) ?l3) ?l4)
      case l1 => assumption
      case l2 => simp
      case l3 =>
        obtain ⟨k, hk⟩ := Int.eq_ofNat_of_zero_le y0
        rw [hk] at y1 ⊢
        have hk2 : k < (movesF L M).length := by omega
        unfold atI ixN
        rw [if_pos (by omega), if_pos (by simp; omega)]
        show ((movesF L M).map mvD)[(k : Int).toNat]? = _
        rw [Int.toNat_natCast, List.getElem?_map, List.getElem?_eq_getElem hk2, List.getD_eq_getElem?_getD, List.getElem?_eq_getElem hk2]; rfl
      case l4 =>
        show O.sh _ = _
        unfold deedO
        rw [if_neg hn, if_neg hn2]
  refine' Ws.if (b := decide (cell / 2 % 8 = 7)) (.cmp (.name 5) .int .eqI) (fun h7 => ?_) (fun h7 => .nil (tail none fun z => by simp at h7; exact h7 z.1))
  have e7 : cell / 2 % 8 = 7 := by simpa using h7
  have hk6 : (cell / 16 % 6).toNat < (oddO M.length).length := by show _ < 6; omega
  have hget : (oddO M.length)[(cell / 16 % 6).toNat]? = some ((oddO M.length).getD (cell / 16 % 6).toNat (.sh .non)) := by
    rw [List.getD_eq_getElem?_getD, List.getElem?_eq_getElem hk6]; rfl
  refine' Ws.asg 6 sc_L_deed.nd (.own (.ixO (cell / 16 % 6).toNat (.listO (os := oddO M.length) (.cons (Ev.evO (.tup (.two .str (.lenM ?m1 (.name 3))))) (.cons (Ev.evO (.tup (.two .str .int))) (.cons (Ev.evO .str) (.cons (Ev.evO .non) (.cons (Ev.evO (.tup (.two .str .bl))) (.cons (.list (.one .str)) .nil)))))) (by show 6 ≤ 1000; decide)) (.is (.mod (.div (.name 1) .int (cd _ (by decide))) .int (by decide)) ?m2) hget) rfl ?_)
  case m1 => assumption
  case m2 => rw [Int.toNat_of_nonneg z0]
  have hnon : (!((oddO M.length).getD (cell / 16 % 6).toNat (.sh .non)).data.isNon) = decide (cell / 16 % 6 ≠ 3) := by
    have : (cell / 16 % 6).toNat = 0 ∨ (cell / 16 % 6).toNat = 1 ∨ (cell / 16 % 6).toNat = 2 ∨ (cell / 16 % 6).toNat = 3 ∨ (cell / 16 % 6).toNat = 4 ∨ (cell / 16 % 6).toNat = 5 := by omega
    rcases this with e | e | e | e | e | e <;> rw [e]
    · rw [decide_eq_true (by omega)]; rfl
    · rw [decide_eq_true (by omega)]; rfl
    · rw [decide_eq_true (by omega)]; rfl
    · rw [decide_eq_false (by omega)]; rfl
    · rw [decide_eq_true (by omega)]; rfl
    · rw [decide_eq_true (by omega)]
      show (!(oL [.str "first"]).data.isNon) = true
      rw [oL_data]; rfl
  refine' Ws.if (b := decide (cell / 16 % 6 ≠ 3)) (.is (.cmp (.name 6) .non .isNotN) hnon) (fun h3 => ?_) (fun h3 => .nil (.nil (tail _ fun z => by simp at h3; exact z.2 h3)))
  refine' Ws.ret (.move 6 rfl rfl ?_)
  show _ = deedO L M cell
  unfold deedO
  rw [if_pos ⟨e7, by simpa using h3⟩]
  rfl

/-! ### what was done, plainly -/
inductive Kst : List Int → List Bool → List (List Int) → Past → Prop
  | init (L : List Int) (M : List Bool) (hl : L.length = M.length + 1) (h30 : L.length ≤ 30) : Kst L M (singles L.length) []
  | step (L : List Int) (M : List Bool) (Q : List (List Int)) (past : Past) (m : Mv) (h : Kst L M Q past) (ho : m.ok L M) : Kst (behindL L m) (behindM M m) (piledF Q M m) (past ++ [(m, (L, M), Q)])
theorem singles_flat7 (n : Nat) : (singles n).flatten.length = n := by
  unfold singles
  induction n with
  | zero => rfl
  | succ n ih => rw [List.range_succ, List.map_append, List.flatten_append, List.length_append, ih]; rfl
structure Kf (L : List Int) (M : List Bool) (Q : List (List Int)) (past : Past) : Prop where
  len : L.length = M.length + 1
  sum : past.length + L.length ≤ 30
  pl : Q.length = M.length + 1
  flat : Q.flatten.length ≤ 30
theorem Kst.facts {L : List Int} {M : List Bool} {Q : List (List Int)} {past : Past} (h : Kst L M Q past) : Kf L M Q past := by
  induction h with
  | init L M hl h30 => exact ⟨hl, by simpa using h30, by unfold singles; simp [hl], by rw [singles_flat7]; exact h30⟩
  | step L M Q past m h ho ih =>
    obtain ⟨b1, b2⟩ := behind_len ho ih.len
    have := ih.sum
    have := ih.len
    exact ⟨b1, by simp; omega, piled_len Q L M m ho ih.pl, by rw [(piled_perm Q L M m ho ih.pl).length_eq]; exact ih.flat⟩
theorem Kf.row {L : List Int} {M : List Bool} {Q : List (List Int)} {past : Past} (F : Kf L M Q past) : ∀ r ∈ Q, r.length ≤ 1000 := fun r hr => by
  have := (List.sublist_flatten_of_mem hr).length_le
  have := F.flat
  omega
theorem ask_mv (m : Mv) : AskM (mvD m) := by
  cases m with
  | first => exact ask_t1 (by decide +kernel)
  | last => exact ask_t1 (by decide +kernel)
  | pleat k => exact ask_t2 (by decide +kernel) rfl
theorem eqv_mv7 {m m' : Mv} (h : m' ≠ m) : eqvD (mvD m') (mvD m) = false := by
  cases m with
  | first => cases m' <;> first | exact absurd rfl h | rfl | decide +kernel
  | last => cases m' <;> first | exact absurd rfl h | rfl | decide +kernel
  | pleat j =>
    cases m' with
    | first => rfl
    | last => rfl
    | pleat k => exact (eqv_pleat k _).trans (decide_eq_false fun e => h (by rw [Int.ofNat.inj e]))
theorem deed_mv (L : List Int) (M : List Bool) (m : Mv) : DeedOk L M (mvD m) := by
  by_cases h : m ∈ movesF L M
  · exact .move m h
  · have ha : ((movesF L M).map mvD).any (fun z => eqvD z (mvD m)) = false := any_none fun m' hm' => eqv_mv7 fun e => h (e ▸ hm')
    exact .odd _ ⟨ask_mv m, fun _ => ⟨shp_mv m, ha⟩⟩ (by cases m <;> rfl) (shp_mv m) (.inl ha)
theorem stO_step (c : Addr) (L L' : List Int) (M M' : List Bool) (Q Q' : List (List Int)) (past : Past) (m : Mv) : stateO c L' M' Q' (past ++ [(m, (L, M), Q)]) = .dd keysS [oL (stS L M past ++ [dS L' M']), oL (stM past ++ [mvD m]), .pin c (oL (stP Q past ++ [dP Q']))] := by
  unfold stateO stS stM stP
  simp [List.map_append]
theorem stD_step (L L' : List Int) (M M' : List Bool) (Q Q' : List (List Int)) (past : Past) (m : Mv) : stateD L' M' Q' (past ++ [(m, (L, M), Q)]) = .dd keysS [.lst (stS L M past ++ [dS L' M']), .lst (stM past ++ [mvD m]), .lst (stP Q past ++ [dP Q'])] := by
  unfold stateD stS stM stP
  simp [List.map_append]
theorem st_data (b c : Addr) (x y z : List D) : (O.pin b (.dd keysS [oL x, oL y, .pin c (oL z)])).data = .dd keysS [.lst x, .lst y, .lst z] := by
  rw [O.data, O.data, dataAll, dataAll, dataAll, dataAll, O.data, oL_data, oL_data, oL_data]
theorem shp_word (j : Nat) (h : j = 2 ∨ j = 3) : Shp (wordE j) ∧ (wordE j).good = true := by
  rcases h with rfl | rfl <;> exact ⟨shp_of (by decide +kernel) (by show D.deep (.tup [.str _, .lst [.str _]]) ≤ 64; simp [D.deep, deepAll]), by decide +kernel⟩
theorem gd_told (d : D) (h : d.good = true) (h2 : d.deep ≤ 1) : Shp (.tup [.str "told", d]) ∧ (D.tup [.str "told", d]).good = true := by
  have g : (D.tup [.str "told", d]).good = true := by
    rw [D.good, goodAll, goodAll, goodAll, h]
    show (PyData.strOk "told" && (true && true)) = true
    decide +kernel
  exact ⟨shp_of g (by simp [D.deep, deepAll]; omega), g⟩
theorem stS_noOb (L : List Int) (M : List Bool) : (dS L M).noOb = true := dS_noOb L M

theorem step_move {C : Addr} (T : Fx K mg) (B : Bx mg) (Cf : Cl_Fold K mg C) (a b cp : Addr) (L : List Int) (M : List Bool) (Q : List (List Int)) (past : Past) (m : Mv) (hk : Kst L M Q past) (hm : m ∈ movesF L M) :
    GF P w K mg base 6 "_law_step" [(a, foldO C L M Q past, foldD C L M Q past), (b, stateO cp L M Q past, stateD L M Q past)] [mvD m]
      (fun qs w => qs = [(foldO C (behindL L m) (behindM M m) (piledF Q M m) (past ++ [(m, (L, M), Q)]), foldD C (behindL L m) (behindM M m) (piledF Q M m) (past ++ [(m, (L, M), Q)])), (stateO cp (behindL L m) (behindM M m) (piledF Q M m) (past ++ [(m, (L, M), Q)]), stateD (behindL L m) (behindM M m) (piledF Q M m) (past ++ [(m, (L, M), Q)]))] ∧ w = .sh (.bl true)) := by
  have F := hk.facts
  have s1 := F.sum
  have s2 := F.len
  have s3 := F.flat
  have ho := moves_ok hm
  refine GF.of T.d_L_step sc_L_step rfl fun f cdv A outer s H E hr => ?_
  have hB := B; cases hB
  have hu : (cxOf CX0 P w K mg base n_L_step "_law_step" (defScope s_L_step) f cdv A outer s H E).nox.A.units + 1 < cLine := by have := hr.units; show (cxOf CX0 P w K mg base n_L_step "_law_step" (defScope s_L_step) f cdv A outer s H E).A.units + 1 < cLine; omega
  have hu65 : (cxOf CX0 P w K mg base n_L_step "_law_step" (defScope s_L_step) f cdv A outer s H E).nox.A.units + 65 < cLine := units65 hr
  have hfree : freeAll [mvD m] = true := by cases m <;> simp [mvD, D.free, freeAll]
  have hnon : (mvD m).isNon = false := by cases m <;> rfl
  refine' Ws.asg 3 sc_L_step.nd (.callG (ps := [.slot 0 a (foldO C L M Q past) (foldD C L M Q past)]) (done_take_ok T B Cf a L M Q past m ho F.len (by omega) F.pl (by omega) (by omega)) (hr.mono (by decide)) (.cons (.of (.name 0)) .nil) (.one (.name 2)) hfree ⟨rfl, trivial⟩ ?ok0 fun qs w hl hq => ?_)
  case ok0 =>
    intro p hp
    obtain rfl := List.mem_singleton.mp hp
    rfl
  obtain ⟨rfl, rfl⟩ := hq
  refine ⟨⟨by show 0 < 6; decide, trivial⟩, ?_⟩
  refine' Ws.if (b := false) (.bool (.and (c1 := false) (c2 := false) (.is (.cmp (.name 2) .non .isN) hnon) (fun h => by cases h))) (fun h => by cases h) (fun _ => .nil ?_)
  refine' Ws.if (b := false) (.is (.cmp (.name 2) .non .isN) hnon) (fun h => by cases h) (fun _ => .nil ?_)
  refine' Ws.unpackS2 4 5 rfl sc_L_step.nd (.item 1 [.pin, .key 0 (.inr "strips")] (((Rcv.name 1).pin).key 0 hu) (.neg .int) (ds := stS L M past) rfl (atI_last7 _ _) ⟨rfl, ?_⟩)
  refine' Ws.if (b := false) (.is (.bool (.or (c1 := false) ?t1 (fun _ => .or1 (c := false) (.is (.bool (.and (c1 := eqvD (mvD m) (.tup [.str "pleat", .bl true])) (c2 := false) (.cmp (.name 2) (.tup (.two .str .bl)) (.eqD hr.units (shp_mv m) ?t2)) fun h => ?t3)) (Bool.and_false _))))) rfl) (fun h => by cases h) (fun _ => .nil ?_)
  case t1 =>
    refine' EvT.is (.cmp (.name 2) (d2 := mvL (movesF L M)) ?u1 (.notInD hu65 (shp_mv m) (shp_mvL _)) rfl) (by rw [mv_any hm]; rfl)
    case u1 => exact .call (lmoves_ok T B L M F.len (by omega)) (hr.mono (by decide)) (.two (.name 4) (.name 5)) (fun o e => by rw [e]; exact oL_data _)
  case t2 => exact shp_of (by decide +kernel) (by simp [D.deep, deepAll])
  case t3 =>
    cases m with
    | first => cases (show eqvD (.tup [.str "first"]) (.tup [.str "pleat", .bl true]) = false by decide +kernel).symm.trans h
    | last => cases (show eqvD (.tup [.str "last"]) (.tup [.str "pleat", .bl true]) = false by decide +kernel).symm.trans h
    | pleat k => exact .and1 (.cmp (.ixT1 (.name 2)) .bl .isIB)
  refine' Ws.appendE (c := cp) (o := .pin b (stateO cp L M Q past)) (ds := stP Q past) (d := dP (piledF Q M m)) 1 [.pin, .key 2 (.inr "piles")] (((Rcv.name 1).pin).key 2 hu) (.shr (.callS (f' := fun _ => dP (piledF Q M m)) (lpiled_ok T B Q L M m ho F.pl (by have := F.pl; omega) (by omega)) (hr.mono (by decide)) (.cons (.item 1 [.pin, .key 2 (.inr "piles"), .pin] ((((Rcv.name 1).pin).key 2 hu).pin) (.neg .int) (ds := stP Q past) rfl (atI_last7 _ _) ⟨rfl, rfl⟩) (.cons (.sh (.name 5) ⟨rfl, rfl⟩) (.cons (.sh (.name 2) ⟨rfl, rfl⟩) .nil))) (fun o e => by rw [e]; exact oL_data _) fun o e => ⟨⟨_, rfl⟩, rfl, rfl⟩)) rfl (st_data b cp _ _ _) ?_ (by unfold stP; simp; omega)
  refine' Ws.appendV (o := .pin b (.dd keysS [oL (stS L M past), oL (stM past), .pin cp (oL (stP Q past ++ [dP (piledF Q M m)]))])) (ds := stS L M past) (d := dS (behindL L m) (behindM M m)) 1 [.pin, .key 0 (.inr "strips")] (((Rcv.name 1).pin).key 0 hu) (.call (lbehind_ok T B L M m ho F.len (by omega)) (hr.mono (by decide)) (.cons (.name 4) (.two (.name 5) (.name 2))) (fun o e => by rw [e]; exact oS_data _ _)) (dS_noOb _ _) rfl (st_data b cp _ _ _) ?_ (by unfold stS; simp; omega)
  refine' Ws.appendV (o := .pin b (.dd keysS [oL (stS L M past ++ [dS (behindL L m) (behindM M m)]), oL (stM past), .pin cp (oL (stP Q past ++ [dP (piledF Q M m)]))])) (ds := stM past) (d := mvD m) 1 [.pin, .key 1 (.inr "moves")] (((Rcv.name 1).pin).key 1 hu) (.name 2) (mvD_noOb _) rfl (st_data b cp _ _ _) ?_ (by unfold stM; simp; omega)
  have gt := gd_told .non (by simp [D.good]) (by simp [D.deep])
  refine' Ws.retS (.bor (d := .bl true) (.is (.cmp (.name 3) (.tup (.two .str .non)) (.eqD hr.units gt.1 gt.1)) (by rw [eqvD_refl gt.2])) rfl ⟨[(foldO C (behindL L m) (behindM M m) (piledF Q M m) (past ++ [(m, (L, M), Q)]), foldD C (behindL L m) (behindM M m) (piledF Q M m) (past ++ [(m, (L, M), Q)])), (.dd keysS [oL (stS L M past ++ [dS (behindL L m) (behindM M m)]), oL (stM past ++ [mvD m]), .pin cp (oL (stP Q past ++ [dP (piledF Q M m)]))], .dd keysS [.lst (stS L M past ++ [dS (behindL L m) (behindM M m)]), .lst (stM past ++ [mvD m]), .lst (stP Q past ++ [dP (piledF Q M m)])])], held2 rfl rfl, ?_, rfl⟩)
  rw [stO_step, stD_step]
theorem step_back {C : Addr} (T : Fx K mg) (B : Bx mg) (Cf : Cl_Fold K mg C) (a b cp : Addr) (L L' : List Int) (M M' : List Bool) (Q Q' : List (List Int)) (past : Past) (m : Mv) (hz : past.length ≤ 1000) :
    GF P w K mg base 6 "_law_step" [(a, foldO C L' M' Q' (past ++ [(m, (L, M), Q)]), foldD C L' M' Q' (past ++ [(m, (L, M), Q)])), (b, stateO cp L' M' Q' (past ++ [(m, (L, M), Q)]), stateD L' M' Q' (past ++ [(m, (L, M), Q)]))] [.non]
      (fun qs w => qs = [(foldO C L M Q past, foldD C L M Q past), (stateO cp L M Q past, stateD L M Q past)] ∧ w = .sh (.bl true)) := by
  rw [stO_step, stD_step]
  refine GF.of T.d_L_step sc_L_step rfl fun f cdv A outer s H E hr => ?_
  have hB := B; cases hB
  have hu : (cxOf CX0 P w K mg base n_L_step "_law_step" (defScope s_L_step) f cdv A outer s H E).nox.A.units + 1 < cLine := by have := hr.units; show (cxOf CX0 P w K mg base n_L_step "_law_step" (defScope s_L_step) f cdv A outer s H E).A.units + 1 < cLine; omega
  refine' Ws.asg 3 sc_L_step.nd (.callG (ps := [.slot 0 a (foldO C L' M' Q' (past ++ [(m, (L, M), Q)])) (foldD C L' M' Q' (past ++ [(m, (L, M), Q)]))]) (done_back_ok T B Cf a L L' M M' Q Q' past m) (hr.mono (by decide)) (.cons (.of (.name 0)) .nil) (.one (.name 2)) rfl ⟨rfl, trivial⟩ ?ok0 fun qs w hl hq => ?_)
  case ok0 =>
    intro p hp
    obtain rfl := List.mem_singleton.mp hp
    rfl
  obtain ⟨rfl, rfl⟩ := hq
  refine ⟨⟨by show 0 < 6; decide, trivial⟩, ?_⟩
  have hsh : Shp (.lst (stM past ++ [mvD m])) := by
    have : stM past ++ [mvD m] = (past.map (·.1) ++ [m]).map mvD := by unfold stM; simp
    rw [this]; exact shp_mvL _
  refine' Ws.if (b := false) (.bool (.and (c1 := true) (c2 := false) (.is (.cmp (.name 2) .non .isN) rfl) (fun h => .and1 (.is (.cmp (.ixDd hu (.name 1) 1 rfl rfl) (.list .nil) (.eqNil hr.units hsh)) (by simp))))) (fun h => by cases h) (fun _ => .nil ?_)
  refine' Ws.if (b := true) (.is (.cmp (.name 2) .non .isN) rfl) (fun _ => ?_) (fun h => by cases h)
  refine' Ws.expr (.popP (o := .pin b (.dd keysS [oL (stS L M past ++ [dS L' M']), oL (stM past ++ [mvD m]), .pin cp (oL (stP Q past ++ [dP Q']))])) (ds := stS L M past) (d := dS L' M') 1 [.pin, .key 0 (.inr "strips")] (((Rcv.name 1).pin).key 0 hu) rfl (st_data b cp _ _ _) ?_)
  refine' Ws.expr (.popP (o := .pin b (.dd keysS [oL (stS L M past), oL (stM past ++ [mvD m]), .pin cp (oL (stP Q past ++ [dP Q']))])) (ds := stP Q past) (d := dP Q') 1 [.pin, .key 2 (.inr "piles"), .pin] ((((Rcv.name 1).pin).key 2 hu).pin) rfl (st_data b cp _ _ _) ?_)
  have gt := gd_told (mvD m) (mvD_good m) (mvD_deep m)
  refine' Ws.retS (.and (.cmpW (.name 3) (.eqD hr.units gt.1 gt.1) (.tupS (.popP (o := .pin b (.dd keysS [oL (stS L M past), oL (stM past ++ [mvD m]), .pin cp (oL (stP Q past))])) (ds := stM past) (d := mvD m) 1 [.pin, .key 1 (.inr "moves")] (((Rcv.name 1).pin).key 1 hu) rfl (st_data b cp _ _ _) ⟨_, rfl, rfl, by rw [eqvD_refl gt.2], ?_⟩))))
  exact .one (.bor (d := .bl true) (.call (lkinds_ok T B m) (hr.mono (by decide)) (.one (.ixT1 (.name 3))) (fun o e => by rw [e]; rfl)) rfl ⟨[(foldO C L M Q past, foldD C L M Q past), (.dd keysS [oL (stS L M past), oL (stM past), .pin cp (oL (stP Q past))], .dd keysS [.lst (stS L M past), .lst (stM past), .lst (stP Q past)])], held2 rfl rfl, rfl, rfl⟩)
/-- refused, nothing changes -/
theorem step_none {C : Addr} (T : Fx K mg) (B : Bx mg) (Cf : Cl_Fold K mg C) {Dx Fx' : Addr} (W : ErrW K mg 3 "NothingDone" Dx Fx') (a b cp : Addr) (L : List Int) (M : List Bool) (Q : List (List Int)) :
    GF P w K mg base 6 "_law_step" [(a, foldO C L M Q [], foldD C L M Q []), (b, stateO cp L M Q [], stateD L M Q [])] [.non]
      (fun qs w => qs = [(foldO C L M Q [], foldD C L M Q []), (stateO cp L M Q [], stateD L M Q [])] ∧ w = .sh (.bl true)) := by
  refine GF.of T.d_L_step sc_L_step rfl fun f cdv A outer s H E hr => ?_
  have hB := B; cases hB
  have hu : (cxOf CX0 P w K mg base n_L_step "_law_step" (defScope s_L_step) f cdv A outer s H E).nox.A.units + 1 < cLine := by have := hr.units; show (cxOf CX0 P w K mg base n_L_step "_law_step" (defScope s_L_step) f cdv A outer s H E).A.units + 1 < cLine; omega
  refine' Ws.asg 3 sc_L_step.nd (.borN (post := fun o => o.data = wordE 3 ∧ o.free = true) (fun _ => wordE 3) (.call (doneN_ok T B Cf W (.inr rfl) [dS L M, dP Q, .lst []] .non (.inl ⟨rfl, backN_ok T B Cf W _ _⟩)) (hr.mono (by decide)) (.two (.name 0) (.name 2))) (fun o h => h.2) (fun o h => h.1) fun o h => ?_)
  refine Ws.share (i := 3) rfl ?_
  refine' Ws.if (b := true) (.bool (.and (c1 := true) (c2 := true) (.is (.cmp (.name 2) .non .isN) rfl) (fun h => .and1 (.is (.cmp (.ixDd hu (.name 1) 1 rfl rfl) (.list .nil) (.eqNil hr.units (shp_mvL []))) rfl)))) (fun _ => ?_) (fun h => by cases h)
  have sw := shp_word 3 (.inr rfl)
  refine' Ws.retS (.bor (d := .bl true) (.is (.cmp (d2 := wordE 3) (.name 3) (.tup (.two .str (.list (.one .str)))) (.eqD hr.units sw.1 sw.1)) (by rw [eqvD_refl sw.2])) rfl ⟨[(foldO C L M Q [], foldD C L M Q []), (stateO cp L M Q [], stateD L M Q [])], held2 rfl rfl, rfl, rfl⟩)
theorem step_odd {C : Addr} (T : Fx K mg) (B : Bx mg) (Cf : Cl_Fold K mg C) {Dx Fx' : Addr} (W : ErrW K mg 2 "NoFold" Dx Fx') (a b cp : Addr) (L : List Int) (M : List Bool) (Q : List (List Int)) (past : Past) (d : D) (hl : L.length = M.length + 1) (hm : L.length ≤ 1000)
    (h1 : NoMove L M d) (h2 : d.isNon = false) (h3 : Shp d) (h4 : ((movesF L M).map mvD).any (fun z => eqvD z d) = false ∨ d = .tup [.str "pleat", .bl true]) :
    GF P w K mg base 6 "_law_step" [(a, foldO C L M Q past, foldD C L M Q past), (b, stateO cp L M Q past, stateD L M Q past)] [d]
      (fun qs w => qs = [(foldO C L M Q past, foldD C L M Q past), (stateO cp L M Q past, stateD L M Q past)] ∧ w = .sh (.bl true)) := by
  refine GF.of T.d_L_step sc_L_step rfl fun f cdv A outer s H E hr => ?_
  have hB := B; cases hB
  have hu : (cxOf CX0 P w K mg base n_L_step "_law_step" (defScope s_L_step) f cdv A outer s H E).nox.A.units + 1 < cLine := by have := hr.units; show (cxOf CX0 P w K mg base n_L_step "_law_step" (defScope s_L_step) f cdv A outer s H E).A.units + 1 < cLine; omega
  have hu65 : (cxOf CX0 P w K mg base n_L_step "_law_step" (defScope s_L_step) f cdv A outer s H E).nox.A.units + 65 < cLine := units65 hr
  refine' Ws.asg 3 sc_L_step.nd (.borN (post := fun o => o.data = wordE 2 ∧ o.free = true) (fun _ => wordE 2) (.call (doneN_ok T B Cf W (.inl rfl) [dS L M, dP Q, .lst (past.map pastD)] d (.inr ⟨h2, takeN_ok T B Cf W L M _ _ d h1.1 h1.2 hl hm⟩)) (hr.mono (by decide)) (.two (.name 0) (.name 2))) (fun o h => h.2) (fun o h => h.1) fun o h => ?_)
  refine Ws.share (i := 3) rfl ?_
  refine' Ws.if (b := false) (.bool (.and (c1 := false) (c2 := false) (.is (.cmp (.name 2) .non .isN) h2) (fun h => by cases h))) (fun h => by cases h) (fun _ => .nil ?_)
  refine' Ws.if (b := false) (.is (.cmp (.name 2) .non .isN) h2) (fun h => by cases h) (fun _ => .nil ?_)
  refine' Ws.unpackS2 4 5 rfl sc_L_step.nd (.item 1 [.pin, .key 0 (.inr "strips")] (((Rcv.name 1).pin).key 0 hu) (.neg .int) (ds := stS L M past) rfl (atI_last7 _ _) ⟨rfl, ?_⟩)
  refine' Ws.if (b := true) (.is (.bool (.or (c1 := !((movesF L M).map mvD).any (fun z => eqvD z d)) ?t1 (c2 := true) (fun hc => .or1 (.bool (.and (c1 := true) (c2 := true) ?t2 fun h => ?t3))))) (Bool.or_true _)) (fun _ => ?_) (fun h => by cases h)
  case t1 =>
    refine' EvT.cmp (.name 2) (d2 := mvL (movesF L M)) ?u1 (.notInD hu65 h3 (shp_mvL _)) rfl
    case u1 => exact .call (lmoves_ok T B L M hl hm) (hr.mono (by decide)) (.two (.name 4) (.name 5)) (fun o e => by rw [e]; exact oL_data _)
  case t2 =>
    rcases h4 with h4 | rfl
    · rw [h4] at hc; cases hc
    · exact .is (.cmp (.name 2) (.tup (.two .str .bl)) (.eqD hr.units h3 h3)) (by decide +kernel)
  case t3 =>
    rcases h4 with h4 | rfl
    · rw [h4] at hc; cases hc
    · exact .and1 (.cmp (.ixT1 (.name 2)) .bl .isB)
  have sw := shp_word 2 (.inl rfl)
  refine' Ws.retS (.bor (d := .bl true) (.is (.cmp (d2 := wordE 2) (.name 3) (.tup (.two .str (.list (.one .str)))) (.eqD hr.units sw.1 sw.1)) (by rw [eqvD_refl sw.2])) rfl ⟨[(foldO C L M Q past, foldD C L M Q past), (stateO cp L M Q past, stateD L M Q past)], held2 rfl rfl, rfl, rfl⟩)

theorem GF.mono {k : Nat} {x : Str} {as : List (Addr × O × D)} {ds : List D} {post post' : List (O × D) → W → Prop} (F : GF P w K mg base k x as ds post) (h : ∀ qs w, post qs w → post' qs w) : GF P w K mg base k x as ds post' := by
  obtain ⟨f, fd, ps, h1, h2, h3, h4⟩ := F.ex
  exact ⟨f, fd, ps, h1, h2, h3, h4.imp fun vs H Q E ⟨l, F, EA, k⟩ => ⟨l, F, EA, fun ws' w r H' lw ⟨qs, a, b, p⟩ => k ws' w r H' lw ⟨qs, a, b, h _ _ p⟩⟩⟩
/-- behind a deed -/
def StPost (C cp : Addr) (L : List Int) (M : List Bool) (d : D) (qs : List (O × D)) (w : W) : Prop := ∃ L' M' Q' past', Kst L' M' Q' past' ∧ qs = [(foldO C L' M' Q' past', foldD C L' M' Q' past'), (stateO cp L' M' Q' past', stateD L' M' Q' past')] ∧ w = .sh (.bl true) ∧ ∀ m, d = mvD m → m ∈ movesF L M → L'.length < L.length
theorem step_all {C : Addr} (T : Fx K mg) (B : Bx mg) (Cf : Cl_Fold K mg C) {D2 F2 D3 F3 : Addr} (W2 : ErrW K mg 2 "NoFold" D2 F2) (W3 : ErrW K mg 3 "NothingDone" D3 F3) (a b cp : Addr) (L : List Int) (M : List Bool) (Q : List (List Int)) (past : Past) (d : D) (hk : Kst L M Q past) (hd : DeedOk L M d) :
    GF P w K mg base 6 "_law_step" [(a, foldO C L M Q past, foldD C L M Q past), (b, stateO cp L M Q past, stateD L M Q past)] [d] (StPost C cp L M d) := by
  have F := hk.facts
  have s1 := F.sum
  have s2 := F.len
  cases hd with
  | move m h =>
    refine (step_move T B Cf a b cp L M Q past m hk h).mono fun qs w ⟨e1, e2⟩ => ⟨_, _, _, _, .step L M Q past m hk (moves_ok h), e1, e2, fun _ _ _ => ?_⟩
    obtain ⟨b1, b2⟩ := behind_len (moves_ok h) F.len
    omega
  | back =>
    have hno : ∀ m, D.non = mvD m → False := fun m e => by cases m <;> cases e
    cases hk with
    | init L M hl h30 => exact (step_none T B Cf W3 a b cp L M _).mono fun qs w ⟨e1, e2⟩ => ⟨_, _, _, _, .init L M hl h30, e1, e2, fun m e => (hno m e).elim⟩
    | step L M Q past m h ho => exact (step_back T B Cf a b cp L _ M _ Q _ past m (by simp at s1; omega)).mono fun qs w ⟨e1, e2⟩ => ⟨_, _, _, _, h, e1, e2, fun m e => (hno m e).elim⟩
  | odd d h1 h2 h3 h4 =>
    refine (step_odd T B Cf W2 a b cp L M Q past d F.len (by omega) h1 h2 h3 h4).mono fun qs w ⟨e1, e2⟩ => ⟨_, _, _, _, hk, e1, e2, fun m e hm => ?_⟩
    subst e
    rcases h4 with h4 | h4
    · rw [mv_any hm] at h4; cases h4
    · cases m <;> cases h4
theorem again_ok {C : Addr} (T : Fx K mg) (B : Bx mg) (Cf : Cl_Fold K mg C) {D2 F2 D3 F3 : Addr} (W2 : ErrW K mg 2 "NoFold" D2 F2) (W3 : ErrW K mg 3 "NothingDone" D3 F3) (a b cp : Addr) (L : List Int) (M : List Bool) (Q : List (List Int)) (past : Past) (hk : Kst L M Q past) :
    GF P w K mg base 7 "_law_again" [(a, foldO C L M Q past, foldD C L M Q past), (b, stateO cp L M Q past, stateD L M Q past)] [] (StPost C cp L M .non) := by
  have F := hk.facts
  have s1 := F.sum
  have hno : ∀ m, D.non = mvD m → False := fun m e => by cases m <;> cases e
  refine GF.of T.d_L_again sc_L_again rfl fun f cdv A outer s H E hr => ?_
  have hB := B; cases hB
  have hu : (cxOf CX0 P w K mg base n_L_again "_law_again" (defScope s_L_again) f cdv A outer s H E).nox.A.units + 1 < cLine := by have := hr.units; show (cxOf CX0 P w K mg base n_L_again "_law_again" (defScope s_L_again) f cdv A outer s H E).A.units + 1 < cLine; omega
  have hu65 : (cxOf CX0 P w K mg base n_L_again "_law_again" (defScope s_L_again) f cdv A outer s H E).nox.A.units + 65 < cLine := units65 hr
  refine' Ws.unpackS2 2 3 rfl sc_L_again.nd (.item 1 [.pin, .key 0 (.inr "strips")] (((Rcv.name 1).pin).key 0 hu) (.neg .int) (ds := stS L M past) rfl (atI_last7 _ _) ⟨rfl, ?_⟩)
  refine' Ws.asg 4 sc_L_again.nd (.sh (d := mvL (movesF L M)) (.call (lmoves_ok T B L M F.len (by omega)) (hr.mono (by decide)) (.two (.name 2) (.name 3)) (fun o e => by rw [e]; exact oL_data _)) ?_)
  refine' Ws.if (b := (movesF L M).isEmpty) (.is (.cmp (.name 4) (.list .nil) (.eqNil hr.units (shp_mvL _))) (by rw [List.isEmpty_map])) (fun he => ?_) (fun he => .nil ?_)
  · exact Ws.retS (.bor .bl rfl ⟨_, held2 (q := (foldO C L M Q past, foldD C L M Q past)) (r := (stateO cp L M Q past, stateD L M Q past)) rfl rfl, L, M, Q, past, hk, rfl, rfl, fun m e => (hno m e).elim⟩)
  obtain ⟨m, hat⟩ : ∃ m, atI ((movesF L M).map mvD) (-1) = some (mvD m) := by
    rcases List.eq_nil_or_concat (movesF L M) with e | ⟨i, m, e⟩
    · rw [e] at he; cases he
    · exact ⟨m, by rw [e, List.concat_eq_append, List.map_append]; exact atI_last7 _ _⟩
  refine' Ws.asg 5 sc_L_again.nd (.sh (d := mvD m) (.ixL (.name 4) (.neg .int) hat) ?_)
  have hfree : freeAll [mvD m] = true := by cases m <;> simp [mvD, D.free, freeAll]
  have hstep := fun L M Q past (hk : Kst L M Q past) d (hd : DeedOk L M d) => step_all (P := P) (w := w) (base := base) T B Cf W2 W3 a b cp L M Q past d hk hd
  refine' Ws.while (fun n ρ' => ∃ L M Q past x4, Kst L M Q past ∧ n = L.length ∧ ρ' = [some (.ow (.pin a (foldO C L M Q past)) (foldD C L M Q past)), some (.ow (.pin b (stateO cp L M Q past)) (stateD L M Q past)), some (.sh (dI L)), some (.sh (dM M)), x4, some (.sh (mvD m))]) .never L.length ⟨L, M, Q, past, _, hk, rfl, rfl⟩ ?hb
  case hb =>
    rintro n ρ' ⟨L, M, Q, past, x4, hk, rfl, rfl⟩ -
    have F := hk.facts
    have s1 := F.sum
    have ok2 : ∀ p ∈ [PSp.slot 0 a (foldO C L M Q past) (foldD C L M Q past), .slot 1 b (stateO cp L M Q past) (stateD L M Q past)], p.ok [some (.ow (.pin a (foldO C L M Q past)) (foldD C L M Q past)), some (.ow (.pin b (stateO cp L M Q past)) (stateD L M Q past)), some (.sh (dI L)), some (.sh (dM M)), x4, some (.sh (mvD m))] := fun p hp => by
      rcases List.mem_cons.mp hp with rfl | hp
      · rfl
      · obtain rfl := List.mem_singleton.mp hp
        rfl
    refine ⟨((movesF L M).map mvD).any (fun z => eqvD z (mvD m)), .cmp (.name 5) (d2 := mvL (movesF L M)) ?c1 (.inD hu65 (shp_mv m) (shp_mvL _)) rfl, fun hb => ?_, fun hb => ?_⟩
    case c1 => exact .call (lmoves_ok T B L M F.len (by omega)) (hr.mono (by decide)) (.two (.name 2) (.name 3)) (fun o e => by rw [e]; exact oL_data _)
    · have hm : m ∈ movesF L M := by
        rw [List.any_map, List.any_eq_true] at hb
        obtain ⟨m', h1, h2⟩ := hb
        have : m' = m := Classical.byContradiction fun z => by
          have := eqv_mv7 z
          rw [show eqvD (mvD m') (mvD m) = true from h2] at this
          cases this
        exact this ▸ h1
      refine' Ws.ifW (.not (.val (.callG (ps := [.slot 0 a (foldO C L M Q past) (foldD C L M Q past), .slot 1 b (stateO cp L M Q past) (stateD L M Q past)]) (hstep L M Q past hk (mvD m) (.move m hm)) (hr.mono (by decide)) (.cons (.of (.name 0)) (.cons (.of (.name 1)) .nil)) (.one (.name 5)) hfree ⟨rfl, rfl, trivial⟩ ok2 fun qs w hl hq => ?_)))
      obtain ⟨L', M', Q', past', hk', rfl, rfl, hlt⟩ := hq
      refine ⟨⟨by show 0 < 6; decide, by show 1 < 6; decide, trivial⟩, true, rfl, ?_⟩
      refine .nil ?_
      refine' Ws.unpackS2 2 3 rfl sc_L_again.nd (.item 1 [.pin, .key 0 (.inr "strips")] (((Rcv.name 1).pin).key 0 hu) (.neg .int) (ds := stS L' M' past') rfl (atI_last7 _ _) ⟨rfl, ?_⟩)
      exact .nil ⟨_, hlt m rfl hm, L', M', Q', past', x4, hk', rfl, rfl⟩
    · refine' Ws.retS (.and (.callG (ps := [.slot 0 a (foldO C L M Q past) (foldD C L M Q past), .slot 1 b (stateO cp L M Q past) (stateD L M Q past)]) (hstep L M Q past hk (mvD m) (deed_mv L M m)) (hr.mono (by decide)) (.cons (.of (.name 0)) (.cons (.of (.name 1)) .nil)) (.one (.name 5)) hfree ⟨rfl, rfl, trivial⟩ ok2 fun qs w hl hq => ?_))
      obtain ⟨L1, M1, Q1, past1, hk1, rfl, rfl, -⟩ := hq
      refine ⟨⟨by show 0 < 6; decide, by show 1 < 6; decide, trivial⟩, rfl, ?_⟩
      refine' EvW.and (.callG (ps := [.slot 0 a (foldO C L1 M1 Q1 past1) (foldD C L1 M1 Q1 past1), .slot 1 b (stateO cp L1 M1 Q1 past1) (stateD L1 M1 Q1 past1)]) (hstep L1 M1 Q1 past1 hk1 .non .back) (hr.mono (by decide)) (.cons (.of (.name 0)) (.cons (.of (.name 1)) .nil)) (.one .non) rfl ⟨rfl, rfl, trivial⟩ ?o1 fun qs w hl hq => ?_)
      case o1 =>
        intro p hp
        rcases List.mem_cons.mp hp with rfl | hp
        · rfl
        · obtain rfl := List.mem_singleton.mp hp
          rfl
      obtain ⟨L2, M2, Q2, past2, hk2, rfl, rfl, -⟩ := hq
      refine ⟨⟨by show 0 < 6; decide, by show 1 < 6; decide, trivial⟩, rfl, ?_⟩
      refine' EvW.one (.callG (ps := [.slot 0 a (foldO C L2 M2 Q2 past2) (foldD C L2 M2 Q2 past2), .slot 1 b (stateO cp L2 M2 Q2 past2) (stateD L2 M2 Q2 past2)]) (hstep L2 M2 Q2 past2 hk2 (mvD m) (deed_mv L2 M2 m)) (hr.mono (by decide)) (.cons (.of (.name 0)) (.cons (.of (.name 1)) .nil)) (.one (.name 5)) hfree ⟨rfl, rfl, trivial⟩ ?o2 fun qs w hl hq => ?_)
      case o2 =>
        intro p hp
        rcases List.mem_cons.mp hp with rfl | hp
        · rfl
        · obtain rfl := List.mem_singleton.mp hp
          rfl
      obtain ⟨L3, M3, Q3, past3, hk3, rfl, rfl, -⟩ := hq
      exact ⟨⟨by show 0 < 6; decide, by show 1 < 6; decide, trivial⟩, _, held2 (q := (foldO C L3 M3 Q3 past3, foldD C L3 M3 Q3 past3)) (r := (stateO cp L3 M3 Q3 past3, stateD L3 M3 Q3 past3)) rfl rfl, L3, M3, Q3, past3, hk3, rfl, rfl, fun m e => (hno m e).elim⟩

/-! ### law k07 -/
/-- a Fold and its state, plainly -/
structure S7 where
  L : List Int
  M : List Bool
  Q : List (List Int)
  past : Past
def S7.fo (s : S7) (C : Addr) : O := foldO C s.L s.M s.Q s.past
def S7.so (s : S7) (c : Addr) : O := stateO c s.L s.M s.Q s.past
def S7.sd (s : S7) : D := stateD s.L s.M s.Q s.past
def S7.k (s : S7) : Prop := Kst s.L s.M s.Q s.past
theorem S7.so_data (s : S7) (c : Addr) : (s.so c).data = s.sd := stateO_data _ _ _ _ _
theorem S7.fo_data (s : S7) (C : Addr) : (s.fo C).data = foldD C s.L s.M s.Q s.past := foldO_data _ _ _ _ _
def wsL (C a0 a1 : Addr) (s0 s1 : S7) : List O := [.pin a0 (s0.fo C), .pin a1 (s1.fo C)]
def stL (b0 b1 c0 c1 : Addr) (s0 s1 : S7) : List O := [.pin b0 (s0.so c0), .pin b1 (s1.so c1)]
def RL (ns ls : List Int) (ms : List Bool) (C a0 a1 b0 b1 c0 c1 ch : Addr) (s0 s1 : S7) (hs : List D) (x2 x4 x7 x8 x9 x10 : Option W) : RhoW :=
  [some (.sh (.ro (ns.map D.int))), some (.sh (dS ls ms)), x2, some (.ow (.ls (wsL C a0 a1 s0 s1)) (O.ls (wsL C a0 a1 s0 s1)).data), x4, some (.ow (.ls (stL b0 b1 c0 c1 s0 s1)) (O.ls (stL b0 b1 c0 c1 s0 s1)).data), some (.ow (.pin ch (oL hs)) (.lst hs)), x7, x8, x9, x10, none, none, none, none]
theorem stL_data (b0 b1 c0 c1 : Addr) (s0 s1 : S7) : (O.ls (stL b0 b1 c0 c1 s0 s1)).data = .lst [s0.sd, s1.sd] := by
  unfold stL
  rw [O.data, dataAll, dataAll, dataAll, O.data, O.data, S7.so_data, S7.so_data]
/-- what all at hand keeps -/
structure In7 (s0 s1 : S7) (hs : List D) (n : Nat) : Prop where
  k0 : s0.k
  k1 : s1.k
  held : ∀ h ∈ hs, HeldOk h
  few : hs.length ≤ n
theorem In7.snoc {s0 s1 : S7} {hs : List D} {n : Nat} (I : In7 s0 s1 hs n) {h : D} (k : HeldOk h) : In7 s0 s1 (hs ++ [h]) (n + 1) := ⟨I.k0, I.k1, fun x hx => by
  rcases List.mem_append.mp hx with hx | hx
  · exact I.held x hx
  · rw [List.mem_singleton.mp hx]; exact k, by have := I.few; simp; omega⟩
theorem In7.up {s0 s1 : S7} {hs : List D} {n m : Nat} (I : In7 s0 s1 hs n) (h : n ≤ m) : In7 s0 s1 hs m := ⟨I.k0, I.k1, I.held, by have := I.few; omega⟩
def unT : D → List D
  | .tup xs => xs
  | _ => []
section
variable {C : Addr} {D2 F2 D3 F3 : Addr}
theorem stepS (T : Fx K mg) (B : Bx mg) (Cf : Cl_Fold K mg C) (W2 : ErrW K mg 2 "NoFold" D2 F2) (W3 : ErrW K mg 3 "NothingDone" D3 F3) (a b cp : Addr) (s : S7) (d : D) (hk : s.k) (hd : DeedOk s.L s.M d) :
    GF P w K mg base 6 "_law_step" [(a, s.fo C, (s.fo C).data), (b, s.so cp, (s.so cp).data)] [d] (fun qs w => ∃ s' : S7, s'.k ∧ qs = [(s'.fo C, (s'.fo C).data), (s'.so cp, (s'.so cp).data)] ∧ w = .sh (.bl true)) := by
  rw [S7.fo_data, S7.so_data]
  refine (step_all T B Cf W2 W3 a b cp s.L s.M s.Q s.past d hk hd).mono fun qs w ⟨L', M', Q', past', h1, h2, h3, _⟩ => ⟨⟨L', M', Q', past'⟩, h1, ?_, h3⟩
  rw [S7.fo_data, S7.so_data]
  exact h2
theorem againS (T : Fx K mg) (B : Bx mg) (Cf : Cl_Fold K mg C) (W2 : ErrW K mg 2 "NoFold" D2 F2) (W3 : ErrW K mg 3 "NothingDone" D3 F3) (a b cp : Addr) (s : S7) (hk : s.k) :
    GF P w K mg base 7 "_law_again" [(a, s.fo C, (s.fo C).data), (b, s.so cp, (s.so cp).data)] [] (fun qs w => ∃ s' : S7, s'.k ∧ qs = [(s'.fo C, (s'.fo C).data), (s'.so cp, (s'.so cp).data)] ∧ w = .sh (.bl true)) := by
  rw [S7.fo_data, S7.so_data]
  refine (again_ok T B Cf W2 W3 a b cp s.L s.M s.Q s.past hk).mono fun qs w ⟨L', M', Q', past', h1, h2, h3, _⟩ => ⟨⟨L', M', Q', past'⟩, h1, ?_, h3⟩
  rw [S7.fo_data, S7.so_data]
  exact h2
theorem standsS (T : Fx K mg) (B : Bx mg) (Cf : Cl_Fold K mg C) (a b c cp : Addr) (s : S7) (hs : List D) (turn : Int) (hk : s.k) (hh : hs.length < 100000) :
    GF P w K mg base 4 "_law_stands" [(a, s.fo C, (s.fo C).data), (b, s.so cp, (s.so cp).data), (c, oL hs, .lst hs)] [.int turn]
      (fun qs w => ∃ h, HeldOk h ∧ qs = [(s.fo C, (s.fo C).data), (s.so cp, (s.so cp).data), (oL (hs ++ [h]), .lst (hs ++ [h]))] ∧ w = .sh (.bl true)) := by
  rw [S7.fo_data, S7.so_data]
  have F := Kst.facts hk
  have := F.sum
  have := F.len
  have := F.pl
  exact stands_ok T B Cf a b c cp s.L s.M s.Q s.past hs turn (by omega) (by omega) (by omega) F.row (by omega) hh
end

def nthFor : List Stmt → List Stmt
  | .For _ _ b _ _ :: _ => b
  | _ => []
def nthS (l : List Stmt) (i : Nat) : Stmt := l.getD i (.Pass ⟨0, 0, 0, 0⟩)
theorem law_tail {f : Addr} {cdv : Value} {A : Around} {outer : List Env} {s : Shared} {H : Hp} {E : XK} (T : Fx K mg) (B : Bx mg) {C D2 F2 D3 F3 : Addr} (Cf : Cl_Fold K mg C) (W2 : ErrW K mg 2 "NoFold" D2 F2) (W3 : ErrW K mg 3 "NothingDone" D3 F3)
    (hr : Room 7 (cxOf CX0 P w K mg base n_law "law" (defScope s_law) f cdv A outer s H E).A) (ns ls : List Int) (ms : List Bool) (hn : ns.length ≤ 63) (a0 a1 b0 b1 c0 c1 ch : Addr) (s0 s1 : S7) (I0 : In7 s0 s1 [] 0) (x2 x4 x7 x8 x9 x10 : Option W) :
    Ws (cxOf CX0 P w K mg base n_law "law" (defScope s_law) f cdv A outer s H E).nox (RL ns ls ms C a0 a1 b0 b1 c0 c1 ch s0 s1 [] x2 x4 x7 x8 x9 x10) ((defBody s_law).drop 8) { nx := fun _ => False, rt := fun o => o = .sh (.bl true) } := by
  have hB := B; cases hB
  have two : ∀ {i : Nat} {d : D}, (rangeD 0 2)[i]? = some d → (i = 0 ∨ i = 1) ∧ d = .int (i : Int) := fun {i d} h => by
    match i, h with
    | 0, h => exact ⟨.inl rfl, by simpa [rangeD] using h.symm⟩
    | 1, h => exact ⟨.inr rfl, by simpa [rangeD] using h.symm⟩
    | i + 2, h => simp [rangeD] at h
  refine' Ws.for (fun i ρ' => ∃ s0 s1 hs x7 x8 x9 x10, In7 s0 s1 hs (2 * i) ∧ ρ' = RL ns ls ms C a0 a1 b0 b1 c0 c1 ch s0 s1 hs x2 x4 x7 x8 x9 x10) [7] (fun i => [.int (16 + (i : Int))]) .never rfl (.range2 (i := 16) (j := min 40 (ns.length : Int)) ?r1 .int (.min2 rfl ?r2 .int (.lenRoI ?r3 (.name 0))) (by omega)) ?g1 ⟨s0, s1, [], x7, x8, x9, x10, I0, rfl⟩ ?b1 ?d1
  case r1 => assumption
  case r2 => assumption
  case r3 => assumption
  case g1 =>
    intro i d hd
    unfold rangeD at hd
    obtain ⟨hi, rfl⟩ := map_get hd
    simp at hi
    rw [List.getD_eq_getElem?_getD, List.getElem?_range (by simpa using hi)]
    exact .name 7 sc_law.nd
  case b1 =>
    rintro i d ρ' hd ⟨s0, s1, hs, x7, x8, x9, x10, I, rfl⟩ -
    have hi : i < 24 := by
      unfold rangeD at hd
      have := (List.getElem?_eq_some_iff.mp hd).1
      simp at this
      omega
    have hhs := I.few
    refine' Ws.asg 8 sc_law.nd (.bor (d := .int (cellF ns (16 + (i : Int)))) (.call (cell_ok T B ns (16 + (i : Int)) (by omega)) (hr.mono (by decide)) (.two (.name 0) (.name 7)) (fun o e => by rw [e]; rfl)) rfl ?_)
    generalize cellF ns (16 + (i : Int)) = cell
    refine' Ws.asg 9 sc_law.nd (.bor (d := .int (cell % 2)) (.mod (.name 8) .int (by decide)) rfl ?_)
    have F0 := Kst.facts I.k0
    have F1 := Kst.facts I.k1
    have sum0 := F0.sum
    have sum1 := F1.sum
    have inner : ∀ (s0 s1 : S7) (x9 : Option W), In7 s0 s1 hs (2 * i) → Ws (cxOf CX0 P w K mg base n_law "law" (defScope s_law) f cdv A outer s H E).nox (RL ns ls ms C a0 a1 b0 b1 c0 c1 ch s0 s1 hs x2 x4 (some (.sh (.int (16 + (i : Int))))) (some (.sh (.int cell))) x9 x10) [nthS (nthFor ((defBody s_law).drop 8)) 3] { nx := fun ρ' => ∃ s0 s1 hs x7 x8 x9 x10, In7 s0 s1 hs (2 * (i + 1)) ∧ ρ' = RL ns ls ms C a0 a1 b0 b1 c0 c1 ch s0 s1 hs x2 x4 x7 x8 x9 x10, rt := fun o => o = .sh (.bl true) } := by
      intro s0 s1 x9 I
      have inr : In7 s0 s1 hs (2 * i + 0) := I
      have cd : ∀ j : Int, 0 < j ∧ j < 1073741824 → CDiv cell j := fun j h => h
      refine' Ws.for (fun j ρ' => ∃ hs' x10, In7 s0 s1 hs' (2 * i + j) ∧ ρ' = RL ns ls ms C a0 a1 b0 b1 c0 c1 ch s0 s1 hs' x2 x4 (some (.sh (.int (16 + (i : Int))))) (some (.sh (.int cell))) x9 x10) [10] (fun j => [.int (j : Int)]) .never rfl (.range1 (j := 2) ?r9 .int (by decide)) ?g9 ⟨hs, x10, inr, rfl⟩ ?b9 ?d9
      case r9 => assumption
      case g9 =>
        intro j d hd
        obtain ⟨_, rfl⟩ := two hd
        exact .name 10 sc_law.nd
      case d9 =>
        rintro ρ' ⟨hs', x10, I, rfl⟩ -
        exact .nil ⟨s0, s1, hs', _, _, _, _, I.up (by show 2 * i + 2 ≤ 2 * (i + 1); omega), rfl⟩
      case b9 =>
        rintro j d ρ' hd ⟨hs', x10, I, rfl⟩ -
        obtain ⟨hj, rfl⟩ := two hd
        have few := I.few
        refine' Ws.ifW (.bool (.and (.pure (c := decide (0 < cell / 128 % 4)) (.cmp (.mod (.div (.name 8) .int (cd _ (by decide))) .int (by decide)) .int .gt) ?_)))
        by_cases hc : decide (0 < cell / 128 % 4) = true
        · rw [if_pos hc]
          rcases hj with rfl | rfl
          · refine' EvWW.and1 (.not (.val (.callG (ps := [.kid 3 0 a0 (wsL C a0 a1 s0 s1) (s0.fo C), .kid 5 0 b0 (stL b0 b1 c0 c1 s0 s1) (s0.so c0), .slot 6 ch (oL hs') (.lst hs')]) (standsS T B Cf a0 b0 ch c0 s0 hs' (cell / 512 + 0) I.k0 (by omega)) (hr.mono (by decide)) (.cons ((RcvS.of (.name 3)).ixE 0 (.name 10)) (.cons ((RcvS.of (.name 5)).ixE 0 (.name 10)) (.cons (.of (.name 6)) .nil)))
              (.one (.add (.div (.name 8) .int (cd _ (by decide))) (.name 10))) rfl ⟨⟨⟨_, rfl⟩, rfl⟩, ⟨⟨_, rfl⟩, rfl⟩, rfl, trivial⟩ ?ok fun qs w hl hq => ?_)))
            case ok =>
              intro p hp
              rcases List.mem_cons.mp hp with rfl | hp
              · exact ⟨⟨_, rfl⟩, rfl⟩
              · rcases List.mem_cons.mp hp with rfl | hp
                · exact ⟨⟨_, rfl⟩, rfl⟩
                · obtain rfl := List.mem_singleton.mp hp
                  rfl
            obtain ⟨h, hH, rfl, rfl⟩ := hq
            refine ⟨⟨⟨_, rfl, by show 0 < 2; decide⟩, ⟨_, rfl, by show 0 < 2; decide⟩, by show 6 < 15; decide, trivial⟩, true, rfl, ?_⟩
            exact .nil (.nil ⟨hs' ++ [h], _, I.snoc hH, rfl⟩)
          · refine' EvWW.and1 (.not (.val (.callG (ps := [.kid 3 1 a1 (wsL C a0 a1 s0 s1) (s1.fo C), .kid 5 1 b1 (stL b0 b1 c0 c1 s0 s1) (s1.so c1), .slot 6 ch (oL hs') (.lst hs')]) (standsS T B Cf a1 b1 ch c1 s1 hs' (cell / 512 + 1) I.k1 (by omega)) (hr.mono (by decide)) (.cons ((RcvS.of (.name 3)).ixE 1 (.name 10)) (.cons ((RcvS.of (.name 5)).ixE 1 (.name 10)) (.cons (.of (.name 6)) .nil)))
              (.one (.add (.div (.name 8) .int (cd _ (by decide))) (.name 10))) rfl ⟨⟨⟨_, rfl⟩, rfl⟩, ⟨⟨_, rfl⟩, rfl⟩, rfl, trivial⟩ ?ok fun qs w hl hq => ?_)))
            case ok =>
              intro p hp
              rcases List.mem_cons.mp hp with rfl | hp
              · exact ⟨⟨_, rfl⟩, rfl⟩
              · rcases List.mem_cons.mp hp with rfl | hp
                · exact ⟨⟨_, rfl⟩, rfl⟩
                · obtain rfl := List.mem_singleton.mp hp
                  rfl
            obtain ⟨h, hH, rfl, rfl⟩ := hq
            refine ⟨⟨⟨_, rfl, by show 1 < 2; decide⟩, ⟨_, rfl, by show 1 < 2; decide⟩, by show 6 < 15; decide, trivial⟩, true, rfl, ?_⟩
            exact .nil (.nil ⟨hs' ++ [h], _, I.snoc hH, rfl⟩)
        · rw [if_neg hc]
          exact .nil (.nil ⟨hs', _, I.up (Nat.le_succ _), rfl⟩)
    have hw : cell % 2 = 0 ∨ cell % 2 = 1 := by omega
    rcases hw with hw | hw
    all_goals rw [hw]
    · have df := deed_free s0.L s0.M cell
      refine' Ws.ifW (.not (.val (.callGO (o := deedO s0.L s0.M cell) (ps := [.kid 3 0 a0 (wsL C a0 a1 s0 s1) (s0.fo C), .kid 5 0 b0 (stL b0 b1 c0 c1 s0 s1) (s0.so c0)]) (stepS T B Cf W2 W3 a0 b0 c0 s0 _ I.k0 df.2) (hr.mono (by decide)) (.cons ((RcvS.of (.name 3)).ixE 0 (.name 9)) (.cons ((RcvS.of (.name 5)).ixE 0 (.name 9)) .nil))
        (.call (deed_ok T B s0.L s0.M s0.Q s0.past cell F0.len (by omega)) (hr.mono (by decide)) (.two (.ixL (.is (.name 5) (stL_data _ _ _ _ _ _)) (.name 9) (d := s0.sd) rfl) (.name 8)) (fun o e => e)) df.1 ⟨⟨⟨_, rfl⟩, rfl⟩, ⟨⟨_, rfl⟩, rfl⟩, trivial⟩ ?ok fun qs w hl hq => ?_)))
      case ok =>
        intro p hp
        rcases List.mem_cons.mp hp with rfl | hp
        · exact ⟨⟨_, rfl⟩, rfl⟩
        · obtain rfl := List.mem_singleton.mp hp
          exact ⟨⟨_, rfl⟩, rfl⟩
      obtain ⟨s', hk', rfl, rfl⟩ := hq
      refine ⟨⟨⟨_, rfl, by show 0 < 2; decide⟩, ⟨_, rfl, by show 0 < 2; decide⟩, trivial⟩, true, rfl, ?_⟩
      exact .nil ((inner s' s1 _ ⟨hk', I.k1, I.held, I.few⟩).mono (fun ρ q => q) (fun o q => q) (fun _ q => q.elim) (fun _ q => q.elim))
    · have df := deed_free s1.L s1.M cell
      refine' Ws.ifW (.not (.val (.callGO (o := deedO s1.L s1.M cell) (ps := [.kid 3 1 a1 (wsL C a0 a1 s0 s1) (s1.fo C), .kid 5 1 b1 (stL b0 b1 c0 c1 s0 s1) (s1.so c1)]) (stepS T B Cf W2 W3 a1 b1 c1 s1 _ I.k1 df.2) (hr.mono (by decide)) (.cons ((RcvS.of (.name 3)).ixE 1 (.name 9)) (.cons ((RcvS.of (.name 5)).ixE 1 (.name 9)) .nil))
        (.call (deed_ok T B s1.L s1.M s1.Q s1.past cell F1.len (by omega)) (hr.mono (by decide)) (.two (.ixL (.is (.name 5) (stL_data _ _ _ _ _ _)) (.name 9) (d := s1.sd) rfl) (.name 8)) (fun o e => e)) df.1 ⟨⟨⟨_, rfl⟩, rfl⟩, ⟨⟨_, rfl⟩, rfl⟩, trivial⟩ ?ok fun qs w hl hq => ?_)))
      case ok =>
        intro p hp
        rcases List.mem_cons.mp hp with rfl | hp
        · exact ⟨⟨_, rfl⟩, rfl⟩
        · obtain rfl := List.mem_singleton.mp hp
          exact ⟨⟨_, rfl⟩, rfl⟩
      obtain ⟨s', hk', rfl, rfl⟩ := hq
      refine ⟨⟨⟨_, rfl, by show 1 < 2; decide⟩, ⟨_, rfl, by show 1 < 2; decide⟩, trivial⟩, true, rfl, ?_⟩
      exact .nil ((inner s0 s' _ ⟨I.k0, hk', I.held, I.few⟩).mono (fun ρ q => q) (fun o q => q) (fun _ q => q.elim) (fun _ q => q.elim))
  case d1 =>
    rintro ρ' ⟨s0, s1, hs, x7, x8, x9, x10, I, rfl⟩ -
    have I0 : In7 s0 s1 hs (100 + 0) := I.up (by
      have : (rangeD 16 (min 40 (ns.length : Int) - 16).toNat).length = (min 40 (ns.length : Int) - 16).toNat := by unfold rangeD; simp
      rw [this]; omega)
    clear I
    refine' Ws.for (fun j ρ' => ∃ s0 s1 hs x9, In7 s0 s1 hs (100 + j) ∧ ρ' = RL ns ls ms C a0 a1 b0 b1 c0 c1 ch s0 s1 hs x2 x4 x7 x8 x9 x10) [9] (fun j => [.int (j : Int)]) .never rfl (.range1 (j := 2) ?r8 .int (by decide)) ?g8 ⟨s0, s1, hs, x9, I0, rfl⟩ ?b8 ?d8
    case r8 => assumption
    case g8 =>
      intro j d hd
      obtain ⟨_, rfl⟩ := two hd
      exact .name 9 sc_law.nd
    case b8 =>
      rintro j d ρ' hd ⟨s0, s1, hs, x9, I, rfl⟩ -
      obtain ⟨hj, rfl⟩ := two hd
      have few := I.few
      rcases hj with rfl | rfl
      · refine' Ws.ifW (.bool (.or (.not (.val (.callG (ps := [.kid 3 0 a0 (wsL C a0 a1 s0 s1) (s0.fo C), .kid 5 0 b0 (stL b0 b1 c0 c1 s0 s1) (s0.so c0)]) (againS T B Cf W2 W3 a0 b0 c0 s0 I.k0) (hr.mono (by decide)) (.cons ((RcvS.of (.name 3)).ixE 0 (.name 9)) (.cons ((RcvS.of (.name 5)).ixE 0 (.name 9)) .nil))
          .nil rfl ⟨⟨⟨_, rfl⟩, rfl⟩, ⟨⟨_, rfl⟩, rfl⟩, trivial⟩ ?ok fun qs w hl hq => ?_)))))
        case ok =>
          intro p hp
          rcases List.mem_cons.mp hp with rfl | hp
          · exact ⟨⟨_, rfl⟩, rfl⟩
          · obtain rfl := List.mem_singleton.mp hp
            exact ⟨⟨_, rfl⟩, rfl⟩
        obtain ⟨s', hk', rfl, rfl⟩ := hq
        refine ⟨⟨⟨_, rfl, by show 0 < 2; decide⟩, ⟨_, rfl, by show 0 < 2; decide⟩, trivial⟩, true, rfl, ?_⟩
        have I : In7 s' s1 hs (100 + 0) := ⟨hk', I.k1, I.held, I.few⟩
        refine' EvWW.or1 (.not (.val (.callG (ps := [.kid 3 0 a0 (wsL C a0 a1 s' s1) (s'.fo C), .kid 5 0 b0 (stL b0 b1 c0 c1 s' s1) (s'.so c0), .slot 6 ch (oL hs) (.lst hs)]) (standsS T B Cf a0 b0 ch c0 s' hs (0 : Int) I.k0 (by omega)) (hr.mono (by decide)) (.cons ((RcvS.of (.name 3)).ixE 0 (.name 9)) (.cons ((RcvS.of (.name 5)).ixE 0 (.name 9)) (.cons (.of (.name 6)) .nil)))
          (.one (.name 9)) rfl ⟨⟨⟨_, rfl⟩, rfl⟩, ⟨⟨_, rfl⟩, rfl⟩, rfl, trivial⟩ ?ok fun qs w hl hq => ?_)))
        case ok =>
          intro p hp
          rcases List.mem_cons.mp hp with rfl | hp
          · exact ⟨⟨_, rfl⟩, rfl⟩
          · rcases List.mem_cons.mp hp with rfl | hp
            · exact ⟨⟨_, rfl⟩, rfl⟩
            · obtain rfl := List.mem_singleton.mp hp
              rfl
        obtain ⟨h, hH, rfl, rfl⟩ := hq
        refine ⟨⟨⟨_, rfl, by show 0 < 2; decide⟩, ⟨_, rfl, by show 0 < 2; decide⟩, by show 6 < 15; decide, trivial⟩, true, rfl, ?_⟩
        exact .nil (.nil ⟨s', s1, hs ++ [h], _, I.snoc hH, rfl⟩)
      · refine' Ws.ifW (.bool (.or (.not (.val (.callG (ps := [.kid 3 1 a1 (wsL C a0 a1 s0 s1) (s1.fo C), .kid 5 1 b1 (stL b0 b1 c0 c1 s0 s1) (s1.so c1)]) (againS T B Cf W2 W3 a1 b1 c1 s1 I.k1) (hr.mono (by decide)) (.cons ((RcvS.of (.name 3)).ixE 1 (.name 9)) (.cons ((RcvS.of (.name 5)).ixE 1 (.name 9)) .nil))
          .nil rfl ⟨⟨⟨_, rfl⟩, rfl⟩, ⟨⟨_, rfl⟩, rfl⟩, trivial⟩ ?ok fun qs w hl hq => ?_)))))
        case ok =>
          intro p hp
          rcases List.mem_cons.mp hp with rfl | hp
          · exact ⟨⟨_, rfl⟩, rfl⟩
          · obtain rfl := List.mem_singleton.mp hp
            exact ⟨⟨_, rfl⟩, rfl⟩
        obtain ⟨s', hk', rfl, rfl⟩ := hq
        refine ⟨⟨⟨_, rfl, by show 1 < 2; decide⟩, ⟨_, rfl, by show 1 < 2; decide⟩, trivial⟩, true, rfl, ?_⟩
        have I : In7 s0 s' hs (100 + 1) := ⟨I.k0, hk', I.held, I.few⟩
        refine' EvWW.or1 (.not (.val (.callG (ps := [.kid 3 1 a1 (wsL C a0 a1 s0 s') (s'.fo C), .kid 5 1 b1 (stL b0 b1 c0 c1 s0 s') (s'.so c1), .slot 6 ch (oL hs) (.lst hs)]) (standsS T B Cf a1 b1 ch c1 s' hs (1 : Int) I.k1 (by omega)) (hr.mono (by decide)) (.cons ((RcvS.of (.name 3)).ixE 1 (.name 9)) (.cons ((RcvS.of (.name 5)).ixE 1 (.name 9)) (.cons (.of (.name 6)) .nil)))
          (.one (.name 9)) rfl ⟨⟨⟨_, rfl⟩, rfl⟩, ⟨⟨_, rfl⟩, rfl⟩, rfl, trivial⟩ ?ok fun qs w hl hq => ?_)))
        case ok =>
          intro p hp
          rcases List.mem_cons.mp hp with rfl | hp
          · exact ⟨⟨_, rfl⟩, rfl⟩
          · rcases List.mem_cons.mp hp with rfl | hp
            · exact ⟨⟨_, rfl⟩, rfl⟩
            · obtain rfl := List.mem_singleton.mp hp
              rfl
        obtain ⟨h, hH, rfl, rfl⟩ := hq
        refine ⟨⟨⟨_, rfl, by show 1 < 2; decide⟩, ⟨_, rfl, by show 1 < 2; decide⟩, by show 6 < 15; decide, trivial⟩, true, rfl, ?_⟩
        exact .nil (.nil ⟨s0, s', hs ++ [h], _, I.snoc hH, rfl⟩)
    case d8 =>
      rintro ρ' ⟨s0, s1, hs, x9, I, rfl⟩ -
      have few := I.few
      have few : hs.length ≤ 102 := few
      refine Ws.share (i := 6) rfl ?_
      refine' Ws.ret (.sh (d := .bl true) (.is (.allB (bs := hs.map fun _ => true) rfl ?q1 ?q2) (by simp)) rfl)
      case q1 => assumption
      case q2 =>
        refine' EvO.ev' (.comp (own := [("_law_one", 11), ("_law_two", 12), ("_law_three", 13), ("_law_four", 14)]) hs (fun d => d) (fun _ => .sh (.bl true)) [11, 12, 13, 14] (fun x => unT x) rfl sc_law.nd (.is (.list (.name 6)) (by simp)) (blkOk_by (N := n_law) (sc := defScope s_law) (by decide +kernel)) (by simp) (fun x hx s H C cl fp => ?q3) (fun x hx s H C cl fp => Ev.evO ?q4) (Nat.lt_of_lt_of_le (m := 100000) (by omega) (by decide))) (truesM _)
        case q3 =>
          obtain ⟨R, R2, rfl, -, -⟩ := I.held x hx
          refine EvG.four 11 12 13 14 (fun hN => ?_) sc_law.nd
          exact pg_tup rfl (pgs_cons (pg_name hN rfl (by first | exact Or.inl rfl | exact Or.inr rfl)) (pgs_cons (pg_name hN rfl (by first | exact Or.inl rfl | exact Or.inr rfl)) (pgs_cons (pg_name hN rfl (by first | exact Or.inl rfl | exact Or.inr rfl)) (pgs_cons (pg_name hN rfl (by first | exact Or.inl rfl | exact Or.inr rfl)) pgs_nil))))
        case q4 =>
          obtain ⟨R, R2, rfl, h1, h2⟩ := I.held x hx
          have g1 := OkR.lst h1
          have g2 := OkR.lst h2
          have p1 : Shp (.lst R) := shp_of g1.1 (by have := g1.2.1; omega)
          have p2 : Shp (.lst R2) := shp_of g2.1 (by have := g2.2.1; omega)
          exact .is (.and (c1 := true) (c2 := true) (.is (.cmp (.name 11) (.name 12) (.eqD hr.units p1 p1)) (by rw [eqvD_refl g1.1])) fun _ => .one (.is (.cmp (.name 13) (.name 14) (.eqD hr.units p2 p2)) (by rw [eqvD_refl g2.1]))) rfl

theorem law_mid {f : Addr} {cdv : Value} {A : Around} {outer : List Env} {s : Shared} {H : Hp} {E : XK} (T : Fx K mg) (B : Bx mg) {C D2 F2 D3 F3 : Addr} (Cf : Cl_Fold K mg C) (W2 : ErrW K mg 2 "NoFold" D2 F2) (W3 : ErrW K mg 3 "NothingDone" D3 F3)
    (hr7 : Room 7 (cxOf CX0 P w K mg base n_law "law" (defScope s_law) f cdv A outer s H E).A) (ns ls : List Int) (ms : List Bool) (hn : ns.length ≤ 63) (gl : ls.length = ms.length + 1) (gm : ls.length ≤ 30) (x2 x4 : Option W) (d3 d5 : D) :
    Ws (cxOf CX0 P w K mg base n_law "law" (defScope s_law) f cdv A outer s H E).nox [some (.sh (.ro (ns.map D.int))), some (.sh (dS ls ms)), x2, some (.ow (.ls [foldO C ls ms (singles ls.length) [], foldO C ls ms (singles ls.length) []]) d3), x4, some (.ow (.ls [.dd keysS [oL [dS ls ms], oL [], oL [dP (singles ls.length)]], .dd keysS [oL [dS ls ms], oL [], oL [dP (singles ls.length)]]]) d5), some (.ow (oL []) (.lst [])), none, none, none, none, none, none, none, none] ((defBody s_law).drop 8) { nx := fun _ => False, rt := fun o => o = .sh (.bl true) } := by
  refine' Ws.recastX (τ := Addr × Addr) (i := 3) (fun x => .ls [.pin x.1 (foldO C ls ms (singles ls.length) []), .pin x.2 (foldO C ls ms (singles ls.length) [])]) rfl ?x3 (d' := .lst [foldD C ls ms (singles ls.length) [], foldD C ls ms (singles ls.length) []]) (fun x => ?y3) fun x => ?_
  case x3 => exact fun v H S A r => RepO.ls2 (o1 := foldO C ls ms (singles ls.length) []) (o2 := foldO C ls ms (singles ls.length) []) (f := fun a : Addr => .pin a (foldO C ls ms (singles ls.length) [])) (g := fun a : Addr => .pin a (foldO C ls ms (singles ls.length) [])) r (fun v A r => r.pinRef rfl) (fun v A r => r.pinRef rfl)
  case y3 => rw [O.data, dataAll, dataAll, dataAll, O.data, O.data, foldO_data]
  refine' Ws.recastX (τ := (Addr × Addr) × (Addr × Addr)) (i := 5) (fun x => .ls [.pin x.1.2 (stateO x.1.1 ls ms (singles ls.length) []), .pin x.2.2 (stateO x.2.1 ls ms (singles ls.length) [])]) rfl ?x5 (d' := .lst [stateD ls ms (singles ls.length) [], stateD ls ms (singles ls.length) []]) (fun y => ?y5) fun y => ?_
  case x5 =>
    have key : ∀ (v : V) (H S : Hp) (A : List Addr), RepO K H S v (.dd keysS [oL [dS ls ms], oL [], oL [dP (singles ls.length)]]) A → ∃ x : Addr × Addr, RepO K H S v (.pin x.2 (stateO x.1 ls ms (singles ls.length) [])) A := fun v H S A r => by
      obtain ⟨c, r⟩ := r.dd3 rfl
      obtain ⟨b, r⟩ := r.pinRef rfl
      exact ⟨(c, b), r⟩
    exact fun v H S A r => RepO.ls2 (f := fun x : Addr × Addr => .pin x.2 (stateO x.1 ls ms (singles ls.length) [])) (g := fun x : Addr × Addr => .pin x.2 (stateO x.1 ls ms (singles ls.length) [])) r (fun v A r => key v _ _ A r) (fun v A r => key v _ _ A r)
  case y5 => rw [O.data, dataAll, dataAll, dataAll, O.data, O.data, stateO_data, stateO_data]
  refine' Ws.pin0 (i := 6) rfl rfl fun ch => ?_
  obtain ⟨a0, a1⟩ := x
  obtain ⟨⟨c0, b0⟩, ⟨c1, b1⟩⟩ := y
  have ki : Kst ls ms (singles ls.length) [] := .init ls ms gl gm
  have key := fun x2 x4 => law_tail (P := P) (w := w) (base := base) (f := f) (cdv := cdv) (A := A) (outer := outer) (s := s) (H := H) (E := E) T B Cf W2 W3 hr7 ns ls ms hn a0 a1 b0 b1 c0 c1 ch ⟨ls, ms, singles ls.length, []⟩ ⟨ls, ms, singles ls.length, []⟩ ⟨ki, ki, (fun h hh => by cases hh), Nat.zero_le _⟩ x2 x4 none none none none
  have e3 : (O.ls (wsL C a0 a1 ⟨ls, ms, singles ls.length, []⟩ ⟨ls, ms, singles ls.length, []⟩)).data = .lst [foldD C ls ms (singles ls.length) [], foldD C ls ms (singles ls.length) []] := by
    unfold wsL
    rw [O.data, dataAll, dataAll, dataAll, O.data, O.data, S7.fo_data]
  have e5 := stL_data b0 b1 c0 c1 ⟨ls, ms, singles ls.length, []⟩ ⟨ls, ms, singles ls.length, []⟩
  unfold RL at key
  rw [e3, e5] at key
  exact key _ _
theorem law_fn {f : Addr} {fd : FuncData} (F : Fun K "law" "law" s_law f fd) (T : Fx K mg) (B : Bx mg) {C : Addr} (Cf : Cl_Fold K mg C) {D2 F2 D3 F3 : Addr} (W2 : ErrW K mg 2 "NoFold" D2 F2) (W3 : ErrW K mg 3 "NothingDone" D3 F3) (ns : List Int) (hn : ns.length ≤ 63) : FnOk P w K mg base CX0 8 f fd ["_law_script"] (spV K [.ro (ns.map D.int)] fun o => o = .sh (.bl true)) := by
  refine fnOk_of F sc_law rfl rfl fun cdv A outer s H E hr => ?_
  have hr7 := hr
  have hB := B; cases hB
  refine' Ws.asg 1 sc_law.nd (.evN O.data (.call (left_ok T B ns) (hr.mono (by decide)) (.one (.name 0))) (fun _ _ => rfl) ?_)
  rintro o ⟨ls, ms, rfl, g⟩
  refine Ws.share (i := 1) rfl ?_
  rw [oS_data]
  have gl := g.len
  have gm := g.most
  have gp := g.pos
  refine' Ws.asg 2 sc_law.nd (.own (o := oS ls ms) (.pairO (EvO.listL ?h5 (.ixT0 (.name 1))) (EvO.listL ?h6 (.ixT1 (.name 1)))) (oS_data _ _) ?_)
  case h5 => assumption
  case h6 => assumption
  have hsf : freeO ((singles ls.length).map oI) = true := by
    generalize singles ls.length = ps
    induction ps with
    | nil => rfl
    | cons r ps ih => rw [List.map_cons]; unfold freeO; rw [oI_free, ih]; rfl
  have hrd : (O.ls ((singles ls.length).map oI)).data = dP (singles ls.length) := by
    rw [O.data, dataAll_map, List.map_map]
    unfold dP
    refine congrArg D.lst (List.map_congr_left fun k _ => ?_)
    exact oI_data k
  refine' Ws.asg 3 sc_law.nd (.borO (.listO (.cons (EvN.evO (.make (fold_new_ok T B Cf ls ms (by omega)) (hr.mono (by decide)) (.one (.name 2)))) (.cons (EvN.evO (.make (fold_new_ok T B Cf ls ms (by omega)) (hr.mono (by decide)) (.one (.name 2)))) .nil))) ?fr rfl ?_)
  case fr =>
    have h0 : (oL []).free = true := rfl
    unfold oS
    simp only [O.free, freeO, oI_free, oM_free, hsf, h0, Bool.and_true, Bool.and_self]
  refine' Ws.clearP (o := .tu [oI ls, oM ms]) (ds := ls.map D.int) 2 [.ix 0] ((Rcv.name 2).ix 0) rfl rfl ?_
  refine' Ws.appendP (o := .tu [oL [], oM ms]) (ds := ms.map mkD) 2 [.ix 1] ((Rcv.name 2).ix 1) .str rfl rfl rfl ?_ (by simp; omega)
  refine' Ws.asgC (own := [("_law_k", 10)]) 4 (List.range ls.length) (fun (k : Nat) => D.int (k : Int)) (fun (k : Nat) => oI [(k : Int)]) [10] (fun (k : Nat) => [.int (k : Int)]) (dP (singles ls.length)) rfl sc_law.nd (.is (.range1 (j := (ls.length : Int)) ?r (.lenI ?r1 (.ixT0 (.name 1))) (by omega)) ?r2)
    (blkOk_by (N := n_law) (sc := defScope s_law) (by decide +kernel)) (by simp) (fun x _ s H C cl fp => .name 10 sc_law.nd) (fun x hx s H C cl fp => .list (.one (.name 10))) (Nat.lt_of_lt_of_le (m := 100000) (by simp; omega) (by decide)) ?r4 ?_
  case r => assumption
  case r1 => assumption
  case r2 => unfold rangeD; simp
  case r4 =>
    rw [O.data, dataAll_map, List.map_map]
    unfold dP singles
    rw [List.map_map]
    refine congrArg D.lst (List.map_congr_left fun k _ => ?_)
    exact oI_data [(k : Int)]
  refine Ws.share (i := 4) rfl ?_
  have nS : noDkAll [dS ls ms] = true := by
    have h1 : (dI ls).noDk = true := by unfold dI; rw [D.noDk]; exact noDkAll_map (fun x => by simp [D.noDk]) ls
    have h2 : (dM ms).noDk = true := by unfold dM; rw [D.noDk]; exact noDkAll_map (fun x => by cases x <;> simp [mkD, D.noDk]) ms
    unfold dS
    rw [noDkAll, noDkAll, D.noDk, noDkAll, noDkAll, noDkAll, h1, h2]; rfl
  have nP : noDkAll [dP (singles ls.length)] = true := by
    have : (dP (singles ls.length)).noDk = true := by
      unfold dP; rw [D.noDk]; exact noDkAll_map (fun r => by unfold dI; rw [D.noDk]; exact noDkAll_map (fun x => by simp [D.noDk]) r) _
    rw [noDkAll, noDkAll, this]; rfl
  refine' Ws.asg 5 sc_law.nd (.own (o := .ls [.dd keysS [oL [dS ls ms], oL [], oL [dP (singles ls.length)]], .dd keysS [oL [dS ls ms], oL [], oL [dP (singles ls.length)]]]) (.listO (.cons (.dict3 (.list (.one (.name 1))) (.list .nil) (.list (.one (.name 4))) (oL_noDk nS) rfl (oL_noDk nP)) (.cons (.dict3 (.list (.one (.name 1))) (.list .nil) (.list (.one (.name 4))) (oL_noDk nS) rfl (oL_noDk nP)) .nil))) rfl ?_)
  refine' Ws.asg 6 sc_law.nd (.own (.list .nil) (oL_data _) ?_)
  -- the parts of the Folds are shared, all is told apart by its address
  refine' Ws.shareAt (i := 3) [.ix 0, .fld C 0 "now"] (o1 := oS ls ms) rfl ?p1 rfl rfl ?_
  case p1 => walk_at "okp"
  refine' Ws.shareAt (i := 3) [.ix 0, .fld C 1 "piles"] (o1 := .ls ((singles ls.length).map oI)) rfl ?p2 rfl rfl ?_
  case p2 => walk_at "okp"
  refine' Ws.shareAt (i := 3) [.ix 1, .fld C 0 "now"] (o1 := oS ls ms) rfl ?p3 rfl rfl ?_
  case p3 => walk_at "okp"
  refine' Ws.shareAt (i := 3) [.ix 1, .fld C 1 "piles"] (o1 := .ls ((singles ls.length).map oI)) rfl ?p4 rfl rfl ?_
  case p4 => walk_at "okp"
  rw [oS_data, hrd]
  exact (law_mid (P := P) (w := w) (base := base) (f := f) (cdv := cdv) (A := A) (outer := outer) (s := s) (H := H) (E := E) T B Cf W2 W3 hr7 ns ls ms hn gl gm _ _ _ _).mono (fun ρ q => q.elim) (fun o q => q) (fun _ q => q.elim) (fun _ q => q.elim)

section
theorem all_mk {l : PySem.W.OpenLaw} {w : World} {K : PySem.W.Frag} {h : Heap} {mg : Str → Option Value} {fa : Addr} (X : K.In h) (G : h.Ns mainGlobals mg) (hfa : mg "law" = some (.ref fa))
    {f0 : Addr} {od0 an0 : Option Addr} {sl0 : Array (Option Value)} {oc0 kV0 dc0 pm0 cd0 ct0 : Value}
    (a0 : PySem.W.nsIn K mainGlobals "is_whole" = some (some (.ref f0))) (l0 : K.lookup f0 = some ⟨oc0, od0, .func (PySem.W.fnOf "is_whole" "is_whole" (defArgs s_is_whole) (defBody s_is_whole) (defScope s_is_whole) .none kV0 dc0 pm0 an0 cd0 ct0), sl0⟩) (c0 : PySem.W.codeIn K cd0 "is_whole" = true) (k0 : PySem.W.keepIn K (.ref f0) = true)
    {f1 : Addr} {od1 an1 : Option Addr} {sl1 : Array (Option Value)} {oc1 kV1 dc1 pm1 cd1 ct1 : Value}
    (a1 : PySem.W.nsIn K mainGlobals "copied" = some (some (.ref f1))) (l1 : K.lookup f1 = some ⟨oc1, od1, .func (PySem.W.fnOf "copied" "copied" (defArgs s_copied) (defBody s_copied) (defScope s_copied) .none kV1 dc1 pm1 an1 cd1 ct1), sl1⟩) (c1 : PySem.W.codeIn K cd1 "copied" = true) (k1 : PySem.W.keepIn K (.ref f1) = true)
    {f2 : Addr} {od2 an2 : Option Addr} {sl2 : Array (Option Value)} {oc2 kV2 dc2 pm2 cd2 ct2 : Value}
    (a2 : PySem.W.nsIn K mainGlobals "moves" = some (some (.ref f2))) (l2 : K.lookup f2 = some ⟨oc2, od2, .func (PySem.W.fnOf "moves" "moves" (defArgs s_moves) (defBody s_moves) (defScope s_moves) .none kV2 dc2 pm2 an2 cd2 ct2), sl2⟩) (c2 : PySem.W.codeIn K cd2 "moves" = true) (k2 : PySem.W.keepIn K (.ref f2) = true)
    {f3 : Addr} {od3 an3 : Option Addr} {sl3 : Array (Option Value)} {oc3 kV3 dc3 pm3 cd3 ct3 : Value}
    (a3 : PySem.W.nsIn K mainGlobals "is_move" = some (some (.ref f3))) (l3 : K.lookup f3 = some ⟨oc3, od3, .func (PySem.W.fnOf "is_move" "is_move" (defArgs s_is_move) (defBody s_is_move) (defScope s_is_move) .none kV3 dc3 pm3 an3 cd3 ct3), sl3⟩) (c3 : PySem.W.codeIn K cd3 "is_move" = true) (k3 : PySem.W.keepIn K (.ref f3) = true)
    {f4 : Addr} {od4 an4 : Option Addr} {sl4 : Array (Option Value)} {oc4 kV4 dc4 pm4 cd4 ct4 : Value}
    (a4 : PySem.W.nsIn K mainGlobals "taken" = some (some (.ref f4))) (l4 : K.lookup f4 = some ⟨oc4, od4, .func (PySem.W.fnOf "taken" "taken" (defArgs s_taken) (defBody s_taken) (defScope s_taken) .none kV4 dc4 pm4 an4 cd4 ct4), sl4⟩) (c4 : PySem.W.codeIn K cd4 "taken" = true) (k4 : PySem.W.keepIn K (.ref f4) = true)
    {f5 : Addr} {od5 an5 : Option Addr} {sl5 : Array (Option Value)} {oc5 kV5 dc5 pm5 cd5 ct5 : Value}
    (a5 : PySem.W.nsIn K mainGlobals "laid" = some (some (.ref f5))) (l5 : K.lookup f5 = some ⟨oc5, od5, .func (PySem.W.fnOf "laid" "laid" (defArgs s_laid) (defBody s_laid) (defScope s_laid) .none kV5 dc5 pm5 an5 cd5 ct5), sl5⟩) (c5 : PySem.W.codeIn K cd5 "laid" = true) (k5 : PySem.W.keepIn K (.ref f5) = true)
    {f6 : Addr} {od6 an6 : Option Addr} {sl6 : Array (Option Value)} {oc6 kV6 dc6 pm6 cd6 ct6 : Value}
    (a6 : PySem.W.nsIn K mainGlobals "pleated" = some (some (.ref f6))) (l6 : K.lookup f6 = some ⟨oc6, od6, .func (PySem.W.fnOf "pleated" "pleated" (defArgs s_pleated) (defBody s_pleated) (defScope s_pleated) .none kV6 dc6 pm6 an6 cd6 ct6), sl6⟩) (c6 : PySem.W.codeIn K cd6 "pleated" = true) (k6 : PySem.W.keepIn K (.ref f6) = true)
    {f7 : Addr} {od7 an7 : Option Addr} {sl7 : Array (Option Value)} {oc7 kV7 dc7 pm7 cd7 ct7 : Value}
    (a7 : PySem.W.nsIn K mainGlobals "piled_up" = some (some (.ref f7))) (l7 : K.lookup f7 = some ⟨oc7, od7, .func (PySem.W.fnOf "piled_up" "piled_up" (defArgs s_piled_up) (defBody s_piled_up) (defScope s_piled_up) .none kV7 dc7 pm7 an7 cd7 ct7), sl7⟩) (c7 : PySem.W.codeIn K cd7 "piled_up" = true) (k7 : PySem.W.keepIn K (.ref f7) = true)
    {f8 : Addr} {od8 an8 : Option Addr} {sl8 : Array (Option Value)} {oc8 kV8 dc8 pm8 cd8 ct8 : Value}
    (a8 : PySem.W.nsIn K mainGlobals "_law_cell_at" = some (some (.ref f8))) (l8 : K.lookup f8 = some ⟨oc8, od8, .func (PySem.W.fnOf "_law_cell_at" "_law_cell_at" (defArgs s_L_cell_at) (defBody s_L_cell_at) (defScope s_L_cell_at) .none kV8 dc8 pm8 an8 cd8 ct8), sl8⟩) (c8 : PySem.W.codeIn K cd8 "_law_cell_at" = true) (k8 : PySem.W.keepIn K (.ref f8) = true)
    {f9 : Addr} {od9 an9 : Option Addr} {sl9 : Array (Option Value)} {oc9 kV9 dc9 pm9 cd9 ct9 : Value}
    (a9 : PySem.W.nsIn K mainGlobals "_law_unfolded" = some (some (.ref f9))) (l9 : K.lookup f9 = some ⟨oc9, od9, .func (PySem.W.fnOf "_law_unfolded" "_law_unfolded" (defArgs s_L_unfolded) (defBody s_L_unfolded) (defScope s_L_unfolded) .none kV9 dc9 pm9 an9 cd9 ct9), sl9⟩) (c9 : PySem.W.codeIn K cd9 "_law_unfolded" = true) (k9 : PySem.W.keepIn K (.ref f9) = true)
    {f10 : Addr} {od10 an10 : Option Addr} {sl10 : Array (Option Value)} {oc10 kV10 dc10 pm10 cd10 ct10 : Value}
    (a10 : PySem.W.nsIn K mainGlobals "_law_strip" = some (some (.ref f10))) (l10 : K.lookup f10 = some ⟨oc10, od10, .func (PySem.W.fnOf "_law_strip" "_law_strip" (defArgs s_L_strip) (defBody s_L_strip) (defScope s_L_strip) .none kV10 dc10 pm10 an10 cd10 ct10), sl10⟩) (c10 : PySem.W.codeIn K cd10 "_law_strip" = true) (k10 : PySem.W.keepIn K (.ref f10) = true)
    {f11 : Addr} {od11 an11 : Option Addr} {sl11 : Array (Option Value)} {oc11 kV11 dc11 pm11 cd11 ct11 : Value}
    (a11 : PySem.W.nsIn K mainGlobals "_law_left" = some (some (.ref f11))) (l11 : K.lookup f11 = some ⟨oc11, od11, .func (PySem.W.fnOf "_law_left" "_law_left" (defArgs s_L_left) (defBody s_L_left) (defScope s_L_left) .none kV11 dc11 pm11 an11 cd11 ct11), sl11⟩) (c11 : PySem.W.codeIn K cd11 "_law_left" = true) (k11 : PySem.W.keepIn K (.ref f11) = true)
    {f12 : Addr} {od12 an12 : Option Addr} {sl12 : Array (Option Value)} {oc12 kV12 dc12 pm12 cd12 ct12 : Value}
    (a12 : PySem.W.nsIn K mainGlobals "_law_moves" = some (some (.ref f12))) (l12 : K.lookup f12 = some ⟨oc12, od12, .func (PySem.W.fnOf "_law_moves" "_law_moves" (defArgs s_L_moves) (defBody s_L_moves) (defScope s_L_moves) .none kV12 dc12 pm12 an12 cd12 ct12), sl12⟩) (c12 : PySem.W.codeIn K cd12 "_law_moves" = true) (k12 : PySem.W.keepIn K (.ref f12) = true)
    {f13 : Addr} {od13 an13 : Option Addr} {sl13 : Array (Option Value)} {oc13 kV13 dc13 pm13 cd13 ct13 : Value}
    (a13 : PySem.W.nsIn K mainGlobals "_law_behind" = some (some (.ref f13))) (l13 : K.lookup f13 = some ⟨oc13, od13, .func (PySem.W.fnOf "_law_behind" "_law_behind" (defArgs s_L_behind) (defBody s_L_behind) (defScope s_L_behind) .none kV13 dc13 pm13 an13 cd13 ct13), sl13⟩) (c13 : PySem.W.codeIn K cd13 "_law_behind" = true) (k13 : PySem.W.keepIn K (.ref f13) = true)
    {f14 : Addr} {od14 an14 : Option Addr} {sl14 : Array (Option Value)} {oc14 kV14 dc14 pm14 cd14 ct14 : Value}
    (a14 : PySem.W.nsIn K mainGlobals "_law_piled" = some (some (.ref f14))) (l14 : K.lookup f14 = some ⟨oc14, od14, .func (PySem.W.fnOf "_law_piled" "_law_piled" (defArgs s_L_piled) (defBody s_L_piled) (defScope s_L_piled) .none kV14 dc14 pm14 an14 cd14 ct14), sl14⟩) (c14 : PySem.W.codeIn K cd14 "_law_piled" = true) (k14 : PySem.W.keepIn K (.ref f14) = true)
    {f15 : Addr} {od15 an15 : Option Addr} {sl15 : Array (Option Value)} {oc15 kV15 dc15 pm15 cd15 ct15 : Value}
    (a15 : PySem.W.nsIn K mainGlobals "_law_whole" = some (some (.ref f15))) (l15 : K.lookup f15 = some ⟨oc15, od15, .func (PySem.W.fnOf "_law_whole" "_law_whole" (defArgs s_L_whole) (defBody s_L_whole) (defScope s_L_whole) .none kV15 dc15 pm15 an15 cd15 ct15), sl15⟩) (c15 : PySem.W.codeIn K cd15 "_law_whole" = true) (k15 : PySem.W.keepIn K (.ref f15) = true)
    {f16 : Addr} {od16 an16 : Option Addr} {sl16 : Array (Option Value)} {oc16 kV16 dc16 pm16 cd16 ct16 : Value}
    (a16 : PySem.W.nsIn K mainGlobals "_law_is_strip" = some (some (.ref f16))) (l16 : K.lookup f16 = some ⟨oc16, od16, .func (PySem.W.fnOf "_law_is_strip" "_law_is_strip" (defArgs s_L_is_strip) (defBody s_L_is_strip) (defScope s_L_is_strip) .none kV16 dc16 pm16 an16 cd16 ct16), sl16⟩) (c16 : PySem.W.codeIn K cd16 "_law_is_strip" = true) (k16 : PySem.W.keepIn K (.ref f16) = true)
    {f17 : Addr} {od17 an17 : Option Addr} {sl17 : Array (Option Value)} {oc17 kV17 dc17 pm17 cd17 ct17 : Value}
    (a17 : PySem.W.nsIn K mainGlobals "_law_sole" = some (some (.ref f17))) (l17 : K.lookup f17 = some ⟨oc17, od17, .func (PySem.W.fnOf "_law_sole" "_law_sole" (defArgs s_L_sole) (defBody s_L_sole) (defScope s_L_sole) .none kV17 dc17 pm17 an17 cd17 ct17), sl17⟩) (c17 : PySem.W.codeIn K cd17 "_law_sole" = true) (k17 : PySem.W.keepIn K (.ref f17) = true)
    {f18 : Addr} {od18 an18 : Option Addr} {sl18 : Array (Option Value)} {oc18 kV18 dc18 pm18 cd18 ct18 : Value}
    (a18 : PySem.W.nsIn K mainGlobals "_law_kinds" = some (some (.ref f18))) (l18 : K.lookup f18 = some ⟨oc18, od18, .func (PySem.W.fnOf "_law_kinds" "_law_kinds" (defArgs s_L_kinds) (defBody s_L_kinds) (defScope s_L_kinds) .none kV18 dc18 pm18 an18 cd18 ct18), sl18⟩) (c18 : PySem.W.codeIn K cd18 "_law_kinds" = true) (k18 : PySem.W.keepIn K (.ref f18) = true)
    {f19 : Addr} {od19 an19 : Option Addr} {sl19 : Array (Option Value)} {oc19 kV19 dc19 pm19 cd19 ct19 : Value}
    (a19 : PySem.W.nsIn K mainGlobals "_law_done" = some (some (.ref f19))) (l19 : K.lookup f19 = some ⟨oc19, od19, .func (PySem.W.fnOf "_law_done" "_law_done" (defArgs s_L_done) (defBody s_L_done) (defScope s_L_done) .none kV19 dc19 pm19 an19 cd19 ct19), sl19⟩) (c19 : PySem.W.codeIn K cd19 "_law_done" = true) (k19 : PySem.W.keepIn K (.ref f19) = true)
    {f20 : Addr} {od20 an20 : Option Addr} {sl20 : Array (Option Value)} {oc20 kV20 dc20 pm20 cd20 ct20 : Value}
    (a20 : PySem.W.nsIn K mainGlobals "_law_looked" = some (some (.ref f20))) (l20 : K.lookup f20 = some ⟨oc20, od20, .func (PySem.W.fnOf "_law_looked" "_law_looked" (defArgs s_L_looked) (defBody s_L_looked) (defScope s_L_looked) .none kV20 dc20 pm20 an20 cd20 ct20), sl20⟩) (c20 : PySem.W.codeIn K cd20 "_law_looked" = true) (k20 : PySem.W.keepIn K (.ref f20) = true)
    {f21 : Addr} {od21 an21 : Option Addr} {sl21 : Array (Option Value)} {oc21 kV21 dc21 pm21 cd21 ct21 : Value}
    (a21 : PySem.W.nsIn K mainGlobals "_law_stands" = some (some (.ref f21))) (l21 : K.lookup f21 = some ⟨oc21, od21, .func (PySem.W.fnOf "_law_stands" "_law_stands" (defArgs s_L_stands) (defBody s_L_stands) (defScope s_L_stands) .none kV21 dc21 pm21 an21 cd21 ct21), sl21⟩) (c21 : PySem.W.codeIn K cd21 "_law_stands" = true) (k21 : PySem.W.keepIn K (.ref f21) = true)
    {f22 : Addr} {od22 an22 : Option Addr} {sl22 : Array (Option Value)} {oc22 kV22 dc22 pm22 cd22 ct22 : Value}
    (a22 : PySem.W.nsIn K mainGlobals "_law_deed" = some (some (.ref f22))) (l22 : K.lookup f22 = some ⟨oc22, od22, .func (PySem.W.fnOf "_law_deed" "_law_deed" (defArgs s_L_deed) (defBody s_L_deed) (defScope s_L_deed) .none kV22 dc22 pm22 an22 cd22 ct22), sl22⟩) (c22 : PySem.W.codeIn K cd22 "_law_deed" = true) (k22 : PySem.W.keepIn K (.ref f22) = true)
    {f23 : Addr} {od23 an23 : Option Addr} {sl23 : Array (Option Value)} {oc23 kV23 dc23 pm23 cd23 ct23 : Value}
    (a23 : PySem.W.nsIn K mainGlobals "_law_step" = some (some (.ref f23))) (l23 : K.lookup f23 = some ⟨oc23, od23, .func (PySem.W.fnOf "_law_step" "_law_step" (defArgs s_L_step) (defBody s_L_step) (defScope s_L_step) .none kV23 dc23 pm23 an23 cd23 ct23), sl23⟩) (c23 : PySem.W.codeIn K cd23 "_law_step" = true) (k23 : PySem.W.keepIn K (.ref f23) = true)
    {f24 : Addr} {od24 an24 : Option Addr} {sl24 : Array (Option Value)} {oc24 kV24 dc24 pm24 cd24 ct24 : Value}
    (a24 : PySem.W.nsIn K mainGlobals "_law_again" = some (some (.ref f24))) (l24 : K.lookup f24 = some ⟨oc24, od24, .func (PySem.W.fnOf "_law_again" "_law_again" (defArgs s_L_again) (defBody s_L_again) (defScope s_L_again) .none kV24 dc24 pm24 an24 cd24 ct24), sl24⟩) (c24 : PySem.W.codeIn K cd24 "_law_again" = true) (k24 : PySem.W.keepIn K (.ref f24) = true)
    {f25 : Addr} {od25 an25 : Option Addr} {sl25 : Array (Option Value)} {oc25 kV25 dc25 pm25 cd25 ct25 : Value}
    (a25 : PySem.W.nsIn K mainGlobals "law" = some (some (.ref f25))) (l25 : K.lookup f25 = some ⟨oc25, od25, .func (PySem.W.fnOf "law" "law" (defArgs s_law) (defBody s_law) (defScope s_law) .none kV25 dc25 pm25 an25 cd25 ct25), sl25⟩) (c25 : PySem.W.codeIn K cd25 "law" = true) (k25 : PySem.W.keepIn K (.ref f25) = true)
    (z0 : PySem.W.nsIn K mainGlobals "len" = some none)
    (z1 : PySem.W.nsIn K mainGlobals "min" = some none)
    (z2 : PySem.W.nsIn K mainGlobals "int" = some none)
    (z3 : PySem.W.nsIn K mainGlobals "str" = some none)
    (z4 : PySem.W.nsIn K mainGlobals "list" = some none)
    (z5 : PySem.W.nsIn K mainGlobals "tuple" = some none)
    (z6 : PySem.W.nsIn K mainGlobals "all" = some none)
    (z7 : PySem.W.nsIn K mainGlobals "range" = some none)
    (z8 : PySem.W.nsIn K mainGlobals "reversed" = some none)
    (z9 : PySem.W.nsIn K mainGlobals "isinstance" = some none)
    (z10 : PySem.W.nsIn K mainGlobals "bool" = some none)
    (z11 : PySem.W.nsIn K mainGlobals "ValueError" = some none)
    {C0 : Addr} (xa0 : PySem.W.nsIn K mainGlobals "Fold" = some (some (.ref C0))) (xpg0 : PySem.W.plainGet K C0 Str.empty = true) (xhd0 : PySem.W.hasDictIn K C0 = true) (xpo0 : PySem.W.plainOver K C0 = true) (xsa0 : PySem.W.findIn K (.ref C0) "__setattr__" = some (some (.builtin "object.__setattr__"))) (xmk0 : PySem.W.makesIn K C0 = true) (xkc0 : PySem.W.keepIn K (.ref C0) = true)
    (xf0_0 : PySem.W.findIn K (.ref C0) "now" = some none)
    (xf0_1 : PySem.W.findIn K (.ref C0) "piles" = some none)
    (xf0_2 : PySem.W.findIn K (.ref C0) "past" = some none)
    {mf0_0 : Addr} {mod0_0 man0_0 : Option Addr} {msl0_0 : Array (Option Value)} {moc0_0 mkV0_0 mdc0_0 mpm0_0 mcd0_0 mct0_0 : Value}
    (ma0_0 : PySem.W.findIn K (.ref C0) "__init__" = some (some (.ref mf0_0))) (mi0_0 : PySem.W.isFn K (.ref mf0_0) = true) (ml0_0 : K.lookup mf0_0 = some ⟨moc0_0, mod0_0, .func (PySem.W.fnOf "__init__" "Fold.__init__" (defArgs s_Fold_init) (defBody s_Fold_init) (defScope s_Fold_init) .none mkV0_0 mdc0_0 mpm0_0 man0_0 mcd0_0 mct0_0), msl0_0⟩) (mc0_0 : PySem.W.codeIn K mcd0_0 "Fold.__init__" = true) (mk0_0 : PySem.W.keepIn K (.ref mf0_0) = true)
    {mf0_1 : Addr} {mod0_1 man0_1 : Option Addr} {msl0_1 : Array (Option Value)} {moc0_1 mkV0_1 mdc0_1 mpm0_1 mcd0_1 mct0_1 : Value}
    (ma0_1 : PySem.W.findIn K (.ref C0) "here" = some (some (.ref mf0_1))) (mi0_1 : PySem.W.isFn K (.ref mf0_1) = true) (ml0_1 : K.lookup mf0_1 = some ⟨moc0_1, mod0_1, .func (PySem.W.fnOf "here" "Fold.here" (defArgs s_Fold_here) (defBody s_Fold_here) (defScope s_Fold_here) .none mkV0_1 mdc0_1 mpm0_1 man0_1 mcd0_1 mct0_1), msl0_1⟩) (mc0_1 : PySem.W.codeIn K mcd0_1 "Fold.here" = true) (mk0_1 : PySem.W.keepIn K (.ref mf0_1) = true)
    {mf0_2 : Addr} {mod0_2 man0_2 : Option Addr} {msl0_2 : Array (Option Value)} {moc0_2 mkV0_2 mdc0_2 mpm0_2 mcd0_2 mct0_2 : Value}
    (ma0_2 : PySem.W.findIn K (.ref C0) "done" = some (some (.ref mf0_2))) (mi0_2 : PySem.W.isFn K (.ref mf0_2) = true) (ml0_2 : K.lookup mf0_2 = some ⟨moc0_2, mod0_2, .func (PySem.W.fnOf "done" "Fold.done" (defArgs s_Fold_done) (defBody s_Fold_done) (defScope s_Fold_done) .none mkV0_2 mdc0_2 mpm0_2 man0_2 mcd0_2 mct0_2), msl0_2⟩) (mc0_2 : PySem.W.codeIn K mcd0_2 "Fold.done" = true) (mk0_2 : PySem.W.keepIn K (.ref mf0_2) = true)
    {mf0_3 : Addr} {mod0_3 man0_3 : Option Addr} {msl0_3 : Array (Option Value)} {moc0_3 mkV0_3 mdc0_3 mpm0_3 mcd0_3 mct0_3 : Value}
    (ma0_3 : PySem.W.findIn K (.ref C0) "layers" = some (some (.ref mf0_3))) (mi0_3 : PySem.W.isFn K (.ref mf0_3) = true) (ml0_3 : K.lookup mf0_3 = some ⟨moc0_3, mod0_3, .func (PySem.W.fnOf "layers" "Fold.layers" (defArgs s_Fold_layers) (defBody s_Fold_layers) (defScope s_Fold_layers) .none mkV0_3 mdc0_3 mpm0_3 man0_3 mcd0_3 mct0_3), msl0_3⟩) (mc0_3 : PySem.W.codeIn K mcd0_3 "Fold.layers" = true) (mk0_3 : PySem.W.keepIn K (.ref mf0_3) = true)
    {mf0_4 : Addr} {mod0_4 man0_4 : Option Addr} {msl0_4 : Array (Option Value)} {moc0_4 mkV0_4 mdc0_4 mpm0_4 mcd0_4 mct0_4 : Value}
    (ma0_4 : PySem.W.findIn K (.ref C0) "take" = some (some (.ref mf0_4))) (mi0_4 : PySem.W.isFn K (.ref mf0_4) = true) (ml0_4 : K.lookup mf0_4 = some ⟨moc0_4, mod0_4, .func (PySem.W.fnOf "take" "Fold.take" (defArgs s_Fold_take) (defBody s_Fold_take) (defScope s_Fold_take) .none mkV0_4 mdc0_4 mpm0_4 man0_4 mcd0_4 mct0_4), msl0_4⟩) (mc0_4 : PySem.W.codeIn K mcd0_4 "Fold.take" = true) (mk0_4 : PySem.W.keepIn K (.ref mf0_4) = true)
    {mf0_5 : Addr} {mod0_5 man0_5 : Option Addr} {msl0_5 : Array (Option Value)} {moc0_5 mkV0_5 mdc0_5 mpm0_5 mcd0_5 mct0_5 : Value}
    (ma0_5 : PySem.W.findIn K (.ref C0) "back" = some (some (.ref mf0_5))) (mi0_5 : PySem.W.isFn K (.ref mf0_5) = true) (ml0_5 : K.lookup mf0_5 = some ⟨moc0_5, mod0_5, .func (PySem.W.fnOf "back" "Fold.back" (defArgs s_Fold_back) (defBody s_Fold_back) (defScope s_Fold_back) .none mkV0_5 mdc0_5 mpm0_5 man0_5 mcd0_5 mct0_5), msl0_5⟩) (mc0_5 : PySem.W.codeIn K mcd0_5 "Fold.back" = true) (mk0_5 : PySem.W.keepIn K (.ref mf0_5) = true)
    {Ce0 : Addr} (ea0 : PySem.W.nsIn K mainGlobals "BadStrip" = some (some (.ref Ce0))) (ew0 : PySem.W.hasDictIn K Ce0 = true) (ez0 : PySem.W.typeIn K (.ref Ce0) = some (.type "type"))
    {Ce1 : Addr} (ea1 : PySem.W.nsIn K mainGlobals "BadOrder" = some (some (.ref Ce1))) (ew1 : PySem.W.hasDictIn K Ce1 = true) (ez1 : PySem.W.typeIn K (.ref Ce1) = some (.type "type"))
    {Ce2 : Addr} (ea2 : PySem.W.nsIn K mainGlobals "NoFold" = some (some (.ref Ce2))) (ew2 : PySem.W.hasDictIn K Ce2 = true) (ez2 : PySem.W.typeIn K (.ref Ce2) = some (.type "type"))
    {Ce3 : Addr} (ea3 : PySem.W.nsIn K mainGlobals "NothingDone" = some (some (.ref Ce3))) (ew3 : PySem.W.hasDictIn K Ce3 = true) (ez3 : PySem.W.typeIn K (.ref Ce3) = some (.type "type"))
    {Ce4 : Addr} (ea4 : PySem.W.nsIn K mainGlobals "TooMany" = some (some (.ref Ce4))) (ew4 : PySem.W.hasDictIn K Ce4 = true) (ez4 : PySem.W.typeIn K (.ref Ce4) = some (.type "type"))
    {Ce5 : Addr} (ea5 : PySem.W.nsIn K mainGlobals "BadText" = some (some (.ref Ce5))) (ew5 : PySem.W.hasDictIn K Ce5 = true) (ez5 : PySem.W.typeIn K (.ref Ce5) = some (.type "type"))
    {Ce6 : Addr} (ea6 : PySem.W.nsIn K mainGlobals "FoldError" = some (some (.ref Ce6))) (ew6 : PySem.W.hasDictIn K Ce6 = true) (ez6 : PySem.W.typeIn K (.ref Ce6) = some (.type "type"))
    (ef6 : PySem.W.subIn K (.ref Ce6) (.type "BaseException") = some true)
    (eq2 : PySem.W.excIn K Ce2 [.type "ValueError", .type "Exception", .type "BaseException", .type "object"] "ValueError.__new__" = true)
    (ek2 : PySem.W.keepIn K (.ref Ce2) = true)
    (eb2 : PySem.W.subIn K (.ref Ce2) (.type "BaseException") = some true)
    (eg2 : PySem.W.findIn K (.ref Ce2) "__getattribute__" = some (some (.builtin "BaseException.__getattribute__")))
    (eh2 : PySem.W.findIn K (.ref Ce2) "__getattr__" = some none)
    (ec2 : PySem.W.findIn K (.ref Ce2) "__class__" = some (some (.builtin "object.__class__")))
    (en2 : PySem.W.specialIn K (.builtin "object.__class__") "__get__" = some (some (.builtin "getset_descriptor.__get__")))
    (ei2 : PySem.W.takesIn K (.builtin "object.__class__") = some true)
    (em2 : PySem.W.mroIn K Ce2 (.type "object") = some true)
    (ex2 : PySem.W.subIn K (.ref Ce2) (.ref Ce6) = some true)
    (ev2 : PySem.W.subIn K (.ref Ce2) (.type "ValueError") = some true)
    (es0_2 : PySem.W.subIn K (.ref Ce2) (.ref Ce0) = some false)
    (es1_2 : PySem.W.subIn K (.ref Ce2) (.ref Ce1) = some false)
    (es3_2 : PySem.W.subIn K (.ref Ce2) (.ref Ce3) = some false)
    (es4_2 : PySem.W.subIn K (.ref Ce2) (.ref Ce4) = some false)
    (es5_2 : PySem.W.subIn K (.ref Ce2) (.ref Ce5) = some false)
    (eu0_2 : (Value.ref Ce2 == Value.ref Ce0) = false)
    (eu1_2 : (Value.ref Ce2 == Value.ref Ce1) = false)
    (eu3_2 : (Value.ref Ce2 == Value.ref Ce3) = false)
    (eu4_2 : (Value.ref Ce2 == Value.ref Ce4) = false)
    (eu5_2 : (Value.ref Ce2 == Value.ref Ce5) = false)
    (eq3 : PySem.W.excIn K Ce3 [.type "ValueError", .type "Exception", .type "BaseException", .type "object"] "ValueError.__new__" = true)
    (ek3 : PySem.W.keepIn K (.ref Ce3) = true)
    (eb3 : PySem.W.subIn K (.ref Ce3) (.type "BaseException") = some true)
    (eg3 : PySem.W.findIn K (.ref Ce3) "__getattribute__" = some (some (.builtin "BaseException.__getattribute__")))
    (eh3 : PySem.W.findIn K (.ref Ce3) "__getattr__" = some none)
    (ec3 : PySem.W.findIn K (.ref Ce3) "__class__" = some (some (.builtin "object.__class__")))
    (en3 : PySem.W.specialIn K (.builtin "object.__class__") "__get__" = some (some (.builtin "getset_descriptor.__get__")))
    (ei3 : PySem.W.takesIn K (.builtin "object.__class__") = some true)
    (em3 : PySem.W.mroIn K Ce3 (.type "object") = some true)
    (ex3 : PySem.W.subIn K (.ref Ce3) (.ref Ce6) = some true)
    (ev3 : PySem.W.subIn K (.ref Ce3) (.type "ValueError") = some true)
    (es0_3 : PySem.W.subIn K (.ref Ce3) (.ref Ce0) = some false)
    (es1_3 : PySem.W.subIn K (.ref Ce3) (.ref Ce1) = some false)
    (es2_3 : PySem.W.subIn K (.ref Ce3) (.ref Ce2) = some false)
    (es4_3 : PySem.W.subIn K (.ref Ce3) (.ref Ce4) = some false)
    (es5_3 : PySem.W.subIn K (.ref Ce3) (.ref Ce5) = some false)
    (eu0_3 : (Value.ref Ce3 == Value.ref Ce0) = false)
    (eu1_3 : (Value.ref Ce3 == Value.ref Ce1) = false)
    (eu2_3 : (Value.ref Ce3 == Value.ref Ce2) = false)
    (eu4_3 : (Value.ref Ce3 == Value.ref Ce4) = false)
    (eu5_3 : (Value.ref Ce3 == Value.ref Ce5) = false)
    : ∃ fd : FuncData, (∀ (s : Shared) (v : Value), BindsTo s fd ⟨[v], []⟩ [("_law_script", v)]) ∧ ∀ base : Heap, K.In base → base.Ns mainGlobals mg → FnOk l.prog w K mg base CX0 8 fa fd ["_law_script"] (spLaw K) := by
  have e := hfa.symm.trans (PySem.W.mg_of X G a25)
  cases e
  have F0 := fun_mk (st := s_is_whole) l0 c0 k0
  have b0 := F0.binds (ps := ["thing"]) fun _ _ _ _ _ _ us hl => match us, hl with | [_], _ => rfl
  have F1 := fun_mk (st := s_copied) l1 c1 k1
  have b1 := F1.binds (ps := ["strip"]) fun _ _ _ _ _ _ us hl => match us, hl with | [_], _ => rfl
  have F2 := fun_mk (st := s_moves) l2 c2 k2
  have b2 := F2.binds (ps := ["strip"]) fun _ _ _ _ _ _ us hl => match us, hl with | [_], _ => rfl
  have F3 := fun_mk (st := s_is_move) l3 c3 k3
  have b3 := F3.binds (ps := ["thing"]) fun _ _ _ _ _ _ us hl => match us, hl with | [_], _ => rfl
  have F4 := fun_mk (st := s_taken) l4 c4 k4
  have b4 := F4.binds (ps := ["strip", "move"]) fun _ _ _ _ _ _ us hl => match us, hl with | [_, _], _ => rfl
  have F5 := fun_mk (st := s_laid) l5 c5 k5
  have b5 := F5.binds (ps := ["below", "piled", "mark"]) fun _ _ _ _ _ _ us hl => match us, hl with | [_, _, _], _ => rfl
  have F6 := fun_mk (st := s_pleated) l6 c6 k6
  have b6 := F6.binds (ps := ["piles", "at", "mark"]) fun _ _ _ _ _ _ us hl => match us, hl with | [_, _, _], _ => rfl
  have F7 := fun_mk (st := s_piled_up) l7 c7 k7
  have b7 := F7.binds (ps := ["piles", "marks", "move"]) fun _ _ _ _ _ _ us hl => match us, hl with | [_, _, _], _ => rfl
  have F8 := fun_mk (st := s_L_cell_at) l8 c8 k8
  have b8 := F8.binds (ps := ["_law_script", "_law_k"]) fun _ _ _ _ _ _ us hl => match us, hl with | [_, _], _ => rfl
  have F9 := fun_mk (st := s_L_unfolded) l9 c9 k9
  have b9 := F9.binds (ps := ["_law_script", "_law_first", "_law_many"]) fun _ _ _ _ _ _ us hl => match us, hl with | [_, _, _], _ => rfl
  have F10 := fun_mk (st := s_L_strip) l10 c10 k10
  have b10 := F10.binds (ps := ["_law_script"]) fun _ _ _ _ _ _ us hl => match us, hl with | [_], _ => rfl
  have F11 := fun_mk (st := s_L_left) l11 c11 k11
  have b11 := F11.binds (ps := ["_law_script"]) fun _ _ _ _ _ _ us hl => match us, hl with | [_], _ => rfl
  have F12 := fun_mk (st := s_L_moves) l12 c12 k12
  have b12 := F12.binds (ps := ["_law_lengths", "_law_marks"]) fun _ _ _ _ _ _ us hl => match us, hl with | [_, _], _ => rfl
  have F13 := fun_mk (st := s_L_behind) l13 c13 k13
  have b13 := F13.binds (ps := ["_law_lengths", "_law_marks", "_law_move"]) fun _ _ _ _ _ _ us hl => match us, hl with | [_, _, _], _ => rfl
  have F14 := fun_mk (st := s_L_piled) l14 c14 k14
  have b14 := F14.binds (ps := ["_law_piles", "_law_marks", "_law_move"]) fun _ _ _ _ _ _ us hl => match us, hl with | [_, _, _], _ => rfl
  have F15 := fun_mk (st := s_L_whole) l15 c15 k15
  have b15 := F15.binds (ps := ["_law_found"]) fun _ _ _ _ _ _ us hl => match us, hl with | [_], _ => rfl
  have F16 := fun_mk (st := s_L_is_strip) l16 c16 k16
  have b16 := F16.binds (ps := ["_law_found", "_law_due"]) fun _ _ _ _ _ _ us hl => match us, hl with | [_, _], _ => rfl
  have F17 := fun_mk (st := s_L_sole) l17 c17 k17
  have b17 := F17.binds (ps := ["_law_error", "_law_due"]) fun _ _ _ _ _ _ us hl => match us, hl with | [_, _], _ => rfl
  have F18 := fun_mk (st := s_L_kinds) l18 c18 k18
  have b18 := F18.binds (ps := ["_law_move"]) fun _ _ _ _ _ _ us hl => match us, hl with | [_], _ => rfl
  have F19 := fun_mk (st := s_L_done) l19 c19 k19
  have b19 := F19.binds (ps := ["_law_work", "_law_move"]) fun _ _ _ _ _ _ us hl => match us, hl with | [_, _], _ => rfl
  have F20 := fun_mk (st := s_L_looked) l20 c20 k20
  have b20 := F20.binds (ps := ["_law_work", "_law_turn"]) fun _ _ _ _ _ _ us hl => match us, hl with | [_, _], _ => rfl
  have F21 := fun_mk (st := s_L_stands) l21 c21 k21
  have b21 := F21.binds (ps := ["_law_work", "_law_state", "_law_held", "_law_turn"]) fun _ _ _ _ _ _ us hl => match us, hl with | [_, _, _, _], _ => rfl
  have F22 := fun_mk (st := s_L_deed) l22 c22 k22
  have b22 := F22.binds (ps := ["_law_state", "_law_cell"]) fun _ _ _ _ _ _ us hl => match us, hl with | [_, _], _ => rfl
  have F23 := fun_mk (st := s_L_step) l23 c23 k23
  have b23 := F23.binds (ps := ["_law_work", "_law_state", "_law_move"]) fun _ _ _ _ _ _ us hl => match us, hl with | [_, _, _], _ => rfl
  have F24 := fun_mk (st := s_L_again) l24 c24 k24
  have b24 := F24.binds (ps := ["_law_work", "_law_state"]) fun _ _ _ _ _ _ us hl => match us, hl with | [_, _], _ => rfl
  have F25 := fun_mk (st := s_law) l25 c25 k25
  have b25 := F25.binds (ps := ["_law_script"]) fun _ _ _ _ _ _ us hl => match us, hl with | [_], _ => rfl
  have T : Fx K mg := ⟨⟨_, _, PySem.W.mg_of X G a0, F0, b0⟩, ⟨_, _, PySem.W.mg_of X G a1, F1, b1⟩, ⟨_, _, PySem.W.mg_of X G a2, F2, b2⟩, ⟨_, _, PySem.W.mg_of X G a3, F3, b3⟩, ⟨_, _, PySem.W.mg_of X G a4, F4, b4⟩, ⟨_, _, PySem.W.mg_of X G a5, F5, b5⟩, ⟨_, _, PySem.W.mg_of X G a6, F6, b6⟩, ⟨_, _, PySem.W.mg_of X G a7, F7, b7⟩, ⟨_, _, PySem.W.mg_of X G a8, F8, b8⟩, ⟨_, _, PySem.W.mg_of X G a9, F9, b9⟩, ⟨_, _, PySem.W.mg_of X G a10, F10, b10⟩, ⟨_, _, PySem.W.mg_of X G a11, F11, b11⟩, ⟨_, _, PySem.W.mg_of X G a12, F12, b12⟩, ⟨_, _, PySem.W.mg_of X G a13, F13, b13⟩, ⟨_, _, PySem.W.mg_of X G a14, F14, b14⟩, ⟨_, _, PySem.W.mg_of X G a15, F15, b15⟩, ⟨_, _, PySem.W.mg_of X G a16, F16, b16⟩, ⟨_, _, PySem.W.mg_of X G a17, F17, b17⟩, ⟨_, _, PySem.W.mg_of X G a18, F18, b18⟩, ⟨_, _, PySem.W.mg_of X G a19, F19, b19⟩, ⟨_, _, PySem.W.mg_of X G a20, F20, b20⟩, ⟨_, _, PySem.W.mg_of X G a21, F21, b21⟩, ⟨_, _, PySem.W.mg_of X G a22, F22, b22⟩, ⟨_, _, PySem.W.mg_of X G a23, F23, b23⟩, ⟨_, _, PySem.W.mg_of X G a24, F24, b24⟩, ⟨_, _, PySem.W.mg_of X G a25, F25, b25⟩⟩
  have B : Bx mg := ⟨PySem.W.mg_none_of X G z0, PySem.W.mg_none_of X G z1, PySem.W.mg_none_of X G z2, PySem.W.mg_none_of X G z3, PySem.W.mg_none_of X G z4, PySem.W.mg_none_of X G z5, PySem.W.mg_none_of X G z6, PySem.W.mg_none_of X G z7, PySem.W.mg_none_of X G z8, PySem.W.mg_none_of X G z9, PySem.W.mg_none_of X G z10, PySem.W.mg_none_of X G z11⟩
  have MF0_0 := fun_mk (st := s_Fold_init) ml0_0 mc0_0 mk0_0
  have mb0_0 := MF0_0.binds (ps := ["self", "strip"]) fun _ _ _ _ _ _ us hl => match us, hl with | [_, _], _ => rfl
  have MF0_1 := fun_mk (st := s_Fold_here) ml0_1 mc0_1 mk0_1
  have mb0_1 := MF0_1.binds (ps := ["self"]) fun _ _ _ _ _ _ us hl => match us, hl with | [_], _ => rfl
  have MF0_2 := fun_mk (st := s_Fold_done) ml0_2 mc0_2 mk0_2
  have mb0_2 := MF0_2.binds (ps := ["self"]) fun _ _ _ _ _ _ us hl => match us, hl with | [_], _ => rfl
  have MF0_3 := fun_mk (st := s_Fold_layers) ml0_3 mc0_3 mk0_3
  have mb0_3 := MF0_3.binds (ps := ["self"]) fun _ _ _ _ _ _ us hl => match us, hl with | [_], _ => rfl
  have MF0_4 := fun_mk (st := s_Fold_take) ml0_4 mc0_4 mk0_4
  have mb0_4 := MF0_4.binds (ps := ["self", "move"]) fun _ _ _ _ _ _ us hl => match us, hl with | [_, _], _ => rfl
  have MF0_5 := fun_mk (st := s_Fold_back) ml0_5 mc0_5 mk0_5
  have mb0_5 := MF0_5.binds (ps := ["self"]) fun _ _ _ _ _ _ us hl => match us, hl with | [_], _ => rfl
  have CC0 : Cl_Fold K mg C0 := ⟨⟨⟨xpg0, xhd0, xpo0, xsa0⟩, PySem.W.mg_of X G xa0, xmk0, xkc0, fun f hf => by
    simp only [List.mem_cons, List.not_mem_nil, or_false] at hf
    rcases hf with rfl | rfl | rfl
    · exact xf0_0
    · exact xf0_1
    · exact xf0_2⟩, ⟨_, _, ma0_0, mi0_0, MF0_0, mb0_0⟩, ⟨_, _, ma0_1, mi0_1, MF0_1, mb0_1⟩, ⟨_, _, ma0_2, mi0_2, MF0_2, mb0_2⟩, ⟨_, _, ma0_3, mi0_3, MF0_3, mb0_3⟩, ⟨_, _, ma0_4, mi0_4, MF0_4, mb0_4⟩, ⟨_, _, ma0_5, mi0_5, MF0_5, mb0_5⟩⟩
  have kit2 : ∀ i n, errN[i]? = some n → ∃ C1, mg n = some (.ref C1) ∧ PySem.W.kitOne K (.ref Ce2) (.ref C1) = some (decide (i = 2)) := fun i n h => by
    match i, h with
    | 0, h => obtain rfl := Option.some.inj (show some ("BadStrip" : Str) = some n from h); exact ⟨_, PySem.W.mg_of X G ea0, kit_other eu0_2 ew0 ez0 es0_2⟩
    | 1, h => obtain rfl := Option.some.inj (show some ("BadOrder" : Str) = some n from h); exact ⟨_, PySem.W.mg_of X G ea1, kit_other eu1_2 ew1 ez1 es1_2⟩
    | 2, h => obtain rfl := Option.some.inj (show some ("NoFold" : Str) = some n from h); exact ⟨_, PySem.W.mg_of X G ea2, kit_self⟩
    | 3, h => obtain rfl := Option.some.inj (show some ("NothingDone" : Str) = some n from h); exact ⟨_, PySem.W.mg_of X G ea3, kit_other eu3_2 ew3 ez3 es3_2⟩
    | 4, h => obtain rfl := Option.some.inj (show some ("TooMany" : Str) = some n from h); exact ⟨_, PySem.W.mg_of X G ea4, kit_other eu4_2 ew4 ez4 es4_2⟩
    | 5, h => obtain rfl := Option.some.inj (show some ("BadText" : Str) = some n from h); exact ⟨_, PySem.W.mg_of X G ea5, kit_other eu5_2 ew5 ez5 es5_2⟩
    | i + 6, h => simp at h
  have W2 : ErrW K mg 2 "NoFold" Ce2 Ce6 := ⟨⟨eq2, PySem.W.mg_of X G ea2, ek2, eb2, ez2⟩, ⟨eg2, eh2, eb2, ew2, ec2, en2, ei2, em2⟩, PySem.W.mg_of X G ea6, PySem.W.exm_ref ef6 ew6 ez6 ex2, kit2, kit_val ev2⟩
  have kit3 : ∀ i n, errN[i]? = some n → ∃ C1, mg n = some (.ref C1) ∧ PySem.W.kitOne K (.ref Ce3) (.ref C1) = some (decide (i = 3)) := fun i n h => by
    match i, h with
    | 0, h => obtain rfl := Option.some.inj (show some ("BadStrip" : Str) = some n from h); exact ⟨_, PySem.W.mg_of X G ea0, kit_other eu0_3 ew0 ez0 es0_3⟩
    | 1, h => obtain rfl := Option.some.inj (show some ("BadOrder" : Str) = some n from h); exact ⟨_, PySem.W.mg_of X G ea1, kit_other eu1_3 ew1 ez1 es1_3⟩
    | 2, h => obtain rfl := Option.some.inj (show some ("NoFold" : Str) = some n from h); exact ⟨_, PySem.W.mg_of X G ea2, kit_other eu2_3 ew2 ez2 es2_3⟩
    | 3, h => obtain rfl := Option.some.inj (show some ("NothingDone" : Str) = some n from h); exact ⟨_, PySem.W.mg_of X G ea3, kit_self⟩
    | 4, h => obtain rfl := Option.some.inj (show some ("TooMany" : Str) = some n from h); exact ⟨_, PySem.W.mg_of X G ea4, kit_other eu4_3 ew4 ez4 es4_3⟩
    | 5, h => obtain rfl := Option.some.inj (show some ("BadText" : Str) = some n from h); exact ⟨_, PySem.W.mg_of X G ea5, kit_other eu5_3 ew5 ez5 es5_3⟩
    | i + 6, h => simp at h
  have W3 : ErrW K mg 3 "NothingDone" Ce3 Ce6 := ⟨⟨eq3, PySem.W.mg_of X G ea3, ek3, eb3, ez3⟩, ⟨eg3, eh3, eb3, ew3, ec3, en3, ei3, em3⟩, PySem.W.mg_of X G ea6, PySem.W.exm_ref ef6 ew6 ez6 ex3, kit3, kit_val ev3⟩
  exact ⟨_, fun s v => .of_eq rfl, fun base _ _ => law_of rfl fun ns hn => law_fn F25 T B CC0 W2 W3 ns hn⟩
end
end VL
open PySem PySem.W PyProof.Rows
set_option maxRecDepth 100000 in
set_option maxHeartbeats 0 in
theorem PySem.Challenge.cw_flatstrip_k07_folded_and_taken_back_holds : PySem.Challenge.rw_flatstrip_k07_folded_and_taken_back.Holds := by
  w_on
  o_law
  k_head
  case hw => w_witness2
  k_fill
  refine L2.walk_of (l := PySem.Challenge.rw_flatstrip_k07_folded_and_taken_back)
    (n := 63) (k := 8) (x := "_law_script")
    (CX := fun _ => L2.CX0)
    (sp := fun w => VL.spLaw _)
    rfl (by decide) rfl
    ⟨rfl, by decide, by decide⟩
    (fun w h Y => PySem.W.kIn_of Y) ?F
    (fun _ _ a ns hl _ hS => ⟨a, ns, rfl, hS, hl, fun _ => rfl⟩)
    (fun _ _ _ _ _ h => h)
  case F =>
    intro w mg fa h KX G hmg
    refine' VL.all_mk KX G hmg
      ?a0 ?l0 ?c0 ?k0 ?a1 ?l1 ?c1 ?k1
      ?a2 ?l2 ?c2 ?k2 ?a3 ?l3 ?c3 ?k3
      ?a4 ?l4 ?c4 ?k4 ?a5 ?l5 ?c5 ?k5
      ?a6 ?l6 ?c6 ?k6 ?a7 ?l7 ?c7 ?k7
      ?a8 ?l8 ?c8 ?k8 ?a9 ?l9 ?c9 ?k9
      ?a10 ?l10 ?c10 ?k10 ?a11 ?l11 ?c11 ?k11
      ?a12 ?l12 ?c12 ?k12 ?a13 ?l13 ?c13 ?k13
      ?a14 ?l14 ?c14 ?k14 ?a15 ?l15 ?c15 ?k15
      ?a16 ?l16 ?c16 ?k16 ?a17 ?l17 ?c17 ?k17
      ?a18 ?l18 ?c18 ?k18 ?a19 ?l19 ?c19 ?k19
      ?a20 ?l20 ?c20 ?k20 ?a21 ?l21 ?c21 ?k21
      ?a22 ?l22 ?c22 ?k22 ?a23 ?l23 ?c23 ?k23
      ?a24 ?l24 ?c24 ?k24 ?a25 ?l25 ?c25 ?k25
      ?z0 ?z1 ?z2 ?z3 ?z4 ?z5 ?z6 ?z7
      ?z8 ?z9 ?z10 ?z11 ?xa0 ?xpg0 ?xhd0 ?xpo0
      ?xsa0 ?xmk0 ?xkc0 ?xf0_0 ?xf0_1 ?xf0_2 ?ma0_0 ?mi0_0
      ?ml0_0 ?mc0_0 ?mk0_0 ?ma0_1 ?mi0_1 ?ml0_1 ?mc0_1 ?mk0_1
      ?ma0_2 ?mi0_2 ?ml0_2 ?mc0_2 ?mk0_2 ?ma0_3 ?mi0_3 ?ml0_3
      ?mc0_3 ?mk0_3 ?ma0_4 ?mi0_4 ?ml0_4 ?mc0_4 ?mk0_4 ?ma0_5
      ?mi0_5 ?ml0_5 ?mc0_5 ?mk0_5 ?ea0 ?ew0 ?ez0 ?ea1
      ?ew1 ?ez1 ?ea2 ?ew2 ?ez2 ?ea3 ?ew3 ?ez3
      ?ea4 ?ew4 ?ez4 ?ea5 ?ew5 ?ez5 ?ea6 ?ew6
      ?ez6 ?ef6 ?eq2 ?ek2 ?eb2 ?eg2 ?eh2 ?ec2
      ?en2 ?ei2 ?em2 ?ex2 ?ev2 ?es0_2 ?es1_2 ?es3_2
      ?es4_2 ?es5_2 ?eu0_2 ?eu1_2 ?eu3_2 ?eu4_2 ?eu5_2 ?eq3
      ?ek3 ?eb3 ?eg3 ?eh3 ?ec3 ?en3 ?ei3 ?em3
      ?ex3 ?ev3 ?es0_3 ?es1_3 ?es2_3 ?es4_3 ?es5_3 ?eu0_3
      ?eu1_3 ?eu2_3 ?eu4_3 ?eu5_3
    case a0 => k_is
    case l0 => k_is
    case c0 => k_is
    case k0 => k_is
    case a1 => k_is
    case l1 => k_is
    case c1 => k_is
    case k1 => k_is
    case a2 => k_is
    case l2 => k_is
    case c2 => k_is
    case k2 => k_is
    case a3 => k_is
    case l3 => k_is
    case c3 => k_is
    case k3 => k_is
    case a4 => k_is
    case l4 => k_is
    case c4 => k_is
    case k4 => k_is
    case a5 => k_is
    case l5 => k_is
    case c5 => k_is
    case k5 => k_is
    case a6 => k_is
    case l6 => k_is
    case c6 => k_is
    case k6 => k_is
    case a7 => k_is
    case l7 => k_is
    case c7 => k_is
    case k7 => k_is
    case a8 => k_is
    case l8 => k_is
    case c8 => k_is
    case k8 => k_is
    case a9 => k_is
    case l9 => k_is
    case c9 => k_is
    case k9 => k_is
    case a10 => k_is
    case l10 => k_is
    case c10 => k_is
    case k10 => k_is
    case a11 => k_is
    case l11 => k_is
    case c11 => k_is
    case k11 => k_is
    case a12 => k_is
    case l12 => k_is
    case c12 => k_is
    case k12 => k_is
    case a13 => k_is
    case l13 => k_is
    case c13 => k_is
    case k13 => k_is
    case a14 => k_is
    case l14 => k_is
    case c14 => k_is
    case k14 => k_is
    case a15 => k_is
    case l15 => k_is
    case c15 => k_is
    case k15 => k_is
    case a16 => k_is
    case l16 => k_is
    case c16 => k_is
    case k16 => k_is
    case a17 => k_is
    case l17 => k_is
    case c17 => k_is
    case k17 => k_is
    case a18 => k_is
    case l18 => k_is
    case c18 => k_is
    case k18 => k_is
    case a19 => k_is
    case l19 => k_is
    case c19 => k_is
    case k19 => k_is
    case a20 => k_is
    case l20 => k_is
    case c20 => k_is
    case k20 => k_is
    case a21 => k_is
    case l21 => k_is
    case c21 => k_is
    case k21 => k_is
    case a22 => k_is
    case l22 => k_is
    case c22 => k_is
    case k22 => k_is
    case a23 => k_is
    case l23 => k_is
    case c23 => k_is
    case k23 => k_is
    case a24 => k_is
    case l24 => k_is
    case c24 => k_is
    case k24 => k_is
    case a25 => k_is
    case l25 => k_is
    case c25 => k_is
    case k25 => k_is
    case z0 => k_is
    case z1 => k_is
    case z2 => k_is
    case z3 => k_is
    case z4 => k_is
    case z5 => k_is
    case z6 => k_is
    case z7 => k_is
    case z8 => k_is
    case z9 => k_is
    case z10 => k_is
    case z11 => k_is
    case xa0 => k_is
    case xpg0 => k_is
    case xhd0 => k_is
    case xpo0 => k_is
    case xsa0 => k_is
    case xmk0 => k_is
    case xkc0 => k_is
    case xf0_0 => k_is
    case xf0_1 => k_is
    case xf0_2 => k_is
    case ma0_0 => k_is
    case mi0_0 => k_is
    case ml0_0 => k_is
    case mc0_0 => k_is
    case mk0_0 => k_is
    case ma0_1 => k_is
    case mi0_1 => k_is
    case ml0_1 => k_is
    case mc0_1 => k_is
    case mk0_1 => k_is
    case ma0_2 => k_is
    case mi0_2 => k_is
    case ml0_2 => k_is
    case mc0_2 => k_is
    case mk0_2 => k_is
    case ma0_3 => k_is
    case mi0_3 => k_is
    case ml0_3 => k_is
    case mc0_3 => k_is
    case mk0_3 => k_is
    case ma0_4 => k_is
    case mi0_4 => k_is
    case ml0_4 => k_is
    case mc0_4 => k_is
    case mk0_4 => k_is
    case ma0_5 => k_is
    case mi0_5 => k_is
    case ml0_5 => k_is
    case mc0_5 => k_is
    case mk0_5 => k_is
    case ea0 => k_is
    case ew0 => k_is
    case ez0 => k_is
    case ea1 => k_is
    case ew1 => k_is
    case ez1 => k_is
    case ea2 => k_is
    case ew2 => k_is
    case ez2 => k_is
    case ea3 => k_is
    case ew3 => k_is
    case ez3 => k_is
    case ea4 => k_is
    case ew4 => k_is
    case ez4 => k_is
    case ea5 => k_is
    case ew5 => k_is
    case ez5 => k_is
    case ea6 => k_is
    case ew6 => k_is
    case ez6 => k_is
    case ef6 => k_is
    case eq2 => k_exc
    case ek2 => k_is
    case eb2 => k_is
    case eg2 => k_is
    case eh2 => k_is
    case ec2 => k_is
    case en2 => k_is
    case ei2 => k_is
    case em2 => k_is
    case ex2 => k_is
    case ev2 => k_is
    case es0_2 => k_is
    case es1_2 => k_is
    case es3_2 => k_is
    case es4_2 => k_is
    case es5_2 => k_is
    case eu0_2 => decide
    case eu1_2 => decide
    case eu3_2 => decide
    case eu4_2 => decide
    case eu5_2 => decide
    case eq3 => k_exc
    case ek3 => k_is
    case eb3 => k_is
    case eg3 => k_is
    case eh3 => k_is
    case ec3 => k_is
    case en3 => k_is
    case ei3 => k_is
    case em3 => k_is
    case ex3 => k_is
    case ev3 => k_is
    case es0_3 => k_is
    case es1_3 => k_is
    case es2_3 => k_is
    case es4_3 => k_is
    case es5_3 => k_is
    case eu0_3 => decide
    case eu1_3 => decide
    case eu2_3 => decide
    case eu4_3 => decide
    case eu5_3 => decide
