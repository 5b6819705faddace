import PyProof.Rows.All
import Wide.All
import OpenK.AllK
import Wide.FinOn
import HandS.ForMost
import HandS.ForExc
import HandS.IsInst
import HandS.Defaults
import HandS.RaiseMore
import HandS.More
import HandS.SetFor
import HandS.ExcIs
import HandS.Deep
import HandS.Conv
import HandS.Style
import HandS.SortOrd
import HandS.SortInts
import HandS.TupAny
import PyProof.Rows.KernelRfl
import PySem.Challenge.RW_waydues_k65_hunts_for_leaks
set_option Elab.async false
set_option linter.all false
set_option maxRecDepth 100000
set_option maxHeartbeats 4000000
/-! Data without a heap, and what a def reckons on it. -/
namespace Dv
open PySem L2

inductive D where
  | non | bl (b : Bool) | int (i : Int) | str (s : Str)
  | tup (xs : List D) | lst (xs : List D) | scr (ns : List D)
  | dk (kvs : List (Key × D)) | dt (kvs : List (List Key × D))

abbrev Fg := PySem.W.Frag

mutual
inductive Rep (K : Fg) (H : Hp) : V → D → Prop
  | non : Rep K H .non .non
  | bl (b : Bool) : Rep K H (.bl b) (.bl b)
  | int (i : Int) : Rep K H (.int i) (.int i)
  | str (s : Str) : Rep K H (.str s) (.str s)
  | tup {a : Addr} {vs : List V} {ds : List D} : H a = some (.tup vs) → Reps K H vs ds → Rep K H (.ref a) (.tup ds)
  | lst {a : Addr} {vs : List V} {ds : List D} : H a = some (.lst vs) → Reps K H vs ds → Rep K H (.ref a) (.lst ds)
  | scr {a : Addr} {vs : List V} {ds : List D} : SqL K H a vs → Reps K H vs ds → Rep K H (.ref a) (.scr ds)
  | dk {a : Addr} {kvs : List (Key × V)} {kds : List (Key × D)} : Rd H a (.dK kvs) → KReps K H kvs kds → Rep K H (.ref a) (.dk kds)
  | dt {a : Addr} {kvs : List (List Key × V)} {kds : List (List Key × D)} : Rd H a (.dT kvs) → TReps K H kvs kds → Rep K H (.ref a) (.dt kds)
inductive Reps (K : Fg) (H : Hp) : List V → List D → Prop
  | nil : Reps K H [] []
  | cons {v : V} {vs : List V} {d : D} {ds : List D} : Rep K H v d → Reps K H vs ds → Reps K H (v :: vs) (d :: ds)
inductive KReps (K : Fg) (H : Hp) : List (Key × V) → List (Key × D) → Prop
  | nil : KReps K H [] []
  | cons {k : Key} {v : V} {vs : List (Key × V)} {d : D} {ds : List (Key × D)} : Rep K H v d → KReps K H vs ds → KReps K H ((k, v) :: vs) ((k, d) :: ds)
inductive TReps (K : Fg) (H : Hp) : List (List Key × V) → List (List Key × D) → Prop
  | nil : TReps K H [] []
  | cons {k : List Key} {v : V} {vs : List (List Key × V)} {d : D} {ds : List (List Key × D)} : Rep K H v d → TReps K H vs ds → TReps K H ((k, v) :: vs) ((k, d) :: ds)
end

theorem Same.rd {H H' : Hp} (e : Same H H') {a : Addr} {u : HO} (h : Rd H a u) : Rd H' a u := by
  rcases h with h | ⟨o, h⟩
  · exact .inl (e a _ h)
  · exact .inr ⟨o, e a _ h⟩
theorem Same.seqT {K : Fg} {H H' : Hp} {a : Addr} {xs : List V} (e : Same H H') (h : SqT K H a xs) : SqT K H' a xs := by
  rcases h with h | h
  · exact .inl (Same.rd e h)
  · exact .inr h

mutual
theorem Rep.mono {K : Fg} {H H' : Hp} (e : Same H H') : ∀ {v : V} {d : D}, Rep K H v d → Rep K H' v d
  | _, _, .non => .non
  | _, _, .bl b => .bl b
  | _, _, .int i => .int i
  | _, _, .str s => .str s
  | _, _, .tup h r => .tup (e _ _ h) (Reps.mono e r)
  | _, _, .lst h r => .lst (e _ _ h) (Reps.mono e r)
  | _, _, .scr h r => .scr (Same.seq e h) (Reps.mono e r)
  | _, _, .dk h r => .dk (Same.rd e h) (KReps.mono e r)
  | _, _, .dt h r => .dt (Same.rd e h) (TReps.mono e r)
theorem Reps.mono {K : Fg} {H H' : Hp} (e : Same H H') : ∀ {v : List V} {d : List D}, Reps K H v d → Reps K H' v d
  | _, _, .nil => .nil
  | _, _, .cons h r => .cons (Rep.mono e h) (Reps.mono e r)
theorem KReps.mono {K : Fg} {H H' : Hp} (e : Same H H') : ∀ {v : List (Key × V)} {d : List (Key × D)}, KReps K H v d → KReps K H' v d
  | _, _, .nil => .nil
  | _, _, .cons h r => .cons (Rep.mono e h) (KReps.mono e r)
theorem TReps.mono {K : Fg} {H H' : Hp} (e : Same H H') : ∀ {v : List (List Key × V)} {d : List (List Key × D)}, TReps K H v d → TReps K H' v d
  | _, _, .nil => .nil
  | _, _, .cons h r => .cons (Rep.mono e h) (TReps.mono e r)
end

theorem Reps.length {K : Fg} {H : Hp} : ∀ {vs : List V} {ds : List D}, Reps K H vs ds → vs.length = ds.length
  | _, _, .nil => rfl
  | _, _, .cons _ r => congrArg (· + 1) (Reps.length r)
theorem Reps.get {K : Fg} {H : Hp} : ∀ {vs : List V} {ds : List D} {i : Nat} {d : D}, Reps K H vs ds → ds[i]? = some d → ∃ v, vs[i]? = some v ∧ Rep K H v d
  | _, _, _, _, .nil, e => by simp at e
  | _, _, 0, _, .cons h _, e => by simp at e; subst e; exact ⟨_, rfl, h⟩
  | _, _, i + 1, d, .cons _ r, e => by
    obtain ⟨v, h1, h2⟩ := Reps.get (i := i) (d := d) r (by simpa using e)
    exact ⟨v, by simpa using h1, h2⟩
theorem Reps.getV {K : Fg} {H : Hp} : ∀ {vs : List V} {ds : List D} {i : Nat} {v : V}, Reps K H vs ds → vs[i]? = some v → ∃ d, ds[i]? = some d ∧ Rep K H v d
  | _, _, _, _, .nil, e => by simp at e
  | _, _, 0, _, .cons h _, e => by simp at e; subst e; exact ⟨_, rfl, h⟩
  | _, _, i + 1, d, .cons _ r, e => by
    obtain ⟨v, h1, h2⟩ := Reps.getV (i := i) (v := d) r (by simpa using e)
    exact ⟨v, by simpa using h1, h2⟩
theorem Reps.append {K : Fg} {H : Hp} : ∀ {vs ws : List V} {ds es : List D}, Reps K H vs ds → Reps K H ws es → Reps K H (vs ++ ws) (ds ++ es)
  | _, _, _, _, .nil, s => s
  | _, _, _, _, .cons h r, s => .cons h (Reps.append r s)
theorem Reps.take {K : Fg} {H : Hp} : ∀ {vs : List V} {ds : List D} (n : Nat), Reps K H vs ds → Reps K H (vs.take n) (ds.take n)
  | _, _, 0, _ => by simp only [List.take_zero]; exact .nil
  | _, _, _ + 1, .nil => by simp only [List.take_nil]; exact .nil
  | _, _, n + 1, .cons h r => .cons h (Reps.take n r)
theorem Reps.drop {K : Fg} {H : Hp} : ∀ {vs : List V} {ds : List D} (n : Nat), Reps K H vs ds → Reps K H (vs.drop n) (ds.drop n)
  | _, _, 0, r => r
  | _, _, _ + 1, .nil => by simp only [List.drop_nil]; exact .nil
  | _, _, n + 1, .cons _ r => Reps.drop n r
theorem Reps.set {K : Fg} {H : Hp} {v : V} {d : D} (h : Rep K H v d) : ∀ {vs : List V} {ds : List D} (n : Nat), Reps K H vs ds → Reps K H (vs.set n v) (ds.set n d)
  | _, _, _, .nil => .nil
  | _, _, 0, .cons _ r => .cons h r
  | _, _, n + 1, .cons a r => .cons a (Reps.set h n r)
theorem Reps.reverse {K : Fg} {H : Hp} : ∀ {vs : List V} {ds : List D}, Reps K H vs ds → Reps K H vs.reverse ds.reverse
  | _, _, .nil => .nil
  | _, _, .cons h r => by rw [List.reverse_cons, List.reverse_cons]; exact (Reps.reverse r).append (.cons h .nil)
theorem Reps.dropLast {K : Fg} {H : Hp} {vs : List V} {ds : List D} (r : Reps K H vs ds) : Reps K H vs.dropLast ds.dropLast := by
  rw [List.dropLast_eq_take, List.dropLast_eq_take, r.length]
  exact r.take _

/-! ### a heap with some addresses out of sight -/
def mask (H : Hp) (M : List Addr) : Hp := fun a => if a ∈ M then none else H a
theorem mask_in {H : Hp} {M : List Addr} {a : Addr} (h : a ∈ M) : mask H M a = none := if_pos h
theorem mask_out {H : Hp} {M : List Addr} {a : Addr} (h : a ∉ M) : mask H M a = H a := if_neg h
theorem mask_some {H : Hp} {M : List Addr} {a : Addr} {o : HO} (h : mask H M a = some o) : H a = some o ∧ a ∉ M := by
  unfold mask at h
  split at h
  · cases h
  · exact ⟨h, by assumption⟩
theorem mask_nil {H : Hp} : mask H [] = H := by funext a; simp [mask]
theorem mask_le {H : Hp} {M : List Addr} : Same (mask H M) H := fun _ _ h => (mask_some h).1
theorem mask_mono {H H' : Hp} {M : List Addr} (e : Same H H') : Same (mask H M) (mask H' M) := fun a o h => by
  obtain ⟨h1, h2⟩ := mask_some h
  rw [mask_out h2]
  exact e a o h1
theorem mask_sub {H : Hp} {M N : List Addr} (h : ∀ p ∈ N, p ∈ M) : Same (mask H M) (mask H N) := fun a o e => by
  obtain ⟨h1, h2⟩ := mask_some e
  rw [mask_out fun z => h2 (h a z)]
  exact h1
theorem Same.upd_mask {H : Hp} {M : List Addr} {p : Addr} {o : HO} (h : p ∈ M) : mask (upd H p o) M = mask H M := by
  funext a
  unfold mask
  split
  · rfl
  · rename_i ha
    exact upd_ne fun z => ha (z ▸ h)
theorem Same.new {H : Hp} {p : Addr} {o : HO} (h : H p = none) : Same H (upd H p o) := fun a u e => by
  rw [upd_ne (ne_of_none e h)]
  exact e

/-! ### slots -/
/-- an own exception: which class, its field -/
structure Exc where
  k : Nat
  arg : Option (Str × D)
inductive Sl where
  | un | v (d : D) | own (d : D) | io (d : D) | exn (c : Exc)
abbrev Env := List Sl
/-- an owned object: a list, a dict -/
inductive OwnAt (K : Fg) (Hm H : Hp) (p : Addr) : D → Prop
  | lst {vs : List V} {ds : List D} : H p = some (.lst vs) → Reps K Hm vs ds → OwnAt K Hm H p (.lst ds)
  | dk {kvs : List (Key × V)} {kds : List (Key × D)} : H p = some (.dK kvs) → KReps K Hm kvs kds → OwnAt K Hm H p (.dk kds)
  | dt {kvs : List (List Key × V)} {kds : List (List Key × D)} : H p = some (.dT kvs) → TReps K Hm kvs kds → OwnAt K Hm H p (.dt kds)
theorem OwnAt.mono {K : Fg} {Hm Hm' H H' : Hp} {p : Addr} {d : D} (h : OwnAt K Hm H p d) (e : Same Hm Hm') (eH : Same H H') : OwnAt K Hm' H' p d := by
  cases h with
  | lst h r => exact .lst (eH _ _ h) (r.mono e)
  | dk h r => exact .dk (eH _ _ h) (r.mono e)
  | dt h r => exact .dt (eH _ _ h) (r.mono e)
theorem OwnAt.monoAt {K : Fg} {Hm Hm' H H' : Hp} {p : Addr} {d : D} (h : OwnAt K Hm H p d) (e : Same Hm Hm') (eH : H' p = H p) : OwnAt K Hm' H' p d := by
  cases h with
  | lst h r => exact .lst (eH.trans h) (r.mono e)
  | dk h r => exact .dk (eH.trans h) (r.mono e)
  | dt h r => exact .dt (eH.trans h) (r.mono e)
theorem OwnAt.there {K : Fg} {Hm H : Hp} {p : Addr} {d : D} (h : OwnAt K Hm H p d) : ∃ o, H p = some o := by
  cases h with
  | lst h r => exact ⟨_, h⟩
  | dk h r => exact ⟨_, h⟩
  | dt h r => exact ⟨_, h⟩
theorem OwnAt.notup {K : Fg} {Hm H : Hp} {p : Addr} {d : D} (h : OwnAt K Hm H p d) : (∀ xs, H p ≠ some (.tup xs)) ∧ ∀ o u, H p ≠ some (.frz o u) := by
  cases h with
  | lst h r => rw [h]; exact ⟨fun _ z => (by cases z), fun _ _ z => (by cases z)⟩
  | dk h r => rw [h]; exact ⟨fun _ z => (by cases z), fun _ _ z => (by cases z)⟩
  | dt h r => rw [h]; exact ⟨fun _ z => (by cases z), fun _ _ z => (by cases z)⟩
/-- as a value, where nothing is out of sight -/
theorem OwnAt.rep {K : Fg} {Hm H : Hp} {p : Addr} {d : D} (h : OwnAt K Hm H p d) (e : Same Hm H) : Rep K H (.ref p) d := by
  cases h with
  | lst h r => exact .lst h (r.mono e)
  | dk h r => exact .dk (.inl h) (r.mono e)
  | dt h r => exact .dt (.inl h) (r.mono e)

inductive ER (K : Fg) (P : Addr) (Hm H : Hp) : List Addr → St → Env → Prop
  | nil : ER K P Hm H [] [] []
  | un {M : List Addr} {σ : St} {e : Env} {v : Option V} : ER K P Hm H M σ e → ER K P Hm H M (v :: σ) (.un :: e)
  | v {M : List Addr} {σ : St} {e : Env} {v : V} {d : D} : Rep K Hm v d → ER K P Hm H M σ e → ER K P Hm H M (some v :: σ) (.v d :: e)
  | own {M : List Addr} {σ : St} {e : Env} {p : Addr} {d : D} : OwnAt K Hm H p d → p ∉ M → ER K P Hm H M σ e → ER K P Hm H (p :: M) (some (.ref p) :: σ) (.own d :: e)
  | io {M : List Addr} {σ : St} {e : Env} {d : D} : OwnAt K Hm H P d → P ∉ M → ER K P Hm H M σ e → ER K P Hm H (P :: M) (some (.ref P) :: σ) (.io d :: e)
  | exn {M : List Addr} {σ : St} {e : Env} {c : Exc} : ER K P Hm H M σ e → ER K P Hm H M (some (.ref P) :: σ) (.exn c :: e)

section
variable {K : Fg} {P : Addr} {Hm Hm' H H' : Hp} {M : List Addr} {σ : St} {e : Env}
theorem ER.mono (h : ER K P Hm H M σ e) (e1 : Same Hm Hm') (e2 : ∀ p ∈ M, H' p = H p) : ER K P Hm' H' M σ e := by
  induction h with
  | nil => exact .nil
  | un _ ih => exact .un (ih e2)
  | exn _ ih => exact .exn (ih e2)
  | v r _ ih => exact .v (r.mono e1) (ih e2)
  | own o n _ ih => exact .own (o.monoAt e1 (e2 _ List.mem_cons_self)) n (ih fun p hp => e2 p (List.mem_cons_of_mem _ hp))
  | io o n _ ih => exact .io (o.monoAt e1 (e2 _ List.mem_cons_self)) n (ih fun p hp => e2 p (List.mem_cons_of_mem _ hp))
theorem ER.there (h : ER K P Hm H M σ e) : ∀ p ∈ M, ∃ o, H p = some o := by
  induction h with
  | nil => intro p hp; cases hp
  | un _ ih => exact ih
  | exn _ ih => exact ih
  | v r _ ih => exact ih
  | own o n _ ih =>
    intro p hp
    rcases List.mem_cons.mp hp with rfl | hp
    · exact o.there
    · exact ih p hp
  | io o n _ ih =>
    intro p hp
    rcases List.mem_cons.mp hp with rfl | hp
    · exact o.there
    · exact ih p hp
theorem ER.notup (h : ER K P Hm H M σ e) : ∀ p ∈ M, (∀ xs, H p ≠ some (.tup xs)) ∧ ∀ o u, H p ≠ some (.frz o u) := by
  induction h with
  | nil => intro p hp; cases hp
  | un _ ih => exact ih
  | exn _ ih => exact ih
  | v r _ ih => exact ih
  | own o n _ ih =>
    intro p hp
    rcases List.mem_cons.mp hp with rfl | hp
    · exact o.notup
    · exact ih p hp
  | io o n _ ih =>
    intro p hp
    rcases List.mem_cons.mp hp with rfl | hp
    · exact o.notup
    · exact ih p hp
theorem ER.mono' (h : ER K P Hm H M σ e) (e1 : Same Hm Hm') (e2 : Same H H') : ER K P Hm' H' M σ e :=
  h.mono e1 fun p hp => by
    obtain ⟨o, ho⟩ := h.there p hp
    rw [ho, e2 p o ho]
theorem ER.length (h : ER K P Hm H M σ e) : σ.length = e.length := by
  induction h with
  | nil => rfl
  | un _ ih => exact congrArg (· + 1) ih
  | exn _ ih => exact congrArg (· + 1) ih
  | v r _ ih => exact congrArg (· + 1) ih
  | own o n _ ih => exact congrArg (· + 1) ih
  | io o n _ ih => exact congrArg (· + 1) ih
theorem ER.get (h : ER K P Hm H M σ e) : ∀ {i : Nat} {d : D}, e[i]? = some (.v d) → ∃ v, σ[i]? = some (some v) ∧ Rep K Hm v d := by
  induction h with
  | nil => intro i d q; simp at q
  | un _ ih =>
    intro i d q
    cases i with
    | zero => simp at q
    | succ i => simpa using ih (i := i) (d := d) (by simpa using q)
  | exn _ ih =>
    intro i d q
    cases i with
    | zero => simp at q
    | succ i => simpa using ih (i := i) (d := d) (by simpa using q)
  | v r _ ih =>
    intro i d q
    cases i with
    | zero => simp at q; subst q; exact ⟨_, rfl, r⟩
    | succ i => simpa using ih (i := i) (d := d) (by simpa using q)
  | own o n _ ih =>
    intro i d q
    cases i with
    | zero => simp at q
    | succ i => simpa using ih (i := i) (d := d) (by simpa using q)
  | io o n _ ih =>
    intro i d q
    cases i with
    | zero => simp at q
    | succ i => simpa using ih (i := i) (d := d) (by simpa using q)
/-- an owned slot (or the io one): its object -/
theorem ER.getOwn (h : ER K P Hm H M σ e) : ∀ {i : Nat} {d : D}, (e[i]? = some (.own d) ∨ e[i]? = some (.io d)) → ∃ p, σ[i]? = some (some (.ref p)) ∧ p ∈ M ∧ OwnAt K Hm H p d := by
  induction h with
  | nil => intro i d q; simp at q
  | un _ ih =>
    intro i d q
    cases i with
    | zero => simp at q
    | succ i => simpa using ih (i := i) (d := d) (by simpa using q)
  | exn _ ih =>
    intro i d q
    cases i with
    | zero => simp at q
    | succ i => simpa using ih (i := i) (d := d) (by simpa using q)
  | v r _ ih =>
    intro i d q
    cases i with
    | zero => simp at q
    | succ i => simpa using ih (i := i) (d := d) (by simpa using q)
  | own o n _ ih =>
    intro i d q
    cases i with
    | zero => simp at q; subst q; exact ⟨_, rfl, List.mem_cons_self, o⟩
    | succ i =>
      obtain ⟨p, h1, h2, h3⟩ := ih (i := i) (d := d) (by simpa using q)
      exact ⟨p, by simpa using h1, List.mem_cons_of_mem _ h2, h3⟩
  | io o n _ ih =>
    intro i d q
    cases i with
    | zero => simp at q; subst q; exact ⟨_, rfl, List.mem_cons_self, o⟩
    | succ i =>
      obtain ⟨p, h1, h2, h3⟩ := ih (i := i) (d := d) (by simpa using q)
      exact ⟨p, by simpa using h1, List.mem_cons_of_mem _ h2, h3⟩
end
end Dv

set_option maxRecDepth 100000
set_option maxHeartbeats 4000000
namespace Dv
open PySem L2
section
variable {K : Fg} {P : Addr} {Hm Hm' H H' : Hp} {M N : List Addr} {σ : St} {e : Env}
/-- a slot stored: the owned object that stood there is let go -/
theorem ER.setV {v : V} {d : D} (h : ER K P Hm H M σ e) (r : Rep K Hm v d) : ∀ {i : Nat}, i < e.length → (∀ d', e[i]? ≠ some (.io d')) → ∃ M', (∀ p ∈ M', p ∈ M) ∧ ER K P Hm H M' (σ.set i (some v)) (e.set i (.v d)) := by
  induction h with
  | nil => intro i hi _; simp at hi
  | @un M σ e w h ih =>
    intro i hi q
    cases i with
    | zero => exact ⟨M, fun _ z => z, .v r h⟩
    | succ i =>
      obtain ⟨M', s, h'⟩ := ih (i := i) (by simpa using hi) (fun d' => by simpa using q d')
      exact ⟨M', s, .un h'⟩
  | @exn M σ e c0 h ih =>
    intro i hi q
    cases i with
    | zero => exact ⟨M, fun _ z => z, .v r h⟩
    | succ i =>
      obtain ⟨M', s, h'⟩ := ih (i := i) (by simpa using hi) (fun d' => by simpa using q d')
      exact ⟨M', s, .exn h'⟩
  | @v M σ e w d' r' h ih =>
    intro i hi q
    cases i with
    | zero => exact ⟨M, fun _ z => z, .v r h⟩
    | succ i =>
      obtain ⟨M', s, h'⟩ := ih (i := i) (by simpa using hi) (fun d' => by simpa using q d')
      exact ⟨M', s, .v r' h'⟩
  | @own M σ e p d' o n h ih =>
    intro i hi q
    cases i with
    | zero => exact ⟨M, fun _ z => List.mem_cons_of_mem _ z, .v r h⟩
    | succ i =>
      obtain ⟨M', s, h'⟩ := ih (i := i) (by simpa using hi) (fun d' => by simpa using q d')
      exact ⟨p :: M', fun x hx => by
        rcases List.mem_cons.mp hx with z | z
        · exact z ▸ List.mem_cons_self
        · exact List.mem_cons_of_mem _ (s x z), .own o (fun z => n (s _ z)) h'⟩
  | @io M σ e d' o n h ih =>
    intro i hi q
    cases i with
    | zero => exact absurd rfl (q d')
    | succ i =>
      obtain ⟨M', s, h'⟩ := ih (i := i) (by simpa using hi) (fun d' => by simpa using q d')
      exact ⟨P :: M', fun x hx => by
        rcases List.mem_cons.mp hx with z | z
        · exact z ▸ List.mem_cons_self
        · exact List.mem_cons_of_mem _ (s x z), .io o (fun z => n (s _ z)) h'⟩
theorem ER.setU {w : Option V} (h : ER K P Hm H M σ e) : ∀ {i : Nat}, i < e.length → (∀ d', e[i]? ≠ some (.io d')) → ∃ M', (∀ p ∈ M', p ∈ M) ∧ ER K P Hm H M' (σ.set i w) (e.set i .un) := by
  induction h with
  | nil => intro i hi _; simp at hi
  | @un M σ e w h ih =>
    intro i hi q
    cases i with
    | zero => exact ⟨M, fun _ z => z, .un h⟩
    | succ i =>
      obtain ⟨M', s, h'⟩ := ih (i := i) (by simpa using hi) (fun d' => by simpa using q d')
      exact ⟨M', s, .un h'⟩
  | @exn M σ e c0 h ih =>
    intro i hi q
    cases i with
    | zero => exact ⟨M, fun _ z => z, .un h⟩
    | succ i =>
      obtain ⟨M', s, h'⟩ := ih (i := i) (by simpa using hi) (fun d' => by simpa using q d')
      exact ⟨M', s, .exn h'⟩
  | @v M σ e w d' r' h ih =>
    intro i hi q
    cases i with
    | zero => exact ⟨M, fun _ z => z, .un h⟩
    | succ i =>
      obtain ⟨M', s, h'⟩ := ih (i := i) (by simpa using hi) (fun d' => by simpa using q d')
      exact ⟨M', s, .v r' h'⟩
  | @own M σ e p d' o n h ih =>
    intro i hi q
    cases i with
    | zero => exact ⟨M, fun _ z => List.mem_cons_of_mem _ z, .un h⟩
    | succ i =>
      obtain ⟨M', s, h'⟩ := ih (i := i) (by simpa using hi) (fun d' => by simpa using q d')
      exact ⟨p :: M', fun x hx => by
        rcases List.mem_cons.mp hx with z | z
        · exact z ▸ List.mem_cons_self
        · exact List.mem_cons_of_mem _ (s x z), .own o (fun z => n (s _ z)) h'⟩
  | @io M σ e d' o n h ih =>
    intro i hi q
    cases i with
    | zero => exact absurd rfl (q d')
    | succ i =>
      obtain ⟨M', s, h'⟩ := ih (i := i) (by simpa using hi) (fun d' => by simpa using q d')
      exact ⟨P :: M', fun x hx => by
        rcases List.mem_cons.mp hx with z | z
        · exact z ▸ List.mem_cons_self
        · exact List.mem_cons_of_mem _ (s x z), .io o (fun z => n (s _ z)) h'⟩
/-- a new owned object stored -/
theorem ER.setOwn {p : Addr} {d : D} (h : ER K P Hm H M σ e) (o : OwnAt K Hm H p d) (np : p ∉ M) : ∀ {i : Nat}, i < e.length → (∀ d', e[i]? ≠ some (.io d')) → ∃ M', (∀ q ∈ M', q = p ∨ q ∈ M) ∧ p ∈ M' ∧ ER K P Hm H M' (σ.set i (some (.ref p))) (e.set i (.own d)) := by
  induction h with
  | nil => intro i hi _; simp at hi
  | @un M σ e w h ih =>
    intro i hi q
    cases i with
    | zero => exact ⟨p :: M, fun _ z => List.mem_cons.mp z, List.mem_cons_self, .own o np h⟩
    | succ i =>
      obtain ⟨M', s, m, h'⟩ := ih np (i := i) (by simpa using hi) (fun d' => by simpa using q d')
      exact ⟨M', s, m, .un h'⟩
  | @exn M σ e c0 h ih =>
    intro i hi q
    cases i with
    | zero => exact ⟨p :: M, fun _ z => List.mem_cons.mp z, List.mem_cons_self, .own o np h⟩
    | succ i =>
      obtain ⟨M', s, m, h'⟩ := ih np (i := i) (by simpa using hi) (fun d' => by simpa using q d')
      exact ⟨M', s, m, .exn h'⟩
  | @v M σ e w d' r' h ih =>
    intro i hi q
    cases i with
    | zero => exact ⟨p :: M, fun _ z => List.mem_cons.mp z, List.mem_cons_self, .own o np h⟩
    | succ i =>
      obtain ⟨M', s, m, h'⟩ := ih np (i := i) (by simpa using hi) (fun d' => by simpa using q d')
      exact ⟨M', s, m, .v r' h'⟩
  | @own M σ e p' d' o' n h ih =>
    intro i hi q
    cases i with
    | zero => exact ⟨p :: M, fun _ z => (List.mem_cons.mp z).imp id (List.mem_cons_of_mem _), List.mem_cons_self, .own o (fun z => np (List.mem_cons_of_mem _ z)) h⟩
    | succ i =>
      obtain ⟨M', s, m, h'⟩ := ih (fun z => np (List.mem_cons_of_mem _ z)) (i := i) (by simpa using hi) (fun d' => by simpa using q d')
      refine ⟨p' :: M', fun x hx => ?_, List.mem_cons_of_mem _ m, .own o' (fun z => ?_) h'⟩
      · rcases List.mem_cons.mp hx with z | z
        · exact .inr (z ▸ List.mem_cons_self)
        · exact (s x z).imp id (List.mem_cons_of_mem _)
      · rcases s _ z with z | z
        · exact np (z ▸ List.mem_cons_self)
        · exact n z
  | @io M σ e d' o' n h ih =>
    intro i hi q
    cases i with
    | zero => exact absurd rfl (q d')
    | succ i =>
      obtain ⟨M', s, m, h'⟩ := ih (fun z => np (List.mem_cons_of_mem _ z)) (i := i) (by simpa using hi) (fun d' => by simpa using q d')
      refine ⟨P :: M', fun x hx => ?_, List.mem_cons_of_mem _ m, .io o' (fun z => ?_) h'⟩
      · rcases List.mem_cons.mp hx with z | z
        · exact .inr (z ▸ List.mem_cons_self)
        · exact (s x z).imp id (List.mem_cons_of_mem _)
      · rcases s _ z with z | z
        · exact np (z ▸ List.mem_cons_self)
        · exact n z
/-- an owned object (or the io one) written: σ stays -/
def putOwn (e : Env) (i : Nat) (d : D) : Env := match e[i]? with
  | some (.own _) => e.set i (.own d)
  | some (.io _) => e.set i (.io d)
  | _ => e
theorem ER.write {p : Addr} {d0 d : D} {o : HO} (h : ER K P Hm H M σ e) (hn : OwnAt K Hm (upd H p o) p d) : ∀ {i : Nat}, (e[i]? = some (.own d0) ∨ e[i]? = some (.io d0)) → σ[i]? = some (some (.ref p)) →
    ER K P Hm (upd H p o) M σ (putOwn e i d) := by
  induction h with
  | nil => intro i q; simp at q
  | @un M σ e w h ih =>
    intro i q s
    cases i with
    | zero => simp at q
    | succ i =>
      have := ih (i := i) (by simpa using q) (by simpa using s)
      unfold putOwn at this ⊢
      rcases q with q | q <;> (simp only [List.getElem?_cons_succ] at q s ⊢; rw [q] at this ⊢; exact .un this)
  | @exn M σ e c0 h ih =>
    intro i q s
    cases i with
    | zero => simp at q
    | succ i =>
      have := ih (i := i) (by simpa using q) (by simpa using s)
      unfold putOwn at this ⊢
      rcases q with q | q <;> (simp only [List.getElem?_cons_succ] at q s ⊢; rw [q] at this ⊢; exact .exn this)
  | @v M σ e w d' r' h ih =>
    intro i q s
    cases i with
    | zero => simp at q
    | succ i =>
      have := ih (i := i) (by simpa using q) (by simpa using s)
      unfold putOwn at this ⊢
      rcases q with q | q <;> (simp only [List.getElem?_cons_succ] at q s ⊢; rw [q] at this ⊢; exact .v r' this)
  | @own M σ e p' d' o' n h ih =>
    intro i q s
    cases i with
    | zero =>
      have e1 : p' = p := by simpa using s
      subst e1
      have : ER K P Hm (upd H p' o) M σ e := h.mono (fun _ _ z => z) fun q hq => upd_ne fun z => n (z ▸ hq)
      exact .own hn n this
    | succ i =>
      obtain ⟨p2, s2, m2, _⟩ := h.getOwn (i := i) (by simpa using q)
      have e2 : p2 = p := by
        have s3 : σ[i]? = some (some (.ref p)) := by simpa using s
        rw [s2] at s3
        injection s3 with s3; injection s3 with s3; injection s3
      have ne : p' ≠ p := fun z => n (by rw [z, ← e2]; exact m2)
      have := ih (i := i) (by simpa using q) (by simpa using s)
      have o2 : OwnAt K Hm (upd H p o) p' d' := o'.monoAt (fun _ _ z => z) (upd_ne ne)
      unfold putOwn at this ⊢
      rcases q with q | q <;> (simp only [List.getElem?_cons_succ] at q s ⊢; rw [q] at this ⊢; exact .own o2 n this)
  | @io M σ e d' o' n h ih =>
    intro i q s
    cases i with
    | zero =>
      have e1 : P = p := by simpa using s
      subst e1
      have : ER K P Hm (upd H P o) M σ e := h.mono (fun _ _ z => z) fun q hq => upd_ne fun z => n (z ▸ hq)
      exact .io hn n this
    | succ i =>
      obtain ⟨p2, s2, m2, _⟩ := h.getOwn (i := i) (by simpa using q)
      have e2 : p2 = p := by
        have s3 : σ[i]? = some (some (.ref p)) := by simpa using s
        rw [s2] at s3
        injection s3 with s3; injection s3 with s3; injection s3
      have ne : P ≠ p := fun z => n (by rw [z, ← e2]; exact m2)
      have := ih (i := i) (by simpa using q) (by simpa using s)
      have o2 : OwnAt K Hm (upd H p o) P d' := o'.monoAt (fun _ _ z => z) (upd_ne ne)
      unfold putOwn at this ⊢
      rcases q with q | q <;> (simp only [List.getElem?_cons_succ] at q s ⊢; rw [q] at this ⊢; exact .io o2 n this)
end

/-! ### the state -/
structure SR (K : Fg) (P : Addr) (B : Hp) (N M : List Addr) (H : Hp) (σ : St) (e : Env) : Prop where
  ex : Same B (mask H M)
  al : ∀ p ∈ N, ∃ o, H p = some o
  dj : ∀ p ∈ M, p ∉ N
  er : ER K P (mask H (M ++ N)) H M σ e
section
variable {K : Fg} {P : Addr} {B B' H H' : Hp} {M N : List Addr} {σ : St} {e : Env}
theorem SR.mono (h : SR K P B N M H σ e) (x : Same H H') : SR K P B N M H' σ e :=
  ⟨fun a o q => mask_mono x a o (h.ex a o q), fun p hp => let ⟨o, q⟩ := h.al p hp; ⟨o, x _ _ q⟩, h.dj, h.er.mono' (mask_mono x) x⟩
theorem SR.weakB (h : SR K P B N M H σ e) (x : Same B' B) : SR K P B' N M H σ e := ⟨fun a o q => h.ex a o (x a o q), h.al, h.dj, h.er⟩
theorem SR.base (h : SR K P B N M H σ e) : SR K P (mask H M) N M H σ e := ⟨fun _ _ q => q, h.al, h.dj, h.er⟩
theorem SR.same (h : SR K P B N M H σ e) : Same B H := fun a o q => (mask_some (h.ex a o q)).1
/-- an address out of sight comes into sight -/
theorem SR.weakN {p : Addr} (h : SR K P B (p :: N) M H σ e) : SR K P B N M H σ e :=
  ⟨h.ex, fun q hq => h.al q (List.mem_cons_of_mem _ hq), fun q hq z => h.dj q hq (List.mem_cons_of_mem _ z), h.er.mono (mask_sub fun q hq => by
    rcases List.mem_append.mp hq with z | z
    · exact List.mem_append_left _ z
    · exact List.mem_append_right _ (List.mem_cons_of_mem _ z)) fun _ _ => rfl⟩
/-- a new object out of sight -/
theorem SR.newN {p : Addr} {o : HO} (h : SR K P B N M H σ e) (hp : H p = none) : SR K P B (p :: N) M (upd H p o) σ e := by
  have hM : p ∉ M := fun z => by
    obtain ⟨o, q⟩ := h.er.there p z
    rw [hp] at q
    cases q
  have hN : p ∉ N := fun z => by
    obtain ⟨o, q⟩ := h.al p z
    rw [hp] at q
    cases q
  refine ⟨fun a o q => mask_mono (Same.new hp) a o (h.ex a o q), fun q hq => ?_, fun q hq z => ?_, h.er.mono' (fun a o q => ?_) (Same.new hp)⟩
  · rcases List.mem_cons.mp hq with z | z
    · subst z
      exact ⟨_, upd_same⟩
    · obtain ⟨o, w⟩ := h.al q z
      exact ⟨o, Same.new hp _ _ w⟩
  · rcases List.mem_cons.mp z with z | z
    · subst z
      exact hM hq
    · exact h.dj q hq z
  · obtain ⟨q1, q2⟩ := mask_some q
    have ne : a ≠ p := ne_of_none q1 hp
    have : a ∉ M ++ p :: N := fun z => by
      rcases List.mem_append.mp z with z | z
      · exact q2 (List.mem_append_left _ z)
      · rcases List.mem_cons.mp z with z | z
        · exact ne z
        · exact q2 (List.mem_append_right _ z)
    rw [mask_out this, upd_ne ne]
    exact q1
theorem SR.setV {v : V} {d : D} {i : Nat} (h : SR K P B N M H σ e) (r : Rep K (mask H (M ++ N)) v d) (hi : i < e.length) (hio : ∀ d', e[i]? ≠ some (.io d')) : ∃ M', SR K P B N M' H (σ.set i (some v)) (e.set i (.v d)) := by
  obtain ⟨M', s, q⟩ := h.er.setV r hi hio
  exact ⟨M', fun a o z => by
    obtain ⟨z1, z2⟩ := mask_some (h.ex a o z)
    rw [mask_out fun w => z2 (s a w)]
    exact z1, h.al, fun p hp => h.dj p (s p hp), q.mono (mask_sub fun p hp => by
    rcases List.mem_append.mp hp with w | w
    · exact List.mem_append_left _ (s p w)
    · exact List.mem_append_right _ w) fun _ _ => rfl⟩
theorem SR.setU {w : Option V} {i : Nat} (h : SR K P B N M H σ e) (hi : i < e.length) (hio : ∀ d', e[i]? ≠ some (.io d')) : ∃ M', SR K P B N M' H (σ.set i w) (e.set i .un) := by
  obtain ⟨M', s, q⟩ := h.er.setU (w := w) hi hio
  exact ⟨M', fun a o z => by
    obtain ⟨z1, z2⟩ := mask_some (h.ex a o z)
    rw [mask_out fun w => z2 (s a w)]
    exact z1, h.al, fun p hp => h.dj p (s p hp), q.mono (mask_sub fun p hp => by
    rcases List.mem_append.mp hp with w | w
    · exact List.mem_append_left _ (s p w)
    · exact List.mem_append_right _ w) fun _ _ => rfl⟩
theorem SR.setOwn {p : Addr} {d : D} {i : Nat} (h : SR K P B (p :: N) M H σ e) (o : OwnAt K (mask H (M ++ p :: N)) H p d) (hB : B p = none) (hp : p ∉ N) (hi : i < e.length) (hio : ∀ d', e[i]? ≠ some (.io d')) :
    ∃ M', SR K P B N M' H (σ.set i (some (.ref p))) (e.set i (.own d)) := by
  have np : p ∉ M := fun z => h.dj p z List.mem_cons_self
  obtain ⟨M', s, m, q⟩ := h.er.setOwn o np hi hio
  refine ⟨M', fun a o z => ?_, fun q hq => h.al q (List.mem_cons_of_mem _ hq), fun q hq z => ?_, q.mono (mask_sub fun q hq => ?_) fun _ _ => rfl⟩
  · obtain ⟨z1, z2⟩ := mask_some (h.ex a o z)
    rw [mask_out fun w => (s a w).elim (fun y => by rw [y, hB] at z; cases z) z2]
    exact z1
  · rcases s q hq with y | y
    · exact hp (y ▸ z)
    · exact h.dj q y (List.mem_cons_of_mem _ z)
  · rcases List.mem_append.mp hq with w | w
    · rcases s q w with y | y
      · exact List.mem_append_right _ (y ▸ List.mem_cons_self)
      · exact List.mem_append_left _ y
    · exact List.mem_append_right _ (List.mem_cons_of_mem _ w)
/-- an owned object is let go: now it is a value that stays -/
theorem SR.freeze {d : D} {i : Nat} (h : SR K P B N M H σ e) (q : e[i]? = some (.own d)) : ∃ M', SR K P B N M' H σ (e.set i (.v d)) := by
  obtain ⟨p, h1, h2, h3⟩ := h.er.getOwn (.inl q)
  have hi : i < e.length := (List.getElem?_eq_some_iff.mp q).1
  obtain ⟨M', s, r⟩ := h.er.setU (w := some (.ref p)) hi (fun d' z => by rw [q] at z; cases z)
  have hs : σ.set i (some (.ref p)) = σ := by
    apply List.ext_getElem?
    intro j
    by_cases hj : i = j
    · subst hj
      rw [List.getElem?_set_self (by rw [h.er.length]; exact hi), h1]
    · rw [List.getElem?_set_ne hj]
  rw [hs] at r
  have key : ∀ (M' : List Addr) (σ : St) (e : Env), ER K P (mask H (M ++ N)) H M' σ (e.set i .un) → p ∉ M' → True := fun _ _ _ _ _ => trivial
  -- p is out of M'
  have out : ∀ {M : List Addr} {σ : St} {e : Env} {Hm : Hp}, ER K P Hm H M σ e → e[i]? = some (.own d) → ∀ {p : Addr}, σ[i]? = some (some (.ref p)) → ∃ M', (∀ x ∈ M', x ∈ M) ∧ p ∉ M' ∧ ER K P Hm H M' σ (e.set i .un) := by
    clear key r s M' hs hi h1 h2 h3 q h
    intro M σ e Hm hh
    induction hh generalizing i with
    | nil => intro z; simp at z
    | @un M σ e w h ih =>
      intro z p s
      cases i with
      | zero => simp at z
      | succ i =>
        obtain ⟨M', a, b, c⟩ := ih (i := i) (by simpa using z) (by simpa using s)
        exact ⟨M', a, b, .un c⟩
    | @exn M σ e c0 h ih =>
      intro z p s
      cases i with
      | zero => simp at z
      | succ i =>
        obtain ⟨M', a, b, c⟩ := ih (i := i) (by simpa using z) (by simpa using s)
        exact ⟨M', a, b, .exn c⟩
    | @v M σ e w d' r' h ih =>
      intro z p s
      cases i with
      | zero => simp at z
      | succ i =>
        obtain ⟨M', a, b, c⟩ := ih (i := i) (by simpa using z) (by simpa using s)
        exact ⟨M', a, b, .v r' c⟩
    | @own M σ e p' d' o n h ih =>
      intro z p s
      cases i with
      | zero =>
        have e1 : p' = p := by simpa using s
        subst e1
        exact ⟨M, fun _ y => List.mem_cons_of_mem _ y, n, .un h⟩
      | succ i =>
        obtain ⟨p2, s2, m2, _⟩ := h.getOwn (i := i) (.inl (by simpa using z))
        have e2 : p2 = p := by
          have s3 : σ[i]? = some (some (.ref p)) := by simpa using s
          rw [s2] at s3
          injection s3 with s3; injection s3 with s3; injection s3
        obtain ⟨M', a, b, c⟩ := ih (i := i) (by simpa using z) (by simpa using s)
        refine ⟨p' :: M', fun x hx => ?_, fun y => ?_, .own o (fun y => n (a _ y)) c⟩
        · rcases List.mem_cons.mp hx with y | y
          · exact y ▸ List.mem_cons_self
          · exact List.mem_cons_of_mem _ (a x y)
        · rcases List.mem_cons.mp y with y | y
          · exact n (by rw [← y, ← e2]; exact m2)
          · exact b y
    | @io M σ e d' o n h ih =>
      intro z p s
      cases i with
      | zero => simp at z
      | succ i =>
        obtain ⟨p2, s2, m2, _⟩ := h.getOwn (i := i) (.inl (by simpa using z))
        have e2 : p2 = p := by
          have s3 : σ[i]? = some (some (.ref p)) := by simpa using s
          rw [s2] at s3
          injection s3 with s3; injection s3 with s3; injection s3
        obtain ⟨M', a, b, c⟩ := ih (i := i) (by simpa using z) (by simpa using s)
        refine ⟨P :: M', fun x hx => ?_, fun y => ?_, .io o (fun y => n (a _ y)) c⟩
        · rcases List.mem_cons.mp hx with y | y
          · exact y ▸ List.mem_cons_self
          · exact List.mem_cons_of_mem _ (a x y)
        · rcases List.mem_cons.mp y with y | y
          · exact n (by rw [← y, ← e2]; exact m2)
          · exact b y
  obtain ⟨M2, a, b, c⟩ := out h.er q h1
  have hm : Same (mask H (M ++ N)) (mask H (M2 ++ N)) := mask_sub fun x hx => by
    rcases List.mem_append.mp hx with w | w
    · exact List.mem_append_left _ (a x w)
    · exact List.mem_append_right _ w
  have rp : Rep K (mask H (M2 ++ N)) (.ref p) d := by
    have h4 : OwnAt K (mask H (M2 ++ N)) (mask H (M2 ++ N)) p d := (h3.mono hm (fun _ _ z => z)).monoAt (fun _ _ z => z) (mask_out fun z => (List.mem_append.mp z).elim b (h.dj p h2))
    exact h4.rep fun _ _ z => z
  obtain ⟨M3, a3, c3⟩ := (c.mono hm fun _ _ => rfl).setV rp (i := i) (by rw [List.length_set]; exact hi) (fun d' z => by rw [List.getElem?_set_self hi] at z; cases z)
  rw [hs, List.set_set] at c3
  refine ⟨M3, fun x o z => ?_, h.al, fun x hx => h.dj x (a x (a3 x hx)), c3.mono (mask_sub fun x hx => ?_) fun _ _ => rfl⟩
  · obtain ⟨z1, z2⟩ := mask_some (h.ex x o z)
    rw [mask_out fun w => z2 (a x (a3 x w))]
    exact z1
  · rcases List.mem_append.mp hx with w | w
    · exact List.mem_append_left _ (a3 x w)
    · exact List.mem_append_right _ w
/-- an owned object written -/
theorem SR.write {p : Addr} {d0 d : D} {o : HO} {i : Nat} (h : SR K P B N M H σ e) (q : e[i]? = some (.own d0) ∨ e[i]? = some (.io d0)) (s : σ[i]? = some (some (.ref p))) (hp : p ∈ M)
    (hn : OwnAt K (mask H (M ++ N)) (upd H p o) p d) : SR K P B N M (upd H p o) σ (putOwn e i d) ∧ mask (upd H p o) M = mask H M := by
  have e1 : mask (upd H p o) M = mask H M := Same.upd_mask hp
  have e2 : mask (upd H p o) (M ++ N) = mask H (M ++ N) := Same.upd_mask (List.mem_append_left _ hp)
  refine ⟨⟨by rw [e1]; exact h.ex, fun x hx => ?_, h.dj, by rw [e2]; exact h.er.write hn q s⟩, e1⟩
  by_cases z : x = p
  · subst z
    exact ⟨_, upd_same⟩
  · rw [upd_ne z]
    exact h.al x hx
end
end Dv

set_option maxRecDepth 100000
set_option maxHeartbeats 4000000
namespace Dv
open PySem L2

inductive R (α : Type) where
  | ok (a : α) (e : Env) | exc (c : Exc) (e : Env) | bad
def R.bind {α β : Type} (r : R α) (f : α → Env → R β) : R β := match r with
  | .ok a e => f a e
  | .exc c e => .exc c e
  | .bad => .bad
inductive TV where
  | val (d : D) | slot (i : Nat)
abbrev Sem := Env → R TV
def slotD (e : Env) (i : Nat) : Option D := match e[i]? with
  | some (.own d) => some d
  | some (.io d) => some d
  | _ => none
def TV.data (e : Env) : TV → Option D
  | .val d => some d
  | .slot i => slotD e i
def VR (K : Fg) (N M : List Addr) (H : Hp) (σ : St) (v : V) : TV → Prop
  | .val d => Rep K (mask H (M ++ N)) v d
  | .slot i => σ[i]? = some (some v)
/-- a value whose own object may be out of sight, its parts in sight -/
inductive CR (K : Fg) (Hm H : Hp) (v : V) (d : D) : Prop
  | rep (h : Rep K Hm v d)
  | own {p : Addr} (e : v = .ref p) (h : OwnAt K Hm H p d)
def ExcR (K : Fg) (XC : Nat → Addr) (c : Exc) (cls : Value) (dd : Option Addr) (H : Hp) : Prop :=
  cls = .ref (XC c.k) ∧ match c.arg with
    | none => dd = none
    | some (f, d) => ∃ a v, dd = some a ∧ H a = some (.xd [(f, v)]) ∧ Rep K H v d
def Hold {α : Type} (r : R α) (C : α → Env → Prop) (E : Exc → Env → Prop) : Prop := match r with
  | .ok a e => C a e
  | .exc c e => E c e
  | .bad => False
theorem Hold.bind {α β : Type} {r : R α} {f : α → Env → R β} {C : β → Env → Prop} {E : Exc → Env → Prop} (h : Hold (r.bind f) C E) : Hold r (fun a e => Hold (f a e) C E) E := by
  cases r <;> exact h
theorem Hold.imp {α : Type} {r : R α} {C C' : α → Env → Prop} {E : Exc → Env → Prop} (h : Hold r C E) (k : ∀ a e, C a e → C' a e) : Hold r C' E := by
  cases r with
  | ok a e => exact k a e h
  | exc c e => exact h
  | bad => exact h
theorem Hold.both {α : Type} {r : R α} {C C' : α → Env → Prop} {E E' : Exc → Env → Prop} (h : Hold r C E) (k : ∀ a e, C a e → C' a e) (l : ∀ c e, E c e → E' c e) : Hold r C' E' := by
  cases r with
  | ok a e => exact k a e h
  | exc c e => exact l c e h
  | bad => exact h
section
variable (K : Fg) (XC : Nat → Addr) (W : WX)
def ExK (P : Addr) (B : Hp) (N M : List Addr) (H : Hp) (σ : St) (c : Exc) (e' : Env) : Prop := ∀ cls dd H', SR K P B N M H' σ e' → Same (mask H M) (mask H' M) → ExcR K XC c cls dd H' → W cls dd σ H'
def tD (P : Addr) (s : Sem) : TE := fun σ H Q => ∃ B N M e, SR K P B N M H σ e ∧ Hold (s e) (fun x e' => ∀ v H', SR K P B N M H' σ e' → Same (mask H M) (mask H' M) → VR K N M H' σ v x → Q v H') (ExK K XC W P B N M H σ)
/-- an expression that makes a new object -/
def tDF (P : Addr) (s : Env → R D) : TE := fun σ H Q => ∃ B N M e, SR K P B N M H σ e ∧
  Hold (s e) (fun d e' => ∀ p H', SR K P B (p :: N) M H' σ e' → p ∉ N → B p = none → Same (mask H M) (mask H' M) → OwnAt K (mask H' (M ++ p :: N)) H' p d → Q (.ref p) H') (ExK K XC W P B N M H σ)
def tDT (P : Addr) (s : Env → R Bool) : TT := fun σ H Q => ∃ B N M e, SR K P B N M H σ e ∧ Hold (s e) (fun b e' => ∀ H', SR K P B N M H' σ e' → Same (mask H M) (mask H' M) → Q b H') (ExK K XC W P B N M H σ)
def tDA (P : Addr) (s : Env → R (List TV)) : TA := fun σ H Q => ∃ B N M e, SR K P B N M H σ e ∧
  Hold (s e) (fun xs e' => ∀ vs H', SR K P B N M H' σ e' → Same (mask H M) (mask H' M) → Paired (VR K N M H' σ) vs xs → Q vs H') (ExK K XC W P B N M H σ)
variable {K XC W}
theorem ExK.mono {P : Addr} {B : Hp} {N M : List Addr} {H H1 : Hp} {σ : St} {c : Exc} {e' : Env} (h : ExK K XC W P B N M H σ c e') (m : Same (mask H M) (mask H1 M)) : ExK K XC W P B N M H1 σ c e' :=
  fun cls dd H' s m' x => h cls dd H' s (fun a o q => m' a o (m a o q)) x
end
theorem _root_.L2.PE.dvi {X : Cx} {e : Expr} {t t' : TE} (h : PE X e t) (i : ∀ σ H Q, t' σ H Q → t σ H Q) : PE X e t' := ⟨fun pins s σ H Q I q => h.run pins s σ H Q I (i σ H Q q)⟩
theorem _root_.L2.PT.dvi {X : Cx} {e : Expr} {t t' : TT} (h : PT X e t) (i : ∀ σ H Q, t' σ H Q → t σ H Q) : PT X e t' := ⟨fun pins s σ H Q I q => h.run pins s σ H Q I (i σ H Q q)⟩
theorem _root_.L2.PW.dvi {X : Cx} {e : Expr} {t t' : TT} (h : PW X e t) (i : ∀ σ H Q, t' σ H Q → t σ H Q) : PW X e t' := ⟨fun wh pins s σ H Q I q => h.run wh pins s σ H Q I (i σ H Q q)⟩
theorem _root_.L2.PA.dvi {X : Cx} {e : List Expr} {t t' : TA} (h : PA X e t) (i : ∀ σ H Q, t' σ H Q → t σ H Q) : PA X e t' := ⟨fun pos pins s σ H Q I q => h.run pos pins s σ H Q I (i σ H Q q)⟩
theorem _root_.L2.PS.dvi {X : Cx} {e : Stmt} {t t' : TS} (h : PS X e t) (i : ∀ D σ H, t' D σ H → t D σ H) : PS X e t' := ⟨fun pins s σ H D I q => h.run pins s σ H D I (i D σ H q)⟩
theorem _root_.L2.PSs.dvi {X : Cx} {e : List Stmt} {t t' : TS} (h : PSs X e t) (i : ∀ D σ H, t' D σ H → t D σ H) : PSs X e t' := ⟨fun pins s σ H D I q => h.run pins s σ H D I (i D σ H q)⟩

section
variable {K : Fg} {XC : Nat → Addr} {W : WX} {P : Addr} {B H H' : Hp} {M N : List Addr} {σ : St} {e : Env} {v : V} {x : TV} {d : D}
theorem Same.trans' {H1 H2 H3 : Hp} (a : Same H1 H2) (b : Same H2 H3) : Same H1 H3 := fun c o h => b c o (a c o h)
theorem VR.mono (h : VR K N M H σ v x) (m : Same (mask H M) (mask H' M)) : VR K N M H' σ v x := by
  cases x with
  | val d =>
    refine Rep.mono (fun a o q => ?_) (show Rep K (mask H (M ++ N)) v d from h)
    obtain ⟨q1, q2⟩ := mask_some q
    have hM : a ∉ M := fun z => q2 (List.mem_append_left _ z)
    have := m a o (by rw [mask_out hM]; exact q1)
    rw [mask_out q2]
    exact (mask_some this).1
  | slot i => exact h
theorem VR.get (s : SR K P B N M H σ e) (h : VR K N M H σ v x) (q : x.data e = some d) : CR K (mask H (M ++ N)) H v d := by
  cases x with
  | val d' =>
    have : d' = d := by simpa [TV.data] using q
    subst this
    exact .rep h
  | slot i =>
    have q' : e[i]? = some (.own d) ∨ e[i]? = some (.io d) := by
      have q : slotD e i = some d := q
      unfold slotD at q
      cases hq : e[i]? with
      | none => rw [hq] at q; cases q
      | some w =>
        rw [hq] at q
        cases w with
        | un => cases q
        | exn _ => cases q
        | v _ => cases q
        | own d' => left; simpa using q
        | io d' => right; simpa using q
    obtain ⟨p, h1, h2, h3⟩ := s.er.getOwn q'
    have h' : σ[i]? = some (some v) := h
    rw [h1] at h'
    have : v = .ref p := by
      injection h' with h'; injection h' with h'; exact h'.symm
    exact .own this h3
/-- whole, where nothing is out of sight -/
theorem CR.full {Hm : Hp} (h : CR K Hm H v d) (m : Same Hm H) : Rep K H v d := by
  cases h with
  | rep r => exact r.mono m
  | own e o => rw [e]; exact o.rep m

/-! ### the forms of a value -/
theorem CR.int {Hm : Hp} {i : Int} (h : CR K Hm H v (.int i)) : v = .int i := by
  cases h with
  | rep r => cases r; rfl
  | own e o => cases o
theorem CR.str {Hm : Hp} {i : Str} (h : CR K Hm H v (.str i)) : v = .str i := by
  cases h with
  | rep r => cases r; rfl
  | own e o => cases o
theorem CR.bl {Hm : Hp} {i : Bool} (h : CR K Hm H v (.bl i)) : v = .bl i := by
  cases h with
  | rep r => cases r; rfl
  | own e o => cases o
theorem CR.non {Hm : Hp} (h : CR K Hm H v .non) : v = .non := by
  cases h with
  | rep r => cases r; rfl
  | own e o => cases o
theorem CR.tup {Hm : Hp} {ds : List D} (h : CR K Hm H v (.tup ds)) (m : Same Hm H) : ∃ a vs, v = .ref a ∧ H a = some (.tup vs) ∧ Reps K Hm vs ds := by
  cases h with
  | rep r => cases r with
    | tup h1 h2 => exact ⟨_, _, rfl, m _ _ h1, h2⟩
  | own e o => cases o
theorem CR.lst {Hm : Hp} {ds : List D} (h : CR K Hm H v (.lst ds)) (m : Same Hm H) : ∃ a vs, v = .ref a ∧ H a = some (.lst vs) ∧ Reps K Hm vs ds := by
  cases h with
  | rep r => cases r with
    | lst h1 h2 => exact ⟨_, _, rfl, m _ _ h1, h2⟩
  | own e o => cases o with
    | lst h1 h2 => exact ⟨_, _, e, h1, h2⟩
theorem CR.scr {Hm : Hp} {ds : List D} (h : CR K Hm H v (.scr ds)) (m : Same Hm H) : ∃ a vs, v = .ref a ∧ SqL K H a vs ∧ Reps K Hm vs ds := by
  cases h with
  | rep r => cases r with
    | scr h1 h2 => exact ⟨_, _, rfl, Same.seq m h1, h2⟩
  | own e o => cases o
theorem CR.dk {Hm : Hp} {ds : List (Key × D)} (h : CR K Hm H v (.dk ds)) (m : Same Hm H) : ∃ a vs, v = .ref a ∧ Rd H a (.dK vs) ∧ KReps K Hm vs ds := by
  cases h with
  | rep r => cases r with
    | dk h1 h2 => exact ⟨_, _, rfl, Same.rd m h1, h2⟩
  | own e o => cases o with
    | dk h1 h2 => exact ⟨_, _, e, .inl h1, h2⟩
theorem CR.dt {Hm : Hp} {ds : List (List Key × D)} (h : CR K Hm H v (.dt ds)) (m : Same Hm H) : ∃ a vs, v = .ref a ∧ Rd H a (.dT vs) ∧ TReps K Hm vs ds := by
  cases h with
  | rep r => cases r with
    | dt h1 h2 => exact ⟨_, _, rfl, Same.rd m h1, h2⟩
  | own e o => cases o with
    | dt h1 h2 => exact ⟨_, _, e, .inl h1, h2⟩
end

/-! ### names, constants -/
section
variable {X : Cx} {XC : Nat → Addr} {W : WX} {P : Addr} {pos : Pos}
def dV (i : Nat) : Sem := fun e => match e[i]? with
  | some (.v d) => .ok (.val d) e
  | some (.own _) => .ok (.slot i) e
  | some (.io _) => .ok (.slot i) e
  | _ => .bad
theorem pd_v {i : Nat} {ex : Expr} (h : PE X ex (tVar i)) : PE X ex (tD X.K XC W P (dV i)) := h.dvi fun σ H Q ⟨B, N, M, e, s, h⟩ => by
  unfold dV at h
  cases hq : e[i]? with
  | none => rw [hq] at h; exact h.elim
  | some w =>
    rw [hq] at h
    cases w with
    | un => exact h.elim
    | exn c => exact h.elim
    | v d =>
      obtain ⟨v, h1, h2⟩ := s.er.get hq
      exact ⟨v, h1, h v H s (fun _ _ z => z) h2⟩
    | own d =>
      obtain ⟨p, h1, h2, h3⟩ := s.er.getOwn (.inl hq)
      exact ⟨_, h1, h _ H s (fun _ _ z => z) h1⟩
    | io d =>
      obtain ⟨p, h1, h2, h3⟩ := s.er.getOwn (.inr hq)
      exact ⟨_, h1, h _ H s (fun _ _ z => z) h1⟩
def dC (d : D) : Sem := fun e => .ok (.val d) e
theorem pd_c {v : V} {d : D} {ex : Expr} (r : ∀ K H, Rep K H v d) (h : PE X ex (tC v)) : PE X ex (tD X.K XC W P (dC d)) := h.dvi fun σ H Q ⟨B, N, M, e, s, h⟩ => h v H s (fun _ _ z => z) (r _ _)
theorem pd_int {i : Int} {j pos} : PE X (.Constant (.int i) j pos) (tD X.K XC W P (dC (.int i))) := pd_c (fun _ _ => .int i) pe_int
theorem pd_bl {i : Bool} {j pos} : PE X (.Constant (.bool i) j pos) (tD X.K XC W P (dC (.bl i))) := pd_c (fun _ _ => .bl i) pe_bl
theorem pd_str {i : Str} {j pos} : PE X (.Constant (.str i) j pos) (tD X.K XC W P (dC (.str i))) := pd_c (fun _ _ => .str i) pe_str
theorem pd_non {j pos} : PE X (.Constant .none j pos) (tD X.K XC W P (dC .non)) := pd_c (fun _ _ => .non) pe_non
/-- a module's constant -/
theorem pd_glob {v : V} {d : D} {x : Str} {u : Value} {pos : Pos} (hg : Gl X x) (hm : X.mg x = some u) (r : RelV v u) (rd : ∀ K H, Rep K H v d) (hd : (x == ("__debug__" : Str)) = false := by decide) : PE X (.Name x pos) (tD X.K XC W P (dC d)) :=
  pd_c rd (pe_glob hg hm r hd)

/-! ### operators -/
/-- an operation on two data -/
def Pure2 (K : Fg) (r : R2) (f : D → D → Option D) : Prop := ∀ (L : List Addr) (H : Hp) (x y : V) (dx dy z : D) (Q : VK), (∀ p ∈ L, ∃ o, H p = some o) → CR K (mask H L) H x dx → CR K (mask H L) H y dy → f dx dy = some z →
  (∀ v H', Same H H' → Rep K (mask H' L) v z → Q v H') → r x y H Q
/-- .. that makes a new object -/
def Fresh2 (K : Fg) (r : R2) (f : D → D → Option D) : Prop := ∀ (L : List Addr) (H : Hp) (x y : V) (dx dy z : D) (Q : VK), (∀ p ∈ L, ∃ o, H p = some o) → CR K (mask H L) H x dx → CR K (mask H L) H y dy → f dx dy = some z →
  (∀ p o, H p = none → OwnAt K (mask H L) (upd H p o) p z → Q (.ref p) (upd H p o)) → r x y H Q
def ap2 (f : D → D → Option D) (x y : TV) (e : Env) : R D := match x.data e, y.data e with
  | some dx, some dy => (match f dx dy with
    | some z => .ok z e
    | none => .bad)
  | _, _ => .bad
def R.val (r : R D) : R TV := r.bind fun d e => .ok (.val d) e
def dBin (f : D → D → Option D) (a b : Sem) : Sem := fun e => (a e).bind fun x e1 => (b e1).bind fun y e2 => (ap2 f x y e2).val
def dBinF (f : D → D → Option D) (a b : Sem) : Env → R D := fun e => (a e).bind fun x e1 => (b e1).bind fun y e2 => ap2 f x y e2
theorem SR.alAll {K : Fg} {P : Addr} {B H : Hp} {M N : List Addr} {σ : St} {e : Env} (s : SR K P B N M H σ e) : ∀ p ∈ M ++ N, ∃ o, H p = some o := fun p hp => (List.mem_append.mp hp).elim (s.er.there p) (s.al p)
theorem ap2_of {f : D → D → Option D} {x y : TV} {e : Env} {C : D → Env → Prop} {E : Exc → Env → Prop} (h : Hold (ap2 f x y e) C E) : ∃ dx dy z, x.data e = some dx ∧ y.data e = some dy ∧ f dx dy = some z ∧ C z e := by
  unfold ap2 at h
  cases hx : x.data e with
  | none => rw [hx] at h; exact h.elim
  | some dx =>
    cases hy : y.data e with
    | none => rw [hx, hy] at h; exact h.elim
    | some dy =>
      rw [hx, hy] at h
      cases hz : f dx dy with
      | none => simp only [hz] at h; exact h.elim
      | some z => simp only [hz] at h; exact ⟨dx, dy, z, rfl, rfl, hz, h⟩
/-- the reading of two operands and an operation -/
theorem bin_of {K : Fg} {r : R2} {f : D → D → Option D} {sa sb : Sem} {σ : St} {H : Hp} {Q : VK} (hf : Pure2 K r f) (q : tD K XC W P (dBin f sa sb) σ H Q) : tOp r (tD K XC W P sa) (tD K XC W P sb) σ H Q := by
  obtain ⟨B, N, M, e, s, h⟩ := q
  refine ⟨B, N, M, e, s, h.bind.imp fun x e1 h1 v H1 s1 m1 r1 => ?_⟩
  refine ⟨B, N, M, e1, s1, h1.bind.both (fun y e2 h2 w H2 s2 m2 r2 => ?_) fun c e' q => q.mono m1⟩
  obtain ⟨dx, dy, z, hx, hy, hz, q⟩ := ap2_of h2.bind
  exact hf (M ++ N) H2 v w dx dy z Q s2.alAll ((r1.mono m2).get s2 hx) (r2.get s2 hy) hz fun u H' m' ru => q u H' (s2.mono m') (Same.trans' (Same.trans' m1 m2) (mask_mono m')) ru
theorem pd_bin {op : Operator} {r : R2} {f : D → D → Option D} {a b : Expr} {sa sb : Sem} (ho : OpR X (binaryOp op) r) (hf : Pure2 X.K r f) (ha : PE X a (tD X.K XC W P sa)) (hb : PE X b (tD X.K XC W P sb)) :
    PE X (.BinOp a op b pos) (tD X.K XC W P (dBin f sa sb)) := (pe_op ho ha hb).dvi fun σ H Q q => bin_of hf q
theorem pd_cmp {op : CmpOp} {r : R2} {f : D → D → Option D} {a b : Expr} {sa sb : Sem} (ho : OpR X (compareOp op) r) (hf : Pure2 X.K r f) (hm : behindInMarks op b = false) (ha : PE X a (tD X.K XC W P sa)) (hb : PE X b (tD X.K XC W P sb)) :
    PE X (.Compare a [op] [b] pos) (tD X.K XC W P (dBin f sa sb)) := (pe_cmpR ho ha hb hm).dvi fun σ H Q q => bin_of hf q
theorem pd_ix {r : R2} {f : D → D → Option D} {a b : Expr} {sa sb : Sem} (ho : IxR X r) (hf : Pure2 X.K r f) (hm : PlainIx b) (ha : PE X a (tD X.K XC W P sa)) (hb : PE X b (tD X.K XC W P sb)) :
    PE X (.Subscript a b pos) (tD X.K XC W P (dBin f sa sb)) := (pe_ix ho ha hb hm).dvi fun σ H Q q => bin_of hf q
/-- a new object laid -/
theorem SR.fresh {K : Fg} {P : Addr} {B H : Hp} {M N : List Addr} {σ : St} {e : Env} {p : Addr} {o : HO} {z : D} (s : SR K P B N M H σ e) (hp : H p = none) (w : OwnAt K (mask H (M ++ N)) (upd H p o) p z) :
    SR K P B (p :: N) M (upd H p o) σ e ∧ p ∉ N ∧ B p = none ∧ Same (mask H M) (mask (upd H p o) M) ∧ OwnAt K (mask (upd H p o) (M ++ p :: N)) (upd H p o) p z := by
  refine ⟨s.newN hp, fun z => ?_, ?_, mask_mono (Same.new hp), w.monoAt (fun a o q => ?_) rfl⟩
  · obtain ⟨o, q⟩ := s.al p z
    rw [hp] at q
    cases q
  · cases q : B p with
    | none => rfl
    | some o =>
      have := s.same p o q
      rw [hp] at this
      cases this
  · obtain ⟨q1, q2⟩ := mask_some q
    have ne : a ≠ p := ne_of_none q1 hp
    rw [mask_out fun z => ?_, upd_ne ne]
    · exact q1
    · rcases List.mem_append.mp z with z | z
      · exact q2 (List.mem_append_left _ z)
      · rcases List.mem_cons.mp z with z | z
        · exact ne z
        · exact q2 (List.mem_append_right _ z)
theorem pd_binF {op : Operator} {r : R2} {f : D → D → Option D} {a b : Expr} {sa sb : Sem} (ho : OpR X (binaryOp op) r) (hf : Fresh2 X.K r f) (ha : PE X a (tD X.K XC W P sa)) (hb : PE X b (tD X.K XC W P sb)) :
    PE X (.BinOp a op b pos) (tDF X.K XC W P (dBinF f sa sb)) := (pe_op ho ha hb).dvi fun σ H Q ⟨B, N, M, e, s, h⟩ => by
  refine ⟨B, N, M, e, s, h.bind.imp fun x e1 h1 v H1 s1 m1 r1 => ?_⟩
  refine ⟨B, N, M, e1, s1, h1.bind.both (fun y e2 h2 w H2 s2 m2 r2 => ?_) fun c e' q => q.mono m1⟩
  obtain ⟨dx, dy, z, hx, hy, hz, q⟩ := ap2_of h2
  refine hf (M ++ N) H2 v w dx dy z Q s2.alAll ((r1.mono m2).get s2 hx) (r2.get s2 hy) hz fun p o hp ho => ?_
  obtain ⟨q1, q2, q3, q4, q5⟩ := s2.fresh hp ho
  exact q p _ q1 q2 q3 (Same.trans' (Same.trans' m1 m2) q4) q5
/-- a new object as a value -/
def dF (s : Env → R D) : Sem := fun e => (s e).val
theorem own_val {K : Fg} {P : Addr} {B H' : Hp} {M N : List Addr} {σ : St} {e' : Env} {p : Addr} {d : D} (s' : SR K P B (p :: N) M H' σ e') (n : p ∉ N) (o : OwnAt K (mask H' (M ++ p :: N)) H' p d) : Rep K (mask H' (M ++ N)) (.ref p) d := by
  have np : p ∉ M := fun z => s'.dj p z List.mem_cons_self
  have hm : Same (mask H' (M ++ p :: N)) (mask H' (M ++ N)) := mask_sub fun q hq => by
    rcases List.mem_append.mp hq with z | z
    · exact List.mem_append_left _ z
    · exact List.mem_append_right _ (List.mem_cons_of_mem _ z)
  have h4 : OwnAt K (mask H' (M ++ N)) (mask H' (M ++ N)) p d := o.monoAt hm (mask_out fun z => (List.mem_append.mp z).elim np n)
  exact h4.rep fun _ _ z => z
theorem pd_f {ex : Expr} {s : Env → R D} (h : PE X ex (tDF X.K XC W P s)) : PE X ex (tD X.K XC W P (dF s)) := h.dvi fun σ H Q ⟨B, N, M, e, r, h⟩ =>
  ⟨B, N, M, e, r, h.bind.imp fun d e' h1 p H' s' n b m o => h1 (.ref p) H' s'.weakN m (own_val s' n o)⟩

/-! ### tests -/
def dTest (s : Sem) : Env → R Bool := fun e => (s e).bind fun x e' => match x with
  | .val (.bl b) => .ok b e'
  | _ => .bad
theorem tB_of {s : Sem} {K : Fg} {σ : St} {H : Hp} {Q : Bool → Hp → Prop} (h : tDT K XC W P (dTest s) σ H Q) : tD K XC W P s σ H fun x H1 => ∃ c, x = .bl c ∧ Q c H1 := by
  obtain ⟨B, N, M, e, r, h⟩ := h
  refine ⟨B, N, M, e, r, h.bind.imp fun x e' h v H' s' m rv => ?_⟩
  cases x with
  | slot i => exact h.elim
  | val d =>
    cases d with
    | bl b => exact ⟨b, CR.bl (H := H') (.rep rv), h H' s' m⟩
    | _ => exact h.elim
theorem pt_d {ex : Expr} {s : Sem} (h : PE X ex (tD X.K XC W P s)) (he : ∀ whole, isTrue ex X.env whole = (do let v ← whole; standAt ex.pos; holding [v] (truthy v)) := by intro _; rfl) : PT X ex (tDT X.K XC W P (dTest s)) :=
  (pt_val h he).dvi fun σ H Q q => tB_of q
/-- a comparison as a test -/
theorem pt_dcmp {op : CmpOp} {r : R2} {f : D → D → Option D} {a b : Expr} {sa sb : Sem} (ho : OpR X (compareOp op) r) (hf : Pure2 X.K r f) (hm : behindInMarks op b = false) (ha : PE X a (tD X.K XC W P sa)) (hb : PE X b (tD X.K XC W P sb)) :
    PT X (.Compare a [op] [b] pos) (tDT X.K XC W P (dTest (dBin f sa sb))) := (pt_cmpR ho ha hb hm).dvi fun σ H Q q => bin_of hf (tB_of q)
/-- truth -/
def truD : D → Option Bool
  | .non => some false
  | .bl b => some b
  | .int i => some (i != 0)
  | .str s => if s.length ≤ sizeLine then some ((s.length : Int) != 0) else none
  | .tup xs => some (!xs.isEmpty)
  | .lst xs => some (!xs.isEmpty)
  | .scr xs => some (!xs.isEmpty)
  | _ => none
def dTru (s : Sem) : Env → R Bool := fun e => (s e).bind fun x e' => match (x.data e').bind truD with
  | some b => .ok b e'
  | none => .bad
theorem isEmptyR {K : Fg} {H : Hp} {vs : List V} {ds : List D} (r : Reps K H vs ds) : vs.isEmpty = ds.isEmpty := by cases r <;> rfl
theorem truD_ok {K : Fg} {L : List Addr} {H : Hp} {v : V} {d : D} {b : Bool} (c : CR K (mask H L) H v d) (h : truD d = some b) : TruV K v H b := by
  cases d with
  | non => rw [c.non]; injection h with h; exact h.symm
  | bl i => rw [c.bl]; injection h with h; exact h.symm
  | int i => rw [c.int]; injection h with h; exact h.symm
  | str i =>
    rw [c.str]
    have h : (if i.length ≤ sizeLine then some ((i.length : Int) != 0) else none) = some b := h
    by_cases hl : i.length ≤ sizeLine
    · rw [if_pos hl] at h
      injection h with h
      exact ⟨hl, h.symm⟩
    · rw [if_neg hl] at h
      cases h
  | tup ds =>
    obtain ⟨a, vs, rfl, h1, h2⟩ := c.tup mask_le
    injection h with h
    exact .inr (.inl ⟨vs, .of h1, by rw [isEmptyR h2]; exact h.symm⟩)
  | lst ds =>
    obtain ⟨a, vs, rfl, h1, h2⟩ := c.lst mask_le
    injection h with h
    exact .inl ⟨vs, .of h1, by rw [isEmptyR h2]; exact h.symm⟩
  | scr ds =>
    obtain ⟨a, vs, rfl, h1, h2⟩ := c.scr mask_le
    injection h with h
    exact .inl ⟨vs, h1, by rw [isEmptyR h2]; exact h.symm⟩
  | dk _ => cases h
  | dt _ => cases h
theorem pt_dtru {ex : Expr} {s : Sem} (h : PE X ex (tD X.K XC W P s)) (he : ∀ whole, isTrue ex X.env whole = (do let v ← whole; standAt ex.pos; holding [v] (truthy v)) := by intro _; rfl) : PT X ex (tDT X.K XC W P (dTru s)) :=
  (pt_truth h he).dvi fun σ H Q ⟨B, N, M, e, r, h⟩ => by
    refine ⟨B, N, M, e, r, h.bind.imp fun x e' h v H' s' m rv => ?_⟩
    cases hx : x.data e' with
    | none => rw [hx] at h; exact h.elim
    | some d =>
      cases hb : truD d with
      | none => rw [hx] at h; simp only [Option.bind_some, hb] at h; exact h.elim
      | some b =>
        rw [hx] at h
        simp only [Option.bind_some, hb] at h
        exact ⟨b, truD_ok (rv.get s' hx) hb, h H' s' m⟩
def dNot (s : Env → R Bool) : Env → R Bool := fun e => (s e).bind fun b e' => .ok (!b) e'
def dAnd (s t : Env → R Bool) : Env → R Bool := fun e => (s e).bind fun b e' => if b = true then t e' else .ok false e'
def dOr (s t : Env → R Bool) : Env → R Bool := fun e => (s e).bind fun b e' => if b = true then .ok true e' else t e'
theorem pt_dnot {ex : Expr} {s : Env → R Bool} (h : PT X ex (tDT X.K XC W P s)) : PT X (.UnaryOp .Not ex pos) (tDT X.K XC W P (dNot s)) := (pt_not h).dvi fun σ H Q ⟨B, N, M, e, r, h⟩ =>
  ⟨B, N, M, e, r, h.bind.imp fun b e' h => h⟩
theorem and_of {K : Fg} {s t : Env → R Bool} {σ : St} {H : Hp} {Q : Bool → Hp → Prop} (h : tDT K XC W P (dAnd s t) σ H Q) : tAnd (tDT K XC W P s) (tDT K XC W P t) σ H Q := by
  obtain ⟨B, N, M, e, r, h⟩ := h
  refine ⟨B, N, M, e, r, h.bind.imp fun b e' h H' s' m => ?_⟩
  cases b with
  | false => exact h H' s' m
  | true => exact ⟨B, N, M, e', s', Hold.both (r := t e') h (fun b e2 h2 H2 s2 m2 => h2 H2 s2 (Same.trans' m m2)) fun c e' q => q.mono m⟩
theorem or_of {K : Fg} {s t : Env → R Bool} {σ : St} {H : Hp} {Q : Bool → Hp → Prop} (h : tDT K XC W P (dOr s t) σ H Q) : tOr (tDT K XC W P s) (tDT K XC W P t) σ H Q := by
  obtain ⟨B, N, M, e, r, h⟩ := h
  refine ⟨B, N, M, e, r, h.bind.imp fun b e' h H' s' m => ?_⟩
  cases b with
  | true => exact h H' s' m
  | false => exact ⟨B, N, M, e', s', Hold.both (r := t e') h (fun b e2 h2 H2 s2 m2 => h2 H2 s2 (Same.trans' m m2)) fun c e' q => q.mono m⟩
theorem pw_d1a {a : Expr} {s : Env → R Bool} (h : PT X a (tDT X.K XC W P s)) : PW X (.BoolOp .And [a] pos) (tDT X.K XC W P s) := pw_and1 h
theorem pw_d1o {a : Expr} {s : Env → R Bool} (h : PT X a (tDT X.K XC W P s)) : PW X (.BoolOp .Or [a] pos) (tDT X.K XC W P s) := pw_or1 h
theorem pw_dand {a b : Expr} {rest : List Expr} {s t : Env → R Bool} (h : PT X a (tDT X.K XC W P s)) (h2 : PW X (.BoolOp .And (b :: rest) pos) (tDT X.K XC W P t)) : PW X (.BoolOp .And (a :: b :: rest) pos) (tDT X.K XC W P (dAnd s t)) :=
  (pw_and h h2).dvi fun σ H Q q => and_of q
theorem pw_dor {a b : Expr} {rest : List Expr} {s t : Env → R Bool} (h : PT X a (tDT X.K XC W P s)) (h2 : PW X (.BoolOp .Or (b :: rest) pos) (tDT X.K XC W P t)) : PW X (.BoolOp .Or (a :: b :: rest) pos) (tDT X.K XC W P (dOr s t)) :=
  (pw_or h h2).dvi fun σ H Q q => or_of q
/-! ### and, or, not as values; a if t else b -/
def dAndV (s t : Sem) : Sem := fun e => (s e).bind fun x e' => match x with
  | .val (.bl true) => t e'
  | .val (.bl false) => .ok (.val (.bl false)) e'
  | _ => .bad
def dOrV (s t : Sem) : Sem := fun e => (s e).bind fun x e' => match x with
  | .val (.bl false) => t e'
  | .val (.bl true) => .ok (.val (.bl true)) e'
  | _ => .bad
def dNotV (s : Sem) : Sem := fun e => (s e).bind fun x e' => match x with
  | .val (.bl b) => .ok (.val (.bl (!b))) e'
  | _ => .bad
theorem pd_notV {ex : Expr} {s : Sem} (h : PE X ex (tD X.K XC W P s)) : PE X (.UnaryOp .Not ex pos) (tD X.K XC W P (dNotV s)) := (pe_not h).dvi fun σ H Q ⟨B, N, M, e, r, h⟩ => by
  refine ⟨B, N, M, e, r, h.bind.imp fun x e' h v H' s' m rv => ?_⟩
  cases x with
  | slot i => exact h.elim
  | val d =>
    cases d with
    | bl b => exact ⟨b, CR.bl (H := H') (.rep rv), h _ H' s' m (.bl _)⟩
    | _ => exact h.elim
theorem pd_one {op} {a : Expr} {s : Sem} (h : PE X a (tD X.K XC W P s)) : PE X (.BoolOp op [a] pos) (tD X.K XC W P s) := pe_one h
theorem tD.step {K : Fg} {B H H' : Hp} {M N : List Addr} {σ : St} {e' : Env} {t : Sem} {Q : VK} (s' : SR K P B N M H' σ e') (m : Same (mask H M) (mask H' M))
    (h : Hold (t e') (fun x e' => ∀ v H', SR K P B N M H' σ e' → Same (mask H M) (mask H' M) → VR K N M H' σ v x → Q v H') (ExK K XC W P B N M H σ)) : tD K XC W P t σ H' Q :=
  ⟨B, N, M, e', s', Hold.both (r := t e') h (fun b e2 h2 v H2 s2 m2 => h2 v H2 s2 (Same.trans' m m2)) fun c e' q => q.mono m⟩
theorem pd_andV {a b : Expr} {rest : List Expr} {s t : Sem} (h : PE X a (tD X.K XC W P s)) (h2 : PE X (.BoolOp .And (b :: rest) pos) (tD X.K XC W P t)) : PE X (.BoolOp .And (a :: b :: rest) pos) (tD X.K XC W P (dAndV s t)) :=
  (pe_and h h2).dvi fun σ H Q ⟨B, N, M, e, r, h⟩ => by
    refine ⟨B, N, M, e, r, h.bind.imp fun x e' h v H' s' m rv => ?_⟩
    cases x with
    | slot i => exact h.elim
    | val d =>
      cases d with
      | bl b =>
        refine ⟨b, CR.bl (H := H') (.rep rv), ?_⟩
        cases b with
        | false => exact h _ H' s' m (.bl _)
        | true => exact tD.step s' m h
      | _ => exact h.elim
theorem pd_orV {a b : Expr} {rest : List Expr} {s t : Sem} (h : PE X a (tD X.K XC W P s)) (h2 : PE X (.BoolOp .Or (b :: rest) pos) (tD X.K XC W P t)) : PE X (.BoolOp .Or (a :: b :: rest) pos) (tD X.K XC W P (dOrV s t)) :=
  (pe_or h h2).dvi fun σ H Q ⟨B, N, M, e, r, h⟩ => by
    refine ⟨B, N, M, e, r, h.bind.imp fun x e' h v H' s' m rv => ?_⟩
    cases x with
    | slot i => exact h.elim
    | val d =>
      cases d with
      | bl b =>
        refine ⟨b, CR.bl (H := H') (.rep rv), ?_⟩
        cases b with
        | true => exact h _ H' s' m (.bl _)
        | false => exact tD.step s' m h
      | _ => exact h.elim
def dIf (c : Env → R Bool) (s t : Sem) : Sem := fun e => (c e).bind fun b e' => if b = true then s e' else t e'
theorem pd_if {c a b : Expr} {sc : Env → R Bool} {s t : Sem} (hc : PT X c (tDT X.K XC W P sc)) (ha : PE X a (tD X.K XC W P s)) (hb : PE X b (tD X.K XC W P t)) : PE X (.IfExp c a b pos) (tD X.K XC W P (dIf sc s t)) :=
  (pe_ifExp hc ha hb).dvi fun σ H Q ⟨B, N, M, e, r, h⟩ => by
    refine ⟨B, N, M, e, r, h.bind.imp fun b e' h H' s' m => ?_⟩
    cases b with
    | true => exact tD.step s' m h
    | false => exact tD.step s' m h
end
end Dv

set_option maxRecDepth 100000
set_option maxHeartbeats 4000000
namespace Dv
open PySem L2
section
variable {X : Cx} {XC : Nat → Addr} {W : WX} {P : Addr} {pos p : Pos}
/-! ### arguments, displays -/
def dANil : Env → R (List TV) := fun e => .ok [] e
def dACons (a : Sem) (r : Env → R (List TV)) : Env → R (List TV) := fun e => (a e).bind fun x e1 => (r e1).bind fun xs e2 => .ok (x :: xs) e2
theorem pad_nil : PA X [] (tDA X.K XC W P dANil) := pa_nil.dvi fun σ H Q ⟨B, N, M, e, s, h⟩ => h [] H s (fun _ _ z => z) .nil
theorem pad_cons {ex : Expr} {es : List Expr} {a : Sem} {r : Env → R (List TV)} (ha : PE X ex (tD X.K XC W P a)) (hr : PA X es (tDA X.K XC W P r)) (hs : starEach (ex :: es) X.env = (false, eval ex X.env) :: starEach es X.env := by rfl) :
    PA X (ex :: es) (tDA X.K XC W P (dACons a r)) := (pa_cons ha hr hs).dvi fun σ H Q ⟨B, N, M, e, s, h⟩ => by
  refine ⟨B, N, M, e, s, h.bind.imp fun x e1 h1 v H1 s1 m1 r1 => ?_⟩
  exact ⟨B, N, M, e1, s1, h1.bind.both (fun xs e2 h2 vs H2 s2 m2 r2 => h2 (v :: vs) H2 s2 (Same.trans' m1 m2) (.cons (r1.mono m2) r2)) fun c e' q => q.mono m1⟩
/-- all of them values in sight -/
def vals : List TV → Option (List D)
  | [] => some []
  | .val d :: r => (vals r).map (d :: ·)
  | .slot _ :: _ => none
theorem vals_reps {K : Fg} {N M : List Addr} {H : Hp} {σ : St} : ∀ {xs : List TV} {vs : List V} {ds : List D}, Paired (VR K N M H σ) vs xs → vals xs = some ds → Reps K (mask H (M ++ N)) vs ds
  | [], _, _, .nil, e => by injection e with e; subst e; exact .nil
  | .val d :: r, _, ds, .cons h t, e => by
    have e : (vals r).map (d :: ·) = some ds := e
    cases q : vals r with
    | none => rw [q] at e; cases e
    | some es =>
      rw [q] at e
      injection e with e
      subst e
      exact .cons h (vals_reps t q)
  | .slot _ :: _, _, _, .cons _ _, e => by cases e
def dTup (a : Env → R (List TV)) : Sem := fun e => (a e).bind fun xs e' => match vals xs with
  | some ds => if ds.length ≤ sizeLine then .ok (.val (.tup ds)) e' else .bad
  | none => .bad
def dLst (a : Env → R (List TV)) : Env → R D := fun e => (a e).bind fun xs e' => match vals xs with
  | some ds => if ds.length ≤ sizeLine then .ok (.lst ds) e' else .bad
  | none => .bad
theorem pd_tup {es : List Expr} {x1} {a : Env → R (List TV)} (h : PA X es (tDA X.K XC W P a)) : PE X (.Tuple es x1 pos) (tD X.K XC W P (dTup a)) := (pe_tup h).dvi fun σ H Q ⟨B, N, M, e, s, h⟩ => by
  refine ⟨B, N, M, e, s, h.bind.imp fun xs e1 h1 vs H1 s1 m1 r1 => ?_⟩
  cases q : vals xs with
  | none => rw [q] at h1; exact h1.elim
  | some ds =>
    rw [q] at h1
    have rp := vals_reps r1 q
    by_cases hl : ds.length ≤ sizeLine
    · simp only [if_pos hl] at h1
      refine ⟨by rw [rp.length]; exact hl, fun p hp => h1 (.ref p) _ (s1.mono (Same.new hp)) (Same.trans' m1 (mask_mono (Same.new hp))) ?_⟩
      refine .tup ?_ (rp.mono (mask_mono (Same.new hp)))
      have np : p ∉ M ++ N := fun z => by
        obtain ⟨o, q⟩ := s1.alAll p z
        rw [hp] at q
        cases q
      rw [mask_out np]
      exact upd_same
    · simp only [if_neg hl] at h1
      exact h1.elim
theorem pd_lst {es : List Expr} {a : Env → R (List TV)} (h : PA X es (tDA X.K XC W P a)) : PE X (.List es pos) (tDF X.K XC W P (dLst a)) := (pe_lst h).dvi fun σ H Q ⟨B, N, M, e, s, h⟩ => by
  refine ⟨B, N, M, e, s, h.bind.imp fun xs e1 h1 vs H1 s1 m1 r1 => ?_⟩
  cases q : vals xs with
  | none => rw [q] at h1; exact h1.elim
  | some ds =>
    rw [q] at h1
    have rp := vals_reps r1 q
    by_cases hl : ds.length ≤ sizeLine
    · simp only [if_pos hl] at h1
      refine ⟨by rw [rp.length]; exact hl, fun p hp => ?_⟩
      obtain ⟨q1, q2, q3, q4, q5⟩ := s1.fresh hp (z := .lst ds) (.lst upd_same rp)
      exact h1 p _ q1 q2 q3 (Same.trans' m1 q4) q5
    · simp only [if_neg hl] at h1
      exact h1.elim
theorem pd_newK : PE X (.Dict [] [] pos) (tDF X.K XC W P fun e => .ok (.dk []) e) := pe_dnewK.dvi fun σ H Q ⟨B, N, M, e, s, h⟩ p hp => by
  obtain ⟨q1, q2, q3, q4, q5⟩ := s.fresh hp (z := .dk []) (.dk upd_same .nil)
  exact h p _ q1 q2 q3 q4 q5
theorem pd_newT : PE X (.Dict [] [] pos) (tDF X.K XC W P fun e => .ok (.dt []) e) := pe_dnewT.dvi fun σ H Q ⟨B, N, M, e, s, h⟩ p hp => by
  obtain ⟨q1, q2, q3, q4, q5⟩ := s.fresh hp (z := .dt []) (.dt upd_same .nil)
  exact h p _ q1 q2 q3 q4 q5

/-! ### built-in calls -/
def datas (e : Env) : List TV → Option (List D)
  | [] => some []
  | x :: r => (x.data e).bind fun d => (datas e r).map (d :: ·)
abbrev CRs (K : Fg) (Hm H : Hp) : List V → List D → Prop := Paired (CR K Hm H)
theorem datas_reps {K : Fg} {P : Addr} {B : Hp} {N M : List Addr} {H : Hp} {σ : St} {e : Env} (s : SR K P B N M H σ e) : ∀ {xs : List TV} {vs : List V} {ds : List D}, Paired (VR K N M H σ) vs xs → datas e xs = some ds → CRs K (mask H (M ++ N)) H vs ds
  | [], _, _, .nil, q => by injection q with q; subst q; exact .nil
  | x :: r, _, ds, .cons h t, q => by
    have q : (x.data e).bind (fun d => (datas e r).map (d :: ·)) = some ds := q
    cases hx : x.data e with
    | none => rw [hx] at q; cases q
    | some d =>
      cases hr : datas e r with
      | none => rw [hx, hr] at q; cases q
      | some es =>
        rw [hx, hr] at q
        injection q with q
        subst q
        exact .cons (h.get s hx) (datas_reps s t hr)
def PureN (K : Fg) (r : List V → Hp → VK → Prop) (f : List D → Option D) : Prop := ∀ (L : List Addr) (H : Hp) (xs : List V) (ds : List D) (z : D) (Q : VK), (∀ p ∈ L, ∃ o, H p = some o) → CRs K (mask H L) H xs ds → f ds = some z →
  (∀ v H', Same H H' → Rep K (mask H' L) v z → Q v H') → r xs H Q
def FreshN (K : Fg) (r : List V → Hp → VK → Prop) (f : List D → Option D) : Prop := ∀ (L : List Addr) (H : Hp) (xs : List V) (ds : List D) (z : D) (Q : VK), (∀ p ∈ L, ∃ o, H p = some o) → CRs K (mask H L) H xs ds → f ds = some z →
  (∀ p o, H p = none → OwnAt K (mask H L) (upd H p o) p z → Q (.ref p) (upd H p o)) → r xs H Q
def apN (f : List D → Option D) (xs : List TV) (e : Env) : R D := match (datas e xs).bind f with
  | some z => .ok z e
  | none => .bad
theorem apN_of {f : List D → Option D} {xs : List TV} {e : Env} {C : D → Env → Prop} {E : Exc → Env → Prop} (h : Hold (apN f xs e) C E) : ∃ ds z, datas e xs = some ds ∧ f ds = some z ∧ C z e := by
  unfold apN at h
  cases hd : datas e xs with
  | none => rw [hd] at h; exact h.elim
  | some ds =>
    cases hz : f ds with
    | none => rw [hd] at h; simp only [Option.bind_some, hz] at h; exact h.elim
    | some z => rw [hd] at h; simp only [Option.bind_some, hz] at h; exact ⟨ds, z, rfl, hz, h⟩
def dCB (f : List D → Option D) (a : Env → R (List TV)) : Sem := fun e => (a e).bind fun xs e1 => (apN f xs e1).val
def dCBF (f : List D → Option D) (a : Env → R (List TV)) : Env → R D := fun e => (a e).bind fun xs e1 => apN f xs e1
theorem cb_of {r : List V → Hp → VK → Prop} {f : List D → Option D} {a : Env → R (List TV)} {K : Fg} {σ : St} {H : Hp} {Q : VK} (hf : PureN K r f) (q : tD K XC W P (dCB f a) σ H Q) : tCB r (tDA K XC W P a) σ H Q := by
  obtain ⟨B, N, M, e, s, h⟩ := q
  refine ⟨B, N, M, e, s, h.bind.imp fun xs e1 h1 vs H1 s1 m1 r1 => ?_⟩
  obtain ⟨ds, z, hd, hz, q⟩ := apN_of h1.bind
  exact hf (M ++ N) H1 vs ds z Q s1.alAll (datas_reps s1 r1 hd) hz fun u H' m' ru => q u H' (s1.mono m') (Same.trans' m1 (mask_mono m')) ru
theorem cbF_of {r : List V → Hp → VK → Prop} {f : List D → Option D} {a : Env → R (List TV)} {K : Fg} {σ : St} {H : Hp} {Q : VK} (hf : FreshN K r f) (q : tDF K XC W P (dCBF f a) σ H Q) : tCB r (tDA K XC W P a) σ H Q := by
  obtain ⟨B, N, M, e, s, h⟩ := q
  refine ⟨B, N, M, e, s, h.bind.imp fun xs e1 h1 vs H1 s1 m1 r1 => ?_⟩
  obtain ⟨ds, z, hd, hz, q⟩ := apN_of h1
  refine hf (M ++ N) H1 vs ds z Q s1.alAll (datas_reps s1 r1 hd) hz fun p o hp ho => ?_
  obtain ⟨q1, q2, q3, q4, q5⟩ := s1.fresh hp ho
  exact q p _ q1 q2 q3 (Same.trans' m1 q4) q5
variable {x : Str} {ex : Expr} {es : List Expr} {id T : String} {r : List V → Hp → VK → Prop} {f : List D → Option D} {a : Env → R (List TV)}
theorem pd_callB (hc : CallR X (.builtin id) r) (hf : PureN X.K r f) (hg : Gl X x) (hm : X.mg x = none) (hv : bootBuiltins x = some (.builtin id)) (ha : PA X (ex :: es) (tDA X.K XC W P a)) (hn : x ≠ "__name__" := by decide) (hdb : (x == ("__debug__" : Str)) = false := by decide)
    (he : starEach (ex :: es) X.env = (false, eval ex X.env) :: starEach es X.env := by rfl) (hpl : (backTo pos (starEach es X.env)).any (·.1) = false := by rfl) : PE X (.Call (.Name x p) (ex :: es) [] pos) (tD X.K XC W P (dCB f a)) :=
  (pe_callB hc hg hm hv ha hn hdb he hpl).dvi fun σ H Q q => cb_of hf q
theorem pd_callBF (hc : CallR X (.builtin id) r) (hf : FreshN X.K r f) (hg : Gl X x) (hm : X.mg x = none) (hv : bootBuiltins x = some (.builtin id)) (ha : PA X (ex :: es) (tDA X.K XC W P a)) (hn : x ≠ "__name__" := by decide) (hdb : (x == ("__debug__" : Str)) = false := by decide)
    (he : starEach (ex :: es) X.env = (false, eval ex X.env) :: starEach es X.env := by rfl) (hpl : (backTo pos (starEach es X.env)).any (·.1) = false := by rfl) : PE X (.Call (.Name x p) (ex :: es) [] pos) (tDF X.K XC W P (dCBF f a)) :=
  (pe_callB hc hg hm hv ha hn hdb he hpl).dvi fun σ H Q q => cbF_of hf q
theorem pd_callTy (hc : CallR X (.type T) r) (hf : PureN X.K r f) (hg : Gl X x) (hm : X.mg x = none) (hv : bootBuiltins x = some (.type T)) (ha : PA X (ex :: es) (tDA X.K XC W P a)) (hn : x ≠ "__name__" := by decide) (hdb : (x == ("__debug__" : Str)) = false := by decide)
    (he : starEach (ex :: es) X.env = (false, eval ex X.env) :: starEach es X.env := by rfl) (hpl : (backTo pos (starEach es X.env)).any (·.1) = false := by rfl) : PE X (.Call (.Name x p) (ex :: es) [] pos) (tD X.K XC W P (dCB f a)) :=
  (pe_callTy hc hg hm hv ha hn hdb he hpl).dvi fun σ H Q q => cb_of hf q
theorem pd_callTyF (hc : CallR X (.type T) r) (hf : FreshN X.K r f) (hg : Gl X x) (hm : X.mg x = none) (hv : bootBuiltins x = some (.type T)) (ha : PA X (ex :: es) (tDA X.K XC W P a)) (hn : x ≠ "__name__" := by decide) (hdb : (x == ("__debug__" : Str)) = false := by decide)
    (he : starEach (ex :: es) X.env = (false, eval ex X.env) :: starEach es X.env := by rfl) (hpl : (backTo pos (starEach es X.env)).any (·.1) = false := by rfl) : PE X (.Call (.Name x p) (ex :: es) [] pos) (tDF X.K XC W P (dCBF f a)) :=
  (pe_callTy hc hg hm hv ha hn hdb he hpl).dvi fun σ H Q q => cbF_of hf q
/-! ### a op1 b op2 c -/
def dChain (f g : D → D → Option D) (a b c : Sem) : Sem := fun e => (a e).bind fun x e1 => (b e1).bind fun y e2 => (ap2 f x y e2).bind fun z e3 => match z with
  | .bl true => (c e3).bind fun w e4 => (ap2 g y w e4).val
  | .bl false => .ok (.val (.bl false)) e3
  | _ => .bad
theorem chain_of {K : Fg} {r r' : R2} {f g : D → D → Option D} {sa sb sc : Sem} {σ : St} {H : Hp} {Q : VK} (hf : Pure2 K r f) (hg : Pure2 K r' g) (q : tD K XC W P (dChain f g sa sb sc) σ H Q) :
    tChain r r' (tD K XC W P sa) (tD K XC W P sb) (tD K XC W P sc) σ H Q := by
  obtain ⟨B, N, M, e, s, h⟩ := q
  refine ⟨B, N, M, e, s, h.bind.imp fun x e1 h1 v H1 s1 m1 r1 => ?_⟩
  refine ⟨B, N, M, e1, s1, h1.bind.both (fun y e2 h2 w H2 s2 m2 r2 => ?_) fun c e' q => q.mono m1⟩
  obtain ⟨dx, dy, z, hx, hy, hz, q⟩ := ap2_of h2.bind
  refine hf (M ++ N) H2 v w dx dy z _ s2.alAll ((r1.mono m2).get s2 hx) (r2.get s2 hy) hz fun u H' m' ru => ?_
  have mm : Same (mask H M) (mask H' M) := Same.trans' (Same.trans' m1 m2) (mask_mono m')
  have s3 := s2.mono m'
  cases z with
  | bl k =>
    refine ⟨k, CR.bl (H := H') (.rep ru), ?_⟩
    cases k with
    | false => exact q _ H' s3 mm (.bl _)
    | true =>
      refine ⟨B, N, M, e2, s3, Hold.both (Hold.bind (r := sc e2) q) (fun w' e4 h4 u4 H4 s4 m4 r4 => ?_) fun c e' q => q.mono mm⟩
      obtain ⟨dx, dy, z, hx, hy, hz, q⟩ := ap2_of h4.bind
      exact hg (M ++ N) H4 w u4 dx dy z Q s4.alAll ((r2.mono (Same.trans' (mask_mono m') m4)).get s4 hx) (r4.get s4 hy) hz fun u5 H5 m5 ru5 => q u5 H5 (s4.mono m5) (Same.trans' mm (Same.trans' m4 (mask_mono m5))) ru5
  | _ => exact q.elim
theorem pd_chain {op op' : CmpOp} {r r' : R2} {f g : D → D → Option D} {a b c : Expr} {sa sb sc : Sem} (ho : OpR X (compareOp op) r) (hf : Pure2 X.K r f) (ho' : OpR X (compareOp op') r') (hg : Pure2 X.K r' g)
    (ha : PE X a (tD X.K XC W P sa)) (hb : PE X b (tD X.K XC W P sb)) (hc : PE X c (tD X.K XC W P sc)) (hm : lastMarks [op, op'] [b, c] = false := by with_unfolding_all rfl) :
    PE X (.Compare a [op, op'] [b, c] pos) (tD X.K XC W P (dChain f g sa sb sc)) := (pe_chain ho ho' ha hb hc hm).dvi fun σ H Q q => chain_of hf hg q
theorem pt_chain {op op' : CmpOp} {r r' : R2} {f g : D → D → Option D} {a b c : Expr} {sa sb sc : Sem} (ho : OpR X (compareOp op) r) (hf : Pure2 X.K r f) (ho' : OpR X (compareOp op') r') (hg : Pure2 X.K r' g)
    (ha : PE X a (tD X.K XC W P sa)) (hb : PE X b (tD X.K XC W P sb)) (hc : PE X c (tD X.K XC W P sc)) (hm : lastMarks [op, op'] [b, c] = false := by with_unfolding_all rfl) :
    PT X (.Compare a [op, op'] [b, c] pos) (tDT X.K XC W P (dTest (dChain f g sa sb sc))) := (L2.pt_chain ho ho' ha hb hc hm).dvi fun σ H Q q => chain_of hf hg (tB_of q)
/-! ### one operand -/
def Pure1 (K : Fg) (r : V → Hp → VK → Prop) (f : D → Option D) : Prop := ∀ (L : List Addr) (H : Hp) (x : V) (dx z : D) (Q : VK), (∀ p ∈ L, ∃ o, H p = some o) → CR K (mask H L) H x dx → f dx = some z →
  (∀ v H', Same H H' → Rep K (mask H' L) v z → Q v H') → r x H Q
def dUn (f : D → Option D) (a : Sem) : Sem := fun e => (a e).bind fun x e1 => match (x.data e1).bind f with
  | some z => .ok (.val z) e1
  | none => .bad
theorem pd_un {op : UnaryOp} {r : V → Hp → VK → Prop} {f : D → Option D} {a : Expr} {sa : Sem} (ho : UnR X (unaryOp op) r) (hf : Pure1 X.K r f) (ha : PE X a (tD X.K XC W P sa)) : PE X (.UnaryOp op a pos) (tD X.K XC W P (dUn f sa)) :=
  (pe_un ho ha).dvi fun σ H Q ⟨B, N, M, e, s, h⟩ => by
    refine ⟨B, N, M, e, s, h.bind.imp fun x e1 h1 v H1 s1 m1 r1 => ?_⟩
    cases hx : x.data e1 with
    | none => rw [hx] at h1; exact h1.elim
    | some dx =>
      cases hz : f dx with
      | none => rw [hx] at h1; simp only [Option.bind_some, hz] at h1; exact h1.elim
      | some z =>
        rw [hx] at h1
        simp only [Option.bind_some, hz] at h1
        exact hf (M ++ N) H1 v dx z Q s1.alAll (r1.get s1 hx) hz fun u H' m' ru => h1 u H' (s1.mono m') (Same.trans' m1 (mask_mono m')) ru

/-! ### slices -/
def tDO (K : Fg) (XC : Nat → Addr) (W : WX) (P : Addr) (s : Env → R (Option Int)) : TO := fun σ H Q => ∃ B N M e, SR K P B N M H σ e ∧ Hold (s e) (fun o e' => ∀ H', SR K P B N M H' σ e' → Same (mask H M) (mask H' M) → Q o H') (ExK K XC W P B N M H σ)
def dONone : Env → R (Option Int) := fun e => .ok none e
def dOSome (a : Sem) : Env → R (Option Int) := fun e => (a e).bind fun x e1 => match x with
  | .val (.int i) => .ok (some i) e1
  | _ => .bad
theorem PO.dvi {X : Cx} {e : Option Expr} {t t' : TO} (h : PO X e t) (i : ∀ σ H Q, t' σ H Q → t σ H Q) : PO X e t' := ⟨fun pins s σ H Q I q => h.run pins s σ H Q I (i σ H Q q)⟩
theorem pod_none : PO X none (tDO X.K XC W P dONone) := PO.dvi po_none fun σ H Q ⟨B, N, M, e, s, h⟩ => h H s (fun _ _ z => z)
theorem pod_some {ex : Expr} {a : Sem} (h : PE X ex (tD X.K XC W P a)) : PO X (some ex) (tDO X.K XC W P (dOSome a)) := PO.dvi (po_some h) fun σ H Q ⟨B, N, M, e, s, h⟩ => by
  refine ⟨B, N, M, e, s, h.bind.imp fun x e1 h1 v H1 s1 m1 r1 => ?_⟩
  cases x with
  | slot i => exact h1.elim
  | val d =>
    cases d with
    | int i => exact ⟨i, CR.int (H := H1) (.rep r1), h1 H1 s1 m1⟩
    | _ => exact h1.elim
/-- the same cut of data -/
def cutD (xs : List D) (lo hi : Option Int) : List D := (xs.drop (HT.sIx xs.length 0 lo)).take (HT.sIx xs.length xs.length hi - HT.sIx xs.length 0 lo)
theorem cut_reps {K : Fg} {H : Hp} {vs : List V} {ds : List D} (r : Reps K H vs ds) (lo hi : Option Int) : Reps K H (cutV vs lo hi) (cutD ds lo hi) := by
  unfold cutV cutD
  rw [r.length]
  exact (r.drop _).take _
def dSlL (a : Sem) (lo hi : Env → R (Option Int)) : Env → R D := fun e => (a e).bind fun x e1 => (lo e1).bind fun l e2 => (hi e2).bind fun u e3 => match x.data e3 with
  | some (.lst ds) => .ok (.lst (cutD ds l u)) e3
  | some (.scr ds) => .ok (.lst (cutD ds l u)) e3
  | _ => .bad
theorem pd_slL {a : Expr} {lo hi : Option Expr} {p2 : Pos} {sa : Sem} {sl sh : Env → R (Option Int)} (ha : PE X a (tD X.K XC W P sa)) (hl : PO X lo (tDO X.K XC W P sl)) (hh : PO X hi (tDO X.K XC W P sh)) :
    PE X (.Subscript a (.Slice lo hi none p2) pos) (tDF X.K XC W P (dSlL sa sl sh)) := (pe_slice sl_list ha hl hh).dvi fun σ H Q ⟨B, N, M, e, s, h⟩ => by
  refine ⟨B, N, M, e, s, h.bind.imp fun x e1 h1 v H1 s1 m1 r1 => ?_⟩
  refine ⟨B, N, M, e1, s1, h1.bind.both (fun l e2 h2 H2 s2 m2 => ?_) fun c e' q => q.mono m1⟩
  refine ⟨B, N, M, e2, s2, h2.bind.both (fun u e3 h3 H3 s3 m3 => ?_) fun c e' q => q.mono (Same.trans' m1 m2)⟩
  have mm := Same.trans' m1 (Same.trans' m2 m3)
  have r3 := r1.mono (Same.trans' m2 m3)
  cases hx : x.data e3 with
  | none => rw [hx] at h3; exact h3.elim
  | some d =>
    rw [hx] at h3
    cases d with
    | lst ds =>
      obtain ⟨a, vs, rfl, h4, h5⟩ := (r3.get s3 hx).lst mask_le
      refine ⟨a, vs, rfl, .of h4, fun p hp => ?_⟩
      obtain ⟨q1, q2, q3, q4, q5⟩ := s3.fresh hp (z := .lst (cutD ds l u)) (.lst upd_same (cut_reps h5 l u))
      exact h3 p _ q1 q2 q3 (Same.trans' mm q4) q5
    | scr ds =>
      obtain ⟨a, vs, rfl, h4, h5⟩ := (r3.get s3 hx).scr mask_le
      refine ⟨a, vs, rfl, h4, fun p hp => ?_⟩
      obtain ⟨q1, q2, q3, q4, q5⟩ := s3.fresh hp (z := .lst (cutD ds l u)) (.lst upd_same (cut_reps h5 l u))
      exact h3 p _ q1 q2 q3 (Same.trans' mm q4) q5
    | _ => exact h3.elim

/-! ### calls of the text's own defs -/
mutual
def flat : D → Bool
  | .non => true
  | .bl _ => true
  | .int _ => true
  | .str _ => true
  | .tup xs => flats xs
  | _ => false
def flats : List D → Bool
  | [] => true
  | d :: r => flat d && flats r
end
mutual
theorem flat_rep {K : Fg} {H : Hp} {M N : List Addr} (nt : ∀ p ∈ M, (∀ xs, H p ≠ some (.tup xs)) ∧ ∀ o u, H p ≠ some (.frz o u)) : ∀ {v : V} {d : D}, Rep K (mask H N) v d → flat d = true → Rep K (mask H (M ++ N)) v d
  | _, _, .non, _ => .non
  | _, _, .bl b, _ => .bl b
  | _, _, .int i, _ => .int i
  | _, _, .str s, _ => .str s
  | _, _, .tup (a := a) (vs := vs) h r, f => by
    refine .tup ?_ (flats_rep nt r (by simpa [flat] using f))
    obtain ⟨h1, h2⟩ := mask_some h
    rw [mask_out fun z => (List.mem_append.mp z).elim (fun z => (nt a z).1 vs h1) h2]
    exact h1
  | _, _, .lst _ _, f => by simp [flat] at f
  | _, _, .scr _ _, f => by simp [flat] at f
  | _, _, .dk _ _, f => by simp [flat] at f
  | _, _, .dt _ _, f => by simp [flat] at f
theorem flats_rep {K : Fg} {H : Hp} {M N : List Addr} (nt : ∀ p ∈ M, (∀ xs, H p ≠ some (.tup xs)) ∧ ∀ o u, H p ≠ some (.frz o u)) : ∀ {v : List V} {d : List D}, Reps K (mask H N) v d → flats d = true → Reps K (mask H (M ++ N)) v d
  | _, _, .nil, _ => .nil
  | _, _, .cons h r, f => by
    have f : (flat _ && flats _) = true := f
    rw [Bool.and_eq_true] at f
    exact .cons (flat_rep nt h f.1) (flats_rep nt r f.2)
end
/-- what a def promises: F by data alone -/
def spF (K : Fg) (XC : Nat → Addr) (n : Nat) (F : List D → R D) : Sp := fun vs H Q E => vs.length = n ∧ ∃ (N : List Addr) (ds : List D), (∀ p ∈ N, ∃ o, H p = some o) ∧ Reps K (mask H N) vs ds ∧
  Hold (F ds) (fun d _ => ∀ v H', Same H H' → Rep K (mask H' N) v d → Q v H') (fun c _ => ∀ cls dd H', Same H H' → ExcR K XC c cls dd H' → E cls dd H')
def liftF (r : R D) (e : Env) : R TV := match r with
  | .ok d _ => .ok (.val d) e
  | .exc c _ => .exc c e
  | .bad => .bad
def dCall (F : List D → R D) (dds : List D) (a : Env → R (List TV)) : Sem := fun e => (a e).bind fun xs e1 => match vals xs with
  | some ds => liftF (F (ds ++ dds)) e1
  | none => .bad
theorem run_fnD {CX : CXT} {k : Nat} {f : Addr} {fd : FuncData} {ps : List Str} {sp : Sp} {ds : List Value} {dvs : List V} {E : St → XK} {pins : List (Addr × Obj)} {σ : St} {H : Hp} {s : Shared} {Q : VK} {us : List Value} {vs : List V}
    (F : FnOk X.prog X.w X.K X.mg X.base CX k f fd ps sp) (hr : Room k X.A) (hb : Binds X.K fd ps ds) (hd : Vals dvs ds) (hx : PassesAt CX X σ (E σ))
    (I : Inv X pins σ H s) (r : Vals vs us) (h : sp (vs ++ dvs) H Q (E σ)) : wpAny (model X.prog X.w) X.A (call (.ref f) us) (EP X pins σ Q) X.xe s := by
  have r2 : Vals (vs ++ dvs) (us ++ ds) := r.append hd
  have hl : (us ++ ds).length = ps.length := by rw [← r2.length]; exact F.len _ _ _ _ h
  refine wpAny_call (codeAny_mono (F.run X.A X.stack s H ⟨us, []⟩ (us ++ ds) (vs ++ dvs) Q (E σ) hr I.env0 (hb s us I.kIn hl) r2 h) fun r s' hq => ?_)
  cases r with
  | error e => exact hx pins H s e s' I hq
  | ok fl =>
    cases fl with
    | ret u => exact I.after hq
    | next => exact False.elim hq
    | brk => exact False.elim hq
    | cont => exact False.elim hq
def tCallD (sp : Sp) (dvs : List V) (E : St → XK) (t : TA) : TE := fun σ H Q => t σ H fun vs H1 => sp (vs ++ dvs) H1 Q (E σ)
theorem pe_callD {CX : CXT} {k : Nat} {f : Addr} {fd : FuncData} {ps : List Str} {sp : Sp} {ds : List Value} {dvs : List V} {E : St → XK} {t : TA} {x : Str} {ex : Expr} {es : List Expr} {p pos : Pos}
    (F : FnOk X.prog X.w X.K X.mg X.base CX k f fd ps sp) (hr : Room k X.A) (hg : Gl X x) (hm : X.mg x = some (.ref f)) (hk : PySem.W.keepIn X.K (.ref f) = true) (hb : Binds X.K fd ps ds) (hd : Vals dvs ds) (hx : ∀ σ, PassesAt CX X σ (E σ))
    (ha : PA X (ex :: es) t) (hdb : (x == ("__debug__" : Str)) = false := by decide) (he : starEach (ex :: es) X.env = (false, eval ex X.env) :: starEach es X.env := by rfl) (hpl : (backTo pos (starEach es X.env)).any (·.1) = false := by rfl) :
    PE X (.Call (.Name x p) (ex :: es) [] pos) (tCallD sp dvs E t) := by
  refine ⟨fun pins s σ H Q I h => ?_⟩
  refine wpAny_Call_Name_kw (ld_glob I hg hm ?_ hdb)
  refine PySem.W.callWith_K (h₀ := X.base) I.ok.mod.kin hk (thn (ha.run pos pins s σ H _ I h) fun us s1 ⟨vs, H1, I1, r, q⟩ => ⟨I1.kIn, ?_⟩) he hpl
  exact run_fnD F hr hb hd (hx σ) I1 r q
theorem Paired.length' {α β : Type} {F : α → β → Prop} {l₁ : List α} {l₂ : List β} (h : Paired F l₁ l₂) : l₁.length = l₂.length := Paired.length h
theorem pd_call {k : Nat} {f : Addr} {fd : FuncData} {ps : List Str} {n : Nat} {F : List D → R D} {ds : List Value} {dvs : List V} {dds : List D} {a : Env → R (List TV)} {x : Str} {ex : Expr} {es : List Expr} {p pos : Pos}
    (G : FnOk X.prog X.w X.K X.mg X.base (L2.CX X.prog X.w) k f fd ps (spF X.K XC n F)) (hr : Room k X.A) (hg : Gl X x) (hm : X.mg x = some (.ref f)) (hk : PySem.W.keepIn X.K (.ref f) = true) (hb : Binds X.K fd ps ds) (hd : Vals dvs ds)
    (rd : ∀ H, Reps X.K H dvs dds) (tk : Takes X W) (hn : n = (ex :: es).length + dds.length) (ha : PA X (ex :: es) (tDA X.K XC W P a)) (hal : ∀ e xs e', a e = .ok xs e' → xs.length = (ex :: es).length) (hdb : (x == ("__debug__" : Str)) = false := by decide)
    (he : starEach (ex :: es) X.env = (false, eval ex X.env) :: starEach es X.env := by rfl) (hpl : (backTo pos (starEach es X.env)).any (·.1) = false := by rfl) :
    PE X (.Call (.Name x p) (ex :: es) [] pos) (tD X.K XC W P (dCall F dds a)) := (pe_callD G hr hg hm hk hb hd (fun σ => passAt tk σ) ha hdb he hpl).dvi fun σ H Q ⟨B, N, M, e, s, h⟩ => by
  unfold dCall at h
  cases hae : a e with
  | bad => rw [hae] at h; exact h.elim
  | exc c e' => rw [hae] at h; exact ⟨B, N, M, e, s, by rw [hae]; exact h⟩
  | ok xs e1 =>
    have hlen := hal e xs e1 hae
    rw [hae] at h
    refine ⟨B, N, M, e, s, ?_⟩
    rw [hae]
    intro vs H1 s1 m1 r1
    have h : Hold (match vals xs with
      | some ds => liftF (F (ds ++ dds)) e1
      | none => .bad) _ _ := h
    cases q : vals xs with
    | none => rw [q] at h; exact h.elim
    | some es' =>
      rw [q] at h
      have rp := vals_reps r1 q
      have hl2 : dvs.length = dds.length := (rd (fun _ => none)).length
      refine ⟨by rw [List.length_append, Paired.length' r1, hlen, hl2, hn], M ++ N, es' ++ dds, s1.alAll, rp.append (rd _), ?_⟩
      have h : Hold (liftF (F (es' ++ dds)) e1) _ _ := h
      cases hF : F (es' ++ dds) with
      | bad => rw [hF] at h; exact h.elim
      | exc c z =>
        rw [hF] at h
        exact fun cls dd H' m' x => h cls dd H' (s1.mono m') (Same.trans' m1 (mask_mono m')) x
      | ok d z =>
        rw [hF] at h
        exact fun v H' m' rv => h v H' (s1.mono m') (Same.trans' m1 (mask_mono m')) rv
/-- some of the arguments owned by this frame: the answer bears no object that may change -/
def dCallS (F : List D → R D) (dds : List D) (a : Env → R (List TV)) : Sem := fun e => (a e).bind fun xs e1 => match datas e1 xs with
  | some ds => (liftF (F (ds ++ dds)) e1).bind fun x e2 => match x with
    | .val d => if flat d = true then .ok (.val d) e2 else .bad
    | _ => .bad
  | none => .bad
theorem crs_reps {K : Fg} {P : Addr} {B : Hp} {N M : List Addr} {H : Hp} {σ : St} {e : Env} (s : SR K P B N M H σ e) : ∀ {xs : List TV} {vs : List V} {ds : List D}, Paired (VR K N M H σ) vs xs → datas e xs = some ds → Reps K (mask H N) vs ds
  | [], _, _, .nil, q => by injection q with q; subst q; exact .nil
  | x :: r, _, ds, .cons (a := v) h t, q => by
    have q : (x.data e).bind (fun d => (datas e r).map (d :: ·)) = some ds := q
    cases hx : x.data e with
    | none => rw [hx] at q; cases q
    | some d =>
      cases hr : datas e r with
      | none => rw [hx, hr] at q; cases q
      | some es =>
        rw [hx, hr] at q
        injection q with q
        subst q
        refine .cons ?_ (crs_reps s t hr)
        have hm : Same (mask H (M ++ N)) (mask H N) := mask_sub fun q hq => List.mem_append_right _ hq
        cases x with
        | val d' =>
          have hx : some d' = some d := hx
          injection hx with hx
          subst hx
          exact Rep.mono hm h
        | slot i =>
          have q' : e[i]? = some (.own d) ∨ e[i]? = some (.io d) := by
            have q : slotD e i = some d := hx
            unfold slotD at q
            cases hq : e[i]? with
            | none => rw [hq] at q; cases q
            | some w =>
              rw [hq] at q
              cases w with
              | un => cases q
              | exn _ => cases q
              | v _ => cases q
              | own d' => left; simpa using q
              | io d' => right; simpa using q
          obtain ⟨p, h1, h2, h3⟩ := s.er.getOwn q'
          have h' : σ[i]? = some (some v) := h
          rw [h1] at h'
          injection h' with h'; injection h' with h'
          subst h'
          have : OwnAt K (mask H N) (mask H N) p d := h3.monoAt hm (mask_out (s.dj p h2))
          exact this.rep fun _ _ z => z
theorem pd_callS {k : Nat} {f : Addr} {fd : FuncData} {ps : List Str} {n : Nat} {F : List D → R D} {ds : List Value} {dvs : List V} {dds : List D} {a : Env → R (List TV)} {x : Str} {ex : Expr} {es : List Expr} {p pos : Pos}
    (G : FnOk X.prog X.w X.K X.mg X.base (L2.CX X.prog X.w) k f fd ps (spF X.K XC n F)) (hr : Room k X.A) (hg : Gl X x) (hm : X.mg x = some (.ref f)) (hk : PySem.W.keepIn X.K (.ref f) = true) (hb : Binds X.K fd ps ds) (hd : Vals dvs ds)
    (rd : ∀ H, Reps X.K H dvs dds) (tk : Takes X W) (hn : n = (ex :: es).length + dds.length) (ha : PA X (ex :: es) (tDA X.K XC W P a)) (hal : ∀ e xs e', a e = .ok xs e' → xs.length = (ex :: es).length) (hdb : (x == ("__debug__" : Str)) = false := by decide)
    (he : starEach (ex :: es) X.env = (false, eval ex X.env) :: starEach es X.env := by rfl) (hpl : (backTo pos (starEach es X.env)).any (·.1) = false := by rfl) :
    PE X (.Call (.Name x p) (ex :: es) [] pos) (tD X.K XC W P (dCallS F dds a)) := (pe_callD G hr hg hm hk hb hd (fun σ => passAt tk σ) ha hdb he hpl).dvi fun σ H Q ⟨B, N, M, e, s, h⟩ => by
  unfold dCallS at h
  cases hae : a e with
  | bad => rw [hae] at h; exact h.elim
  | exc c e' => rw [hae] at h; exact ⟨B, N, M, e, s, by rw [hae]; exact h⟩
  | ok xs e1 =>
    have hlen := hal e xs e1 hae
    rw [hae] at h
    refine ⟨B, N, M, e, s, ?_⟩
    rw [hae]
    intro vs H1 s1 m1 r1
    simp only [R.bind] at h
    cases q : datas e1 xs with
    | none => rw [q] at h; exact h.elim
    | some es' =>
      rw [q] at h
      have rp := crs_reps s1 r1 q
      have hl2 : dvs.length = dds.length := (rd (fun _ => none)).length
      refine ⟨by rw [List.length_append, Paired.length' r1, hlen, hl2, hn], N, es' ++ dds, s1.al, rp.append (rd _), ?_⟩
      cases hF : F (es' ++ dds) with
      | bad => simp only [hF] at h; exact h.elim
      | exc c z =>
        simp only [hF] at h
        exact fun cls dd H' m' x => h cls dd H' (s1.mono m') (Same.trans' m1 (mask_mono m')) x
      | ok d z =>
        simp only [hF] at h
        simp only [liftF] at h
        by_cases hfl : flat d = true
        · rw [if_pos hfl] at h
          exact fun v H' m' rv => h v H' (s1.mono m') (Same.trans' m1 (mask_mono m')) (flat_rep (s1.mono m').er.notup rv hfl)
        · rw [if_neg hfl] at h
          exact h.elim
end
end Dv

set_option maxRecDepth 100000
set_option maxHeartbeats 4000000
namespace Dv
open PySem L2
inductive Out where
  | nx (e : Env) | rt (x : TV) (e : Env) | brk (e : Env) | cnt (e : Env) | exc (c : Exc) (e : Env) | bad
abbrev SSem := Env → Out
def R.out {α : Type} (r : R α) (f : α → Env → Out) : Out := match r with
  | .ok a e => f a e
  | .exc c e => .exc c e
  | .bad => .bad
section
variable (K : Fg) (XC : Nat → Addr) (W : WX)
/-- what is wanted behind a statement, by its end -/
def After (P : Addr) (B : Hp) (N : List Addr) (D' : Ends) : Out → Prop
  | .nx e => ∀ σ M H, SR K P B N M H σ e → D'.nx σ H
  | .rt x e => ∀ v σ M H, SR K P B N M H σ e → VR K N M H σ v x → D'.rt v H
  | .brk e => ∀ σ M H, SR K P B N M H σ e → D'.bk σ H
  | .cnt e => ∀ σ M H, SR K P B N M H σ e → D'.ct σ H
  | .exc c e => ∀ cls dd σ M H, SR K P B N M H σ e → ExcR K XC c cls dd H → W cls dd σ H
  | .bad => False
def tDS (P : Addr) (s : SSem) : TS := fun D' σ H => ∃ B N M e, SR K P B N M H σ e ∧ After K XC W P B N D' (s e)
variable {K XC W}
theorem After.weakB {P : Addr} {B B' : Hp} {N : List Addr} {D' : Ends} {o : Out} (h : After K XC W P B N D' o) (x : Same B B') : After K XC W P B' N D' o := by
  cases o with
  | nx e => exact fun σ M H s => h σ M H (s.weakB x)
  | rt y e => exact fun v σ M H s r => h v σ M H (s.weakB x) r
  | brk e => exact fun σ M H s => h σ M H (s.weakB x)
  | cnt e => exact fun σ M H s => h σ M H (s.weakB x)
  | exc c e => exact fun cls dd σ M H s r => h cls dd σ M H (s.weakB x) r
  | bad => exact h
/-- from an expression's value to what follows -/
theorem out_of {α : Type} {r : R α} {f : α → Env → Out} {P : Addr} {B H : Hp} {N M : List Addr} {σ : St} {D' : Ends} (h : After K XC W P B N D' (r.out f)) :
    Hold r (fun a e => After K XC W P B N D' (f a e)) (ExK K XC W P B N M H σ) := by
  cases r with
  | ok a e => exact h
  | exc c e => exact fun cls dd H' s m x => h cls dd σ M H' s x
  | bad => exact h
end
section
variable {X : Cx} {XC : Nat → Addr} {W : WX} {P : Addr} {pos p : Pos}
def sSeq (s t : SSem) : SSem := fun e => match s e with
  | .nx e' => t e'
  | o => o
def sSkip : SSem := fun e => .nx e
theorem psd_nil : PSs X [] (tDS X.K XC W P sSkip) := pss_nil.dvi fun D' σ H ⟨B, N, M, e, s, h⟩ => h σ M H s
theorem psd_cons {st : Stmt} {rest : List Stmt} {s t : SSem} (h1 : PS X st (tDS X.K XC W P s)) (h2 : PSs X rest (tDS X.K XC W P t)) : PSs X (st :: rest) (tDS X.K XC W P (sSeq s t)) := (pss_cons h1 h2).dvi fun D' σ H ⟨B, N, M, e, r, h⟩ => by
  refine ⟨B, N, M, e, r, ?_⟩
  unfold sSeq at h
  cases hs : s e with
  | nx e' => rw [hs] at h; exact fun σ' M' H' r' => ⟨B, N, M', e', r', h⟩
  | rt x e' => rw [hs] at h; exact h
  | brk e' => rw [hs] at h; exact h
  | cnt e' => rw [hs] at h; exact h
  | exc c e' => rw [hs] at h; exact h
  | bad => rw [hs] at h; exact h
theorem psd_one {st : Stmt} {s : SSem} (h1 : PS X st (tDS X.K XC W P s)) : PSs X [st] (tDS X.K XC W P s) := pss_one h1
theorem psd_pass : PS X (.Pass pos) (tDS X.K XC W P sSkip) := ps_pass.dvi fun D' σ H ⟨B, N, M, e, s, h⟩ => h σ M H s
def sBrk : SSem := fun e => .brk e
def sCnt : SSem := fun e => .cnt e
theorem psd_brk : PS X (.Break pos) (tDS X.K XC W P sBrk) := ps_break.dvi fun D' σ H ⟨B, N, M, e, s, h⟩ => h σ M H s
theorem psd_cnt : PS X (.Continue pos) (tDS X.K XC W P sCnt) := ps_continue.dvi fun D' σ H ⟨B, N, M, e, s, h⟩ => h σ M H s
def sDrop (a : Sem) : SSem := fun e => (a e).out fun _ e' => .nx e'
theorem psd_expr {ex : Expr} {a : Sem} (h : PE X ex (tD X.K XC W P a)) (hs : swapsWith ex none pos.line X.env = pure false := by rfl) : PS X (.Expr ex pos) (tDS X.K XC W P (sDrop a)) := (ps_expr h hs).dvi fun D' σ H ⟨B, N, M, e, s, h⟩ =>
  ⟨B, N, M, e, s, (out_of h).imp fun x e' h v H' s' m r => h σ M H' s'⟩
def sRet (a : Sem) : SSem := fun e => (a e).out fun x e' => .rt x e'
theorem psd_ret {ex : Expr} {a : Sem} (h : PE X ex (tD X.K XC W P a)) : PS X (.Return (some ex) pos) (tDS X.K XC W P (sRet a)) := (ps_ret h).dvi fun D' σ H ⟨B, N, M, e, s, h⟩ =>
  ⟨B, N, M, e, s, (out_of h).imp fun x e' h v H' s' m r => h v σ M H' s' r⟩
def sRetN : SSem := fun e => .rt (.val .non) e
theorem psd_retN : PS X (.Return none pos) (tDS X.K XC W P sRetN) := ps_retN.dvi fun D' σ H ⟨B, N, M, e, s, h⟩ => h .non σ M H s .non
def sIf (c : Env → R Bool) (s t : SSem) : SSem := fun e => (c e).out fun b e' => if b = true then s e' else t e'
theorem psd_if {c : Expr} {a b : List Stmt} {sc : Env → R Bool} {s t : SSem} (hc : PT X c (tDT X.K XC W P sc)) (ha : PSs X a (tDS X.K XC W P s)) (hb : PSs X b (tDS X.K XC W P t)) : PS X (.If c a b pos) (tDS X.K XC W P (sIf sc s t)) :=
  (ps_if hc ha hb).dvi fun D' σ H ⟨B, N, M, e, r, h⟩ => ⟨B, N, M, e, r, (out_of h).imp fun b e' h H' s' m => by
    cases b with
    | true => exact ⟨B, N, M, e', s', h⟩
    | false => exact ⟨B, N, M, e', s', h⟩⟩

/-! ### targets -/
/-- a value stored: what a target does -/
def putV (i : Nat) (d : D) (e : Env) : Option Env := match e[i]? with
  | some (.io _) => none
  | some _ => some (e.set i (.v d))
  | none => none
theorem putV_ok {K : Fg} {P : Addr} {B H : Hp} {N M : List Addr} {σ : St} {e e' : Env} {i : Nat} {d : D} {v : V} (s : SR K P B N M H σ e) (r : Rep K (mask H (M ++ N)) v d) (h : putV i d e = some e') : ∃ M', SR K P B N M' H (σ.set i (some v)) e' ∧ (∀ x ∈ M', x ∈ M) := by
  unfold putV at h
  cases hq : e[i]? with
  | none => rw [hq] at h; cases h
  | some w =>
    rw [hq] at h
    have hi : i < e.length := (List.getElem?_eq_some_iff.mp hq).1
    have key : (∀ d', w ≠ .io d') → e' = e.set i (.v d) → ∃ M', SR K P B N M' H (σ.set i (some v)) e' ∧ (∀ x ∈ M', x ∈ M) := fun hw he => by
      subst he
      obtain ⟨M', sub, q⟩ := s.er.setV r hi (fun d' z => by rw [hq] at z; injection z with z; exact hw d' z)
      refine ⟨M', ⟨fun a o z => ?_, s.al, fun p hp => s.dj p (sub p hp), q.mono (mask_sub fun p hp => ?_) fun _ _ => rfl⟩, sub⟩
      · obtain ⟨z1, z2⟩ := mask_some (s.ex a o z)
        rw [mask_out fun w => z2 (sub a w)]
        exact z1
      · rcases List.mem_append.mp hp with w | w
        · exact List.mem_append_left _ (sub p w)
        · exact List.mem_append_right _ w
    cases w with
    | io d' => cases h
    | un => injection h with h; exact key (fun _ z => by cases z) h.symm
    | exn _ => injection h with h; exact key (fun _ z => by cases z) h.symm
    | v d' => injection h with h; exact key (fun _ z => by cases z) h.symm
    | own d' => injection h with h; exact key (fun _ z => by cases z) h.symm
inductive Tgt where
  | nm (i : Nat) | tup (ts : List Tgt)
mutual
def putT : Tgt → D → Env → Option Env
  | .nm i, d, e => putV i d e
  | .tup ts, .tup ds, e => putTs ts ds e
  | .tup _, _, _ => none
def putTs : List Tgt → List D → Env → Option Env
  | [], [], e => some e
  | t :: ts, d :: ds, e => (putT t d e).bind fun e' => putTs ts ds e'
  | _, _, _ => none
end
/-- the reading of a target, by data -/
def gD (K : Fg) (P : Addr) (t : Tgt) : TG := fun v σ H Q => ∃ B N M e d e', SR K P B N M H σ e ∧ Rep K (mask H (M ++ N)) v d ∧ putT t d e = some e' ∧ ∀ σ' M', SR K P B N M' H σ' e' → (∀ x ∈ M', x ∈ M) → Q σ' H
def gDs (K : Fg) (P : Addr) (ts : List Tgt) : TGs := fun vs σ H Q => ∃ B N M e ds e', SR K P B N M H σ e ∧ Reps K (mask H (M ++ N)) vs ds ∧ putTs ts ds e = some e' ∧ ∀ σ' M', SR K P B N M' H σ' e' → (∀ x ∈ M', x ∈ M) → Q σ' H
theorem _root_.L2.PG.dvi {X : Cx} {e : Expr} {t t' : TG} (h : PG X e t) (i : ∀ v σ H Q, t' v σ H Q → t v σ H Q) : PG X e t' := ⟨fun pins s σ H v u Q I r q => h.run pins s σ H v u Q I r (i v σ H Q q)⟩
theorem _root_.L2.PGs.dvi {X : Cx} {e : List Expr} {t t' : TGs} (h : PGs X e t) (i : ∀ v σ H Q, t' v σ H Q → t v σ H Q) : PGs X e t' := ⟨fun pins s σ H v u Q I r q => h.run pins s σ H v u Q I r (i v σ H Q q)⟩
theorem pgd_name {i : Nat} {x : Str} (hN : X.N.Nodup) (hi : X.N[i]? = some x) (hx : Loc X.env.scope x) (hf : X.fn x = true ∨ X.env.scope.names.lookup x = some .local := by first | exact .inl rfl | exact .inr rfl | assumption) : PG X (.Name x pos) (gD X.K P (.nm i)) :=
  (pg_name hN hi hx hf).dvi fun v σ H Q ⟨B, N, M, e, d, e', s, r, h, k⟩ => by
    obtain ⟨M', s', sub⟩ := putV_ok s r h
    exact k _ M' s' sub
theorem pgsd_nil : PGs X [] (gDs X.K P []) := pgs_nil.dvi fun vs σ H Q ⟨B, N, M, e, ds, e', s, r, h, k⟩ => by
  cases r with
  | nil =>
    injection h with h
    subst h
    exact ⟨rfl, k σ M s fun _ z => z⟩
  | cons _ _ => cases h
theorem pgsd_cons {e : Expr} {es : List Expr} {t : Tgt} {u : List Tgt} (h1 : PG X e (gD X.K P t)) (h2 : PGs X es (gDs X.K P u))
    (hs : (assignEach (e :: es) X.env).map (·.2) = assign e X.env :: (assignEach es X.env).map (·.2) := by rfl) : PGs X (e :: es) (gDs X.K P (t :: u)) := (pgs_cons h1 h2 hs).dvi fun vs σ H Q ⟨B, N, M, e, ds, e', s, r, h, k⟩ => by
  cases r with
  | nil => cases h
  | @cons v vs d ds rv rs =>
    have h : (putT t d e).bind (fun e' => putTs u ds e') = some e' := h
    cases q : putT t d e with
    | none => rw [q] at h; cases h
    | some e1 =>
      rw [q] at h
      have h : putTs u ds e1 = some e' := h
      refine ⟨v, vs, rfl, B, N, M, e, d, e1, s, rv, q, fun σ1 M1 s1 sub => ⟨B, N, M1, e1, ds, e', s1, rs.mono (mask_sub fun p hp => ?_), h, fun σ2 M2 s2 sub2 => k σ2 M2 s2 fun x hx => sub x (sub2 x hx)⟩⟩
      rcases List.mem_append.mp hp with w | w
      · exact List.mem_append_left _ (sub p w)
      · exact List.mem_append_right _ w
theorem pgd_tup {es : List Expr} {k : Nat} {t : List Tgt} (hc : X.calm = true) (h : PGs X es (gDs X.K P t))
    (hl : (assignEach es X.env).length = t.length := by rfl) (hst : (assignEach es X.env).findIdx? (·.1) = none := by rfl) : PG X (.Tuple es k pos) (gD X.K P (.tup t)) := (pg_tup (n := t.length) hc h hl hst).dvi fun v σ H Q ⟨B, N, M, e, d, e', s, r, h, k⟩ => by
  cases r with
  | @tup a vs ds h1 h2 =>
    have h : putTs t ds e = some e' := h
    have hlen : ∀ {t : List Tgt} {ds : List D} {e e' : Env}, putTs t ds e = some e' → ds.length = t.length := by
      intro t
      induction t with
      | nil => intro ds e e' h; cases ds with
        | nil => rfl
        | cons d ds => cases h
      | cons t ts ih => intro ds e e' h; cases ds with
        | nil => cases h
        | cons d ds =>
          have h : (putT t d e).bind (fun e' => putTs ts ds e') = some e' := h
          cases q : putT t d e with
          | none => rw [q] at h; cases h
          | some e1 => rw [q] at h; exact congrArg (· + 1) (ih h)
    exact ⟨a, vs, rfl, .of (mask_le _ _ h1), by rw [h2.length]; exact hlen h, B, N, M, e, ds, e', s, h2, h, k⟩
  | _ => cases h
def sAsg (a : Sem) (t : Tgt) : SSem := fun e => (a e).out fun x e' => match x with
  | .val d => (match putT t d e' with
    | some e2 => .nx e2
    | none => .bad)
  | _ => .bad
theorem psd_asg {tg ex : Expr} {a : Sem} {t : Tgt} (he : PE X ex (tD X.K XC W P a)) (hg : PG X tg (gD X.K P t)) (hs : swapsWithSole [tg] ex pos.line X.env = pure false := by rfl) (hw : swappedStores [tg] ex X.env = pure none := by rfl)
    (h1 : (assignEach [tg] X.env).map (·.2) = [assign tg X.env] := by rfl) : PS X (.Assign [tg] ex pos) (tDS X.K XC W P (sAsg a t)) := (ps_asg he hg hs hw h1).dvi fun D' σ H ⟨B, N, M, e, s, h⟩ => by
  refine ⟨B, N, M, e, s, (out_of h).imp fun x e' h v H' s' m r => ?_⟩
  cases x with
  | slot i => exact h.elim
  | val d =>
    cases q : putT t d e' with
    | none => simp only [q] at h; exact h.elim
    | some e2 =>
      simp only [q] at h
      exact ⟨B, N, M, e', d, e2, s', r, q, fun σ' M' s2 _ => h σ' M' H' s2⟩
/-- a new object to a name, which owns it from then on -/
def sAsgF (a : Env → R D) (i : Nat) : SSem := fun e => (a e).out fun d e' => match e'[i]? with
  | some (.io _) => .bad
  | some _ => .nx (e'.set i (.own d))
  | none => .bad
theorem asgF_of {K : Fg} {a : Env → R D} {i : Nat} {D' : Ends} {σ : St} {H : Hp} (h : tDS K XC W P (sAsgF a i) D' σ H) : tAsg (tDF K XC W P a) (gName i) D' σ H := by
  obtain ⟨B, N, M, e, s, h⟩ := h
  refine ⟨B, N, M, e, s, (out_of h).imp fun d e' h p H' s' n b m o => ?_⟩
  cases hq : e'[i]? with
  | none => simp only [hq] at h; exact h.elim
  | some w =>
    simp only [hq] at h
    have hi : i < e'.length := (List.getElem?_eq_some_iff.mp hq).1
    cases w with
    | io d' => exact h.elim
    | un =>
      obtain ⟨M', s2⟩ := s'.setOwn o b n hi (fun d' z => by rw [hq] at z; cases z)
      exact h _ M' H' s2
    | exn _ =>
      obtain ⟨M', s2⟩ := s'.setOwn o b n hi (fun d' z => by rw [hq] at z; cases z)
      exact h _ M' H' s2
    | v d' =>
      obtain ⟨M', s2⟩ := s'.setOwn o b n hi (fun d' z => by rw [hq] at z; cases z)
      exact h _ M' H' s2
    | own d' =>
      obtain ⟨M', s2⟩ := s'.setOwn o b n hi (fun d' z => by rw [hq] at z; cases z)
      exact h _ M' H' s2
theorem psd_asgF {i : Nat} {x : Str} {ex : Expr} {a : Env → R D} {pos' : Pos} (hN : X.N.Nodup) (hi : X.N[i]? = some x) (hx : Loc X.env.scope x) (he : PE X ex (tDF X.K XC W P a)) (hs : swapsWith ex (some (.Name x pos')) pos.line X.env = pure false := by rfl)
    (hf : X.fn x = true ∨ X.env.scope.names.lookup x = some .local := by first | exact .inl rfl | exact .inr rfl | assumption) : PS X (.Assign [.Name x pos'] ex pos) (tDS X.K XC W P (sAsgF a i)) := (ps_set hN hi hx he hs hf).dvi fun D' σ H q => asgF_of q
theorem psd_set {i : Nat} {x : Str} {ex : Expr} {a : Sem} {pos' : Pos} (hN : X.N.Nodup) (hi : X.N[i]? = some x) (hx : Loc X.env.scope x) (he : PE X ex (tD X.K XC W P a)) (hs : swapsWith ex (some (.Name x pos')) pos.line X.env = pure false := by rfl)
    (hf : X.fn x = true ∨ X.env.scope.names.lookup x = some .local := by first | exact .inl rfl | exact .inr rfl | assumption) : PS X (.Assign [.Name x pos'] ex pos) (tDS X.K XC W P (sAsg a (.nm i))) := (ps_set hN hi hx he hs hf).dvi fun D' σ H ⟨B, N, M, e, s, h⟩ => by
  refine ⟨B, N, M, e, s, (out_of h).imp fun x e' h v H' s' m r => ?_⟩
  cases x with
  | slot i => exact h.elim
  | val d =>
    cases q : putT (.nm i) d e' with
    | none => simp only [q] at h; exact h.elim
    | some e2 =>
      simp only [q] at h
      obtain ⟨M', s2, _⟩ := putV_ok s' r q
      exact h _ M' H' s2

/-! ### loops -/
/-- what a loop walks: data, and the names' state behind it (an owned list is let go) -/
def frzS (e : Env) (i : Nat) : Option (D × Env) := match e[i]? with
  | some (.own d) => some (d, e.set i (.v d))
  | _ => none
def walkD (x : TV) (e : Env) : Option (D × Env) := match x with
  | .val d => some (d, e)
  | .slot i => frzS e i
theorem walkD_ok {K : Fg} {P : Addr} {B H : Hp} {N M : List Addr} {σ : St} {e e' : Env} {v : V} {x : TV} {d : D} (s : SR K P B N M H σ e) (r : VR K N M H σ v x) (h : walkD x e = some (d, e')) : ∃ M', SR K P B N M' H σ e' ∧ Rep K (mask H (M' ++ N)) v d := by
  cases x with
  | val d' =>
    injection h with h
    injection h with h1 h2
    subst h1 h2
    exact ⟨M, s, r⟩
  | slot i =>
    have h : frzS e i = some (d, e') := h
    unfold frzS at h
    cases hq : e[i]? with
    | none => rw [hq] at h; cases h
    | some w =>
      rw [hq] at h
      cases w with
      | own d' =>
        injection h with h
        injection h with h1 h2
        subst h1 h2
        obtain ⟨M', s'⟩ := s.freeze hq
        refine ⟨M', s', ?_⟩
        obtain ⟨u, h1, h2⟩ := s'.er.get (i := i) (d := d') (by rw [List.getElem?_set_self (List.getElem?_eq_some_iff.mp hq).1])
        have h' : σ[i]? = some (some v) := r
        rw [h1] at h'
        injection h' with h'; injection h' with h'
        subst h'
        exact h2
      | _ => cases h
def forL (t : Tgt) (body : SSem) : List D → SSem
  | [], e => .nx e
  | d :: ds, e => match putT t d e with
    | none => .bad
    | some e1 => match body e1 with
      | .nx e2 => forL t body ds e2
      | .cnt e2 => forL t body ds e2
      | .brk e2 => .nx e2
      | o => o
/-- one turn -/
theorem forL_turn {K : Fg} {P : Addr} {B : Hp} {N : List Addr} {D' : Ends} {t : Tgt} {body : SSem} {d : D} {ds : List D} {e : Env} {M : List Addr} {H : Hp} {σ : St} {v : V} {n : St → Hp → Prop}
    (h : After K XC W P B N D' (forL t body (d :: ds) e)) (s : SR K P B N M H σ e) (r : Rep K (mask H (M ++ N)) v d)
    (hn : ∀ e2, After K XC W P B N D' (forL t body ds e2) → ∀ σ M H, SR K P B N M H σ e2 → n σ H) :
    gD K P t v σ H fun σ2 H2 => tDS K XC W P body { D' with nx := n, ct := n, bk := D'.nx } σ2 H2 := by
  have h : After K XC W P B N D' (match putT t d e with
    | none => .bad
    | some e1 => match body e1 with
      | .nx e2 => forL t body ds e2
      | .cnt e2 => forL t body ds e2
      | .brk e2 => .nx e2
      | o => o) := h
  cases q : putT t d e with
  | none => rw [q] at h; exact h.elim
  | some e1 =>
    rw [q] at h
    refine ⟨B, N, M, e, d, e1, s, r, q, fun σ' M' s' sub => ⟨B, N, M', e1, s', ?_⟩⟩
    simp only at h
    cases hb : body e1 with
    | nx e2 => rw [hb] at h; exact fun σ M H s => hn e2 h σ M H s
    | cnt e2 => rw [hb] at h; exact fun σ M H s => hn e2 h σ M H s
    | brk e2 => rw [hb] at h; exact h
    | rt x e2 => rw [hb] at h; exact h
    | exc c e2 => rw [hb] at h; exact h
    | bad => rw [hb] at h; exact h
def itemsD : D → Option (List D)
  | .lst ds => some ds
  | .scr ds => some ds
  | _ => none
def sForL (a : Sem) (t : Tgt) (body : SSem) : SSem := fun e => (a e).out fun x e1 => match walkD x e1 with
  | some (d, e2) => (match itemsD d with
    | some ds => forL t body ds e2
    | none => .bad)
  | none => .bad
def sForT (a : Sem) (t : Tgt) (body : SSem) : SSem := fun e => (a e).out fun x e1 => match x with
  | .val (.tup ds) => forL t body ds e1
  | _ => .bad
theorem drop_get {α : Type} {l : List α} {i : Nat} {x : α} (h : l[i]? = some x) : l.drop i = x :: l.drop (i + 1) := by
  obtain ⟨h1, h2⟩ := List.getElem?_eq_some_iff.mp h
  rw [List.drop_eq_getElem_cons h1, h2]
theorem psd_forL {tg iter : Expr} {body : List Stmt} {a : Sem} {t : Tgt} {sb : SSem} (hp : PassesOwn (model X.prog X.w) X.A X.env X.xe) (hc : X.calm = true) (ha : PE X iter (tD X.K XC W P a)) (hg : PG X tg (gD X.K P t)) (hb : PSs X body (tDS X.K XC W P sb))
    (hs : ∀ x, foldedSetIterable iter X.env x = pure x := by intro _; rfl) : PS X (.For tg iter body [] pos) (tDS X.K XC W P (sForL a t sb)) := (ps_for hp hc (pi_list ha) hg hb hs).dvi fun D' σ H ⟨B, N, M, e, s, h⟩ => by
  refine ⟨B, N, M, e, s, (out_of h).imp fun x e1 h v H1 s1 m1 r1 => ?_⟩
  cases q : walkD x e1 with
  | none => simp only [q] at h; exact h.elim
  | some de =>
    obtain ⟨d, e2⟩ := de
    simp only [q] at h
    obtain ⟨M2, s2, r2⟩ := walkD_ok s1 r1 q
    cases q2 : itemsD d with
    | none => simp only [q2] at h; exact h.elim
    | some ds =>
      simp only [q2] at h
      have h := h.weakB (show Same B (mask H1 M2) from s2.ex)
      have s3 := s2.base
      have hx : ∃ a vs, v = .ref a ∧ SqL X.K (mask H1 M2) a vs ∧ Reps X.K (mask H1 (M2 ++ N)) vs ds := by
        cases r2 with
        | lst h1 h2 =>
          injection q2 with q2
          subst q2
          obtain ⟨h3, h4⟩ := mask_some h1
          exact ⟨_, _, rfl, .of (by rw [mask_out fun z => h4 (List.mem_append_left _ z)]; exact h3), h2⟩
        | scr h1 h2 =>
          injection q2 with q2
          subst q2
          exact ⟨_, _, rfl, Same.seq (mask_sub fun p hp => List.mem_append_left _ hp) h1, h2⟩
        | _ => cases q2
      obtain ⟨a, vs, rfl, hsq, hr⟩ := hx
      refine ⟨a, rfl, ⟨vs, Same.seq mask_le hsq⟩, for_list (K := X.K) (a := a) (xs := vs) (fun i σ H => ∃ M e, SR X.K P (mask H1 M2) N M H σ e ∧ i ≤ ds.length ∧ After X.K XC W P (mask H1 M2) N D' (forL t sb (ds.drop i) e)) ?_ ?_ ?_ ?_⟩
      · exact ⟨M2, e2, s3, Nat.zero_le _, by rw [List.drop_zero]; exact h⟩
      · rintro i σ' H' _ ⟨M', e', s', _, _⟩
        exact Same.seq s'.same hsq
      · rintro i y σ' H' hi ⟨M', e', s', hl, h'⟩
        obtain ⟨dy, hd, ry⟩ := hr.getV hi
        rw [drop_get hd] at h'
        refine forL_turn h' s' (ry.mono fun a o q => ?_) fun e3 h3 σ4 M4 H4 s4 => ⟨M4, e3, s4, (List.getElem?_eq_some_iff.mp hd).1, h3⟩
        obtain ⟨q1, q2⟩ := mask_some q
        have q3 := s'.ex a o (by rw [mask_out fun z => q2 (List.mem_append_left _ z)]; exact q1)
        obtain ⟨q4, q5⟩ := mask_some q3
        rw [mask_out fun z => (List.mem_append.mp z).elim q5 fun z => q2 (List.mem_append_right _ z)]
        exact q4
      · rintro σ' H' ⟨M', e', s', hl, h'⟩
        rw [hr.length, List.drop_length] at h'
        exact h' σ' M' H' s'
theorem psd_forT {tg iter : Expr} {body : List Stmt} {a : Sem} {t : Tgt} {sb : SSem} (hp : PassesOwn (model X.prog X.w) X.A X.env X.xe) (hc : X.calm = true) (ha : PE X iter (tD X.K XC W P a)) (hg : PG X tg (gD X.K P t)) (hb : PSs X body (tDS X.K XC W P sb))
    (hs : ∀ x, foldedSetIterable iter X.env x = pure x := by intro _; rfl) : PS X (.For tg iter body [] pos) (tDS X.K XC W P (sForT a t sb)) := (ps_for hp hc (pi_tup ha) hg hb hs).dvi fun D' σ H ⟨B, N, M, e, s, h⟩ => by
  refine ⟨B, N, M, e, s, (out_of h).imp fun x e1 h v H1 s1 m1 r1 => ?_⟩
  cases x with
  | slot i => exact h.elim
  | val d =>
    cases d with
    | tup ds =>
      have h := (show After X.K XC W P B N D' (forL t sb ds e1) from h).weakB (show Same B (mask H1 M) from s1.ex)
      have s3 := s1.base
      have hx : ∃ a vs, v = .ref a ∧ SqT X.K (mask H1 M) a vs ∧ Reps X.K (mask H1 (M ++ N)) vs ds := by
        have r1 : Rep X.K (mask H1 (M ++ N)) v (.tup ds) := r1
        cases r1 with
        | tup h1 h2 => exact ⟨_, _, rfl, .of ((mask_sub fun p hp => List.mem_append_left _ hp) _ _ h1), h2⟩
      obtain ⟨a, vs, rfl, hsq, hr⟩ := hx
      refine ⟨a, rfl, ⟨vs, Same.seqT mask_le hsq⟩, for_tup (K := X.K) (a := a) (xs := vs) (fun i σ H => ∃ M' e, SR X.K P (mask H1 M) N M' H σ e ∧ i ≤ ds.length ∧ After X.K XC W P (mask H1 M) N D' (forL t sb (ds.drop i) e)) ?_ ?_ ?_ ?_⟩
      · exact ⟨M, e1, s3, Nat.zero_le _, by rw [List.drop_zero]; exact h⟩
      · rintro i σ' H' _ ⟨M', e', s', _, _⟩
        exact Same.seqT s'.same hsq
      · rintro i y σ' H' hi ⟨M', e', s', hl, h'⟩
        obtain ⟨dy, hd, ry⟩ := hr.getV hi
        rw [drop_get hd] at h'
        refine forL_turn h' s' (ry.mono fun a o q => ?_) fun e3 h3 σ4 M4 H4 s4 => ⟨M4, e3, s4, (List.getElem?_eq_some_iff.mp hd).1, h3⟩
        obtain ⟨q1, q2⟩ := mask_some q
        have q3 := s'.ex a o (by rw [mask_out fun z => q2 (List.mem_append_left _ z)]; exact q1)
        obtain ⟨q4, q5⟩ := mask_some q3
        rw [mask_out fun z => (List.mem_append.mp z).elim q5 fun z => q2 (List.mem_append_right _ z)]
        exact q4
      · rintro σ' H' ⟨M', e', s', hl, h'⟩
        rw [hr.length, List.drop_length] at h'
        exact h' σ' M' H' s'
    | _ => exact h.elim
/-- for i in range(a), range(a, b) -/
def rngD (lo : Int) : Nat → List D
  | 0 => []
  | n + 1 => .int lo :: rngD (lo + 1) n
theorem rngD_length (n : Nat) : ∀ lo, (rngD lo n).length = n := by
  induction n with
  | zero => intro lo; rfl
  | succ n ih => intro lo; exact congrArg (· + 1) (ih _)
theorem rngD_get : ∀ (n : Nat) (lo : Int) (i : Nat), i < n → (rngD lo n)[i]? = some (.int (lo + i))
  | 0, _, _, h => absurd h (Nat.not_lt_zero _)
  | n + 1, lo, 0, _ => by show some (D.int lo) = _; rw [show lo + ((0 : Nat) : Int) = lo by omega]
  | n + 1, lo, i + 1, h => by
    show (rngD (lo + 1) n)[i]? = _
    rw [rngD_get n (lo + 1) i (by omega)]
    congr 2
    omega
def lim62 (i : Int) : Bool := decide (-(2 ^ 62) ≤ i) && decide (i < 2 ^ 62)
def argI1 : List TV → Option Int
  | [.val (.int j)] => some j
  | _ => none
def argI2 : List TV → Option (Int × Int)
  | [.val (.int i), .val (.int j)] => some (i, j)
  | _ => none
def sForR1 (a : Env → R (List TV)) (t : Tgt) (body : SSem) : SSem := fun e => (a e).out fun xs e1 => match argI1 xs with
  | some j => if lim62 j = true then forL t body (rngD 0 j.toNat) e1 else .bad
  | none => .bad
def sForR2 (a : Env → R (List TV)) (t : Tgt) (body : SSem) : SSem := fun e => (a e).out fun xs e1 => match argI2 xs with
  | some (i, j) => if lim62 i = true ∧ lim62 j = true then forL t body (rngD i (j - i).toNat) e1 else .bad
  | none => .bad
theorem forR_of {K : Fg} {P : Addr} {B H1 : Hp} {N M : List Addr} {σ1 : St} {e1 : Env} {D' : Ends} {t : Tgt} {sb : SSem} {lo : Int} {n : Nat} (s1 : SR K P B N M H1 σ1 e1) (h : After K XC W P B N D' (forL t sb (rngD lo n) e1)) :
    ∃ Wv : Nat → Nat → St → Hp → Prop, (∃ m, Wv 0 m σ1 H1) ∧ ∀ i m σ H, Wv i m σ H →
      ((Itr lo n).stop i H ∧ D'.nx σ H) ∨ ((Itr lo n).go i H ∧ ∃ Nn : St → Hp → Prop, (∀ σ' H', Nn σ' H' → ∃ m', m' < m ∧ Wv (i + 1) m' σ' H') ∧ ∀ x H', (Itr lo n).yld i H x H' → gD K P t x σ H' fun σ2 H2 => tDS K XC W P sb { D' with nx := Nn, ct := Nn, bk := D'.nx } σ2 H2) := by
  refine for_range (fun i σ H => ∃ M e, SR K P B N M H σ e ∧ i ≤ n ∧ After K XC W P B N D' (forL t sb ((rngD lo n).drop i) e)) ?_ ?_ ?_
  · exact ⟨M, e1, s1, Nat.zero_le _, by rw [List.drop_zero]; exact h⟩
  · rintro i σ' H' hi ⟨M', e', s', hl, h'⟩
    rw [drop_get (rngD_get n lo i hi)] at h'
    exact forL_turn h' s' (.int _) fun e3 h3 σ4 M4 H4 s4 => ⟨M4, e3, s4, hi, h3⟩
  · rintro σ' H' ⟨M', e', s', hl, h'⟩
    have : (rngD lo n).drop n = [] := List.drop_eq_nil_of_le (by rw [rngD_length]; exact Nat.le_refl _)
    rw [this] at h'
    exact h' σ' M' H' s'
theorem argI1_of {K : Fg} {N M : List Addr} {H : Hp} {σ : St} {xs : List TV} {vs : List V} {j : Int} (r : Paired (VR K N M H σ) vs xs) (h : argI1 xs = some j) : vs = [.int j] := by
  unfold argI1 at h
  split at h
  · injection h with h
    subst h
    cases r with
    | cons r1 r2 =>
      cases r2
      have : _ := CR.int (H := H) (.rep r1)
      rw [this]
  · cases h
theorem argI2_of {K : Fg} {N M : List Addr} {H : Hp} {σ : St} {xs : List TV} {vs : List V} {i j : Int} (r : Paired (VR K N M H σ) vs xs) (h : argI2 xs = some (i, j)) : vs = [.int i, .int j] := by
  unfold argI2 at h
  split at h
  · injection h with h
    injection h with h1 h2
    subst h1 h2
    cases r with
    | cons r1 r2 =>
      cases r2 with
      | cons r2 r3 =>
        cases r3
        rw [CR.int (H := H) (.rep r1), CR.int (H := H) (.rep r2)]
  · cases h
theorem lim62_of {i : Int} (h : lim62 i = true) : -(2 ^ 62) ≤ i ∧ i < 2 ^ 62 := by
  unfold lim62 at h
  rw [Bool.and_eq_true] at h
  exact ⟨of_decide_eq_true h.1, of_decide_eq_true h.2⟩
theorem psd_forR1 {tg a : Expr} {body : List Stmt} {sa : Env → R (List TV)} {t : Tgt} {sb : SSem} {q1 q2 : Pos} (hp : PassesOwn (model X.prog X.w) X.A X.env X.xe) (hc : X.calm = true) (hgr : Gl X "range") (hm : X.mg "range" = none) (ha : PA X [a] (tDA X.K XC W P sa)) (hg : PG X tg (gD X.K P t)) (hb : PSs X body (tDS X.K XC W P sb))
    (hst : starEach [a] X.env = [(false, eval a X.env)] := by rfl) (hs : ∀ x, foldedSetIterable (.Call (.Name "range" q1) [a] [] q2) X.env x = pure x := by intro _; rfl) : PS X (.For tg (.Call (.Name "range" q1) [a] [] q2) body [] pos) (tDS X.K XC W P (sForR1 sa t sb)) :=
  (ps_for hp hc (pi_range1 hgr hm ha hst) hg hb hs).dvi fun D' σ H ⟨B, N, M, e, s, h⟩ => by
    refine ⟨B, N, M, e, s, (out_of h).imp fun xs e1 h vs H1 s1 m1 r1 => ?_⟩
    cases q : argI1 xs with
    | none => simp only [q] at h; exact h.elim
    | some j =>
      simp only [q] at h
      by_cases hl : lim62 j = true
      · rw [if_pos hl] at h
        exact ⟨j, argI1_of r1 q, (lim62_of hl).1, (lim62_of hl).2, forR_of s1 h⟩
      · rw [if_neg hl] at h
        exact h.elim
theorem psd_forR2 {tg a b : Expr} {body : List Stmt} {sa : Env → R (List TV)} {t : Tgt} {sb : SSem} {q1 q2 : Pos} (hp : PassesOwn (model X.prog X.w) X.A X.env X.xe) (hc : X.calm = true) (hgr : Gl X "range") (hm : X.mg "range" = none) (ha : PA X [a, b] (tDA X.K XC W P sa)) (hg : PG X tg (gD X.K P t)) (hb : PSs X body (tDS X.K XC W P sb))
    (hst : starEach [a, b] X.env = [(false, eval a X.env), (false, eval b X.env)] := by rfl) (hst2 : starEach [b] X.env = [(false, eval b X.env)] := by rfl) (hs : ∀ x, foldedSetIterable (.Call (.Name "range" q1) [a, b] [] q2) X.env x = pure x := by intro _; rfl) :
    PS X (.For tg (.Call (.Name "range" q1) [a, b] [] q2) body [] pos) (tDS X.K XC W P (sForR2 sa t sb)) :=
  (ps_for hp hc (pi_range2 hgr hm ha hst hst2) hg hb hs).dvi fun D' σ H ⟨B, N, M, e, s, h⟩ => by
    refine ⟨B, N, M, e, s, (out_of h).imp fun xs e1 h vs H1 s1 m1 r1 => ?_⟩
    cases q : argI2 xs with
    | none => simp only [q] at h; exact h.elim
    | some ij =>
      obtain ⟨i, j⟩ := ij
      simp only [q] at h
      by_cases hl : lim62 i = true ∧ lim62 j = true
      · rw [if_pos hl] at h
        exact ⟨i, j, argI2_of r1 q, ⟨(lim62_of hl.1).1, (lim62_of hl.1).2, (lim62_of hl.2).1, (lim62_of hl.2).2⟩, forR_of s1 h⟩
      · rw [if_neg hl] at h
        exact h.elim
/-- while, at most n turns -/
def whileL (c : Env → R Bool) (body : SSem) : Nat → SSem
  | 0, _ => .bad
  | n + 1, e => (c e).out fun b e1 => if b = true then (match body e1 with
      | .nx e2 => whileL c body n e2
      | .cnt e2 => whileL c body n e2
      | .brk e2 => .nx e2
      | o => o) else .nx e1
def sWhile (fuel : Nat) (c : Env → R Bool) (body : SSem) : SSem := fun e => whileL c body fuel e
theorem psd_while {c : Expr} {body : List Stmt} {sc : Env → R Bool} {sb : SSem} (fuel : Nat) (hp : PassesOwn (model X.prog X.w) X.A X.env X.xe) (hc : PT X c (tDT X.K XC W P sc)) (hb : PSs X body (tDS X.K XC W P sb)) : PS X (.While c body [] pos) (tDS X.K XC W P (sWhile fuel sc sb)) :=
  (ps_while hp hc hb).dvi fun D' σ H ⟨B, N, M, e, s, h⟩ => by
    refine ⟨fun m σ H => ∃ M e, SR X.K P B N M H σ e ∧ After X.K XC W P B N D' (whileL sc sb m e), ⟨fuel, M, e, s, h⟩, ?_⟩
    rintro m σ H ⟨M, e, s, h⟩
    cases m with
    | zero => exact h.elim
    | succ m =>
      refine ⟨B, N, M, e, s, (out_of h).imp fun b e1 h H1 s1 m1 => ?_⟩
      cases b with
      | false => exact h σ M H1 s1
      | true =>
        rw [if_pos rfl] at h ⊢
        refine ⟨fun σ H => ∃ M e, SR X.K P B N M H σ e ∧ After X.K XC W P B N D' (whileL sc sb m e), fun σ' H' z => ⟨m, Nat.lt_succ_self _, z⟩, B, N, M, e1, s1, ?_⟩
        cases hb : sb e1 with
        | nx e2 => rw [hb] at h; exact fun σ M H s => ⟨M, e2, s, h⟩
        | cnt e2 => rw [hb] at h; exact fun σ M H s => ⟨M, e2, s, h⟩
        | brk e2 => rw [hb] at h; exact h
        | rt x e2 => rw [hb] at h; exact h
        | exc c e2 => rw [hb] at h; exact h
        | bad => rw [hb] at h; exact h
end
end Dv

set_option maxRecDepth 100000
set_option maxHeartbeats 1000000
namespace Dv
open PySem L2
/-! ### a def -/
def finD : Out → R D
  | .nx e => .ok .non []
  | .rt x e => (match x.data e with
    | some d => .ok d []
    | none => .bad)
  | .exc c e => .exc c []
  | _ => .bad
def env0 (n : Nat) (ds : List D) : Env := ds.map .v ++ List.replicate (n - ds.length) .un
def runD (n : Nat) (s : SSem) (ds : List D) : R D := finD (s (env0 n ds))
theorem er_un {K : Fg} {P : Addr} {Hm H : Hp} : ∀ n : Nat, ER K P Hm H [] (List.replicate n none) (List.replicate n .un)
  | 0 => .nil
  | n + 1 => .un (er_un n)
theorem er_start {K : Fg} {P : Addr} {Hm H : Hp} (n : Nat) : ∀ {vs : List V} {ds : List D}, Reps K Hm vs ds → ER K P Hm H [] (vs.map some ++ List.replicate n none) (ds.map .v ++ List.replicate n .un)
  | _, _, .nil => er_un n
  | _, _, .cons h r => .v h (er_start n r)
theorem slotD_of {e : Env} {i : Nat} {d : D} (q : slotD e i = some d) : e[i]? = some (.own d) ∨ e[i]? = some (.io d) := by
  unfold slotD at q
  cases hq : e[i]? with
  | none => rw [hq] at q; cases q
  | some w =>
    rw [hq] at q
    cases w with
    | un => cases q
    | exn _ => cases q
    | v _ => cases q
    | own d' => left; simpa using q
    | io d' => right; simpa using q
theorem slot_at {K : Fg} {P : Addr} {B H : Hp} {N M : List Addr} {σ : St} {e : Env} {v : V} {i : Nat} {d : D} (s : SR K P B N M H σ e) (r : VR K N M H σ v (.slot i)) (q : slotD e i = some d) : ∃ p, v = .ref p ∧ σ[i]? = some (some (.ref p)) ∧ p ∈ M ∧ OwnAt K (mask H (M ++ N)) H p d := by
  obtain ⟨p, h1, h2, h3⟩ := s.er.getOwn (slotD_of q)
  have h' : σ[i]? = some (some v) := r
  rw [h1] at h'
  injection h' with h'; injection h' with h'
  exact ⟨p, h'.symm, h1, h2, h3⟩
/-- what is handed back, with what the frame owned in sight -/
theorem back_rep {K : Fg} {P : Addr} {B H' : Hp} {N M : List Addr} {σ : St} {e : Env} {v : V} {y : TV} {d : D} (s' : SR K P B N M H' σ e) (rv : VR K N M H' σ v y) (hy : y.data e = some d) : Rep K (mask H' N) v d := by
  have sub : Same (mask H' (M ++ N)) (mask H' N) := mask_sub fun p hp => List.mem_append_right _ hp
  cases y with
  | val d' =>
    have hy : some d' = some d := hy
    injection hy with hy
    subst hy
    exact Rep.mono sub rv
  | slot i =>
    obtain ⟨p, rfl, _, h2, h3⟩ := slot_at s' rv hy
    have : OwnAt K (mask H' N) (mask H' N) p d := h3.monoAt sub (mask_out (s'.dj p h2))
    exact this.rep fun _ _ z => z
section
variable {P : Program} {w : World} {K : Fg} {mg : Str → Option Value} {base : Heap} {XC : Nat → Addr}
theorem fn_d {dfl : List V} {x qual : Str} {st : Stmt} {f : Addr} {fd : FuncData} {Ns ps : List Str} {k : Nat} {sem : SSem} (F : FunD K x qual (defArgs st) (defBody st) (defScope st) dfl [] f fd) (S : FnScope Ns ps (defScope st))
    (hb : ∀ (cdv : Value) (A : Around) (outer : List PySem.Env) (s : Shared) (H : Hp) (E : XK), Room k (A.deeper (PyProof.Rows.envOfC qual (defScope st) s.heap.objs.size f cdv)) →
      PSs (cxOf (L2.CX P w) P w K mg base Ns qual (defScope st) f cdv A outer s H E) (defBody st) (tDS K XC (fun cls d _ H => E cls d H) 0 sem)) :
    FnOk P w K mg base (L2.CX P w) (k + 1) f fd ps (spF K XC ps.length (runD Ns.length sem)) := by
  refine F.ok S (fun vs H Q E h => h.1) fun cdv A outer s H vs Q E hr h => ?_
  obtain ⟨hl, N, ds, al, rp, h⟩ := h
  refine ⟨_, hb cdv A outer s H E hr, H, N, [], env0 Ns.length ds, ⟨fun a o q => by rw [mask_nil]; exact q, al, fun p hp => (nomatch hp), ?_⟩, ?_⟩
  · unfold env0 L2.start
    rw [← rp.length]
    exact er_start _ rp
  · unfold runD at h
    cases hs : sem (env0 Ns.length ds) with
    | nx e => rw [hs] at h; exact fun σ M H' s' => h .non H' s'.same .non
    | rt y e =>
      rw [hs] at h
      intro v σ M H' s' rv
      simp only [finD] at h
      cases hy : y.data e with
      | none => rw [hy] at h; exact h.elim
      | some d =>
        rw [hy] at h
        exact h v H' s'.same (back_rep s' rv hy)
    | exc c e => rw [hs] at h; exact fun cls dd σ M H' s' x => h cls dd H' s'.same x
    | brk e => rw [hs] at h; exact h.elim
    | cnt e => rw [hs] at h; exact h.elim
    | bad => rw [hs] at h; exact h.elim
/-- a def whose first argument is a list that it changes -/
def spIO (K : Fg) (XC : Nat → Addr) (n : Nat) (F : D → List D → R D) : Sp := fun vs H Q E => vs.length = n ∧ ∃ (N : List Addr) (p : Addr) (d0 : D) (ws : List V) (ds : List D), vs = .ref p :: ws ∧ p ∉ N ∧ (∀ q ∈ N, ∃ o, H q = some o) ∧ OwnAt K (mask H (p :: N)) H p d0 ∧ Reps K (mask H (p :: N)) ws ds ∧
  Hold (F d0 ds) (fun d e => ∃ d1, e = [.io d1] ∧ ∀ v H', Same (mask H [p]) (mask H' [p]) → OwnAt K (mask H' (p :: N)) H' p d1 → Rep K (mask H' (p :: N)) v d → Q v H')
    (fun c e => ∃ d1, e = [.io d1] ∧ ∀ cls dd H', Same (mask H [p]) (mask H' [p]) → OwnAt K (mask H' (p :: N)) H' p d1 → ExcR K XC c cls dd H' → E cls dd H')
def ioEnd : Env → Env
  | .io d :: _ => [.io d]
  | _ => []
def finIO : Out → R D
  | .nx e => .ok .non (ioEnd e)
  | .rt (.val d) e => .ok d (ioEnd e)
  | .exc c e => .exc c (ioEnd e)
  | _ => .bad
def runIO (n : Nat) (s : SSem) (d0 : D) (ds : List D) : R D := finIO (s (.io d0 :: (ds.map .v ++ List.replicate (n - 1 - ds.length) .un)))
theorem io_at {K : Fg} {p : Addr} {B H' : Hp} {N M : List Addr} {σ : St} {e : Env} {d1 : D} (s' : SR K p B N M H' σ e) (hB : B p = none) (h : ioEnd e = [.io d1]) : p ∈ M ∧ OwnAt K (mask H' (M ++ N)) H' p d1 := by
  cases e with
  | nil => cases h
  | cons w e =>
    cases w with
    | io d =>
      have h : [Sl.io d] = [Sl.io d1] := h
      injection h with h; injection h with h
      subst h
      have q := s'.er
      cases q with
      | io o n r => exact ⟨List.mem_cons_self, o⟩
    | _ => cases h
theorem fn_io {dfl : List V} {x qual : Str} {st : Stmt} {f : Addr} {fd : FuncData} {Ns ps : List Str} {k : Nat} {sem : SSem} (F : FunD K x qual (defArgs st) (defBody st) (defScope st) dfl [] f fd) (S : FnScope Ns ps (defScope st))
    (hb : ∀ (p : Addr) (cdv : Value) (A : Around) (outer : List PySem.Env) (s : Shared) (H : Hp) (E : XK), Room k (A.deeper (PyProof.Rows.envOfC qual (defScope st) s.heap.objs.size f cdv)) →
      PSs (cxOf (L2.CX P w) P w K mg base Ns qual (defScope st) f cdv A outer s H E) (defBody st) (tDS K XC (fun cls d _ H => E cls d H) p sem)) :
    FnOk P w K mg base (L2.CX P w) (k + 1) f fd ps (spIO K XC ps.length (runIO Ns.length sem)) := by
  refine F.ok S (fun vs H Q E h => h.1) fun cdv A outer s H vs Q E hr h => ?_
  obtain ⟨hl, N, p, d0, ws, ds, rfl, pN, al, ow, rp, h⟩ := h
  have hBp : mask H [p] p = none := mask_in List.mem_cons_self
  refine ⟨_, hb p cdv A outer s H E hr, mask H [p], N, [p], .io d0 :: (ds.map .v ++ List.replicate (Ns.length - 1 - ds.length) .un), ⟨fun a o q => q, al, fun q hq => ?_, ?_⟩, ?_⟩
  · rw [List.mem_singleton] at hq
    rw [hq]
    exact pN
  · unfold L2.start
    have e1 : Ns.length - (V.ref p :: ws).length = Ns.length - 1 - ds.length := by rw [← rp.length, List.length_cons]; omega
    rw [e1]
    exact .io ow (fun z => nomatch z) (er_start _ rp)
  · unfold runIO at h
    have ends : ∀ {M : List Addr} {σ : St} {H' : Hp} {e : Env} {d1 : D}, SR K p (mask H [p]) N M H' σ e → ioEnd e = [.io d1] → Same (mask H [p]) (mask H' [p]) ∧ OwnAt K (mask H' (p :: N)) H' p d1 ∧ Same (mask H' (M ++ N)) (mask H' (p :: N)) := fun {M σ H' e d1} s' he => by
      obtain ⟨hm, ho⟩ := io_at s' hBp he
      have sub : Same (mask H' (M ++ N)) (mask H' (p :: N)) := mask_sub fun q hq => by
        rcases List.mem_cons.mp hq with z | z
        · exact z ▸ List.mem_append_left _ hm
        · exact List.mem_append_right _ z
      refine ⟨fun a o q => ?_, ho.mono sub fun _ _ z => z, sub⟩
      have q1 := s'.same a o q
      have ne : a ≠ p := fun z => by rw [z, hBp] at q; cases q
      rw [mask_out (by simpa using ne)]
      exact q1
    cases hs : sem (.io d0 :: (ds.map .v ++ List.replicate (Ns.length - 1 - ds.length) .un)) with
    | nx e =>
      rw [hs] at h
      obtain ⟨d1, he, h⟩ := h
      intro σ M H' s'
      obtain ⟨h1, h2, h3⟩ := ends s' he
      exact h .non H' h1 h2 .non
    | rt y e =>
      rw [hs] at h
      intro v σ M H' s' rv
      cases y with
      | slot i => exact h.elim
      | val d =>
        obtain ⟨d1, he, h⟩ := h
        obtain ⟨h1, h2, h3⟩ := ends s' he
        exact h v H' h1 h2 (Rep.mono h3 rv)
    | exc c e =>
      rw [hs] at h
      obtain ⟨d1, he, h⟩ := h
      intro cls dd σ M H' s' x
      obtain ⟨h1, h2, h3⟩ := ends s' he
      exact h cls dd H' h1 h2 x
    | brk e => rw [hs] at h; exact h.elim
    | cnt e => rw [hs] at h; exact h.elim
    | bad => rw [hs] at h; exact h.elim
end
end Dv

set_option maxRecDepth 100000
set_option maxHeartbeats 1000000
namespace Dv
open PySem L2
/-! ### an owned object changed by a call -/
theorem ER.writeX {K : Fg} {P : Addr} {Hm Hm' H H' : Hp} {M : List Addr} {σ : St} {e : Env} {p : Addr} {d0 d : D} (h : ER K P Hm H M σ e) (hm : Same Hm Hm') (hq : ∀ q ∈ M, q ≠ p → H' q = H q) (hn : OwnAt K Hm' H' p d) : ∀ {i : Nat}, (e[i]? = some (.own d0) ∨ e[i]? = some (.io d0)) → σ[i]? = some (some (.ref p)) →
    ER K P Hm' H' M σ (putOwn e i d) := by
  induction h with
  | nil => intro i q; simp at q
  | @un M σ e w h ih =>
    intro i q s
    cases i with
    | zero => simp at q
    | succ i =>
      have := ih hq (i := i) (by simpa using q) (by simpa using s)
      unfold putOwn at this ⊢
      rcases q with q | q <;> (simp only [List.getElem?_cons_succ] at q s ⊢; rw [q] at this ⊢; exact .un this)
  | @exn M σ e w h ih =>
    intro i q s
    cases i with
    | zero => simp at q
    | succ i =>
      have := ih hq (i := i) (by simpa using q) (by simpa using s)
      unfold putOwn at this ⊢
      rcases q with q | q <;> (simp only [List.getElem?_cons_succ] at q s ⊢; rw [q] at this ⊢; exact .exn this)
  | @v M σ e w d' r' h ih =>
    intro i q s
    cases i with
    | zero => simp at q
    | succ i =>
      have := ih hq (i := i) (by simpa using q) (by simpa using s)
      unfold putOwn at this ⊢
      rcases q with q | q <;> (simp only [List.getElem?_cons_succ] at q s ⊢; rw [q] at this ⊢; exact .v (r'.mono hm) this)
  | @own M σ e p' d' o' n h ih =>
    intro i q s
    cases i with
    | zero =>
      have e1 : p' = p := by simpa using s
      subst e1
      have : ER K P Hm' H' M σ e := h.mono hm fun q hqm => hq q (List.mem_cons_of_mem _ hqm) fun z => n (z ▸ hqm)
      exact .own hn n this
    | succ i =>
      obtain ⟨p2, s2, m2, _⟩ := h.getOwn (i := i) (by simpa using q)
      have e2 : p2 = p := by
        have s3 : σ[i]? = some (some (.ref p)) := by simpa using s
        rw [s2] at s3
        injection s3 with s3; injection s3 with s3; injection s3
      have ne : p' ≠ p := fun z => n (by rw [z, ← e2]; exact m2)
      have := ih (fun q hqm => hq q (List.mem_cons_of_mem _ hqm)) (i := i) (by simpa using q) (by simpa using s)
      have o2 : OwnAt K Hm' H' p' d' := o'.monoAt hm (hq p' List.mem_cons_self ne)
      unfold putOwn at this ⊢
      rcases q with q | q <;> (simp only [List.getElem?_cons_succ] at q s ⊢; rw [q] at this ⊢; exact .own o2 n this)
  | @io M σ e d' o' n h ih =>
    intro i q s
    cases i with
    | zero =>
      have e1 : P = p := by simpa using s
      subst e1
      have : ER K P Hm' H' M σ e := h.mono hm fun q hqm => hq q (List.mem_cons_of_mem _ hqm) fun z => n (z ▸ hqm)
      exact .io hn n this
    | succ i =>
      obtain ⟨p2, s2, m2, _⟩ := h.getOwn (i := i) (by simpa using q)
      have e2 : p2 = p := by
        have s3 : σ[i]? = some (some (.ref p)) := by simpa using s
        rw [s2] at s3
        injection s3 with s3; injection s3 with s3; injection s3
      have ne : P ≠ p := fun z => n (by rw [z, ← e2]; exact m2)
      have := ih (fun q hqm => hq q (List.mem_cons_of_mem _ hqm)) (i := i) (by simpa using q) (by simpa using s)
      have o2 : OwnAt K Hm' H' P d' := o'.monoAt hm (hq P List.mem_cons_self ne)
      unfold putOwn at this ⊢
      rcases q with q | q <;> (simp only [List.getElem?_cons_succ] at q s ⊢; rw [q] at this ⊢; exact .io o2 n this)
/-- the foreign ones of a call that changes p -/
def others (M N : List Addr) (p : Addr) : List Addr := (M ++ N).filter (fun q => decide (q ≠ p))
theorem others_mem {M N : List Addr} {p q : Addr} : q ∈ others M N p ↔ q ∈ M ++ N ∧ q ≠ p := by
  unfold others
  rw [List.mem_filter]
  simp
theorem others_same {H : Hp} {M N : List Addr} {p : Addr} (hp : p ∈ M) : mask H (p :: others M N p) = mask H (M ++ N) := by
  funext a
  unfold mask
  by_cases ha : a ∈ M ++ N
  · have : a ∈ p :: others M N p := by
      by_cases hap : a = p
      · exact hap ▸ List.mem_cons_self
      · exact List.mem_cons_of_mem _ (others_mem.mpr ⟨ha, hap⟩)
    rw [if_pos ha, if_pos this]
  · have : a ∉ p :: others M N p := fun z => by
      rcases List.mem_cons.mp z with z | z
      · exact ha (z ▸ List.mem_append_left _ hp)
      · exact ha (others_mem.mp z).1
    rw [if_neg ha, if_neg this]
theorem SR.callIO {K : Fg} {P : Addr} {B H H' : Hp} {N M : List Addr} {σ : St} {e : Env} {i : Nat} {p : Addr} {d0 d1 : D} (s : SR K P B N M H σ e) (q : slotD e i = some d0) (h1 : σ[i]? = some (some (.ref p))) (hp : p ∈ M)
    (sm : Same (mask H [p]) (mask H' [p])) (ow : OwnAt K (mask H' (M ++ N)) H' p d1) : SR K P B N M H' σ (putOwn e i d1) ∧ Same (mask H M) (mask H' M) := by
  have at_ : ∀ a o, a ≠ p → H a = some o → H' a = some o := fun a o ne h => by
    have := sm a o (by rw [mask_out (by simpa using ne)]; exact h)
    exact (mask_some this).1
  have sM : Same (mask H M) (mask H' M) := fun a o z => by
    obtain ⟨z1, z2⟩ := mask_some z
    rw [mask_out z2]
    exact at_ a o (fun w => z2 (w ▸ hp)) z1
  have sMN : Same (mask H (M ++ N)) (mask H' (M ++ N)) := fun a o z => by
    obtain ⟨z1, z2⟩ := mask_some z
    rw [mask_out z2]
    exact at_ a o (fun w => z2 (w ▸ List.mem_append_left _ hp)) z1
  refine ⟨⟨fun a o z => sM a o (s.ex a o z), fun x hx => ?_, s.dj, s.er.writeX sMN (fun x hx ne => ?_) ow (slotD_of q) h1⟩, sM⟩
  · obtain ⟨o, z⟩ := s.al x hx
    exact ⟨o, at_ x o (fun w => s.dj p hp (w ▸ hx)) z⟩
  · obtain ⟨o, z⟩ := s.er.there x hx
    rw [z, at_ x o ne z]
section
variable {X : Cx} {XC : Nat → Addr} {W : WX} {P : Addr} {pos p : Pos}
/-- a call that changes its first argument, a name of this frame's -/
def ioRes (r : R D) (e : Env) (i : Nat) : R TV := match r with
  | .ok d [.io d1] => .ok (.val d) (putOwn e i d1)
  | .exc c [.io d1] => .exc c (putOwn e i d1)
  | _ => .bad
def dCallIO (F : D → List D → R D) (dds : List D) (a : Env → R (List TV)) : Sem := fun e => (a e).bind fun xs e1 => match xs with
  | .slot i :: ys => (match vals ys, slotD e1 i with
    | some ds, some d0 => ioRes (F d0 (ds ++ dds)) e1 i
    | _, _ => .bad)
  | _ => .bad
theorem pd_callIO {k : Nat} {f : Addr} {fd : FuncData} {ps : List Str} {n : Nat} {F : D → List D → R D} {ds : List Value} {dvs : List V} {dds : List D} {a : Env → R (List TV)} {x : Str} {ex : Expr} {es : List Expr} {p pos : Pos}
    (G : FnOk X.prog X.w X.K X.mg X.base (L2.CX X.prog X.w) k f fd ps (spIO X.K XC n F)) (hr : Room k X.A) (hg : Gl X x) (hm : X.mg x = some (.ref f)) (hk : PySem.W.keepIn X.K (.ref f) = true) (hb : Binds X.K fd ps ds) (hd : Vals dvs ds)
    (rd : ∀ H, Reps X.K H dvs dds) (tk : Takes X W) (hn : n = (ex :: es).length + dds.length) (ha : PA X (ex :: es) (tDA X.K XC W P a)) (hal : ∀ e xs e', a e = .ok xs e' → xs.length = (ex :: es).length) (hdb : (x == ("__debug__" : Str)) = false := by decide)
    (he : starEach (ex :: es) X.env = (false, eval ex X.env) :: starEach es X.env := by rfl) (hpl : (backTo pos (starEach es X.env)).any (·.1) = false := by rfl) :
    PE X (.Call (.Name x p) (ex :: es) [] pos) (tD X.K XC W P (dCallIO F dds a)) := (pe_callD G hr hg hm hk hb hd (fun σ => passAt tk σ) ha hdb he hpl).dvi fun σ H Q ⟨B, N, M, e, s, h⟩ => by
  unfold dCallIO at h
  cases hae : a e with
  | bad => rw [hae] at h; exact h.elim
  | exc c e' => rw [hae] at h; exact ⟨B, N, M, e, s, by rw [hae]; exact h⟩
  | ok xs e1 =>
    have hlen := hal e xs e1 hae
    rw [hae] at h
    refine ⟨B, N, M, e, s, ?_⟩
    rw [hae]
    intro vs H1 s1 m1 r1
    simp only [R.bind] at h
    cases xs with
    | nil => exact h.elim
    | cons y ys =>
      cases y with
      | val _ => exact h.elim
      | slot i =>
        simp only at h
        cases q : vals ys with
        | none => rw [q] at h; exact h.elim
        | some es' =>
          cases q2 : slotD e1 i with
          | none => rw [q, q2] at h; exact h.elim
          | some d0 =>
            rw [q, q2] at h
            simp only at h
            cases r1 with
            | @cons v _ ws _ rv rs =>
              obtain ⟨q0, rfl, hq1, hq2, hq3⟩ := slot_at s1 rv q2
              have rp := vals_reps rs q
              have hl2 : dvs.length = dds.length := (rd (fun _ => none)).length
              have hl3 : ws.length = ys.length := Paired.length rs
              have hl4 : ys.length + 1 = (ex :: es).length := hlen
              have em := others_same (H := H1) (N := N) hq2
              refine ⟨by rw [List.length_append, List.length_cons, hl3, hl2, hn, ← hl4], others M N q0, q0, d0, ws ++ dvs, es' ++ dds, rfl, fun z => (others_mem.mp z).2 rfl, fun z hz => s1.alAll z (others_mem.mp hz).1, ?_, ?_, ?_⟩
              · rw [em]; exact hq3
              · rw [em]; exact rp.append (rd _)
              · unfold ioRes at h
                cases hF : F d0 (es' ++ dds) with
                | bad => rw [hF] at h; exact h.elim
                | exc c z =>
                  rw [hF] at h
                  cases z with
                  | nil => exact h.elim
                  | cons z zs =>
                    cases z with
                    | io d1 =>
                      cases zs with
                      | cons _ _ => exact h.elim
                      | nil =>
                        refine ⟨d1, rfl, fun cls dd H' sm ow x => ?_⟩
                        have em' := others_same (H := H') (N := N) hq2
                        rw [em'] at ow
                        obtain ⟨s2, m2⟩ := s1.callIO q2 hq1 hq2 sm ow
                        exact h cls dd H' s2 (Same.trans' m1 m2) x
                    | _ => exact h.elim
                | ok d z =>
                  rw [hF] at h
                  cases z with
                  | nil => exact h.elim
                  | cons z zs =>
                    cases z with
                    | io d1 =>
                      cases zs with
                      | cons _ _ => exact h.elim
                      | nil =>
                        refine ⟨d1, rfl, fun v H' sm ow rv => ?_⟩
                        have em' := others_same (H := H') (N := N) hq2
                        rw [em'] at ow rv
                        obtain ⟨s2, m2⟩ := s1.callIO q2 hq1 hq2 sm ow
                        exact h v H' s2 (Same.trans' m1 m2) rv
                    | _ => exact h.elim

/-! ### methods that change a list of this frame's -/
def MutL (K : Fg) (r : V → List V → Hp → VK → Prop) (g : List D → List D → Option (List D × D)) : Prop := ∀ (L : List Addr) (H : Hp) (p : Addr) (vs xs : List V) (ds es ds' : List D) (z : D) (Q : VK), (∀ q ∈ L, ∃ o, H q = some o) → p ∈ L → H p = some (.lst vs) → Reps K (mask H L) vs ds → Reps K (mask H L) xs es → g ds es = some (ds', z) →
  (∀ vs' v, Reps K (mask H L) vs' ds' → Rep K (mask H L) v z → Q v (upd H p (.lst vs'))) → r (.ref p) xs H Q
def slotL (e : Env) (i : Nat) : Option (List D) := match slotD e i with
  | some (.lst ds) => some ds
  | _ => none
theorem slotL_of {e : Env} {i : Nat} {ds : List D} (h : slotL e i = some ds) : slotD e i = some (.lst ds) := by
  unfold slotL at h
  split at h
  · injection h with h
    subst h
    assumption
  · cases h
def mutRes (g : List D → List D → Option (List D × D)) (i : Nat) (xs : List TV) (e : Env) : R TV := match vals xs, slotL e i with
  | some es, some ds => (match g ds es with
    | some (ds', z) => .ok (.val z) (putOwn e i (.lst ds'))
    | none => .bad)
  | _, _ => .bad
def dMut (g : List D → List D → Option (List D × D)) (o : Sem) (a : Env → R (List TV)) : Sem := fun e => (o e).bind fun x e1 => match x with
  | .slot i => (match slotL e1 i with
    | some _ => (a e1).bind fun xs e2 => mutRes g i xs e2
    | none => .bad)
  | _ => .bad
theorem mutRes_of {K : Fg} {r : V → List V → Hp → VK → Prop} {g : List D → List D → Option (List D × D)} (hg : MutL K r g) {B H0 H : Hp} {N M : List Addr} {σ : St} {e : Env} {i : Nat} {v : V} {xs : List TV} {ws : List V} {Q : VK} (s : SR K P B N M H σ e) (m : Same (mask H0 M) (mask H M)) (rv : VR K N M H σ v (.slot i)) (rx : Paired (VR K N M H σ) ws xs)
    (h : Hold (mutRes g i xs e) (fun x e' => ∀ v H', SR K P B N M H' σ e' → Same (mask H0 M) (mask H' M) → VR K N M H' σ v x → Q v H') (ExK K XC W P B N M H0 σ)) : r v ws H Q := by
  unfold mutRes at h
  cases q : vals xs with
  | none => rw [q] at h; exact h.elim
  | some es =>
    cases q2 : slotL e i with
    | none => rw [q, q2] at h; exact h.elim
    | some ds =>
      rw [q, q2] at h
      simp only at h
      cases q3 : g ds es with
      | none => rw [q3] at h; exact h.elim
      | some dz =>
        obtain ⟨ds', z⟩ := dz
        rw [q3] at h
        have q4 := slotL_of q2
        obtain ⟨p0, rfl, hp1, hp2, hp3⟩ := slot_at s rv q4
        cases hp3 with
        | lst hp4 hp5 =>
          refine hg (M ++ N) H p0 _ ws ds es ds' z Q s.alAll (List.mem_append_left _ hp2) hp4 hp5 (vals_reps rx q) q3 fun vs' u ru rz => ?_
          obtain ⟨s', e1⟩ := s.write (o := .lst vs') (d := .lst ds') (slotD_of q4) hp1 hp2 (.lst upd_same ru)
          refine h u _ s' (by rw [e1]; exact m) ?_
          show Rep K (mask (upd H p0 (.lst vs')) (M ++ N)) u z
          rw [Same.upd_mask (List.mem_append_left _ hp2)]
          exact rz
theorem slot_ty {K : Fg} {B H : Hp} {N M : List Addr} {σ : St} {e : Env} {i : Nat} {v : V} {ds : List D} (s : SR K P B N M H σ e) (rv : VR K N M H σ v (.slot i)) (q : slotL e i = some ds) : tyV K "list" v H := by
  obtain ⟨p0, rfl, hp1, hp2, hp3⟩ := slot_at s rv (slotL_of q)
  cases hp3 with
  | lst h _ => exact .inl ⟨rfl, _, .of h⟩
variable {o ex : Expr} {es : List Expr} {name : Str} {apos cpos : Pos} {id : String} {r : V → List V → Hp → VK → Prop} {g : List D → List D → Option (List D × D)} {so : Sem} {sa : Env → R (List TV)}
theorem pd_mut (slot : Slot "list" name id) (hty : typeOf (.builtin id) = pure (.type "method_descriptor")) (hm : MtR X id r) (hg : MutL X.K r g) (ho : PE X o (tD X.K XC W P so)) (ha : PA X (ex :: es) (tDA X.K XC W P sa))
    (hbase : attributeBase o name X.env (eval o X.env) = eval o X.env := by rfl)
    (hfew : ((backTo cpos (starEach (ex :: es) X.env)).all (fun x => !x.1) && (backToKw cpos (keywordEach [] X.env)).all (fun x => x.1.isSome)
      && decide ((ex :: es).length + ([] : List Keyword).length + (if ([] : List Keyword).isEmpty then 0 else 1) < 30)) = true := by rfl)
    (hline : (apos.endLine == cpos.line) = true := by rfl) (hs : starEach (ex :: es) X.env = (false, eval ex X.env) :: starEach es X.env := by rfl) (hplain : (backTo cpos (starEach es X.env)).any (·.1) = false := by rfl) :
    PE X (.Call (.Attribute o name apos) (ex :: es) [] cpos) (tD X.K XC W P (dMut g so sa)) := (pe_bm PySem.F.plainAttrs_list slot hty hm ho ha hbase hfew hline hs hplain).dvi fun σ H Q ⟨B, N, M, e, s, h⟩ => by
  refine ⟨B, N, M, e, s, h.bind.imp fun x e1 h1 v H1 s1 m1 r1 => ?_⟩
  cases x with
  | val _ => exact h1.elim
  | slot i =>
    cases q : slotL e1 i with
    | none => simp only [q] at h1; exact h1.elim
    | some ds =>
      simp only [q] at h1
      exact ⟨slot_ty s1 r1 q, B, N, M, e1, s1, h1.bind.both (fun xs e2 h2 ws H2 s2 m2 r2 => mutRes_of hg s2 (Same.trans' m1 m2) r1 r2 h2) fun c e' q => q.mono m1⟩
theorem pd_mut0 (slot : Slot "list" name id) (hty : typeOf (.builtin id) = pure (.type "method_descriptor")) (hm : MtR X id r) (hg : MutL X.K r g) (ho : PE X o (tD X.K XC W P so))
    (hbase : attributeBase o name X.env (eval o X.env) = eval o X.env := by rfl) (hline : (apos.endLine == cpos.line) = true := by rfl) :
    PE X (.Call (.Attribute o name apos) [] [] cpos) (tD X.K XC W P (dMut g so dANil)) := (pe_bm0 PySem.F.plainAttrs_list slot hty hm ho hbase hline).dvi fun σ H Q ⟨B, N, M, e, s, h⟩ => by
  refine ⟨B, N, M, e, s, h.bind.imp fun x e1 h1 v H1 s1 m1 r1 => ?_⟩
  cases x with
  | val _ => exact h1.elim
  | slot i =>
    cases q : slotL e1 i with
    | none => simp only [q] at h1; exact h1.elim
    | some ds =>
      simp only [q] at h1
      exact ⟨slot_ty s1 r1 q, mutRes_of hg s1 m1 r1 .nil h1⟩
def gApp : List D → List D → Option (List D × D) := fun ds es => match es with
  | [d] => if ds.length < sizeLine then some (ds ++ [d], .non) else none
  | _ => none
theorem mut_app : MutL X.K rAppend gApp := by
  intro L H p vs xs ds es ds' z Q al hp h1 h2 h3 h4 k
  cases h3 with
  | nil => cases h4
  | cons h5 h6 =>
    cases h6 with
    | cons _ _ => cases h4
    | nil =>
      rename_i v d
      have h4 : (if ds.length < sizeLine then some (ds ++ [d], D.non) else none) = some (ds', z) := h4
      by_cases hl : ds.length < sizeLine
      · rw [if_pos hl] at h4
        injection h4 with h4
        injection h4 with h7 h8
        subst h7 h8
        exact ⟨p, vs, v, rfl, rfl, h1, by rw [h2.length]; exact hl, k _ _ (h2.append (.cons h5 .nil)) .non⟩
      · rw [if_neg hl] at h4
        cases h4
def gExt : List D → List D → Option (List D × D) := fun ds es => match es with
  | [.lst ys] => if ds.length + ys.length ≤ sizeLine then some (ds ++ ys, .non) else none
  | _ => none
theorem mut_ext : MutL X.K rExtend gExt := by
  intro L H p vs xs ds es ds' z Q al hp h1 h2 h3 h4 k
  cases h3 with
  | nil => cases h4
  | cons h5 h6 =>
    cases h6 with
    | cons _ _ => simp [gExt] at h4
    | nil =>
      cases h5 with
      | @lst b zs ys h7 h8 =>
        have h4 : (if ds.length + ys.length ≤ sizeLine then some (ds ++ ys, D.non) else none) = some (ds', z) := h4
        by_cases hl : ds.length + ys.length ≤ sizeLine
        · rw [if_pos hl] at h4
          injection h4 with h4
          injection h4 with h9 h10
          subst h9 h10
          exact ⟨p, b, vs, zs, rfl, rfl, h1, mask_le _ _ h7, by rw [h2.length, h8.length]; exact hl, k _ _ (h2.append h8) .non⟩
        · rw [if_neg hl] at h4
          cases h4
      | _ => cases h4
def gPop : List D → List D → Option (List D × D) := fun ds es => match es, ds[ds.length - 1]? with
  | [], some y => some (ds.dropLast, y)
  | _, _ => none
theorem mut_pop : MutL X.K rPop gPop := by
  intro L H p vs xs ds es ds' z Q al hp h1 h2 h3 h4 k
  cases h3 with
  | cons _ _ => cases h4
  | nil =>
    unfold gPop at h4
    cases q : ds[ds.length - 1]? with
    | none => simp only [q] at h4; cases h4
    | some y =>
      simp only [q] at h4
      injection h4 with h4
      injection h4 with h7 h8
      subst h7 h8
      obtain ⟨v, h9, h10⟩ := h2.get q
      exact ⟨p, vs, v, rfl, rfl, h1, by rw [h2.length]; exact h9, k _ _ h2.dropLast h10⟩

/-! ### stores -/
def sSetIx (a o ix : Sem) : SSem := fun e => (a e).out fun y e1 => (o e1).out fun x e2 => (ix e2).out fun z e3 => match y, x, z with
  | .val d, .slot i, .val (.int k) => (match slotL e3 i with
    | some ds => (match ixN ds.length k with
      | some j => .nx (putOwn e3 i (.lst (ds.set j d)))
      | none => .bad)
    | none => .bad)
  | _, _, _ => .bad
theorem psd_setIx {o i value : Expr} {sv so si : Sem} {pos' pos : Pos} (hv : PE X value (tD X.K XC W P sv)) (ho : PE X o (tD X.K XC W P so)) (hi : PE X i (tD X.K XC W P si))
    (ha : ∀ v, assign (.Subscript o i pos') X.env v = (do
      let ov ← holding [v] (eval o X.env)
      let iv ← holding [v, ov] (eval i X.env)
      standAt pos'
      holding [v, ov, iv] (setItem ov iv v)
      release [v, ov, iv] []) := by intro _; rfl)
    (hs : swapsWithSole [.Subscript o i pos'] value pos.line X.env = pure false := by rfl) (hw : swappedStores [.Subscript o i pos'] value X.env = pure none := by rfl)
    (h1 : (assignEach [.Subscript o i pos'] X.env).map (·.2) = [assign (.Subscript o i pos') X.env] := by rfl) : PS X (.Assign [.Subscript o i pos'] value pos) (tDS X.K XC W P (sSetIx sv so si)) :=
  (ps_asg hv (pg_sub ho hi set_list ha) hs hw h1).dvi fun D' σ H ⟨B, N, M, e, s, h⟩ => by
    refine ⟨B, N, M, e, s, (out_of h).imp fun y e1 h1 v H1 s1 m1 r1 => ?_⟩
    refine ⟨B, N, M, e1, s1, (out_of h1).imp fun x e2 h2 w H2 s2 m2 r2 => ?_⟩
    refine ⟨B, N, M, e2, s2, (out_of h2).imp fun z e3 h3 u H3 s3 m3 r3 => ?_⟩
    cases y with
    | slot _ => exact h3.elim
    | val d =>
      cases x with
      | val _ => exact h3.elim
      | slot i =>
        cases z with
        | slot _ => exact h3.elim
        | val dz =>
          cases dz with
          | int k =>
            cases q : slotL e3 i with
            | none => simp only [q] at h3; exact h3.elim
            | some ds =>
              simp only [q] at h3
              cases q2 : ixN ds.length k with
              | none => simp only [q2] at h3; exact h3.elim
              | some j =>
                simp only [q2] at h3
                have q4 := slotL_of q
                obtain ⟨p0, rfl, hp1, hp2, hp3⟩ := slot_at s3 (r2.mono m3) q4
                cases hp3 with
                | @lst vs _ hp4 hp5 =>
                  have eu := CR.int (H := H3) (.rep r3)
                  subst eu
                  refine ⟨p0, vs, k, j, rfl, rfl, hp4, by rw [hp5.length]; exact q2, ?_⟩
                  have rv : Rep X.K (mask H3 (M ++ N)) v d := r1.mono (Same.trans' m2 m3)
                  obtain ⟨s', e1⟩ := s3.write (o := .lst (vs.set j v)) (d := .lst (ds.set j d)) (slotD_of q4) hp1 hp2 (.lst upd_same (hp5.set rv j))
                  exact h3 σ M _ s'
          | _ => exact h3.elim
end
end Dv

set_option maxRecDepth 100000
set_option maxHeartbeats 1000000
namespace Dv
open PySem L2
/-! ### dicts -/
def keyD : D → Option Key
  | .int i => some (.inl i)
  | .str s => some (.inr s)
  | _ => none
def keysD : List D → Option (List Key)
  | [] => some []
  | d :: r => (keyD d).bind fun k => (keysD r).map (k :: ·)
section
variable {κ : Type} [DecidableEq κ]
def valD : List (κ × D) → κ → Option D
  | [], _ => none
  | p :: r, k => if p.1 = k then some p.2 else valD r k
def hasD : List (κ × D) → κ → Bool
  | [], _ => false
  | p :: r, k => if p.1 = k then true else hasD r k
def putDk (kvs : List (κ × D)) (k : κ) (v : D) : List (κ × D) := if hasD kvs k = true then kvs.map (fun p => if p.1 = k then (p.1, v) else p) else kvs ++ [(k, v)]
end
theorem keyD_of {K : Fg} {Hm H : Hp} {y : V} {d : D} {k : Key} (c : CR K Hm H y d) (h : keyD d = some k) : y = kV k := by
  cases d with
  | int i => injection h with h; subst h; exact c.int
  | str i => injection h with h; subst h; exact c.str
  | _ => cases h
theorem keysD_of {K : Fg} {H : Hp} : ∀ {vs : List V} {ds : List D} {ks : List Key}, Reps K H vs ds → keysD ds = some ks → vs = ks.map kV
  | _, _, _, .nil, h => by injection h with h; subst h; rfl
  | _, _, ks, .cons (d := d) (ds := ds) h1 h2, h => by
    have h : (keyD d).bind (fun k => (keysD ds).map (k :: ·)) = some ks := h
    cases q1 : keyD d with
    | none => rw [q1] at h; cases h
    | some k =>
      cases q2 : keysD ds with
      | none => rw [q1, q2] at h; cases h
      | some ks' =>
        rw [q1, q2] at h
        injection h with h
        subst h
        rw [keysD_of h2 q2, keyD_of (H := H) (.rep h1) q1]
        rfl
/-- pairs by the same keys -/
inductive KP {κ : Type} (K : Fg) (H : Hp) : List (κ × V) → List (κ × D) → Prop
  | nil : KP K H [] []
  | cons {k : κ} {v : V} {vs : List (κ × V)} {d : D} {ds : List (κ × D)} : Rep K H v d → KP K H vs ds → KP K H ((k, v) :: vs) ((k, d) :: ds)
theorem KReps.kp {K : Fg} {H : Hp} : ∀ {kvs : List (Key × V)} {kds : List (Key × D)}, KReps K H kvs kds → KP K H kvs kds
  | _, _, .nil => .nil
  | _, _, .cons h r => .cons h r.kp
theorem KP.k {K : Fg} {H : Hp} : ∀ {kvs : List (Key × V)} {kds : List (Key × D)}, KP K H kvs kds → KReps K H kvs kds
  | _, _, .nil => .nil
  | _, _, .cons h r => .cons h r.k
theorem TReps.kp {K : Fg} {H : Hp} : ∀ {kvs : List (List Key × V)} {kds : List (List Key × D)}, TReps K H kvs kds → KP K H kvs kds
  | _, _, .nil => .nil
  | _, _, .cons h r => .cons h r.kp
theorem KP.t {K : Fg} {H : Hp} : ∀ {kvs : List (List Key × V)} {kds : List (List Key × D)}, KP K H kvs kds → TReps K H kvs kds
  | _, _, .nil => .nil
  | _, _, .cons h r => .cons h r.t
section
variable {κ : Type} [DecidableEq κ] {K : Fg} {H : Hp}
theorem KP.none (k : κ) : ∀ {kvs : List (κ × V)} {kds : List (κ × D)}, KP K H kvs kds → valD kds k = Option.none → valV kvs k = Option.none
  | _, _, .nil, _ => rfl
  | _, _, .cons (k := k') (v := v) h r, q => by
    by_cases e : k' = k
    · simp [valD, e] at q
    · rw [valV_neg (p := (k', v)) e]
      exact KP.none k r (by simpa [valD, e] using q)
theorem KP.some (k : κ) : ∀ {kvs : List (κ × V)} {kds : List (κ × D)} {d : D}, KP K H kvs kds → valD kds k = Option.some d → ∃ v, valV kvs k = Option.some v ∧ Rep K H v d
  | _, _, _, .nil, q => by cases q
  | _, _, d', .cons (k := k') (v := v) (d := d) h r, q => by
    by_cases e : k' = k
    · have : d = d' := by simpa [valD, e] using q
      subst this
      exact ⟨v, valV_pos e, h⟩
    · rw [valV_neg (p := (k', v)) e]
      exact KP.some k r (by simpa [valD, e] using q)
theorem KP.has (k : κ) : ∀ {kvs : List (κ × V)} {kds : List (κ × D)}, KP K H kvs kds → (kvs.any fun kv => decide (kv.1 = k)) = hasD kds k
  | _, _, .nil => rfl
  | _, _, .cons (k := k') (v := v) h r => by
    rw [List.any_cons, KP.has k r]
    by_cases e : k' = k <;> simp [hasD, e]
theorem KP.length : ∀ {kvs : List (κ × V)} {kds : List (κ × D)}, KP K H kvs kds → kvs.length = kds.length
  | _, _, .nil => rfl
  | _, _, .cons h r => congrArg (· + 1) r.length
theorem KP.append : ∀ {kvs lvs : List (κ × V)} {kds lds : List (κ × D)}, KP K H kvs kds → KP K H lvs lds → KP K H (kvs ++ lvs) (kds ++ lds)
  | _, _, _, _, .nil, s => s
  | _, _, _, _, .cons h r, s => .cons h (r.append s)
theorem KP.map (k : κ) {v : V} {d : D} (h : Rep K H v d) : ∀ {kvs : List (κ × V)} {kds : List (κ × D)}, KP K H kvs kds → KP K H (kvs.map fun p => if p.1 = k then (p.1, v) else p) (kds.map fun p => if p.1 = k then (p.1, d) else p)
  | _, _, .nil => .nil
  | _, _, .cons (k := k') a r => by
    rw [List.map_cons, List.map_cons]
    by_cases e : k' = k
    · simp only [e, if_true]
      exact .cons h (KP.map k h r)
    · simp only [e, if_false]
      exact .cons a (KP.map k h r)
theorem KP.put (k : κ) {v : V} {d : D} (h : Rep K H v d) {kvs : List (κ × V)} {kds : List (κ × D)} (r : KP K H kvs kds) : KP K H (putK kvs k v) (putDk kds k d) := by
  unfold putK putDk
  rw [r.has k]
  cases q : hasD kds k with
  | true => simpa using r.map k h
  | false => simpa using r.append (.cons h .nil)
end
/-- d[k] -/
def getDD : D → D → Option D
  | .dk kds, k => (keyD k).bind (valD kds)
  | .dt kds, .tup ks => (keysD ks).bind (valD kds)
  | _, _ => none
def hasDD : D → D → Option Bool
  | .dk kds, k => (keyD k).map fun k => (valD kds k).isSome
  | .dt kds, .tup ks => (keysD ks).map fun k => (valD kds k).isSome
  | _, _ => none
theorem getDD_of {K : Fg} {L : List Addr} {H : Hp} {x y : V} {dx dy z : D} (cx : CR K (mask H L) H x dx) (cy : CR K (mask H L) H y dy) (h : getDD dx dy = some z) : ∃ a v, x = .ref a ∧ DGet H a y (some v) ∧ Rep K (mask H L) v z := by
  cases dx with
  | dk kds =>
    obtain ⟨a, kvs, rfl, h1, h2⟩ := cx.dk mask_le
    have h : (keyD dy).bind (valD kds) = some z := h
    cases q : keyD dy with
    | none => rw [q] at h; cases h
    | some k =>
      rw [q] at h
      obtain ⟨v, h3, h4⟩ := h2.kp.some k h
      exact ⟨a, v, rfl, .inl ⟨kvs, k, h1, keyD_of cy q, h3.symm⟩, h4⟩
  | dt kds =>
    obtain ⟨a, kvs, rfl, h1, h2⟩ := cx.dt mask_le
    cases dy with
    | tup ks =>
      have h : (keysD ks).bind (valD kds) = some z := h
      cases q : keysD ks with
      | none => rw [q] at h; cases h
      | some k =>
        rw [q] at h
        obtain ⟨v, h3, h4⟩ := h2.kp.some k h
        obtain ⟨b, vs, rfl, h5, h6⟩ := cy.tup mask_le
        exact ⟨a, v, rfl, .inr ⟨kvs, k, b, h1, rfl, by rw [h5, keysD_of h6 q], h3.symm⟩, h4⟩
    | _ => cases h
  | _ => cases h
theorem hasDD_of {K : Fg} {L : List Addr} {H : Hp} {x y : V} {dx dy : D} {z : Bool} (cx : CR K (mask H L) H x dx) (cy : CR K (mask H L) H y dy) (h : hasDD dx dy = some z) : ∃ a o, x = .ref a ∧ DGet H a y o ∧ o.isSome = z := by
  cases dx with
  | dk kds =>
    obtain ⟨a, kvs, rfl, h1, h2⟩ := cx.dk mask_le
    have h : (keyD dy).map (fun k => (valD kds k).isSome) = some z := h
    cases q : keyD dy with
    | none => rw [q] at h; cases h
    | some k =>
      rw [q] at h
      have h : (valD kds k).isSome = z := by injection h
      refine ⟨a, _, rfl, .inl ⟨kvs, k, h1, keyD_of cy q, rfl⟩, ?_⟩
      cases q2 : valD kds k with
      | none => rw [h2.kp.none k q2, ← h, q2] <;> rfl
      | some d =>
        obtain ⟨v, h3, _⟩ := h2.kp.some k q2
        rw [h3, ← h, q2] <;> rfl
  | dt kds =>
    obtain ⟨a, kvs, rfl, h1, h2⟩ := cx.dt mask_le
    cases dy with
    | tup ks =>
      have h : (keysD ks).map (fun k => (valD kds k).isSome) = some z := h
      cases q : keysD ks with
      | none => rw [q] at h; cases h
      | some k =>
        rw [q] at h
        have h : (valD kds k).isSome = z := by injection h
        obtain ⟨b, vs, rfl, h5, h6⟩ := cy.tup mask_le
        refine ⟨a, _, rfl, .inr ⟨kvs, k, b, h1, rfl, by rw [h5, keysD_of h6 q], rfl⟩, ?_⟩
        cases q2 : valD kds k with
        | none => rw [h2.kp.none k q2, ← h, q2] <;> rfl
        | some d =>
          obtain ⟨v, h3, _⟩ := h2.kp.some k q2
          rw [h3, ← h, q2] <;> rfl
    | _ => cases h
  | _ => cases h
section
variable {X : Cx} {XC : Nat → Addr} {W : WX} {P : Addr} {pos : Pos}
theorem pd_dget {o i : Expr} {so si : Sem} (hu : X.A.units + 1 < cLine) (ho : PE X o (tD X.K XC W P so)) (hi : PE X i (tD X.K XC W P si)) (hs : NoSl i) : PE X (.Subscript o i pos) (tD X.K XC W P (dBin getDD so si)) :=
  (pe_dget hu ho hi hs).dvi fun σ H Q q => bin_of (r := fun x y H Q => ∃ a v, x = .ref a ∧ DGet H a y (some v) ∧ Q v H) (fun L H x y dx dy z Q al cx cy h k => by
    obtain ⟨a, v, h1, h2, h3⟩ := getDD_of cx cy h
    exact ⟨a, v, h1, h2, k v H (fun _ _ z => z) h3⟩) q
def inDD (d k : D) : Option D := (hasDD k d).map .bl
def notInDD (d k : D) : Option D := (hasDD k d).map fun b => .bl (!b)
theorem pure_din : Pure2 X.K (fun y x H Q => ∃ a o, x = .ref a ∧ DGet H a y o ∧ Q (.bl o.isSome) H) inDD := fun L H y x dy dx z Q al cy cx h k => by
  unfold inDD at h
  cases q : hasDD dx dy with
  | none => rw [q] at h; cases h
  | some b =>
    rw [q] at h
    injection h with h
    subst h
    obtain ⟨a, o, h1, h2, h3⟩ := hasDD_of cx cy q
    exact ⟨a, o, h1, h2, by rw [h3]; exact k _ H (fun _ _ z => z) (.bl b)⟩
theorem pure_dnotin : Pure2 X.K (fun y x H Q => ∃ a o, x = .ref a ∧ DGet H a y o ∧ Q (.bl (!o.isSome)) H) notInDD := fun L H y x dy dx z Q al cy cx h k => by
  unfold notInDD at h
  cases q : hasDD dx dy with
  | none => rw [q] at h; cases h
  | some b =>
    rw [q] at h
    injection h with h
    subst h
    obtain ⟨a, o, h1, h2, h3⟩ := hasDD_of cx cy q
    exact ⟨a, o, h1, h2, by rw [h3]; exact k _ H (fun _ _ z => z) (.bl _)⟩
theorem pd_din {o i : Expr} {so si : Sem} (hu : X.A.units + 1 < cLine) (hi : PE X i (tD X.K XC W P si)) (ho : PE X o (tD X.K XC W P so)) (hmk : behindInMarks .In o = false := by rfl) : PE X (.Compare i [.In] [o] pos) (tD X.K XC W P (dBin inDD si so)) :=
  (pe_cmp (pc_din hu hi ho) hmk).dvi fun σ H Q q => bin_of pure_din q
theorem pd_dnotin {o i : Expr} {so si : Sem} (hu : X.A.units + 1 < cLine) (hi : PE X i (tD X.K XC W P si)) (ho : PE X o (tD X.K XC W P so)) (hmk : behindInMarks .NotIn o = false := by rfl) : PE X (.Compare i [.NotIn] [o] pos) (tD X.K XC W P (dBin notInDD si so)) :=
  (pe_cmp (pc_dnotin hu hi ho) hmk).dvi fun σ H Q q => bin_of pure_dnotin q
theorem pt_din {o i : Expr} {so si : Sem} (hu : X.A.units + 1 < cLine) (hi : PE X i (tD X.K XC W P si)) (ho : PE X o (tD X.K XC W P so)) (hmk : behindInMarks .In o = false := by rfl) : PT X (.Compare i [.In] [o] pos) (tDT X.K XC W P (dTest (dBin inDD si so))) :=
  (pt_cmp (pc_din hu hi ho) hmk).dvi fun σ H Q q => bin_of pure_din (tB_of q)
theorem pt_dnotin {o i : Expr} {so si : Sem} (hu : X.A.units + 1 < cLine) (hi : PE X i (tD X.K XC W P si)) (ho : PE X o (tD X.K XC W P so)) (hmk : behindInMarks .NotIn o = false := by rfl) : PT X (.Compare i [.NotIn] [o] pos) (tDT X.K XC W P (dTest (dBin notInDD si so))) :=
  (pt_cmp (pc_dnotin hu hi ho) hmk).dvi fun σ H Q q => bin_of pure_dnotin (tB_of q)
/-- d[k] = v -/
def putDD : D → D → D → Option D
  | .dk kds, k, v => (keyD k).bind fun k => if kds.length < sizeLine then some (.dk (putDk kds k v)) else none
  | .dt kds, .tup ks, v => (keysD ks).bind fun k => if kds.length < sizeLine then some (.dt (putDk kds k v)) else none
  | _, _, _ => none
def sPutD (a o ix : Sem) : SSem := fun e => (a e).out fun y e1 => (o e1).out fun x e2 => (ix e2).out fun z e3 => match y, x, z with
  | .val d, .slot i, .val k => (match (slotD e3 i).bind fun c => putDD c k d with
    | some c => .nx (putOwn e3 i c)
    | none => .bad)
  | _, _, _ => .bad
theorem psd_putD {o i value : Expr} {sv so si : Sem} {pos' pos : Pos} (hu : X.A.units + 1 < cLine) (hv : PE X value (tD X.K XC W P sv)) (ho : PE X o (tD X.K XC W P so)) (hi : PE X i (tD X.K XC W P si))
    (hs : swapsWith value (some (.Subscript o i pos')) pos.line X.env = pure false := by rfl) : PS X (.Assign [.Subscript o i pos'] value pos) (tDS X.K XC W P (sPutD sv so si)) :=
  (ps_dput hu ho hi hv hs).dvi fun D' σ H ⟨B, N, M, e, s, h⟩ => by
    refine ⟨B, N, M, e, s, (out_of h).imp fun y e1 h1 v H1 s1 m1 r1 => ?_⟩
    refine ⟨B, N, M, e1, s1, (out_of h1).imp fun x e2 h2 w H2 s2 m2 r2 => ?_⟩
    refine ⟨B, N, M, e2, s2, (out_of h2).imp fun z e3 h3 u H3 s3 m3 r3 => ?_⟩
    cases y with
    | slot _ => exact h3.elim
    | val d =>
      cases x with
      | val _ => exact h3.elim
      | slot i =>
        cases z with
        | slot _ => exact h3.elim
        | val k =>
          cases q : slotD e3 i with
          | none => simp only [q] at h3; exact h3.elim
          | some c =>
            simp only [q, Option.bind_some] at h3
            cases q2 : putDD c k d with
            | none => simp only [q2] at h3; exact h3.elim
            | some c' =>
              simp only [q2] at h3
              obtain ⟨p0, rfl, hp1, hp2, hp3⟩ := slot_at s3 (r2.mono m3) q
              have rv : Rep X.K (mask H3 (M ++ N)) v d := r1.mono (Same.trans' m2 m3)
              cases hp3 with
              | lst _ _ => cases q2
              | @dk kvs kds hp4 hp5 =>
                have q2 : (keyD k).bind (fun k => if kds.length < sizeLine then some (D.dk (putDk kds k d)) else none) = some c' := q2
                cases q3 : keyD k with
                | none => rw [q3] at q2; cases q2
                | some kk =>
                  rw [q3] at q2
                  simp only [Option.bind_some] at q2
                  by_cases hl : kds.length < sizeLine
                  · rw [if_pos hl] at q2
                    injection q2 with q2
                    subst q2
                    obtain ⟨s', e1⟩ := s3.write (o := .dK (putK kvs kk v)) (d := .dk (putDk kds kk d)) (slotD_of q) hp1 hp2 (.dk upd_same (hp5.kp.put kk rv).k)
                    exact ⟨p0, _, rfl, .inl ⟨kvs, kk, hp4, keyD_of (H := H3) (.rep r3) q3, by rw [hp5.kp.length]; exact hl, rfl⟩, h3 σ M _ s'⟩
                  · rw [if_neg hl] at q2
                    cases q2
              | @dt kvs kds hp4 hp5 =>
                cases k with
                | tup ks =>
                  have q2 : (keysD ks).bind (fun k => if kds.length < sizeLine then some (D.dt (putDk kds k d)) else none) = some c' := q2
                  cases q3 : keysD ks with
                  | none => rw [q3] at q2; cases q2
                  | some kk =>
                    rw [q3] at q2
                    simp only [Option.bind_some] at q2
                    by_cases hl : kds.length < sizeLine
                    · rw [if_pos hl] at q2
                      injection q2 with q2
                      subst q2
                      obtain ⟨s', e1⟩ := s3.write (o := .dT (putK kvs kk v)) (d := .dt (putDk kds kk d)) (slotD_of q) hp1 hp2 (.dt upd_same (hp5.kp.put kk rv).t)
                      have r3 : Rep X.K (mask H3 (M ++ N)) u (.tup ks) := r3
                      cases r3 with
                      | @tup b vs _ h5 h6 =>
                        exact ⟨p0, _, rfl, .inr ⟨kvs, kk, b, hp4, rfl, by rw [mask_le _ _ h5, keysD_of h6 q3], by rw [hp5.kp.length]; exact hl, rfl⟩, h3 σ M _ s'⟩
                    · rw [if_neg hl] at q2
                      cases q2
                | _ => cases q2
end
end Dv

set_option maxRecDepth 100000
set_option maxHeartbeats 1000000
namespace Dv
open PySem L2
/-! ### raise, try -/
def noP : Env → Bool
  | [] => true
  | .io _ :: _ => false
  | .exn _ :: _ => false
  | _ :: r => noP r
theorem ER.chP {K : Fg} {P P' : Addr} {Hm H : Hp} {M : List Addr} {σ : St} {e : Env} (h : ER K P Hm H M σ e) (q : noP e = true) : ER K P' Hm H M σ e := by
  induction h with
  | nil => exact .nil
  | un _ ih => exact .un (ih q)
  | v r _ ih => exact .v r (ih q)
  | own o n _ ih => exact .own o n (ih q)
  | io _ _ _ _ => cases q
  | exn _ _ => cases q
theorem SR.chP {K : Fg} {P P' : Addr} {B H : Hp} {N M : List Addr} {σ : St} {e : Env} (s : SR K P B N M H σ e) (q : noP e = true) : SR K P' B N M H σ e := ⟨s.ex, s.al, s.dj, s.er.chP q⟩
/-- a slot stored for which nothing is owned -/
def plainAt (e : Env) (i : Nat) : Bool := match e[i]? with
  | some .un => true
  | some (.v _) => true
  | some (.exn _) => true
  | _ => false
theorem ER.setP {K : Fg} {P : Addr} {Hm H : Hp} {M : List Addr} {σ : St} {e : Env} {w : Option V} {s : Sl} (h : ER K P Hm H M σ e) (hw : ∀ {M : List Addr} {σ : St} {e : Env}, ER K P Hm H M σ e → ER K P Hm H M (w :: σ) (s :: e)) : ∀ {i : Nat}, plainAt e i = true → ER K P Hm H M (σ.set i w) (e.set i s) := by
  induction h with
  | nil => intro i q; simp [plainAt] at q
  | un h ih =>
    intro i q
    cases i with
    | zero => exact hw h
    | succ i => exact .un (ih (by simpa [plainAt] using q))
  | exn h ih =>
    intro i q
    cases i with
    | zero => exact hw h
    | succ i => exact .exn (ih (by simpa [plainAt] using q))
  | v r h ih =>
    intro i q
    cases i with
    | zero => exact hw h
    | succ i => exact .v r (ih (by simpa [plainAt] using q))
  | own o n h ih =>
    intro i q
    cases i with
    | zero => simp [plainAt] at q
    | succ i => exact .own o n (ih (by simpa [plainAt] using q))
  | io o n h ih =>
    intro i q
    cases i with
    | zero => simp [plainAt] at q
    | succ i => exact .io o n (ih (by simpa [plainAt] using q))
theorem SR.setUn {K : Fg} {P : Addr} {B H : Hp} {N M : List Addr} {σ : St} {e : Env} {w : Option V} {i : Nat} (s : SR K P B N M H σ e) (q : plainAt e i = true) : SR K P B N M H (σ.set i w) (e.set i .un) := ⟨s.ex, s.al, s.dj, s.er.setP (fun h => .un h) q⟩
theorem SR.setExn {K : Fg} {P : Addr} {B H : Hp} {N M : List Addr} {σ : St} {e : Env} {c : Exc} {i : Nat} (s : SR K P B N M H σ e) (q : plainAt e i = true) : SR K P B N M H (σ.set i (some (.ref P))) (e.set i (.exn c)) := ⟨s.ex, s.al, s.dj, s.er.setP (fun h => .exn h) q⟩
theorem SR.setVx {K : Fg} {P : Addr} {B H : Hp} {N M : List Addr} {σ : St} {e : Env} {v : V} {d : D} {i : Nat} (s : SR K P B N M H σ e) (r : Rep K (mask H (M ++ N)) v d) (q : plainAt e i = true) : SR K P B N M H (σ.set i (some v)) (e.set i (.v d)) := ⟨s.ex, s.al, s.dj, s.er.setP (fun h => .v r h) q⟩
section
variable {X : Cx} {XC : Nat → Addr} {W : WX} {P : Addr} {pos : Pos}
def sRaise (k : Nat) : SSem := fun e => .exc ⟨k, none⟩ e
theorem psd_raise {ex : Expr} {k : Nat} (hc : X.calm = true) (tk : Takes X W) (he : PMk X ex (fun _ H Q => Q (.ref (XC k)) none H)) : PS X (.Raise (some ex) none pos) (tDS X.K XC W P (sRaise k)) :=
  (ps_raise hc tk he).dvi fun D' σ H ⟨B, N, M, e, s, h⟩ => h (.ref (XC k)) none σ M H s ⟨rfl, rfl⟩
def sRaiseE (k : Nat) (a : Sem) : SSem := fun e => (a e).out fun _ e' => .exc ⟨k, none⟩ e'
theorem psd_raiseE {ex : Expr} {k : Nat} {a : Sem} (hc : X.calm = true) (tk : Takes X W) (he : PMk X ex (fun σ H Q => tD X.K XC W P a σ H fun _ H1 => Q (.ref (XC k)) none H1)) : PS X (.Raise (some ex) none pos) (tDS X.K XC W P (sRaiseE k a)) :=
  (ps_raise hc tk he).dvi fun D' σ H ⟨B, N, M, e, s, h⟩ => ⟨B, N, M, e, s, (out_of h).imp fun x e' h v H' s' m r => h (.ref (XC k)) none σ M H' s' ⟨rfl, rfl⟩⟩
abbrev W0 : WX := fun _ _ _ _ => False
def noExc : Out → Out
  | .exc _ _ => .bad
  | o => o
theorem noExc_of {K : Fg} {W' W : WX} {P : Addr} {B : Hp} {N : List Addr} {D' : Ends} {o : Out} (h : After K XC W P B N D' (noExc o)) : After K XC W' P B N D' o := by
  cases o with
  | exc c e => exact h.elim
  | nx e => exact h
  | rt x e => exact h
  | brk e => exact h
  | cnt e => exact h
  | bad => exact h
/-- try: body except X: suite; m: which own classes the clause takes (of the first n) -/
def sTry (n : Nat) (m : Nat → Bool) (body suite : SSem) : SSem := fun e => match body e with
  | .exc c e' => if c.k < n then (if m c.k = true then noExc (suite e') else .exc c e') else .bad
  | o => o
theorem psd_try {x : Str} {cv : Value} {body suite : List Stmt} {b₀ : Stmt} {np pos' : Pos} {n : Nat} {m : Nat → Bool} {sb ss : SSem} (hs : X.stack = X.env :: X.outer) (hf : X.env.frame = some X.env.locals) (hc : Names X x cv) (tk : Takes X W)
    (hm : ∀ k, k < n → PySem.W.exmOne X.K (.ref (XC k)) cv = some (m k))
    (hb : ∀ (W' : WX) (pn : List (Addr × Obj)) (xe : Value → Shared → Prop), Takes (X.tr pn xe) W' → PassesOwn (model X.prog X.w) X.A X.env xe → PSs (X.tr pn xe) body (tDS X.K XC W' P sb))
    (hsu : ∀ (a : Addr) (oe : Obj) (cls : Value) (d : Option Addr) (pn : List (Addr × Obj)), Zc cls d oe → (∃ vs, oe.data = .fields vs) → PSs (X.suite a ((a, oe) :: pn)) (b₀ :: suite) (tDS X.K XC W0 P ss)) :
    PS X (.Try body [.ExceptHandler (some (.Name x np)) none (b₀ :: suite) pos'] [] [] pos) (tDS X.K XC W P (sTry n m sb ss)) :=
  (ps_try_only (ts := fun _ _ _ => tDS X.K XC W0 P ss) (tb := fun W' => tDS X.K XC W' P sb) hs hf hc tk hb hsu).dvi fun D' σ H ⟨B, N, M, e, s, h⟩ => by
    refine ⟨B, N, M, e, s, ?_⟩
    unfold sTry at h
    cases hs : sb e with
    | nx e' => rw [hs] at h; exact h
    | rt y e' => rw [hs] at h; exact h
    | brk e' => rw [hs] at h; exact h
    | cnt e' => rw [hs] at h; exact h
    | bad => rw [hs] at h; exact h
    | exc c e' =>
      rw [hs] at h
      simp only at h
      intro cls dd σ' M' H' s' x
      by_cases hk : c.k < n
      · rw [if_pos hk] at h
        refine ⟨m c.k, by rw [x.1]; exact hm _ hk, fun hmt a ha => ?_, fun hmf => ?_⟩
        · rw [if_pos hmt] at h
          exact ⟨B, N, M', e', s', noExc_of h⟩
        · rw [if_neg (by rw [hmf]; exact Bool.false_ne_true)] at h
          exact h cls dd σ' M' H' s' x
      · rw [if_neg hk] at h
        exact h.elim
/-- try: body except X as n: suite; n in slot i -/
def outU (i : Nat) : Out → Out
  | .nx e => if plainAt e i = true ∧ noP (e.set i .un) = true then .nx (e.set i .un) else .bad
  | .rt (.val d) e => if plainAt e i = true ∧ noP (e.set i .un) = true then .rt (.val d) (e.set i .un) else .bad
  | _ => .bad
def sTryAs (n : Nat) (m : Nat → Bool) (i : Nat) (body : SSem) (suite : Nat → SSem) : SSem := fun e => match body e with
  | .exc c e' => if c.k < n then (if m c.k = true then (if c.arg.isNone = true ∧ noP e' = true ∧ plainAt e' i = true then outU i (suite c.k (e'.set i (.exn c))) else .bad) else .exc c e') else .bad
  | o => o
theorem psd_tryAs {x n : Str} {cv : Value} {i : Nat} {body suite : List Stmt} {b₀ : Stmt} {np pos' : Pos} {nK : Nat} {m : Nat → Bool} {sb : SSem} {ss : Nat → SSem} (hs : X.stack = X.env :: X.outer) (hf : X.env.frame = some X.env.locals) (hN : X.N.Nodup) (hi : X.N[i]? = some n) (hln : X.env.kindOf n = some .local) (hc : Names X x cv) (tk : Takes X W)
    (hm : ∀ k, k < nK → PySem.W.exmOne X.K (.ref (XC k)) cv = some (m k))
    (hb : ∀ (W' : WX) (pn : List (Addr × Obj)) (xe : Value → Shared → Prop), Takes (X.tr pn xe) W' → PassesOwn (model X.prog X.w) X.A X.env xe → PSs (X.tr pn xe) body (tDS X.K XC W' P sb))
    (hsu : ∀ (k : Nat), k < nK → m k = true → ∀ (a : Addr) (oe : Obj) (pn : List (Addr × Obj)), Zc (.ref (XC k)) none oe → (∃ vs, oe.data = .fields vs) → PSs (X.suite a ((a, oe) :: pn)) (b₀ :: suite) (tDS X.K XC W0 a (ss k))) :
    PS X (.Try body [.ExceptHandler (some (.Name x np)) (some n) (b₀ :: suite) pos'] [] [] pos) (tDS X.K XC W P (sTryAs nK m i sb ss)) :=
  (ps_try_as (ts := fun a cls d D σ H => ∃ k, k < nK ∧ m k = true ∧ cls = .ref (XC k) ∧ d = none ∧ tDS X.K XC W0 a (ss k) D σ H) (tb := fun W' => tDS X.K XC W' P sb) hs hf hN hi hln hc tk hb
    (fun a oe cls d pn hz hfl => ⟨fun pins s σ H D' I h => by
      obtain ⟨k, hk, hmk, rfl, rfl, h⟩ := h
      exact (hsu k hk hmk a oe pn hz hfl).run pins s σ H D' I h⟩)).dvi fun D' σ H ⟨B, N, M, e, s, h⟩ => by
    refine ⟨B, N, M, e, s, ?_⟩
    unfold sTryAs at h
    cases hs : sb e with
    | nx e' => rw [hs] at h; exact h
    | rt y e' => rw [hs] at h; exact h
    | brk e' => rw [hs] at h; exact h
    | cnt e' => rw [hs] at h; exact h
    | bad => rw [hs] at h; exact h
    | exc c e' =>
      rw [hs] at h
      simp only at h
      intro cls dd σ' M' H' s' x
      by_cases hk : c.k < nK
      · rw [if_pos hk] at h
        refine ⟨m c.k, by rw [x.1]; exact hm _ hk, fun hmt a ha => ?_, fun hmf => ?_⟩
        · rw [if_pos hmt] at h
          by_cases hq : c.arg.isNone = true ∧ noP e' = true ∧ plainAt e' i = true
          · rw [if_pos hq] at h
            obtain ⟨q1, q2, q3⟩ := hq
            have hd : dd = none := by
              have x2 := x.2
              cases hca : c.arg with
              | none => rw [hca] at x2; exact x2
              | some _ => rw [hca] at q1; cases q1
            refine ⟨c.k, hk, hmt, x.1, hd, B, N, M', e'.set i (.exn c), (s'.chP q2 (P' := a)).setExn q3, ?_⟩
            cases ho : ss c.k (e'.set i (.exn c)) with
            | nx e2 =>
              rw [ho] at h
              simp only [outU] at h
              by_cases hp : plainAt e2 i = true ∧ noP (e2.set i .un) = true
              · rw [if_pos hp] at h
                intro σ2 M2 H2 s2
                exact h _ M2 H2 ((s2.setUn hp.1).chP hp.2)
              · rw [if_neg hp] at h
                exact h.elim
            | rt y e2 =>
              rw [ho] at h
              cases y with
              | slot _ => exact h.elim
              | val d =>
                simp only [outU] at h
                by_cases hp : plainAt e2 i = true ∧ noP (e2.set i .un) = true
                · rw [if_pos hp] at h
                  intro v σ2 M2 H2 s2 rv
                  exact h v _ M2 H2 ((s2.setUn (w := none) hp.1).chP hp.2) rv
                · rw [if_neg hp] at h
                  exact h.elim
            | brk e2 => rw [ho] at h; exact h.elim
            | cnt e2 => rw [ho] at h; exact h.elim
            | exc _ e2 => rw [ho] at h; exact h.elim
            | bad => rw [ho] at h; exact h.elim
          · rw [if_neg hq] at h
            exact h.elim
        · rw [if_neg (by rw [hmf]; exact Bool.false_ne_true)] at h
          exact h cls dd σ' M' H' s' x
      · rw [if_neg hk] at h
        exact h.elim
/-- isinstance(n, T) of the exception that the suite holds -/
def dIsE (i : Nat) (b : Bool) : Sem := fun e => match e[i]? with
  | some (.exn _) => .ok (.val (.bl b)) e
  | _ => .bad
theorem ER.getExn {K : Fg} {P : Addr} {Hm H : Hp} {M : List Addr} {σ : St} {e : Env} (h : ER K P Hm H M σ e) : ∀ {i : Nat} {c : Exc}, e[i]? = some (.exn c) → σ[i]? = some (some (.ref P)) := by
  induction h with
  | nil => intro i c q; simp at q
  | exn h ih => intro i c q; cases i with
    | zero => rfl
    | succ i => simpa using ih (i := i) (c := c) (by simpa using q)
  | un h ih => intro i c q; cases i with
    | zero => simp at q
    | succ i => simpa using ih (i := i) (c := c) (by simpa using q)
  | v r h ih => intro i c q; cases i with
    | zero => simp at q
    | succ i => simpa using ih (i := i) (c := c) (by simpa using q)
  | own o n h ih => intro i c q; cases i with
    | zero => simp at q
    | succ i => simpa using ih (i := i) (c := c) (by simpa using q)
  | io o n h ih => intro i c q; cases i with
    | zero => simp at q
    | succ i => simpa using ih (i := i) (c := c) (by simpa using q)
theorem pd_isE {a D0 : Addr} {oe : Obj} {pn : List (Addr × Obj)} {i : Nat} {b : Bool} {en ec : Expr} {v : V} {cv : Value} {p : Pos} (C : ExcC X.K D0) (hz : Zc (.ref D0) none oe) (hf : ∃ vs, oe.data = .fields vs)
    (hg : Gl (X.suite a ((a, oe) :: pn)) "isinstance") (hm : X.mg "isinstance" = none) (hn : PE (X.suite a ((a, oe) :: pn)) en (tVar i)) (hc : PE (X.suite a ((a, oe) :: pn)) ec (tC v)) (hv : ∀ u, RelV v u → u = cv) (hk : PySem.W.kitOne X.K (.ref D0) cv = some b)
    (he : starEach [en, ec] (X.suite a ((a, oe) :: pn)).env = (false, eval en (X.suite a ((a, oe) :: pn)).env) :: starEach [ec] (X.suite a ((a, oe) :: pn)).env := by rfl) (he2 : starEach [ec] (X.suite a ((a, oe) :: pn)).env = (false, eval ec (X.suite a ((a, oe) :: pn)).env) :: starEach [] (X.suite a ((a, oe) :: pn)).env := by rfl)
    (hpl : (backTo pos (starEach [ec] (X.suite a ((a, oe) :: pn)).env)).any (·.1) = false := by rfl) :
    PE (X.suite a ((a, oe) :: pn)) (.Call (.Name "isinstance" p) [en, ec] [] pos) (tD X.K XC W a (dIsE i b)) :=
  (pe_callB (id := "isinstance") (call_isE C hz hf) hg hm (by decide +kernel) (pa_cons hn (pa_cons hc pa_nil he2) he) (by decide) (by decide) he hpl).dvi fun σ H Q ⟨B, N, M, e, s, h⟩ => by
    unfold dIsE at h
    cases hq : e[i]? with
    | none => rw [hq] at h; exact h.elim
    | some w =>
      rw [hq] at h
      cases w with
      | exn c => exact ⟨_, s.er.getExn hq, v, cv, b, rfl, hv, hk, h _ H s (fun _ _ z => z) (.bl b)⟩
      | _ => exact h.elim
end
end Dv

set_option maxRecDepth 100000
set_option maxHeartbeats 1000000
namespace Dv
open PySem L2
/-! ### comprehensions -/
theorem _root_.L2.PTs.dvi {X : Cx} {e : List Expr} {t t' : TT} (h : PTs X e t) (i : ∀ σ H Q, t' σ H Q → t σ H Q) : PTs X e t' := ⟨fun pins s σ H Q I q => h.run pins s σ H Q I (i σ H Q q)⟩
def nox {α : Type} (r : R α) : R α := match r with
  | .exc _ _ => .bad
  | r => r
theorem nox_of {α : Type} {r : R α} {C : α → Env → Prop} {E E' : Exc → Env → Prop} (h : Hold (nox r) C E) : Hold r C E' := by
  cases r with
  | ok a e => exact h
  | exc c e => exact h.elim
  | bad => exact h
/-- the names of a block, wiped -/
def clearE : List Nat → Env → Option Env
  | [], e => some e
  | i :: r, e => if plainAt e i = true then clearE r (e.set i .un) else none
def allUn (vs : List Nat) (e : Env) : Bool := vs.all fun i => match e[i]? with
  | some .un => true
  | _ => false
mutual
def putX : Tgt → D → Env → Option Env
  | .nm i, d, e => if plainAt e i = true then some (e.set i (.v d)) else none
  | .tup ts, .tup ds, e => putXs ts ds e
  | .tup _, _, _ => none
def putXs : List Tgt → List D → Env → Option Env
  | [], [], e => some e
  | t :: ts, d :: ds, e => (putX t d e).bind fun e' => putXs ts ds e'
  | _, _, _ => none
end
mutual
def slotsT : Tgt → List Nat
  | .nm i => [i]
  | .tup ts => slotsTs ts
def slotsTs : List Tgt → List Nat
  | [] => []
  | t :: ts => slotsT t ++ slotsTs ts
end
theorem wipe_get (σ : St) (j : Nat) : ∀ vs : List Nat, (wipe σ vs)[j]? = if j ∈ vs then (σ[j]?).map (fun _ => none) else σ[j]?
  | [] => by simp [wipe]
  | v :: vs => by
    unfold wipe
    by_cases e : v = j
    · subst e
      by_cases hv : v < (wipe σ vs).length
      · rw [List.getElem?_set_self hv, if_pos List.mem_cons_self]
        rw [wipe_length] at hv
        simp [hv]
      · rw [List.getElem?_eq_none (by simpa using hv), if_pos List.mem_cons_self]
        rw [wipe_length] at hv
        rw [List.getElem?_eq_none (by omega)]
        rfl
    · rw [List.getElem?_set_ne e, wipe_get σ j vs]
      by_cases h : j ∈ vs
      · rw [if_pos h, if_pos (List.mem_cons_of_mem _ h)]
      · rw [if_neg h, if_neg (fun z => (List.mem_cons.mp z).elim (fun z => e z.symm) h)]
theorem wipe_set {σ : St} {i : Nat} {x : Option V} {vs : List Nat} (h : i ∈ vs) : wipe (σ.set i x) vs = wipe σ vs := by
  apply List.ext_getElem?
  intro j
  rw [wipe_get, wipe_get]
  by_cases hj : j ∈ vs
  · rw [if_pos hj, if_pos hj]
    by_cases e : i = j
    · subst e
      by_cases hl : i < σ.length
      · rw [List.getElem?_set_self hl]
        simp [hl]
      · rw [List.getElem?_eq_none (by simpa using hl), List.getElem?_eq_none (by omega)]
    · rw [List.getElem?_set_ne e]
  · rw [if_neg hj, if_neg hj, List.getElem?_set_ne (fun (z : i = j) => hj (by rw [← z]; exact h))]
theorem wipe_wipe {σ : St} {vs : List Nat} : wipe (wipe σ vs) vs = wipe σ vs := by
  apply List.ext_getElem?
  intro j
  rw [wipe_get, wipe_get]
  by_cases hj : j ∈ vs
  · rw [if_pos hj]
    cases σ[j]? <;> simp [hj]
  · rw [if_neg hj]
theorem ER.other {K : Fg} {P : Addr} {Hm H : Hp} {M : List Addr} {σ σ' : St} {e : Env} (h : ER K P Hm H M σ e) (hl : σ'.length = σ.length) (hg : ∀ i : Nat, e[i]? ≠ some Sl.un → σ'[i]? = σ[i]?) : ER K P Hm H M σ' e := by
  induction h generalizing σ' with
  | nil =>
    cases σ' with
    | nil => exact .nil
    | cons _ _ => simp at hl
  | un h ih =>
    cases σ' with
    | nil => simp at hl
    | cons w σ' => exact .un (ih (by simpa using hl) fun i q => by simpa using hg (i + 1) (by simpa using q))
  | exn h ih =>
    cases σ' with
    | nil => simp at hl
    | cons w σ' =>
      have := hg 0 (by simp)
      simp at this
      subst this
      exact .exn (ih (by simpa using hl) fun i q => by simpa using hg (i + 1) (by simpa using q))
  | v r h ih =>
    cases σ' with
    | nil => simp at hl
    | cons w σ' =>
      have := hg 0 (by simp)
      simp at this
      subst this
      exact .v r (ih (by simpa using hl) fun i q => by simpa using hg (i + 1) (by simpa using q))
  | own o n h ih =>
    cases σ' with
    | nil => simp at hl
    | cons w σ' =>
      have := hg 0 (by simp)
      simp at this
      subst this
      exact .own o n (ih (by simpa using hl) fun i q => by simpa using hg (i + 1) (by simpa using q))
  | io o n h ih =>
    cases σ' with
    | nil => simp at hl
    | cons w σ' =>
      have := hg 0 (by simp)
      simp at this
      subst this
      exact .io o n (ih (by simpa using hl) fun i q => by simpa using hg (i + 1) (by simpa using q))
theorem allUn_of {vs : List Nat} {e : Env} (h : allUn vs e = true) {i : Nat} (hi : i ∈ vs) : e[i]? = some Sl.un := by
  have := List.all_eq_true.mp h i hi
  cases q : e[i]? with
  | none => rw [q] at this; cases this
  | some w =>
    rw [q] at this
    cases w with
    | un => rfl
    | _ => cases this
section
variable {K : Fg} {P : Addr} {B H : Hp} {N M : List Addr} {σ : St} {e : Env}
theorem SR.toWipe {vs : List Nat} (s : SR K P B N M H σ e) (h : allUn vs e = true) : SR K P B N M H (wipe σ vs) e :=
  ⟨s.ex, s.al, s.dj, s.er.other (wipe_length σ vs) fun i q => by
    rw [wipe_get]
    rw [if_neg fun z => q (allUn_of h z)]⟩
theorem SR.unWipe {vs : List Nat} (s : SR K P B N M H (wipe σ vs) e) (h : allUn vs e = true) : SR K P B N M H σ e :=
  ⟨s.ex, s.al, s.dj, s.er.other (wipe_length σ vs).symm fun i q => by
    rw [wipe_get]
    rw [if_neg fun z => q (allUn_of h z)]⟩
theorem SR.clear : ∀ {vs : List Nat} {σ : St} {e e' : Env}, SR K P B N M H σ e → clearE vs e = some e' → ∃ σ', SR K P B N M H σ' e' ∧ wipe σ' vs = wipe σ vs ∧ σ'.length = σ.length ∧ ∀ j, j ∉ vs → σ'[j]? = σ[j]?
  | [], σ, e, e', s, h => by injection h with h; subst h; exact ⟨σ, s, rfl, rfl, fun _ _ => rfl⟩
  | i :: vs, σ, e, e', s, h => by
    unfold clearE at h
    by_cases q : plainAt e i = true
    · rw [if_pos q] at h
      obtain ⟨σ', s', h1, h2, h3⟩ := SR.clear (s.setUn (w := none) q) h
      refine ⟨σ', s', ?_, by rw [h2, List.length_set], fun j hj => ?_⟩
      · apply List.ext_getElem?
        intro j
        rw [wipe_get, wipe_get]
        by_cases hj : j ∈ i :: vs
        · rw [if_pos hj, if_pos hj]
          have hl : σ'.length = σ.length := by rw [h2, List.length_set]
          by_cases hlt : j < σ.length
          · rw [List.getElem?_eq_getElem hlt, List.getElem?_eq_getElem (by omega)]
            rfl
          · rw [List.getElem?_eq_none (by omega), List.getElem?_eq_none (by omega)]
        · rw [if_neg hj, if_neg hj, h3 j fun z => hj (List.mem_cons_of_mem _ z), List.getElem?_set_ne (fun (z : i = j) => hj (by rw [← z]; exact List.mem_cons_self))]
      · rw [h3 j fun z => hj (List.mem_cons_of_mem _ z), List.getElem?_set_ne (fun (z : i = j) => hj (by rw [← z]; exact List.mem_cons_self))]
    · rw [if_neg q] at h
      cases h
theorem clear_un : ∀ {vs : List Nat} {e e' : Env}, clearE vs e = some e' → (∀ i : Nat, e[i]? = some Sl.un → e'[i]? = some Sl.un) ∧ ∀ i ∈ vs, e'[i]? = some Sl.un
  | [], e, e', h => by injection h with h; subst h; exact ⟨fun _ z => z, fun _ z => nomatch z⟩
  | i :: vs, e, e', h => by
    unfold clearE at h
    by_cases q : plainAt e i = true
    · rw [if_pos q] at h
      obtain ⟨h1, h2⟩ := clear_un h
      have hi : i < e.length := by
        unfold plainAt at q
        cases z : e[i]? with
        | none => rw [z] at q; cases q
        | some _ => exact (List.getElem?_eq_some_iff.mp z).1
      refine ⟨fun j hj => h1 j ?_, fun j hj => ?_⟩
      · by_cases z : i = j
        · subst z
          rw [List.getElem?_set_self hi]
        · rw [List.getElem?_set_ne z]
          exact hj
      · rcases List.mem_cons.mp hj with z | z
        · subst z
          exact h1 _ (by rw [List.getElem?_set_self hi])
        · exact h2 j z
    · rw [if_neg q] at h
      cases h
theorem clear_all {vs : List Nat} {e e' : Env} (h : clearE vs e = some e') : allUn vs e' = true := by
  unfold allUn
  rw [List.all_eq_true]
  intro i hi
  rw [(clear_un h).2 i hi]
/-- an object out of sight written -/
theorem SR.updN {p : Addr} {o : HO} (s : SR K P B (p :: N) M H σ e) (hB : B p = none) : SR K P B (p :: N) M (upd H p o) σ e := by
  have np : p ∉ M := fun z => s.dj p z List.mem_cons_self
  have e1 : mask (upd H p o) (M ++ p :: N) = mask H (M ++ p :: N) := Same.upd_mask (List.mem_append_right _ List.mem_cons_self)
  refine ⟨fun a u z => ?_, fun q hq => ?_, s.dj, by rw [e1]; exact s.er.mono (fun _ _ z => z) fun q hq => upd_ne fun z => np (z ▸ hq)⟩
  · obtain ⟨z1, z2⟩ := mask_some (s.ex a u z)
    have ne : a ≠ p := fun w => by rw [w, hB] at z; cases z
    rw [mask_out z2, upd_ne ne]
    exact z1
  · by_cases z : q = p
    · subst z
      exact ⟨_, upd_same⟩
    · rw [upd_ne z]
      exact s.al q hq
end
/-- the reading of a block's target -/
def gX (K : Fg) (P : Addr) (t : Tgt) : TG := fun v σ H Q => ∃ B N M e d e', SR K P B N M H σ e ∧ Rep K (mask H (M ++ N)) v d ∧ putX t d e = some e' ∧ ∀ σ', SR K P B N M H σ' e' → (∀ vs : List Nat, (∀ i ∈ slotsT t, i ∈ vs) → wipe σ' vs = wipe σ vs) → Q σ' H
def gXs (K : Fg) (P : Addr) (ts : List Tgt) : TGs := fun vs σ H Q => ∃ B N M e ds e', SR K P B N M H σ e ∧ Reps K (mask H (M ++ N)) vs ds ∧ putXs ts ds e = some e' ∧ ∀ σ', SR K P B N M H σ' e' → (∀ vs : List Nat, (∀ i ∈ slotsTs ts, i ∈ vs) → wipe σ' vs = wipe σ vs) → Q σ' H
section
variable {X : Cx} {XC : Nat → Addr} {W : WX} {P : Addr} {pos : Pos}
theorem pgx_name {i : Nat} {x : Str} (hN : X.N.Nodup) (hi : X.N[i]? = some x) (hx : Loc X.env.scope x) (hf : X.fn x = true ∨ X.env.scope.names.lookup x = some .local := by first | exact .inl rfl | exact .inr rfl | assumption) : PG X (.Name x pos) (gX X.K P (.nm i)) :=
  (pg_name hN hi hx hf).dvi fun v σ H Q ⟨B, N, M, e, d, e', s, r, h, k⟩ => by
    have h : (if plainAt e i = true then some (e.set i (.v d)) else none) = some e' := h
    by_cases q : plainAt e i = true
    · rw [if_pos q] at h
      injection h with h
      subst h
      exact k _ (s.setVx r q) fun vs hv => wipe_set (hv i (by simp [slotsT]))
    · rw [if_neg q] at h
      cases h
theorem pgxs_nil : PGs X [] (gXs X.K P []) := pgs_nil.dvi fun vs σ H Q ⟨B, N, M, e, ds, e', s, r, h, k⟩ => by
  cases r with
  | nil =>
    injection h with h
    subst h
    exact ⟨rfl, k σ s fun _ _ => rfl⟩
  | cons _ _ => cases h
theorem pgxs_cons {e : Expr} {es : List Expr} {t : Tgt} {u : List Tgt} (h1 : PG X e (gX X.K P t)) (h2 : PGs X es (gXs X.K P u))
    (hs : (assignEach (e :: es) X.env).map (·.2) = assign e X.env :: (assignEach es X.env).map (·.2) := by rfl) : PGs X (e :: es) (gXs X.K P (t :: u)) := (pgs_cons h1 h2 hs).dvi fun vs σ H Q ⟨B, N, M, e, ds, e', s, r, h, k⟩ => by
  cases r with
  | nil => cases h
  | @cons v vs d ds rv rs =>
    have h : (putX t d e).bind (fun e' => putXs u ds e') = some e' := h
    cases q : putX t d e with
    | none => rw [q] at h; cases h
    | some e1 =>
      rw [q] at h
      have h : putXs u ds e1 = some e' := h
      refine ⟨v, vs, rfl, B, N, M, e, d, e1, s, rv, q, fun σ1 s1 w1 => ⟨B, N, M, e1, ds, e', s1, rs, h, fun σ2 s2 w2 => k σ2 s2 fun vs hv => ?_⟩⟩
      rw [w2 vs fun i hi => hv i (by simp [slotsTs, hi]), w1 vs fun i hi => hv i (by simp [slotsTs, hi])]
theorem pgx_tup {es : List Expr} {k : Nat} {t : List Tgt} (hc : X.calm = true) (h : PGs X es (gXs X.K P t))
    (hl : (assignEach es X.env).length = t.length := by rfl) (hst : (assignEach es X.env).findIdx? (·.1) = none := by rfl) : PG X (.Tuple es k pos) (gX X.K P (.tup t)) := (pg_tup (n := t.length) hc h hl hst).dvi fun v σ H Q ⟨B, N, M, e, d, e', s, r, h, k⟩ => by
  cases r with
  | @tup a vs ds h1 h2 =>
    have h : putXs t ds e = some e' := h
    have hlen : ∀ {t : List Tgt} {ds : List D} {e e' : Env}, putXs t ds e = some e' → ds.length = t.length := by
      intro t
      induction t with
      | nil => intro ds e e' h; cases ds with
        | nil => rfl
        | cons d ds => cases h
      | cons t ts ih => intro ds e e' h; cases ds with
        | nil => cases h
        | cons d ds =>
          have h : (putX t d e).bind (fun e' => putXs ts ds e') = some e' := h
          cases q : putX t d e with
          | none => rw [q] at h; cases h
          | some e1 => rw [q] at h; exact congrArg (· + 1) (ih h)
    exact ⟨a, vs, rfl, .of (mask_le _ _ h1), by rw [h2.length]; exact hlen h, B, N, M, e, ds, e', s, h2, h, fun σ' s' w => k σ' s' fun vs hv => w vs fun i hi => hv i (by simpa [slotsT] using hi)⟩
  | _ => cases h
def dYes : Env → R Bool := fun e => .ok true e
theorem ptsd_nil : PTs X [] (tDT X.K XC W P dYes) := pts_nil.dvi fun σ H Q ⟨B, N, M, e, s, h⟩ => h H s (fun _ _ z => z)
theorem ptsd_one {c : Expr} {t : Env → R Bool} (h : PT X c (tDT X.K XC W P t)) : PTs X [c] (tDT X.K XC W P t) := pts_one h
/-- one turn, then k -/
def lcTurn (own : List Nat) (t : Tgt) (test : Env → R Bool) (se : Sem) (d : D) (e : Env) (acc : List D) (k : Env → List D → R D) : R D := match putX t d e with
  | none => .bad
  | some e1 => (nox (test e1)).bind fun b e2 => if b = true then ((nox (se e2)).bind fun x e3 => match x with
      | .val z => if acc.length < sizeLine then (match clearE own e3 with
        | some e4 => k e4 (acc ++ [z])
        | none => .bad) else .bad
      | .slot _ => .bad) else (match clearE own e2 with
        | some e4 => k e4 acc
        | none => .bad)
def lcL (own : List Nat) (t : Tgt) (test : Env → R Bool) (se : Sem) : List D → Env → List D → R D
  | [], e, acc => .ok (.lst acc) e
  | d :: ds, e, acc => lcTurn own t test se d e acc fun e' acc' => lcL own t test se ds e' acc'
/-- what stands between two turns -/
structure LcAt (K : Fg) (P : Addr) (B1 : Hp) (N M : List Addr) (σ : St) (own : List Nat) (Dl : Addr) (H : Hp) (e : Env) (acc : List D) : Prop where
  sr : SR K P B1 (Dl :: N) M H (wipe σ own) e
  un : allUn own e = true
  at_ : ∃ ws, H Dl = some (.lst ws) ∧ Reps K (mask H (M ++ Dl :: N)) ws acc
theorem lc_turn {K : Fg} {P : Addr} {B1 : Hp} {N M : List Addr} {σ : St} {own : List Nat} {Dl : Addr} {H : Hp} {e : Env} {acc : List D} {t : Tgt} {test : Env → R Bool} {se : Sem} {d : D} {x : V} {k : Env → List D → R D} {C : D → Env → Prop} {E : Exc → Env → Prop} {Nx : Hp → Prop}
    (L : LcAt K P B1 N M σ own Dl H e acc) (hB : B1 Dl = none) (ht : ∀ i ∈ slotsT t, i ∈ own) (r : Rep K (mask H (M ++ Dl :: N)) x d) (h : Hold (lcTurn own t test se d e acc k) C E)
    (hn : ∀ e' acc' H', LcAt K P B1 N M σ own Dl H' e' acc' → Hold (k e' acc') C E → Nx H') :
    gX K P t x (wipe σ own) H fun σ2 H2 => wipe σ2 own = wipe σ own ∧ tDT K XC W0 P test σ2 H2 fun b H3 =>
      if b = true then tD K XC W0 P se σ2 H3 fun y H4 => ∃ acc, H4 Dl = some (.lst acc) ∧ acc.length < sizeLine ∧ Nx (upd H4 Dl (.lst (acc ++ [y]))) else Nx H3 := by
  unfold lcTurn at h
  cases q : putX t d e with
  | none => rw [q] at h; exact h.elim
  | some e1 =>
    rw [q] at h
    obtain ⟨s, hu, ws, hw, hr⟩ := L
    have nDM : ∀ {M' : List Addr}, (∀ p ∈ M', p ∉ Dl :: N) → Dl ∉ M' := fun hd z => hd Dl z List.mem_cons_self
    have keep : ∀ {H' : Hp}, Same (mask H M) (mask H' M) → H' Dl = some (.lst ws) ∧ Reps K (mask H' (M ++ Dl :: N)) ws acc := fun {H'} m => by
      refine ⟨(mask_some (m Dl _ (by rw [mask_out (nDM s.dj)]; exact hw))).1, hr.mono fun a o z => ?_⟩
      obtain ⟨z1, z2⟩ := mask_some z
      have := m a o (by rw [mask_out fun w => z2 (List.mem_append_left _ w)]; exact z1)
      rw [mask_out z2]
      exact (mask_some this).1
    refine ⟨B1, Dl :: N, M, e, d, e1, s, r, q, fun σ2 s2 w2 => ⟨by rw [w2 own ht, wipe_wipe], B1, Dl :: N, M, e1, s2, ?_⟩⟩
    have fin : ∀ {σ3 : St} {H3 : Hp} {e3 e4 : Env} {acc' : List D} {ws' : List V}, SR K P B1 (Dl :: N) M H3 σ3 e3 → σ3 = σ2 → clearE own e3 = some e4 → H3 Dl = some (.lst ws') → Reps K (mask H3 (M ++ Dl :: N)) ws' acc' → LcAt K P B1 N M σ own Dl H3 e4 acc' := fun {σ3 H3 e3 e4 acc' ws'} s3 eq hc h5 h6 => by
      subst eq
      obtain ⟨σ4, s4, w4, _, _⟩ := s3.clear hc
      have : wipe σ4 own = wipe σ own := by rw [w4, w2 own ht, wipe_wipe]
      exact ⟨by rw [← this]; exact s4.toWipe (clear_all hc), clear_all hc, ws', h5, h6⟩
    refine (nox_of (Hold.bind h)).imp fun b e2 h2 H3 s3 m3 => ?_
    cases b with
    | false =>
      rw [if_neg Bool.false_ne_true] at h2 ⊢
      cases hc : clearE own e2 with
      | none => rw [hc] at h2; exact h2.elim
      | some e4 =>
        rw [hc] at h2
        obtain ⟨k1, k2⟩ := keep m3
        exact hn e4 acc H3 (fin s3 rfl hc k1 k2) h2
    | true =>
      rw [if_pos rfl] at h2 ⊢
      refine ⟨B1, Dl :: N, M, e2, s3, (nox_of (Hold.bind h2)).imp fun y e3 h3 v H4 s4 m4 rv => ?_⟩
      cases y with
      | slot _ => exact h3.elim
      | val z =>
        simp only at h3
        by_cases hl : acc.length < sizeLine
        · rw [if_pos hl] at h3
          cases hc : clearE own e3 with
          | none => rw [hc] at h3; exact h3.elim
          | some e4 =>
            rw [hc] at h3
            obtain ⟨k1, k2⟩ := keep (Same.trans' m3 m4)
            refine ⟨ws, k1, by rw [k2.length]; exact hl, hn e4 (acc ++ [z]) _ (fin (s4.updN hB) rfl hc upd_same ?_) h3⟩
            rw [Same.upd_mask (List.mem_append_right _ List.mem_cons_self)]
            exact k2.append (.cons rv .nil)
        · rw [if_neg hl] at h3
          exact h3.elim
/-- the start and the end of a block -/
theorem lc_start {K : Fg} {P : Addr} {B H1 : Hp} {N M : List Addr} {σ : St} {own : List Nat} {Dl : Addr} {e : Env} (s : SR K P B N M H1 σ e) (hD : H1 Dl = none) (hu : allUn own e = true) : LcAt K P (mask H1 M) N M σ own Dl (upd H1 Dl (.lst [])) e [] :=
  ⟨(s.base.newN hD).toWipe hu, hu, [], upd_same, .nil⟩
theorem lc_end {K : Fg} {P : Addr} {B H0 H1 H' : Hp} {N M : List Addr} {σ : St} {own : List Nat} {Dl : Addr} {e e' : Env} {acc : List D} {Q : VK} (s : SR K P B N M H1 σ e) (m : Same (mask H0 M) (mask H1 M)) (hD : H1 Dl = none) (L : LcAt K P (mask H1 M) N M σ own Dl H' e' acc)
    (h : ∀ p H', SR K P B (p :: N) M H' σ e' → p ∉ N → B p = none → Same (mask H0 M) (mask H' M) → OwnAt K (mask H' (M ++ p :: N)) H' p (.lst acc) → Q (.ref p) H') : Q (.ref Dl) H' := by
  obtain ⟨s', hu, ws, hw, hr⟩ := L
  refine h Dl H' ((s'.unWipe hu).weakB s.ex) (fun z => ?_) ?_ (Same.trans' m s'.ex) (.lst hw hr)
  · obtain ⟨o, q⟩ := s.al Dl z
    rw [hD] at q
    cases q
  · cases q : B Dl with
    | none => rfl
    | some o =>
      have := s.same Dl o q
      rw [hD] at this
      cases this
/-- [elt for t in xs if ..], xs a list that is a value -/
def dLc (own : List Nat) (a : Sem) (t : Tgt) (test : Env → R Bool) (se : Sem) : Env → R D := fun e => (a e).bind fun x e1 => match x with
  | .val d => (match itemsD d with
    | some ds => if allUn own e1 = true ∧ (slotsT t).all (own.contains ·) = true then lcL own t test se ds e1 [] else .bad
    | none => .bad)
  | .slot _ => .bad
theorem own_sub {t : Tgt} {own : List Nat} (h : (slotsT t).all (own.contains ·) = true) : ∀ i ∈ slotsT t, i ∈ own := fun i hi => by
  have := List.all_eq_true.mp h i hi
  simpa using this
theorem lc_of {K : Fg} {own : List (Str × Nat)} {t : Tgt} {test : Env → R Bool} {se : Sem} {σ : St} {H : Hp} {Q : VK} {sa : Sem} : tDF K XC W P (dLc (own.map (·.2)) sa t test se) σ H Q → tLc (iList K (tD K XC W P sa)) (gX K P t) (tDT K XC W0 P test) (tD K XC W0 P se) (own.map (·.2)) σ H Q := fun ⟨B, N, M, e, s, h⟩ => by
  refine ⟨B, N, M, e, s, h.bind.imp fun x e1 h1 v H1 s1 m1 r1 => ?_⟩
  cases x with
  | slot _ => exact h1.elim
  | val d =>
    cases q : itemsD d with
    | none => simp only [q] at h1; exact h1.elim
    | some ds =>
      simp only [q] at h1
      by_cases hu : allUn (own.map (·.2)) e1 = true ∧ (slotsT t).all ((own.map (·.2)).contains ·) = true
      · rw [if_pos hu] at h1
        have hx : ∃ a vs, v = .ref a ∧ SqL K (mask H1 M) a vs ∧ Reps K (mask H1 (M ++ N)) vs ds := by
          have r1 : Rep K (mask H1 (M ++ N)) v d := r1
          cases r1 with
          | lst g1 g2 =>
            injection q with q
            subst q
            obtain ⟨h3, h4⟩ := mask_some g1
            exact ⟨_, _, rfl, .of (by rw [mask_out fun z => h4 (List.mem_append_left _ z)]; exact h3), g2⟩
          | scr g1 g2 =>
            injection q with q
            subst q
            exact ⟨_, _, rfl, Same.seq (mask_sub fun p hp => List.mem_append_left _ hp) g1, g2⟩
          | _ => cases q
        obtain ⟨a, vs, rfl, hsq, hr⟩ := hx
        refine ⟨a, rfl, ⟨vs, Same.seq mask_le hsq⟩, fun Dl hD => ?_⟩
        have hB : (mask H1 M) Dl = none := by
          cases z : mask H1 M Dl with
          | none => rfl
          | some o => rw [(mask_some z).1] at hD; cases hD
        refine lc_list (K := K) (a := a) (xs := vs) (fun i H => ∃ e acc, LcAt K P (mask H1 M) N M σ (own.map (·.2)) Dl H e acc ∧ i ≤ ds.length ∧ Hold (lcL (own.map (·.2)) t test se (ds.drop i) e acc) _ _) ⟨e1, [], lc_start s1 hD hu.1, Nat.zero_le _, h1⟩ ?_ ?_ ?_
        · rintro i H' _ ⟨e', acc, L, _, _⟩
          exact Same.seq L.sr.same hsq
        · rintro i y H' hi ⟨e', acc, L, hl, h'⟩
          obtain ⟨dy, hd, ry⟩ := hr.getV hi
          rw [drop_get hd] at h'
          refine lc_turn L hB (own_sub hu.2) (ry.mono fun a o q => ?_) h' fun e2 acc2 H2 L2 h2 => ⟨e2, acc2, L2, (List.getElem?_eq_some_iff.mp hd).1, h2⟩
          obtain ⟨q1, q2⟩ := mask_some q
          have q3 := L.sr.ex a o (by rw [mask_out fun z => q2 (List.mem_append_left _ z)]; exact q1)
          obtain ⟨q4, q5⟩ := mask_some q3
          have : a ≠ Dl := fun z => by rw [z, hD] at q1; cases q1
          rw [mask_out fun z => (List.mem_append.mp z).elim q5 fun z => (List.mem_cons.mp z).elim this fun z => q2 (List.mem_append_right _ z)]
          exact q4
        · rintro H' ⟨e', acc, L, hl, h'⟩
          rw [hr.length, List.drop_length] at h'
          exact lc_end s1 m1 hD L h'
      · rw [if_neg hu] at h1
        exact h1.elim
theorem pd_lc {elt tg iter : Expr} {ifs : List Expr} {scope : Scope} {own : List (Str × Nat)} {sa se : Sem} {t : Tgt} {test : Env → R Bool} (hc : X.calm = true) (hN : X.N.Nodup) (ha : PE X iter (tD X.K XC W P sa)) (ok : BlkOk X.N X.env.scope scope own)
    (hg : ∀ (s : Shared) (H : Hp) (C : Addr) (cl : List (Str × Addr)) (fp : List Addr), PG (X.blk s H scope (compEnvC scope cl C X.env) fp) tg (gX X.K P t))
    (ht : ∀ (s : Shared) (H : Hp) (C : Addr) (cl : List (Str × Addr)) (fp : List Addr), PTs (X.blk s H scope (compEnvC scope cl C X.env) fp) ifs (tDT X.K XC W0 P test))
    (he : ∀ (s : Shared) (H : Hp) (C : Addr) (cl : List (Str × Addr)) (fp : List Addr), PE (X.blk s H scope (compEnvC scope cl C X.env) fp) elt (tD X.K XC W0 P se)) (hs : ∀ x, foldedSetIterable iter X.env x = pure x := by intro _; rfl) :
    PE X (.ListComp elt [⟨tg, iter, ifs, 0⟩] scope pos) (tDF X.K XC W P (dLc (own.map (·.2)) sa t test se)) := (pe_lc hc hN (pi_list ha) ok hg ht he hs).dvi fun σ H Q q => lc_of q
/-- .. over range(a), range(a, b) -/
def dLcR1 (own : List Nat) (a : Env → R (List TV)) (t : Tgt) (test : Env → R Bool) (se : Sem) : Env → R D := fun e => (a e).bind fun xs e1 => match argI1 xs with
  | some j => if lim62 j = true ∧ allUn own e1 = true ∧ (slotsT t).all (own.contains ·) = true then lcL own t test se (rngD 0 j.toNat) e1 [] else .bad
  | none => .bad
def dLcR2 (own : List Nat) (a : Env → R (List TV)) (t : Tgt) (test : Env → R Bool) (se : Sem) : Env → R D := fun e => (a e).bind fun xs e1 => match argI2 xs with
  | some (i, j) => if (lim62 i = true ∧ lim62 j = true) ∧ allUn own e1 = true ∧ (slotsT t).all (own.contains ·) = true then lcL own t test se (rngD i (j - i).toNat) e1 [] else .bad
  | none => .bad
theorem lcR_of {K : Fg} {B H0 H1 : Hp} {N M : List Addr} {σ : St} {own : List Nat} {e1 : Env} {t : Tgt} {test : Env → R Bool} {se : Sem} {lo : Int} {n : Nat} {Q : VK} (s1 : SR K P B N M H1 σ e1) (m1 : Same (mask H0 M) (mask H1 M)) (hu : allUn own e1 = true) (ho : ∀ i ∈ slotsT t, i ∈ own)
    (h : Hold (lcL own t test se (rngD lo n) e1 []) (fun d e' => ∀ p H', SR K P B (p :: N) M H' σ e' → p ∉ N → B p = none → Same (mask H0 M) (mask H' M) → OwnAt K (mask H' (M ++ p :: N)) H' p d → Q (.ref p) H') (ExK K XC W P B N M H0 σ)) (Dl : Addr) (hD : H1 Dl = none) :
    ∃ Wv : Nat → Nat → Hp → Prop, (∃ m, Wv 0 m (upd H1 Dl (.lst []))) ∧ ∀ i m H, Wv i m H →
      ((Itr lo n).stop i H ∧ Q (.ref Dl) H) ∨ ((Itr lo n).go i H ∧ ∃ Nx : Hp → Prop, (∀ H', Nx H' → ∃ m', m' < m ∧ Wv (i + 1) m' H') ∧ ∀ x H', (Itr lo n).yld i H x H' → gX K P t x (wipe σ own) H' fun σ2 H2 => wipe σ2 own = wipe σ own ∧ tDT K XC W0 P test σ2 H2 fun b H3 =>
        if b = true then tD K XC W0 P se σ2 H3 fun y H4 => ∃ acc, H4 Dl = some (.lst acc) ∧ acc.length < sizeLine ∧ Nx (upd H4 Dl (.lst (acc ++ [y]))) else Nx H3) := by
  have hB : (mask H1 M) Dl = none := by
    cases z : mask H1 M Dl with
    | none => rfl
    | some o => rw [(mask_some z).1] at hD; cases hD
  refine lc_range (Qd := fun H => Q (.ref Dl) H) (fun i H => ∃ e acc, LcAt K P (mask H1 M) N M σ own Dl H e acc ∧ i ≤ n ∧ Hold (lcL own t test se ((rngD lo n).drop i) e acc) _ _) ⟨e1, [], lc_start s1 hD hu, Nat.zero_le _, h⟩ ?_ ?_
  · rintro i H' hi ⟨e', acc, L, hl, h'⟩
    rw [drop_get (rngD_get n lo i hi)] at h'
    exact lc_turn L hB ho (.int _) h' fun e2 acc2 H2 L2 h2 => ⟨e2, acc2, L2, hi, h2⟩
  · rintro H' ⟨e', acc, L, hl, h'⟩
    have : (rngD lo n).drop n = [] := List.drop_eq_nil_of_le (by rw [rngD_length]; exact Nat.le_refl _)
    rw [this] at h'
    exact lc_end s1 m1 hD L h'
theorem lcR1_of {K : Fg} {own : List (Str × Nat)} {t : Tgt} {test : Env → R Bool} {se : Sem} {σ : St} {H : Hp} {Q : VK} {sa : Env → R (List TV)} : tDF K XC W P (dLcR1 (own.map (·.2)) sa t test se) σ H Q → tLc (iRng1 (tDA K XC W P sa)) (gX K P t) (tDT K XC W0 P test) (tD K XC W0 P se) (own.map (·.2)) σ H Q := fun ⟨B, N, M, e, s, h⟩ => by
  refine ⟨B, N, M, e, s, h.bind.imp fun xs e1 h1 vs H1 s1 m1 r1 => ?_⟩
  cases q : argI1 xs with
  | none => simp only [q] at h1; exact h1.elim
  | some j =>
    simp only [q] at h1
    by_cases hl : lim62 j = true ∧ allUn (own.map (·.2)) e1 = true ∧ (slotsT t).all ((own.map (·.2)).contains ·) = true
    · rw [if_pos hl] at h1
      exact ⟨j, argI1_of r1 q, (lim62_of hl.1).1, (lim62_of hl.1).2, fun Dl hD => lcR_of s1 m1 hl.2.1 (own_sub hl.2.2) h1 Dl hD⟩
    · rw [if_neg hl] at h1
      exact h1.elim
theorem pd_lcR1 {elt tg a : Expr} {ifs : List Expr} {scope : Scope} {own : List (Str × Nat)} {sa : Env → R (List TV)} {se : Sem} {t : Tgt} {test : Env → R Bool} {q1 q2 : Pos} (hc : X.calm = true) (hN : X.N.Nodup) (hgr : Gl X "range") (hm : X.mg "range" = none) (ha : PA X [a] (tDA X.K XC W P sa)) (ok : BlkOk X.N X.env.scope scope own)
    (hg : ∀ (s : Shared) (H : Hp) (C : Addr) (cl : List (Str × Addr)) (fp : List Addr), PG (X.blk s H scope (compEnvC scope cl C X.env) fp) tg (gX X.K P t))
    (ht : ∀ (s : Shared) (H : Hp) (C : Addr) (cl : List (Str × Addr)) (fp : List Addr), PTs (X.blk s H scope (compEnvC scope cl C X.env) fp) ifs (tDT X.K XC W0 P test))
    (he : ∀ (s : Shared) (H : Hp) (C : Addr) (cl : List (Str × Addr)) (fp : List Addr), PE (X.blk s H scope (compEnvC scope cl C X.env) fp) elt (tD X.K XC W0 P se))
    (hst : starEach [a] X.env = [(false, eval a X.env)] := by rfl) (hs : ∀ x, foldedSetIterable (.Call (.Name "range" q1) [a] [] q2) X.env x = pure x := by intro _; rfl) :
    PE X (.ListComp elt [⟨tg, .Call (.Name "range" q1) [a] [] q2, ifs, 0⟩] scope pos) (tDF X.K XC W P (dLcR1 (own.map (·.2)) sa t test se)) := (pe_lc hc hN (pi_range1 hgr hm ha hst) ok hg ht he hs).dvi fun σ H Q q => lcR1_of q
theorem lcR2_of {K : Fg} {own : List (Str × Nat)} {t : Tgt} {test : Env → R Bool} {se : Sem} {σ : St} {H : Hp} {Q : VK} {sa : Env → R (List TV)} : tDF K XC W P (dLcR2 (own.map (·.2)) sa t test se) σ H Q → tLc (iRng2 (tDA K XC W P sa)) (gX K P t) (tDT K XC W0 P test) (tD K XC W0 P se) (own.map (·.2)) σ H Q := fun ⟨B, N, M, e, s, h⟩ => by
  refine ⟨B, N, M, e, s, h.bind.imp fun xs e1 h1 vs H1 s1 m1 r1 => ?_⟩
  cases q : argI2 xs with
  | none => simp only [q] at h1; exact h1.elim
  | some ij =>
    obtain ⟨i, j⟩ := ij
    simp only [q] at h1
    by_cases hl : (lim62 i = true ∧ lim62 j = true) ∧ allUn (own.map (·.2)) e1 = true ∧ (slotsT t).all ((own.map (·.2)).contains ·) = true
    · rw [if_pos hl] at h1
      exact ⟨i, j, argI2_of r1 q, ⟨(lim62_of hl.1.1).1, (lim62_of hl.1.1).2, (lim62_of hl.1.2).1, (lim62_of hl.1.2).2⟩, fun Dl hD => lcR_of s1 m1 hl.2.1 (own_sub hl.2.2) h1 Dl hD⟩
    · rw [if_neg hl] at h1
      exact h1.elim
theorem pd_lcR2 {elt tg a b : Expr} {ifs : List Expr} {scope : Scope} {own : List (Str × Nat)} {sa : Env → R (List TV)} {se : Sem} {t : Tgt} {test : Env → R Bool} {q1 q2 : Pos} (hc : X.calm = true) (hN : X.N.Nodup) (hgr : Gl X "range") (hm : X.mg "range" = none) (ha : PA X [a, b] (tDA X.K XC W P sa)) (ok : BlkOk X.N X.env.scope scope own)
    (hg : ∀ (s : Shared) (H : Hp) (C : Addr) (cl : List (Str × Addr)) (fp : List Addr), PG (X.blk s H scope (compEnvC scope cl C X.env) fp) tg (gX X.K P t))
    (ht : ∀ (s : Shared) (H : Hp) (C : Addr) (cl : List (Str × Addr)) (fp : List Addr), PTs (X.blk s H scope (compEnvC scope cl C X.env) fp) ifs (tDT X.K XC W0 P test))
    (he : ∀ (s : Shared) (H : Hp) (C : Addr) (cl : List (Str × Addr)) (fp : List Addr), PE (X.blk s H scope (compEnvC scope cl C X.env) fp) elt (tD X.K XC W0 P se))
    (hst : starEach [a, b] X.env = [(false, eval a X.env), (false, eval b X.env)] := by rfl) (hst2 : starEach [b] X.env = [(false, eval b X.env)] := by rfl) (hs : ∀ x, foldedSetIterable (.Call (.Name "range" q1) [a, b] [] q2) X.env x = pure x := by intro _; rfl) :
    PE X (.ListComp elt [⟨tg, .Call (.Name "range" q1) [a, b] [] q2, ifs, 0⟩] scope pos) (tDF X.K XC W P (dLcR2 (own.map (·.2)) sa t test se)) := (pe_lc hc hN (pi_range2 hgr hm ha hst hst2) ok hg ht he hs).dvi fun σ H Q q => lcR2_of q
/-- .. over a list of this frame's, as it stands at each turn -/
def lcS (s : Nat) (own : List Nat) (t : Tgt) (test : Env → R Bool) (se : Sem) : Nat → Nat → Env → List D → R D
  | 0, i, e, acc => (match slotL e s with
    | some ds => if ds.length ≤ i then .ok (.lst acc) e else .bad
    | none => .bad)
  | n + 1, i, e, acc => match slotL e s with
    | some ds => (match ds[i]? with
      | some d => lcTurn own t test se d e acc fun e' acc' => lcS s own t test se n (i + 1) e' acc'
      | none => .ok (.lst acc) e)
    | none => .bad
def dLcS (own : List Nat) (a : Sem) (t : Tgt) (test : Env → R Bool) (se : Sem) : Env → R D := fun e => (a e).bind fun x e1 => match x with
  | .val _ => .bad
  | .slot s => (match slotL e1 s with
    | some ds => if own.contains s = false ∧ allUn own e1 = true ∧ (slotsT t).all (own.contains ·) = true then lcS s own t test se ds.length 0 e1 [] else .bad
    | none => .bad)
theorem lcS_of {K : Fg} {own : List (Str × Nat)} {t : Tgt} {test : Env → R Bool} {se : Sem} {σ : St} {H : Hp} {Q : VK} {sa : Sem} : tDF K XC W P (dLcS (own.map (·.2)) sa t test se) σ H Q → tLc (iList K (tD K XC W P sa)) (gX K P t) (tDT K XC W0 P test) (tD K XC W0 P se) (own.map (·.2)) σ H Q := fun ⟨B, N, M, e, s, h⟩ => by
  refine ⟨B, N, M, e, s, h.bind.imp fun x e1 h1 v H1 s1 m1 r1 => ?_⟩
  cases x with
  | val _ => exact h1.elim
  | slot sl =>
    cases q : slotL e1 sl with
    | none => simp only [q] at h1; exact h1.elim
    | some ds =>
      simp only [q] at h1
      by_cases hu : (own.map (·.2)).contains sl = false ∧ allUn (own.map (·.2)) e1 = true ∧ (slotsT t).all ((own.map (·.2)).contains ·) = true
      · rw [if_pos hu] at h1
        obtain ⟨p0, rfl, hp1, hp2, hp3⟩ := slot_at s1 r1 (slotL_of q)
        have hnot : sl ∉ own.map (·.2) := fun z => by
          have : (own.map (·.2)).contains sl = true := by simpa using z
          rw [this] at hu
          exact Bool.noConfusion hu.1
        have hσ : (wipe σ (own.map (·.2)))[sl]? = some (some (.ref p0)) := by rw [wipe_get, if_neg hnot]; exact hp1
        -- what stands at the list between two turns
        have at_ : ∀ {Dl : Addr} {H : Hp} {e : Env} {acc ds : List D}, LcAt K P (mask H1 M) N M σ (own.map (·.2)) Dl H e acc → slotL e sl = some ds → ∃ vs, H p0 = some (.lst vs) ∧ Reps K (mask H (M ++ Dl :: N)) vs ds := fun {Dl H e acc ds} L qs => by
          obtain ⟨p, h1, h2, h3⟩ := L.sr.er.getOwn (slotD_of (slotL_of qs))
          rw [hσ] at h1
          injection h1 with h1; injection h1 with h1; injection h1 with h1
          subst h1
          cases h3 with
          | lst h4 h5 => exact ⟨_, h4, h5⟩
        refine ⟨p0, rfl, by cases hp3 with | lst h4 _ => exact ⟨_, .of h4⟩, fun Dl hD => ?_⟩
        have hB : (mask H1 M) Dl = none := by
          cases z : mask H1 M Dl with
          | none => rfl
          | some o => rw [(mask_some z).1] at hD; cases hD
        refine ⟨fun i m H => ∃ e acc, LcAt K P (mask H1 M) N M σ (own.map (·.2)) Dl H e acc ∧ Hold (lcS sl (own.map (·.2)) t test se m i e acc) _ _, ⟨ds.length, e1, [], lc_start s1 hD hu.2.1, h1⟩, ?_⟩
        rintro i m H' ⟨e', acc, L, h'⟩
        cases m with
        | zero =>
          unfold lcS at h'
          cases qs : slotL e' sl with
          | none => simp only [qs] at h'; exact h'.elim
          | some ds' =>
            simp only [qs] at h'
            obtain ⟨vs, hv, hr⟩ := at_ L qs
            by_cases hle : ds'.length ≤ i
            · rw [if_pos hle] at h'
              exact .inl ⟨⟨vs, .of hv, by rw [hr.length]; exact hle⟩, lc_end s1 m1 hD L h'⟩
            · rw [if_neg hle] at h'
              exact h'.elim
        | succ m =>
          unfold lcS at h'
          cases qs : slotL e' sl with
          | none => simp only [qs] at h'; exact h'.elim
          | some ds' =>
            simp only [qs] at h'
            obtain ⟨vs, hv, hr⟩ := at_ L qs
            cases qi : ds'[i]? with
            | none =>
              simp only [qi] at h'
              exact .inl ⟨⟨vs, .of hv, by rw [hr.length]; exact List.getElem?_eq_none_iff.mp qi⟩, lc_end s1 m1 hD L h'⟩
            | some d =>
              simp only [qi] at h'
              obtain ⟨y, hy, ry⟩ := hr.get qi
              refine .inr ⟨⟨vs, y, .of hv, hy⟩, fun H2 => ∃ e acc, LcAt K P (mask H1 M) N M σ (own.map (·.2)) Dl H2 e acc ∧ Hold (lcS sl (own.map (·.2)) t test se m (i + 1) e acc) _ _, fun H2 z => ⟨m, Nat.lt_succ_self _, z⟩, fun x H2 yl => ?_⟩
              obtain ⟨eH, yx⟩ := yl
              have eH : H2 = H' := eH
              subst eH
              have := yx vs (.of hv)
              rw [hy] at this
              injection this with this
              subst this
              exact lc_turn L hB (own_sub hu.2.2) ry h' fun e2 acc2 H3 L2 h2 => ⟨e2, acc2, L2, h2⟩
      · rw [if_neg hu] at h1
        exact h1.elim
theorem pd_lcS {elt tg iter : Expr} {ifs : List Expr} {scope : Scope} {own : List (Str × Nat)} {sa se : Sem} {t : Tgt} {test : Env → R Bool} (hc : X.calm = true) (hN : X.N.Nodup) (ha : PE X iter (tD X.K XC W P sa)) (ok : BlkOk X.N X.env.scope scope own)
    (hg : ∀ (s : Shared) (H : Hp) (C : Addr) (cl : List (Str × Addr)) (fp : List Addr), PG (X.blk s H scope (compEnvC scope cl C X.env) fp) tg (gX X.K P t))
    (ht : ∀ (s : Shared) (H : Hp) (C : Addr) (cl : List (Str × Addr)) (fp : List Addr), PTs (X.blk s H scope (compEnvC scope cl C X.env) fp) ifs (tDT X.K XC W0 P test))
    (he : ∀ (s : Shared) (H : Hp) (C : Addr) (cl : List (Str × Addr)) (fp : List Addr), PE (X.blk s H scope (compEnvC scope cl C X.env) fp) elt (tD X.K XC W0 P se)) (hs : ∀ x, foldedSetIterable iter X.env x = pure x := by intro _; rfl) :
    PE X (.ListComp elt [⟨tg, iter, ifs, 0⟩] scope pos) (tDF X.K XC W P (dLcS (own.map (·.2)) sa t test se)) := (pe_lc hc hN (pi_list ha) ok hg ht he hs).dvi fun σ H Q q => lcS_of q
/-- name = [..] on one line, the name a local: the name owns the list, or holds it as a value -/
theorem asgV_of {K : Fg} {a : Sem} {i : Nat} {D' : Ends} {σ : St} {H : Hp} (h : tDS K XC W P (sAsg a (.nm i)) D' σ H) : tAsg (tD K XC W P a) (gName i) D' σ H := by
  obtain ⟨B, N, M, e, s, h⟩ := h
  refine ⟨B, N, M, e, s, (out_of h).imp fun x e' h v H' s' m r => ?_⟩
  cases x with
  | slot i => exact h.elim
  | val d =>
    cases q : putT (.nm i) d e' with
    | none => simp only [q] at h; exact h.elim
    | some e2 =>
      simp only [q] at h
      obtain ⟨M', s2, _⟩ := putV_ok s' r q
      exact h _ M' H' s2
theorem f_of {K : Fg} {s : Env → R D} {σ : St} {H : Hp} {Q : VK} (h : tD K XC W P (dF s) σ H Q) : tDF K XC W P s σ H Q := by
  obtain ⟨B, N, M, e, r, h⟩ := h
  exact ⟨B, N, M, e, r, h.bind.imp fun d e' h1 p H' s' n b m o => h1 (.ref p) H' s'.weakN m (own_val s' n o)⟩
end
end Dv

set_option maxRecDepth 100000
set_option maxHeartbeats 1000000
namespace Dv
open PySem L2
/-! ### operations on ints -/
def i2 (g : Int → Int → D) : D → D → Option D
  | .int i, .int j => some (g i j)
  | _, _ => none
def i2c (c : Int → Int → Bool) (g : Int → Int → D) : D → D → Option D
  | .int i, .int j => if c i j = true then some (g i j) else none
  | _, _ => none
theorem pure_i2 {K : Fg} {g : Int → Int → D} {gv : Int → Int → V} (hr : ∀ i j K H, Rep K H (gv i j) (g i j)) : Pure2 K (rI0 gv) (i2 g) := by
  intro L H x y dx dy z Q al cx cy h k
  cases dx with
  | int i =>
    cases dy with
    | int j =>
      injection h with h
      subst h
      exact ⟨i, j, cx.int, cy.int, k _ H (fun _ _ z => z) (hr i j _ _)⟩
    | _ => cases h
  | _ => cases h
theorem pure_i2c {K : Fg} {c : Int → Int → Bool} {C : Int → Int → Prop} {g : Int → Int → D} {gv : Int → Int → V} (hc : ∀ i j, c i j = true → C i j) (hr : ∀ i j K H, Rep K H (gv i j) (g i j)) : Pure2 K (rI C gv) (i2c c g) := by
  intro L H x y dx dy z Q al cx cy h k
  cases dx with
  | int i =>
    cases dy with
    | int j =>
      have h : (if c i j = true then some (g i j) else none) = some z := h
      by_cases hh : c i j = true
      · rw [if_pos hh] at h
        injection h with h
        subst h
        exact ⟨i, j, cx.int, cy.int, hc i j hh, k _ H (fun _ _ z => z) (hr i j _ _)⟩
      · rw [if_neg hh] at h
        cases h
    | _ => cases h
  | _ => cases h
abbrev fAdd := i2 fun i j => .int (i + j)
abbrev fSub := i2 fun i j => .int (i - j)
def mulOk (i j : Int) : Bool := (decide (-(2 ^ 64) < i) && decide (i < 2 ^ 64)) || (decide (-(2 ^ 64) < j) && decide (j < 2 ^ 64))
abbrev fMul := i2c mulOk fun i j => .int (i * j)
abbrev fMod := i2c (fun _ j => decide (0 < j)) fun i j => .int (i % j)
abbrev fDiv := i2c (fun _ j => decide (0 < j) && decide (j < 1073741824)) fun i j => .int (i / j)
def powOk (i j : Int) : Bool := decide (0 ≤ j) && decide (j ≤ 1000000) && decide (i.natAbs < 2 ^ 64)
abbrev fPow := i2c powOk fun i j => .int (i ^ j.toNat)
abbrev fLt := i2 fun i j => .bl (decide (i < j))
abbrev fLe := i2 fun i j => .bl (decide (i ≤ j))
abbrev fGt := i2 fun i j => .bl (decide (j < i))
abbrev fGe := i2 fun i j => .bl (decide (j ≤ i))
section
variable {X : Cx} {XC : Nat → Addr} {W : WX} {P : Addr} {pos p : Pos} {a b : Expr} {sa sb : Sem}
theorem pd_add (ha : PE X a (tD X.K XC W P sa)) (hb : PE X b (tD X.K XC W P sb)) : PE X (.BinOp a .Add b pos) (tD X.K XC W P (dBin fAdd sa sb)) := pd_bin op_add (pure_i2 fun _ _ _ _ => .int _) ha hb
theorem pd_sub (ha : PE X a (tD X.K XC W P sa)) (hb : PE X b (tD X.K XC W P sb)) : PE X (.BinOp a .Sub b pos) (tD X.K XC W P (dBin fSub sa sb)) := pd_bin op_sub (pure_i2 fun _ _ _ _ => .int _) ha hb
theorem mulOk_of {i j : Int} (h : mulOk i j = true) : CMul i j := by
  unfold mulOk at h
  rw [Bool.or_eq_true, Bool.and_eq_true, Bool.and_eq_true] at h
  exact h.imp (fun z => ⟨of_decide_eq_true z.1, of_decide_eq_true z.2⟩) fun z => ⟨of_decide_eq_true z.1, of_decide_eq_true z.2⟩
theorem pd_mul (ha : PE X a (tD X.K XC W P sa)) (hb : PE X b (tD X.K XC W P sb)) : PE X (.BinOp a .Mult b pos) (tD X.K XC W P (dBin fMul sa sb)) := pd_bin op_mul (pure_i2c (fun _ _ => mulOk_of) fun _ _ _ _ => .int _) ha hb
theorem pd_mod (ha : PE X a (tD X.K XC W P sa)) (hb : PE X b (tD X.K XC W P sb)) : PE X (.BinOp a .Mod b pos) (tD X.K XC W P (dBin fMod sa sb)) := pd_bin op_mod (pure_i2c (fun _ _ h => of_decide_eq_true h) fun _ _ _ _ => .int _) ha hb
theorem pd_div (ha : PE X a (tD X.K XC W P sa)) (hb : PE X b (tD X.K XC W P sb)) : PE X (.BinOp a .FloorDiv b pos) (tD X.K XC W P (dBin fDiv sa sb)) :=
  pd_bin op_fdiv (pure_i2c (fun _ _ h => by rw [Bool.and_eq_true] at h; exact ⟨of_decide_eq_true h.1, of_decide_eq_true h.2⟩) fun _ _ _ _ => .int _) ha hb
theorem pd_pow (ha : PE X a (tD X.K XC W P sa)) (hb : PE X b (tD X.K XC W P sb)) : PE X (.BinOp a .Pow b pos) (tD X.K XC W P (dBin fPow sa sb)) :=
  pd_bin op_pow (pure_i2c (fun _ _ h => by unfold powOk at h; rw [Bool.and_eq_true, Bool.and_eq_true] at h; exact ⟨of_decide_eq_true h.1.1, of_decide_eq_true h.1.2, of_decide_eq_true h.2⟩) fun _ _ _ _ => .int _) ha hb
theorem pure_lt {K : Fg} : Pure2 K (rI0 fun i j => .bl (decide (i < j))) fLt := pure_i2 fun _ _ _ _ => .bl _
theorem pure_le {K : Fg} : Pure2 K (rI0 fun i j => .bl (decide (i ≤ j))) fLe := pure_i2 fun _ _ _ _ => .bl _
theorem pure_gt {K : Fg} : Pure2 K (rI0 fun i j => .bl (decide (j < i))) fGt := pure_i2 fun _ _ _ _ => .bl _
theorem pure_ge {K : Fg} : Pure2 K (rI0 fun i j => .bl (decide (j ≤ i))) fGe := pure_i2 fun _ _ _ _ => .bl _
/-- == -/
def scV : D → Option V
  | .non => some .non
  | .bl b => some (.bl b)
  | .int i => some (.int i)
  | .str s => some (.str s)
  | _ => none
mutual
def toPy : D → Option PyData
  | .non => some .none
  | .bl b => some (.bool b)
  | .int i => some (.int i)
  | .str s => some (.str s)
  | .tup xs => (toPys xs).map .tuple
  | .lst xs => (toPys xs).map .list
  | .scr xs => (toPys xs).map .list
  | _ => none
def toPys : List D → Option (List PyData)
  | [] => some []
  | d :: r => (toPy d).bind fun p => (toPys r).map (p :: ·)
end
theorem scV_of {K : Fg} {Hm H : Hp} {v w : V} {d : D} (c : CR K Hm H v d) (h : scV d = some w) : v = w := by
  cases d with
  | non => injection h with h; subst h; exact c.non
  | bl b => injection h with h; subst h; exact c.bl
  | int i => injection h with h; subst h; exact c.int
  | str i => injection h with h; subst h; exact c.str
  | _ => cases h
mutual
theorem toPy_of {K : Fg} {H : Hp} : ∀ {v : V} {d : D} {p : PyData}, Rep K H v d → toPy d = some p → Dp K H v p
  | _, _, p, .non, h => by simp [toPy] at h; subst h; exact .non
  | _, _, p, .bl b, h => by simp [toPy] at h; subst h; exact .bl b
  | _, _, p, .int i, h => by simp [toPy] at h; subst h; exact .int i
  | _, _, p, .str i, h => by simp [toPy] at h; subst h; exact .str i
  | _, _, p, .tup h1 h2, h => by
    simp only [toPy, Option.map_eq_some_iff] at h
    obtain ⟨ps, q, rfl⟩ := h
    exact .tup (.of h1) (toPys_of h2 q)
  | _, _, p, .lst h1 h2, h => by
    simp only [toPy, Option.map_eq_some_iff] at h
    obtain ⟨ps, q, rfl⟩ := h
    exact .lst (.of h1) (toPys_of h2 q)
  | _, _, p, .scr h1 h2, h => by
    simp only [toPy, Option.map_eq_some_iff] at h
    obtain ⟨ps, q, rfl⟩ := h
    exact .lst h1 (toPys_of h2 q)
  | _, _, p, .dk _ _, h => by simp [toPy] at h
  | _, _, p, .dt _ _, h => by simp [toPy] at h
theorem toPys_of {K : Fg} {H : Hp} : ∀ {vs : List V} {ds : List D} {ps : List PyData}, Reps K H vs ds → toPys ds = some ps → DpAll K H vs ps
  | _, _, ps, .nil, h => by simp [toPys] at h; subst h; exact .nil
  | _, _, ps, .cons (d := d) (ds := ds) h1 h2, h => by
    simp only [toPys] at h
    cases q1 : toPy d with
    | none => rw [q1] at h; cases h
    | some p =>
      cases q2 : toPys ds with
      | none => rw [q1, q2] at h; cases h
      | some rs =>
        rw [q1, q2] at h
        injection h with h
        subst h
        exact .cons (toPy_of h1 q1) (toPys_of h2 q2)
end
def eqPy (dx dy : D) : Option Bool := match toPy dx, toPy dy with
  | some p, some q => if SeqAt.shaped p = true ∧ SeqAt.shaped q = true then some (PyData.eqv p q) else none
  | _, _ => none
def eqD (dx dy : D) : Option Bool := match scV dx, scV dy with
  | some x, some y => if scal x y = true then some (decide (x = y)) else eqPy dx dy
  | _, _ => eqPy dx dy
def fEq (dx dy : D) : Option D := (eqD dx dy).map .bl
def fNe (dx dy : D) : Option D := (eqD dx dy).map fun b => .bl (!b)
theorem eqPy_of {K : Fg} {L : List Addr} {H : Hp} {x y : V} {dx dy : D} {b : Bool} (cx : CR K (mask H L) H x dx) (cy : CR K (mask H L) H y dy) (h : eqPy dx dy = some b) : ∃ d e, Dp K H x d ∧ Dp K H y e ∧ SeqAt.shaped d = true ∧ SeqAt.shaped e = true ∧ PyData.eqv d e = b := by
  unfold eqPy at h
  cases q1 : toPy dx with
  | none => rw [q1] at h; cases h
  | some p =>
    cases q2 : toPy dy with
    | none => rw [q1, q2] at h; cases h
    | some q =>
      rw [q1, q2] at h
      simp only at h
      by_cases hs : SeqAt.shaped p = true ∧ SeqAt.shaped q = true
      · rw [if_pos hs] at h
        injection h with h
        exact ⟨p, q, toPy_of (cx.full mask_le) q1, toPy_of (cy.full mask_le) q2, hs.1, hs.2, h⟩
      · rw [if_neg hs] at h
        cases h
theorem eqD_of {K : Fg} {L : List Addr} {H : Hp} {x y : V} {dx dy : D} {b : Bool} (cx : CR K (mask H L) H x dx) (cy : CR K (mask H L) H y dy) (h : eqD dx dy = some b) :
    (scal x y = true ∧ decide (x = y) = b) ∨ ∃ d e, Dp K H x d ∧ Dp K H y e ∧ SeqAt.shaped d = true ∧ SeqAt.shaped e = true ∧ PyData.eqv d e = b := by
  unfold eqD at h
  cases q1 : scV dx with
  | none => rw [q1] at h; exact .inr (eqPy_of cx cy h)
  | some vx =>
    cases q2 : scV dy with
    | none => rw [q1, q2] at h; exact .inr (eqPy_of cx cy h)
    | some vy =>
      rw [q1, q2] at h
      simp only at h
      by_cases hs : scal vx vy = true
      · rw [if_pos hs] at h
        injection h with h
        rw [scV_of cx q1, scV_of cy q2]
        exact .inl ⟨hs, h⟩
      · rw [if_neg hs] at h
        exact .inr (eqPy_of cx cy h)
def rEqX (K : Fg) : R2 := fun x y H Q => rEq x y H Q ∨ rEqD K x y H Q
def rNeX (K : Fg) : R2 := fun x y H Q => rNe x y H Q ∨ rNeD K x y H Q
theorem op_eqX (hu : X.A.units + 64 < cLine) : OpR X (compareOp .Eq) (rEqX X.K) := op_eq.or (op_eqD hu)
theorem op_neX (hu : X.A.units + 64 < cLine) : OpR X (compareOp .NotEq) (rNeX X.K) := op_ne.or (op_neD hu)
theorem pure_eq {K : Fg} : Pure2 K (rEqX K) fEq := by
  intro L H x y dx dy z Q al cx cy h k
  unfold fEq at h
  cases q : eqD dx dy with
  | none => rw [q] at h; cases h
  | some b =>
    rw [q] at h
    injection h with h
    subst h
    have kk := k _ H (fun _ _ z => z) (.bl b)
    rcases eqD_of cx cy q with ⟨h1, h2⟩ | ⟨d, e, h1, h2, h3, h4, h5⟩
    · exact .inl ⟨h1, by rw [h2]; exact kk⟩
    · exact .inr ⟨d, e, h1, h2, h3, h4, by rw [h5]; exact kk⟩
theorem pure_ne {K : Fg} : Pure2 K (rNeX K) fNe := by
  intro L H x y dx dy z Q al cx cy h k
  unfold fNe at h
  cases q : eqD dx dy with
  | none => rw [q] at h; cases h
  | some b =>
    rw [q] at h
    injection h with h
    subst h
    have kk := k _ H (fun _ _ z => z) (.bl (!b))
    rcases eqD_of cx cy q with ⟨h1, h2⟩ | ⟨d, e, h1, h2, h3, h4, h5⟩
    · exact .inl ⟨h1, by rw [h2]; exact kk⟩
    · exact .inr ⟨d, e, h1, h2, h3, h4, by rw [h5]; exact kk⟩
/-- is None, is not None; is True, is False (of bools) -/
def fIsN : D → D → Option D
  | .non, .non => some (.bl true)
  | _, .non => some (.bl false)
  | _, _ => none
def fNotN : D → D → Option D
  | .non, .non => some (.bl false)
  | _, .non => some (.bl true)
  | _, _ => none
theorem CR.notnon {K : Fg} {L : List Addr} {H : Hp} {x : V} {d : D} (c : CR K (mask H L) H x d) (h : d ≠ .non) : x ≠ .non := by
  intro e
  subst e
  cases c with
  | rep r => cases r; exact h rfl
  | own e o => cases e
theorem pure_isN {K : Fg} : Pure2 K (fun x y H Q => y = .non ∧ Q (.bl (decide (x = .non))) H) fIsN := by
  intro L H x y dx dy z Q al cx cy h k
  cases dy with
  | non =>
    have hz : z = .bl (decide (x = .non)) := by
      cases dx with
      | non => injection h with h; rw [← h, cx.non] <;> rfl
      | _ => injection h with h; rw [← h, decide_eq_false (cx.notnon (by intro z; cases z))]
    subst hz
    exact ⟨cy.non, k _ H (fun _ _ z => z) (.bl _)⟩
  | _ => cases dx <;> cases h
theorem pure_notN {K : Fg} : Pure2 K (fun x y H Q => y = .non ∧ Q (.bl (!decide (x = .non))) H) fNotN := by
  intro L H x y dx dy z Q al cx cy h k
  cases dy with
  | non =>
    have hz : z = .bl (!decide (x = .non)) := by
      cases dx with
      | non => injection h with h; rw [← h, cx.non] <;> rfl
      | _ => injection h with h; rw [← h, decide_eq_false (cx.notnon (by intro z; cases z))] <;> rfl
    subst hz
    exact ⟨cy.non, k _ H (fun _ _ z => z) (.bl _)⟩
  | _ => cases dx <;> cases h
/-- an item by its place -/
def ixD (d k : D) : Option D := match d, k with
  | .lst ds, .int i => atI ds i
  | .scr ds, .int i => atI ds i
  | .tup ds, .int i => atI ds i
  | _, _ => none
theorem atI_reps {K : Fg} {H : Hp} {vs : List V} {ds : List D} {i : Int} {d : D} (r : Reps K H vs ds) (h : atI ds i = some d) : ∃ v, atI vs i = some v ∧ Rep K H v d := by
  unfold atI at h ⊢
  rw [r.length]
  cases q : ixN ds.length i with
  | none => rw [q] at h; cases h
  | some j =>
    rw [q] at h
    exact r.get h
theorem pure_ix {K : Fg} : Pure2 K (rIx K) ixD := by
  intro L H x y dx dy z Q al cx cy h k
  cases dy with
  | int i =>
    have ey := cy.int
    cases dx with
    | lst ds =>
      obtain ⟨a, vs, rfl, h1, h2⟩ := cx.lst mask_le
      obtain ⟨v, h3, h4⟩ := atI_reps h2 (show atI ds i = some z from h)
      exact .inl ⟨a, vs, i, v, rfl, ey, .of h1, h3, k v H (fun _ _ z => z) h4⟩
    | scr ds =>
      obtain ⟨a, vs, rfl, h1, h2⟩ := cx.scr mask_le
      obtain ⟨v, h3, h4⟩ := atI_reps h2 (show atI ds i = some z from h)
      exact .inl ⟨a, vs, i, v, rfl, ey, h1, h3, k v H (fun _ _ z => z) h4⟩
    | tup ds =>
      obtain ⟨a, vs, rfl, h1, h2⟩ := cx.tup mask_le
      obtain ⟨v, h3, h4⟩ := atI_reps h2 (show atI ds i = some z from h)
      exact .inr (.inl ⟨a, vs, i, v, rfl, ey, .of h1, h3, k v H (fun _ _ z => z) h4⟩)
    | _ => cases h
  | _ => cases dx <;> cases h
/-- xs + ys -/
def fCat : D → D → Option D
  | .lst xs, .lst ys => if xs.length + ys.length ≤ sizeLine then some (.lst (xs ++ ys)) else none
  | _, _ => none
theorem fresh_cat {K : Fg} : Fresh2 K rCat fCat := by
  intro L H x y dx dy z Q al cx cy h k
  cases dx with
  | lst xs =>
    cases dy with
    | lst ys =>
      have h : (if xs.length + ys.length ≤ sizeLine then some (D.lst (xs ++ ys)) else none) = some z := h
      by_cases hl : xs.length + ys.length ≤ sizeLine
      · rw [if_pos hl] at h
        injection h with h
        subst h
        obtain ⟨a, vs, rfl, h1, h2⟩ := cx.lst mask_le
        obtain ⟨b, ws, rfl, h3, h4⟩ := cy.lst mask_le
        exact ⟨a, b, vs, ws, rfl, rfl, h1, h3, by rw [h2.length, h4.length]; exact hl, fun p hp => k p _ hp (.lst upd_same (h2.append h4))⟩
      · rw [if_neg hl] at h
        cases h
    | _ => cases h
  | _ => cases h
/-- xs * k -/
def fRep : D → D → Option D
  | .lst xs, .int k => if (decide (-(2 ^ 63) ≤ k) && decide (k < 2 ^ 63) && decide (xs.length * k.toNat ≤ sizeLine)) = true then some (.lst (List.replicate k.toNat xs).flatten) else none
  | _, _ => none
theorem Reps.rep {K : Fg} {H : Hp} {vs : List V} {ds : List D} (r : Reps K H vs ds) : ∀ n : Nat, Reps K H (List.replicate n vs).flatten (List.replicate n ds).flatten
  | 0 => .nil
  | n + 1 => by
    rw [List.replicate_succ, List.replicate_succ, List.flatten_cons, List.flatten_cons]
    exact r.append (Reps.rep r n)
end
end Dv

set_option maxRecDepth 100000
set_option maxHeartbeats 1000000
namespace Dv
open PySem L2
section
variable {X : Cx} {XC : Nat → Addr} {W : WX} {P : Addr} {pos p : Pos}
theorem fresh_rep {K : Fg} : Fresh2 K rRep fRep := by
  intro L H x y dx dy z Q al cx cy h k
  cases dx with
  | lst xs =>
    cases dy with
    | int n =>
      have h : (if (decide (-(2 ^ 63) ≤ n) && decide (n < 2 ^ 63) && decide (xs.length * n.toNat ≤ sizeLine)) = true then some (D.lst (List.replicate n.toNat xs).flatten) else none) = some z := h
      by_cases hl : (decide (-(2 ^ 63) ≤ n) && decide (n < 2 ^ 63) && decide (xs.length * n.toNat ≤ sizeLine)) = true
      · rw [if_pos hl] at h
        injection h with h
        subst h
        rw [Bool.and_eq_true, Bool.and_eq_true] at hl
        obtain ⟨a, vs, rfl, h1, h2⟩ := cx.lst mask_le
        exact ⟨a, n, vs, rfl, cy.int, h1, of_decide_eq_true hl.1.1, of_decide_eq_true hl.1.2, by rw [h2.length]; exact of_decide_eq_true hl.2, fun p hp => k p _ hp (.lst upd_same (h2.rep _))⟩
      · rw [if_neg hl] at h
        cases h
    | _ => cases h
  | _ => cases h
def fNeg : D → Option D
  | .int i => some (.int (-i))
  | _ => none
theorem pure_neg {K : Fg} : Pure1 K (rU fun i => .int (-i)) fNeg := by
  intro L H x dx z Q al cx h k
  cases dx with
  | int i => injection h with h; subst h; exact ⟨i, cx.int, k _ H (fun _ _ z => z) (.int _)⟩
  | _ => cases h
theorem pd_neg {a : Expr} {sa : Sem} (ha : PE X a (tD X.K XC W P sa)) : PE X (.UnaryOp .USub a pos) (tD X.K XC W P (dUn fNeg sa)) := pd_un un_neg pure_neg ha
/-! ### built-ins -/
theorem crs1 {K : Fg} {Hm H : Hp} {xs : List V} {d : D} (c : CRs K Hm H xs [d]) : ∃ x, xs = [x] ∧ CR K Hm H x d := by
  cases c with
  | cons h t => cases t; exact ⟨_, rfl, h⟩
theorem crs2 {K : Fg} {Hm H : Hp} {xs : List V} {d e : D} (c : CRs K Hm H xs [d, e]) : ∃ x y, xs = [x, y] ∧ CR K Hm H x d ∧ CR K Hm H y e := by
  cases c with
  | cons h t => cases t with
    | cons h2 t => cases t; exact ⟨_, _, rfl, h, h2⟩
def fLen : List D → Option D
  | [.lst xs] => some (.int xs.length)
  | [.scr xs] => some (.int xs.length)
  | [.tup xs] => some (.int xs.length)
  | [.str s] => if s.length ≤ sizeLine then some (.int s.length) else none
  | _ => none
theorem pure_len {K : Fg} : PureN K (fun xs H Q => ∃ x n, xs = [x] ∧ LenV K x H n ∧ Q (.int n) H) fLen := by
  intro L H xs ds z Q al c h k
  unfold fLen at h
  split at h
  · injection h with h
    subst h
    obtain ⟨x, rfl, cx⟩ := crs1 c
    obtain ⟨a, vs, rfl, h1, h2⟩ := cx.lst mask_le
    exact ⟨_, _, rfl, .inl ⟨vs, .of h1, rfl⟩, by rw [h2.length]; exact k _ H (fun _ _ z => z) (.int _)⟩
  · injection h with h
    subst h
    obtain ⟨x, rfl, cx⟩ := crs1 c
    obtain ⟨a, vs, rfl, h1, h2⟩ := cx.scr mask_le
    exact ⟨_, _, rfl, .inl ⟨vs, h1, rfl⟩, by rw [h2.length]; exact k _ H (fun _ _ z => z) (.int _)⟩
  · injection h with h
    subst h
    obtain ⟨x, rfl, cx⟩ := crs1 c
    obtain ⟨a, vs, rfl, h1, h2⟩ := cx.tup mask_le
    exact ⟨_, _, rfl, .inr ⟨vs, .of h1, rfl⟩, by rw [h2.length]; exact k _ H (fun _ _ z => z) (.int _)⟩
  · split at h
    · injection h with h
      subst h
      obtain ⟨x, rfl, cx⟩ := crs1 c
      have ex := cx.str
      subst ex
      exact ⟨_, _, rfl, ⟨by assumption, rfl⟩, k _ H (fun _ _ z => z) (.int _)⟩
    · cases h
  · cases h
def fAbs : List D → Option D
  | [.int i] => some (.int (if i < 0 then -i else i))
  | _ => none
theorem pure_abs {K : Fg} : PureN K (fun xs H Q => ∃ i, xs = [.int i] ∧ Q (.int (if i < 0 then -i else i)) H) fAbs := by
  intro L H xs ds z Q al c h k
  unfold fAbs at h
  split at h
  · injection h with h
    subst h
    obtain ⟨x, rfl, cx⟩ := crs1 c
    exact ⟨_, by rw [cx.int], k _ H (fun _ _ z => z) (.int _)⟩
  · cases h
def fInt : List D → Option D
  | [.int i] => some (.int i)
  | [.bl b] => some (.int (if b then 1 else 0))
  | _ => none
theorem pure_int {K : Fg} : PureN K (fun xs H Q => (∃ i, xs = [.int i] ∧ Q (.int i) H) ∨ ∃ k, xs = [.bl k] ∧ Q (.int (if k then 1 else 0)) H) fInt := by
  intro L H xs ds z Q al c h k
  unfold fInt at h
  split at h
  · injection h with h
    subst h
    obtain ⟨x, rfl, cx⟩ := crs1 c
    exact .inl ⟨_, by rw [cx.int], k _ H (fun _ _ z => z) (.int _)⟩
  · injection h with h
    subst h
    obtain ⟨x, rfl, cx⟩ := crs1 c
    exact .inr ⟨_, by rw [cx.bl], k _ H (fun _ _ z => z) (.int _)⟩
  · cases h
def fStr : List D → Option D
  | [.int i] => if i.natAbs.log2 < 1920 then some (.str (toString i)) else none
  | _ => none
theorem pure_str {K : Fg} : PureN K (fun xs H Q => ∃ i, xs = [.int i] ∧ i.natAbs.log2 < 1920 ∧ Q (.str (toString i)) H) fStr := by
  intro L H xs ds z Q al c h k
  unfold fStr at h
  split at h
  · split at h
    · injection h with h
      subst h
      obtain ⟨x, rfl, cx⟩ := crs1 c
      exact ⟨_, by rw [cx.int], by assumption, k _ H (fun _ _ z => z) (.str _)⟩
    · cases h
  · cases h
def f2I (g : Int → Int → Int) : List D → Option D
  | [.int i, .int j] => some (.int (g i j))
  | _ => none
theorem pure_2I {K : Fg} {g : Int → Int → Int} : PureN K (fun xs H Q => ∃ i j, xs = [.int i, .int j] ∧ Q (.int (g i j)) H) (f2I g) := by
  intro L H xs ds z Q al c h k
  unfold f2I at h
  split at h
  · injection h with h
    subst h
    obtain ⟨x, y, rfl, cx, cy⟩ := crs2 c
    exact ⟨_, _, by rw [cx.int, cy.int], k _ H (fun _ _ z => z) (.int _)⟩
  · cases h
abbrev fMax2 := f2I fun i j => if j > i then j else i
abbrev fMin2 := f2I fun i j => if j < i then j else i
/-- all of them ints -/
def intsD : List D → Option (List Int)
  | [] => some []
  | .int i :: r => (intsD r).map (i :: ·)
  | _ => none
theorem intsD_of {K : Fg} {H : Hp} : ∀ {vs : List V} {ds : List D} {ns : List Int}, Reps K H vs ds → intsD ds = some ns → vs = ns.map V.int
  | _, _, _, .nil, h => by injection h with h; subst h; rfl
  | _, _, ns, .cons (d := d) (ds := ds) h1 h2, h => by
    cases d with
    | int i =>
      have h : (intsD ds).map (i :: ·) = some ns := h
      cases q : intsD ds with
      | none => rw [q] at h; cases h
      | some rs =>
        rw [q] at h
        injection h with h
        subst h
        cases h1
        rw [intsD_of h2 q]
        rfl
    | _ => cases h
theorem intsD_map (ns : List Int) : intsD (ns.map D.int) = some ns := by
  induction ns with
  | nil => rfl
  | cons n r ih => show (intsD (r.map D.int)).map (n :: ·) = _; rw [ih]; rfl
def listI : List D → Option (List Int)
  | [.lst ds] => intsD ds
  | [.scr ds] => intsD ds
  | _ => none
theorem listI_of {K : Fg} {L : List Addr} {H : Hp} {xs : List V} {ds : List D} {ns : List Int} (c : CRs K (mask H L) H xs ds) (h : listI ds = some ns) : ∃ a, xs = [.ref a] ∧ SqL K H a (ns.map V.int) := by
  unfold listI at h
  split at h
  · obtain ⟨x, rfl, cx⟩ := crs1 c
    obtain ⟨a, vs, rfl, h1, h2⟩ := cx.lst mask_le
    exact ⟨a, rfl, by rw [← intsD_of h2 h]; exact .of h1⟩
  · obtain ⟨x, rfl, cx⟩ := crs1 c
    obtain ⟨a, vs, rfl, h1, h2⟩ := cx.scr mask_le
    exact ⟨a, rfl, by rw [← intsD_of h2 h]; exact h1⟩
  · cases h
def fSum (ds : List D) : Option D := (listI ds).map fun ns => .int ns.sum
theorem pure_sum {K : Fg} : PureN K (rSum K) fSum := by
  intro L H xs ds z Q al c h k
  unfold fSum at h
  cases q : listI ds with
  | none => rw [q] at h; cases h
  | some ns =>
    rw [q] at h
    injection h with h
    subst h
    obtain ⟨a, rfl, hs⟩ := listI_of c q
    exact ⟨a, ns, rfl, hs, k _ H (fun _ _ z => z) (.int _)⟩
def maxL : List Int → Option Int
  | [] => none
  | n :: r => some (r.foldl (fun a b => if b > a then b else a) n)
def minL : List Int → Option Int
  | [] => none
  | n :: r => some (r.foldl (fun a b => if b < a then b else a) n)
theorem maxF_mem : ∀ (r : List Int) (n : Int), (r.foldl (fun a b => if b > a then b else a) n) ∈ n :: r ∧ (∀ y ∈ n :: r, y ≤ r.foldl (fun a b => if b > a then b else a) n)
  | [], n => ⟨List.mem_cons_self, fun y hy => by simp at hy; simp [hy]⟩
  | b :: r, n => by
    obtain ⟨h1, h2⟩ := maxF_mem r (if b > n then b else n)
    rw [List.foldl_cons]
    refine ⟨?_, fun y hy => ?_⟩
    · rcases List.mem_cons.mp h1 with z | z
      · rw [z]
        split
        · exact List.mem_cons_of_mem _ List.mem_cons_self
        · exact List.mem_cons_self
      · exact List.mem_cons_of_mem _ (List.mem_cons_of_mem _ z)
    · have h3 := h2 _ List.mem_cons_self
      rcases List.mem_cons.mp hy with z | z
      · subst z
        refine Int.le_trans ?_ h3
        split <;> omega
      · rcases List.mem_cons.mp z with z | z
        · subst z
          refine Int.le_trans ?_ h3
          split <;> omega
        · exact h2 y (List.mem_cons_of_mem _ z)
theorem minF_mem : ∀ (r : List Int) (n : Int), (r.foldl (fun a b => if b < a then b else a) n) ∈ n :: r ∧ (∀ y ∈ n :: r, r.foldl (fun a b => if b < a then b else a) n ≤ y)
  | [], n => ⟨List.mem_cons_self, fun y hy => by simp at hy; simp [hy]⟩
  | b :: r, n => by
    obtain ⟨h1, h2⟩ := minF_mem r (if b < n then b else n)
    rw [List.foldl_cons]
    refine ⟨?_, fun y hy => ?_⟩
    · rcases List.mem_cons.mp h1 with z | z
      · rw [z]
        split
        · exact List.mem_cons_of_mem _ List.mem_cons_self
        · exact List.mem_cons_self
      · exact List.mem_cons_of_mem _ (List.mem_cons_of_mem _ z)
    · have h3 := h2 _ List.mem_cons_self
      rcases List.mem_cons.mp hy with z | z
      · subst z
        refine Int.le_trans h3 ?_
        split <;> omega
      · rcases List.mem_cons.mp z with z | z
        · subst z
          refine Int.le_trans h3 ?_
          split <;> omega
        · exact h2 y (List.mem_cons_of_mem _ z)
def fMaxL (ds : List D) : Option D := ((listI ds).bind maxL).map .int
def fMinL (ds : List D) : Option D := ((listI ds).bind minL).map .int
theorem pure_maxL {K : Fg} : PureN K (rMax K) fMaxL := by
  intro L H xs ds z Q al c h k
  unfold fMaxL at h
  cases q : listI ds with
  | none => rw [q] at h; cases h
  | some ns =>
    rw [q] at h
    cases ns with
    | nil => cases h
    | cons n r =>
      injection h with h
      obtain ⟨a, rfl, hs⟩ := listI_of c q
      obtain ⟨g1, g2⟩ := maxF_mem r n
      refine ⟨a, n :: r, rfl, hs, Nat.succ_pos _, fun m hm hle => ?_⟩
      have : m = r.foldl (fun a b => if b > a then b else a) n := Int.le_antisymm (g2 m hm) (hle _ g1)
      exact k _ H (fun _ _ z => z) (by rw [← h, this]; exact .int _)
theorem pure_minL {K : Fg} : PureN K (rMin K) fMinL := by
  intro L H xs ds z Q al c h k
  unfold fMinL at h
  cases q : listI ds with
  | none => rw [q] at h; cases h
  | some ns =>
    rw [q] at h
    cases ns with
    | nil => cases h
    | cons n r =>
      injection h with h
      obtain ⟨a, rfl, hs⟩ := listI_of c q
      obtain ⟨g1, g2⟩ := minF_mem r n
      refine ⟨a, n :: r, rfl, hs, Nat.succ_pos _, fun m hm hle => ?_⟩
      have : m = r.foldl (fun a b => if b < a then b else a) n := Int.le_antisymm (hle _ g1) (g2 m hm)
      exact k _ H (fun _ _ z => z) (by rw [← h, this]; exact .int _)
/-- list(xs) -/
def fList : List D → Option D
  | [.lst ds] => some (.lst ds)
  | [.scr ds] => some (.lst ds)
  | [.tup ds] => some (.lst ds)
  | _ => none
theorem fresh_list {K : Fg} : FreshN K (fun xs H Q => ∃ p ys, xs = [.ref p] ∧ (SqL K H p ys ∨ SqT K H p ys) ∧ ∀ l, H l = none → Q (.ref l) (upd H l (.lst ys))) fList := by
  intro L H xs ds z Q al c h k
  unfold fList at h
  split at h
  · injection h with h
    subst h
    obtain ⟨x, rfl, cx⟩ := crs1 c
    obtain ⟨a, vs, rfl, h1, h2⟩ := cx.lst mask_le
    exact ⟨a, vs, rfl, .inl (.of h1), fun l hl => k l _ hl (.lst upd_same h2)⟩
  · injection h with h
    subst h
    obtain ⟨x, rfl, cx⟩ := crs1 c
    obtain ⟨a, vs, rfl, h1, h2⟩ := cx.scr mask_le
    exact ⟨a, vs, rfl, .inl h1, fun l hl => k l _ hl (.lst upd_same h2)⟩
  · injection h with h
    subst h
    obtain ⟨x, rfl, cx⟩ := crs1 c
    obtain ⟨a, vs, rfl, h1, h2⟩ := cx.tup mask_le
    exact ⟨a, vs, rfl, .inr (.of h1), fun l hl => k l _ hl (.lst upd_same h2)⟩
  · cases h
/-! ### list(range(..)) -/
theorem rgV_reps {K : Fg} {H : Hp} : ∀ (n : Nat) (a : Int), Reps K H ((List.range n).map fun i => V.int (a + (i : Nat))) (rngD a n)
  | 0, a => .nil
  | n + 1, a => by
    rw [List.range_succ_eq_map, List.map_cons, List.map_map]
    refine .cons ?_ ?_
    · rw [show a + ((0 : Nat) : Int) = a by omega]
      exact .int a
    · have := rgV_reps (K := K) (H := H) n (a + 1)
      have e : ((fun i => V.int (a + (i : Nat))) ∘ Nat.succ) = fun i : Nat => V.int (a + 1 + (i : Nat)) := by
        funext i
        show V.int (a + ((i + 1 : Nat) : Int)) = _
        congr 1
        omega
      rw [e]
      exact this
def rgOk (a b : Int) : Bool := lim62 a && lim62 b && decide ((b - a).toNat ≤ 2 ^ 24)
def dLstR1 (a : Sem) : Env → R D := fun e => (a e).bind fun x e1 => match x with
  | .val (.int j) => if rgOk 0 j = true then .ok (.lst (rngD 0 j.toNat)) e1 else .bad
  | _ => .bad
def dLstR2 (a b : Sem) : Env → R D := fun e => (a e).bind fun x e1 => (b e1).bind fun y e2 => match x, y with
  | .val (.int i), .val (.int j) => if rgOk i j = true then .ok (.lst (rngD i (j - i).toNat)) e2 else .bad
  | _, _ => .bad
theorem rgOk_of {a b : Int} (h : rgOk a b = true) : RgOk a b := by
  unfold rgOk at h
  rw [Bool.and_eq_true, Bool.and_eq_true] at h
  exact ⟨(lim62_of h.1.1).1, (lim62_of h.1.1).2, (lim62_of h.1.2).1, (lim62_of h.1.2).2, of_decide_eq_true h.2⟩
theorem pd_lstR1 {a : Expr} {sa : Sem} {p2 pos2 : Pos} (hc : X.calm = true) (hg : Gl X "list") (hm : X.mg "list" = none) (hgr : Gl X "range") (hmr : X.mg "range" = none) (ha : PE X a (tD X.K XC W P sa))
    (na : starEach [a] X.env = (false, eval a X.env) :: starEach [] X.env := by rfl) (nb : starEach [.Call (.Name "range" p2) [a] [] pos2] X.env = (false, eval (.Call (.Name "range" p2) [a] [] pos2) X.env) :: starEach [] X.env := by rfl) :
    PE X (.Call (.Name "list" p) [.Call (.Name "range" p2) [a] [] pos2] [] pos) (tDF X.K XC W P (dLstR1 sa)) := (pe_listRg hc hg hm (prg_1 hgr hmr ha na) nb).dvi fun σ H Q ⟨B, N, M, e, s, h⟩ => by
  refine ⟨B, N, M, e, s, h.bind.imp fun x e1 h1 v H1 s1 m1 r1 => ?_⟩
  cases x with
  | slot _ => exact h1.elim
  | val d =>
    cases d with
    | int j =>
      simp only at h1
      by_cases hl : rgOk 0 j = true
      · rw [if_pos hl] at h1
        refine ⟨j, CR.int (H := H1) (.rep r1), rgOk_of hl, fun q hq => ?_⟩
        obtain ⟨q1, q2, q3, q4, q5⟩ := s1.fresh hq (z := .lst (rngD 0 j.toNat)) (.lst upd_same (show Reps X.K (mask H1 (M ++ N)) (rgV 0 j) (rngD 0 j.toNat) from by unfold rgV; rw [Int.sub_zero]; exact rgV_reps _ _))
        exact h1 q _ q1 q2 q3 (Same.trans' m1 q4) q5
      · rw [if_neg hl] at h1
        exact h1.elim
    | _ => exact h1.elim
theorem pd_lstR2 {a b : Expr} {sa sb : Sem} {p2 pos2 : Pos} (hc : X.calm = true) (hg : Gl X "list") (hm : X.mg "list" = none) (hgr : Gl X "range") (hmr : X.mg "range" = none) (ha : PE X a (tD X.K XC W P sa)) (hb : PE X b (tD X.K XC W P sb))
    (na : starEach [a, b] X.env = (false, eval a X.env) :: starEach [b] X.env := by rfl) (nb' : starEach [b] X.env = (false, eval b X.env) :: starEach [] X.env := by rfl) (hp : (backTo pos2 (starEach [b] X.env)).any (·.1) = false := by rfl)
    (nb : starEach [.Call (.Name "range" p2) [a, b] [] pos2] X.env = (false, eval (.Call (.Name "range" p2) [a, b] [] pos2) X.env) :: starEach [] X.env := by rfl) :
    PE X (.Call (.Name "list" p) [.Call (.Name "range" p2) [a, b] [] pos2] [] pos) (tDF X.K XC W P (dLstR2 sa sb)) := (pe_listRg hc hg hm (prg_2 hgr hmr ha hb na nb' hp) nb).dvi fun σ H Q ⟨B, N, M, e, s, h⟩ => by
  refine ⟨B, N, M, e, s, h.bind.imp fun x e1 h1 v H1 s1 m1 r1 => ?_⟩
  refine ⟨B, N, M, e1, s1, h1.bind.both (fun y e2 h2 w H2 s2 m2 r2 => ?_) fun c e' q => q.mono m1⟩
  cases x with
  | slot _ => exact h2.elim
  | val d =>
    cases d with
    | int i =>
      cases y with
      | slot _ => exact h2.elim
      | val d2 =>
        cases d2 with
        | int j =>
          simp only at h2
          by_cases hl : rgOk i j = true
          · rw [if_pos hl] at h2
            refine ⟨i, j, CR.int (H := H1) (.rep r1), CR.int (H := H2) (.rep r2), rgOk_of hl, fun q hq => ?_⟩
            obtain ⟨q1, q2, q3, q4, q5⟩ := s2.fresh hq (z := .lst (rngD i (j - i).toNat)) (.lst upd_same (rgV_reps _ _))
            exact h2 q _ q1 q2 q3 (Same.trans' (Same.trans' m1 m2) q4) q5
          · rw [if_neg hl] at h2
            exact h2.elim
        | _ => exact h2.elim
    | _ => exact h2.elim
/-! ### isinstance -/
inductive Ty where
  | bool | int | str | list | tuple
def Ty.nm : Ty → String
  | .bool => "bool"
  | .int => "int"
  | .str => "str"
  | .list => "list"
  | .tuple => "tuple"
def tyNm : D → String
  | .non => "NoneType"
  | .bl _ => "bool"
  | .int _ => "int"
  | .str _ => "str"
  | .tup _ => "tuple"
  | .lst _ => "list"
  | .scr _ => "list"
  | .dk _ => "dict"
  | .dt _ => "dict"
def isi : Ty → D → Bool
  | .bool, .bl _ => true
  | .int, .bl _ => true
  | .int, .int _ => true
  | .str, .str _ => true
  | .list, .lst _ => true
  | .tuple, .tup _ => true
  | _, _ => false
def isiD (t : Ty) (d : D) : Option D := match d with
  | .scr _ => none
  | .dk _ => none
  | .dt _ => none
  | d => some (.bl (isi t d))
def kN : List (String × Ty × Bool) := [("NoneType", .bool, false), ("NoneType", .int, false), ("NoneType", .str, false), ("NoneType", .list, false), ("NoneType", .tuple, false), ("bool", .bool, true), ("bool", .int, true), ("bool", .str, false), ("bool", .list, false), ("bool", .tuple, false),
  ("int", .bool, false), ("int", .int, true), ("int", .str, false), ("int", .list, false), ("int", .tuple, false), ("str", .bool, false), ("str", .int, false), ("str", .str, true), ("str", .list, false), ("str", .tuple, false),
  ("tuple", .bool, false), ("tuple", .int, false), ("tuple", .str, false), ("tuple", .list, false), ("tuple", .tuple, true), ("list", .bool, false), ("list", .int, false), ("list", .str, false), ("list", .list, true), ("list", .tuple, false)]
theorem kN_ok : (kN.all fun r => decide (kitB r.1 r.2.1.nm = some r.2.2)) = true := by decide +kernel
theorem kN_at {a : String} {t : Ty} {b : Bool} (h : (a, t, b) ∈ kN) : kitB a t.nm = some b := of_decide_eq_true (List.all_eq_true.mp kN_ok _ h)
theorem isi_kit {K : Fg} {t : Ty} {d : D} {z : D} (h : isiD t d = some z) : ∃ b, z = .bl b ∧ PySem.W.kitOne K (.type (tyNm d)) (.type t.nm) = some b := by
  cases d with
  | scr _ => cases h
  | dk _ => cases h
  | dt _ => cases h
  | non => injection h with h; exact ⟨_, h.symm, kit_ty (kN_at (by cases t <;> simp [kN, isi, tyNm]))⟩
  | bl _ => injection h with h; exact ⟨_, h.symm, kit_ty (kN_at (by cases t <;> simp [kN, isi, tyNm]))⟩
  | int _ => injection h with h; exact ⟨_, h.symm, kit_ty (kN_at (by cases t <;> simp [kN, isi, tyNm]))⟩
  | str _ => injection h with h; exact ⟨_, h.symm, kit_ty (kN_at (by cases t <;> simp [kN, isi, tyNm]))⟩
  | tup _ => injection h with h; exact ⟨_, h.symm, kit_ty (kN_at (by cases t <;> simp [kN, isi, tyNm]))⟩
  | lst _ => injection h with h; exact ⟨_, h.symm, kit_ty (kN_at (by cases t <;> simp [kN, isi, tyNm]))⟩
theorem tyx_of {K : Fg} {L : List Addr} {H : Hp} {x : V} {d z : D} {t : Ty} (c : CR K (mask H L) H x d) (h : isiD t d = some z) : TyX K H x (.type (tyNm d)) := by
  cases d with
  | non => rw [c.non]; exact .base .non
  | bl b => rw [c.bl]; exact .base (.bl b)
  | int i => rw [c.int]; exact .base (.int i)
  | str i => rw [c.str]; exact .base (.str i)
  | tup ds =>
    obtain ⟨a, vs, rfl, h1, h2⟩ := c.tup mask_le
    exact .base (.tup h1)
  | lst ds =>
    obtain ⟨a, vs, rfl, h1, h2⟩ := c.lst mask_le
    exact .base (.lst h1)
  | scr _ => cases h
  | dk _ => cases h
  | dt _ => cases h
def isiTy : Ty → Value
  | t => .type t.nm
theorem pd_isi {ex ec : Expr} {se : Sem} (t : Ty) (hg : Gl X "isinstance") (hm : X.mg "isinstance" = none) (he : PE X ex (tD X.K XC W P se)) (hc : PE X ec (tC (.ty t.nm)))
    (h1 : starEach [ex, ec] X.env = (false, eval ex X.env) :: starEach [ec] X.env := by rfl) (h2 : starEach [ec] X.env = (false, eval ec X.env) :: starEach [] X.env := by rfl) (hpl : (backTo pos (starEach [ec] X.env)).any (·.1) = false := by rfl) :
    PE X (.Call (.Name "isinstance" p) [ex, ec] [] pos) (tD X.K XC W P (dUn (isiD t) se)) :=
  (pe_callB (id := "isinstance") call_isi hg hm (by decide +kernel) (pa_cons he (pa_cons hc pa_nil h2) h1) (by decide) (by decide) h1 hpl).dvi fun σ H Q ⟨B, N, M, e, s, h⟩ => by
    refine ⟨B, N, M, e, s, h.bind.imp fun x e1 h1 v H1 s1 m1 r1 => ?_⟩
    cases hx : x.data e1 with
    | none => rw [hx] at h1; exact h1.elim
    | some dx =>
      cases hz : isiD t dx with
      | none => rw [hx] at h1; simp only [Option.bind_some, hz] at h1; exact h1.elim
      | some z =>
        rw [hx] at h1
        simp only [Option.bind_some, hz] at h1
        have cx := r1.get s1 hx
        obtain ⟨b, rfl, hk⟩ := isi_kit (K := X.K) hz
        exact ⟨v, .ty t.nm, _, _, b, rfl, .ty _, tyx_of cx hz, hk, h1 _ H1 s1 m1 (.bl b)⟩
/-- isinstance(e, (T, U)) -/
def isiD2 (t u : Ty) (d : D) : Option D := match isiD t d, isiD u d with
  | some (.bl a), some (.bl b) => some (.bl (a || b))
  | _, _ => none
theorem pd_isi2 {ex ec ed : Expr} {se : Sem} {x1 : Nat} {post : Pos} (t u : Ty) (hg : Gl X "isinstance") (hm : X.mg "isinstance" = none) (he : PE X ex (tD X.K XC W P se)) (hc : PE X ec (tC (.ty t.nm))) (hd : PE X ed (tC (.ty u.nm)))
    (h1 : starEach [ex, .Tuple [ec, ed] x1 post] X.env = (false, eval ex X.env) :: starEach [.Tuple [ec, ed] x1 post] X.env := by rfl) (h2 : starEach [.Tuple [ec, ed] x1 post] X.env = (false, eval (.Tuple [ec, ed] x1 post) X.env) :: starEach [] X.env := by rfl) (hpl : (backTo pos (starEach [.Tuple [ec, ed] x1 post] X.env)).any (·.1) = false := by rfl)
    (h3 : starEach [ec, ed] X.env = (false, eval ec X.env) :: starEach [ed] X.env := by rfl) (h4 : starEach [ed] X.env = (false, eval ed X.env) :: starEach [] X.env := by rfl) :
    PE X (.Call (.Name "isinstance" p) [ex, .Tuple [ec, ed] x1 post] [] pos) (tD X.K XC W P (dUn (isiD2 t u) se)) :=
  (pe_callB (id := "isinstance") call_isiT hg hm (by decide +kernel) (pa_cons he (pa_cons (pe_tup (pa_cons hc (pa_cons hd pa_nil h4) h3)) pa_nil h2) h1) (by decide) (by decide) h1 hpl).dvi fun σ H Q ⟨B, N, M, e, s, h⟩ => by
    refine ⟨B, N, M, e, s, h.bind.imp fun x e1 h1 v H1 s1 m1 r1 => ?_⟩
    cases hx : x.data e1 with
    | none => rw [hx] at h1; exact h1.elim
    | some dx =>
      cases hz : isiD2 t u dx with
      | none => rw [hx] at h1; simp only [Option.bind_some, hz] at h1; exact h1.elim
      | some z =>
        rw [hx] at h1
        simp only [Option.bind_some, hz] at h1
        have cx := r1.get s1 hx
        unfold isiD2 at hz
        cases q1 : isiD t dx with
        | none => rw [q1] at hz; cases hz
        | some z1 =>
          cases q2 : isiD u dx with
          | none => rw [q1, q2] at hz; cases z1 <;> cases hz
          | some z2 =>
            obtain ⟨b1, rfl, hk1⟩ := isi_kit (K := X.K) q1
            obtain ⟨b2, rfl, hk2⟩ := isi_kit (K := X.K) q2
            rw [q1, q2] at hz
            injection hz with hz
            subst hz
            refine ⟨by show 2 ≤ sizeLine; decide, fun tp htp => ?_⟩
            have hsm : Same H1 (upd H1 tp (.tup [.ty t.nm, .ty u.nm])) := Same.new htp
            have cx2 : CR X.K (mask (upd H1 tp (.tup [.ty t.nm, .ty u.nm])) (M ++ N)) (upd H1 tp (.tup [.ty t.nm, .ty u.nm])) v dx := by
              have := (r1.mono (mask_mono hsm)).get (s1.mono hsm) hx
              exact this
            refine ⟨v, tp, _, _, _, b1 || b2, rfl, upd_same, .cons (.ty _) (.cons (.ty _) .nil), tyx_of cx2 q1, kitAny_cons hk1 (fun hb => ?_) (fun hb => by rw [hb]; rfl), h1 _ _ (s1.mono hsm) (Same.trans' m1 (mask_mono hsm)) (.bl _)⟩
            subst hb
            exact kitAny_cons hk2 (fun hb2 => by rw [hb2]; exact kitAny_nil) (fun hb2 => by rw [hb2] <;> rfl)
end
end Dv

set_option maxRecDepth 100000
set_option maxHeartbeats 1000000
namespace Dv
open PySem L2
/-! ### how many arguments -/
theorem alen_nil : ∀ e xs e', dANil e = .ok xs e' → xs.length = 0 := fun e xs e' h => by cases h; rfl
theorem alen_cons {a : Sem} {r : Env → R (List TV)} {n : Nat} (h : ∀ e xs e', r e = .ok xs e' → xs.length = n) : ∀ e xs e', dACons a r e = .ok xs e' → xs.length = n + 1 := fun e xs e' q => by
  unfold dACons at q
  cases ha : a e with
  | bad => rw [ha] at q; cases q
  | exc c e1 => rw [ha] at q; cases q
  | ok x e1 =>
    rw [ha] at q
    have q : (r e1).bind (fun xs e2 => R.ok (x :: xs) e2) = .ok xs e' := q
    cases hr : r e1 with
    | bad => rw [hr] at q; cases q
    | exc c e2 => rw [hr] at q; cases q
    | ok ys e2 =>
      rw [hr] at q
      cases q
      exact congrArg (· + 1) (h _ _ _ hr)
section
variable {X : Cx} {XC : Nat → Addr} {W : WX} {P : Addr} {pos : Pos}
/-! ### x = [ .. for .. in .. ] on one line -/
section
variable {i : Nat} {y : Str} {py : Pos} {elt tg iter : Expr} {ifs : List Expr} {scope : Scope} {own : List (Str × Nat)} {se : Sem} {t : Tgt} {test : Env → R Bool} {sd : Env → R D} {wi : TI} {spos : Pos}
theorem psd_setLcF (hc : X.calm = true) (hN : X.N.Nodup) (hy : X.N[i]? = some y) (hyl : X.env.scope.names.lookup y = some .local)
    (hsw : swapsWith (.ListComp elt [⟨tg, iter, ifs, 0⟩] scope pos) (some (.Name y py)) spos.line X.env = pure true) (hi : PI X tg iter wi) (hl : ∀ {σ H Q}, tDF X.K XC W P sd σ H Q → tLc wi (gX X.K P t) (tDT X.K XC W0 P test) (tD X.K XC W0 P se) (own.map (·.2)) σ H Q) (ok : BlkOk X.N X.env.scope scope own)
    (hg : ∀ (s : Shared) (H : Hp) (C : Addr) (cl : List (Str × Addr)) (fp : List Addr), PG (X.blk s H scope (compEnvC scope cl C X.env) fp) tg (gX X.K P t))
    (ht : ∀ (s : Shared) (H : Hp) (C : Addr) (cl : List (Str × Addr)) (fp : List Addr), PTs (X.blk s H scope (compEnvC scope cl C X.env) fp) ifs (tDT X.K XC W0 P test))
    (he : ∀ (s : Shared) (H : Hp) (C : Addr) (cl : List (Str × Addr)) (fp : List Addr), PE (X.blk s H scope (compEnvC scope cl C X.env) fp) elt (tD X.K XC W0 P se)) (hs : ∀ x, foldedSetIterable iter X.env x = pure x := by intro _; rfl) :
    PS X (.Assign [.Name y py] (.ListComp elt [⟨tg, iter, ifs, 0⟩] scope pos) spos) (tDS X.K XC W P (sAsgF sd i)) :=
  (ps_setLc hc hN hy hyl hsw hi ok hg ht he hs).dvi fun D' σ H q => by
    have q1 := asgF_of q
    exact hl q1
theorem psd_setLcV (hc : X.calm = true) (hN : X.N.Nodup) (hy : X.N[i]? = some y) (hyl : X.env.scope.names.lookup y = some .local)
    (hsw : swapsWith (.ListComp elt [⟨tg, iter, ifs, 0⟩] scope pos) (some (.Name y py)) spos.line X.env = pure true) (hi : PI X tg iter wi) (hl : ∀ {σ H Q}, tDF X.K XC W P sd σ H Q → tLc wi (gX X.K P t) (tDT X.K XC W0 P test) (tD X.K XC W0 P se) (own.map (·.2)) σ H Q) (ok : BlkOk X.N X.env.scope scope own)
    (hg : ∀ (s : Shared) (H : Hp) (C : Addr) (cl : List (Str × Addr)) (fp : List Addr), PG (X.blk s H scope (compEnvC scope cl C X.env) fp) tg (gX X.K P t))
    (ht : ∀ (s : Shared) (H : Hp) (C : Addr) (cl : List (Str × Addr)) (fp : List Addr), PTs (X.blk s H scope (compEnvC scope cl C X.env) fp) ifs (tDT X.K XC W0 P test))
    (he : ∀ (s : Shared) (H : Hp) (C : Addr) (cl : List (Str × Addr)) (fp : List Addr), PE (X.blk s H scope (compEnvC scope cl C X.env) fp) elt (tD X.K XC W0 P se)) (hs : ∀ x, foldedSetIterable iter X.env x = pure x := by intro _; rfl) :
    PS X (.Assign [.Name y py] (.ListComp elt [⟨tg, iter, ifs, 0⟩] scope pos) spos) (tDS X.K XC W P (sAsg (dF sd) (.nm i))) :=
  (ps_setLc hc hN hy hyl hsw hi ok hg ht he hs).dvi fun D' σ H q => by
    have q1 := asgV_of q
    have q2 : tAsg (tDF X.K XC W P sd) (gName i) D' σ H := f_of q1
    exact hl q2
end
/-! ### is, is not of bools; texts put together -/
def fIsB : D → D → Option D
  | .bl a, .bl b => some (.bl (decide (a = b)))
  | _, _ => none
def fNotB : D → D → Option D
  | .bl a, .bl b => some (.bl (!decide (a = b)))
  | _, _ => none
theorem pure_isB {K : Fg} : Pure2 K rIsB fIsB := fun L H x y dx dy z Q al cx cy h k => by
  unfold fIsB at h
  split at h
  · next a b =>
    cases h
    exact ⟨a, b, cx.bl, cy.bl, k _ H (fun _ _ z => z) (.bl _)⟩
  · cases h
theorem pure_notB {K : Fg} : Pure2 K rNotB fNotB := fun L H x y dx dy z Q al cx cy h k => by
  unfold fNotB at h
  split at h
  · next a b =>
    cases h
    exact ⟨a, b, cx.bl, cy.bl, k _ H (fun _ _ z => z) (.bl _)⟩
  · cases h
def fCatS : D → D → Option D
  | .str a, .str b => if a.length + b.length ≤ sizeLine then some (.str (a ++ b)) else none
  | _, _ => none
theorem pure_catS {K : Fg} : Pure2 K (fun x y H Q => ∃ i j, x = .str i ∧ y = .str j ∧ i.length + j.length ≤ sizeLine ∧ Q (.str (i ++ j)) H) fCatS := fun L H x y dx dy z Q al cx cy h k => by
  unfold fCatS at h
  split at h
  · next a b =>
    split at h
    · next hz =>
      cases h
      exact ⟨a, b, cx.str, cy.str, hz, k _ H (fun _ _ z => z) (.str _)⟩
    · cases h
  · cases h
/-! ### x in ys, flat items -/
def flatD : D → Option V
  | .int i => some (.int i)
  | .str s => some (.str s)
  | .bl b => some (.bl b)
  | .non => some .non
  | _ => none
def flatsD : List D → Option (List V)
  | [] => some []
  | d :: r => (flatD d).bind fun v => (flatsD r).map (v :: ·)
end
/-! ### a text of which only its length is told: messages -/
section
variable {X : Cx} {XC : Nat → Addr} {W : WX} {P : Addr} {pos : Pos}
def tDM (K : Fg) (XC : Nat → Addr) (W : WX) (P : Addr) (s : Env → R Nat) : TE := fun σ H Q => ∃ B N M e, SR K P B N M H σ e ∧ Hold (s e) (fun n e' => ∀ (x : Str) H', SR K P B N M H' σ e' → Same (mask H M) (mask H' M) → x.length ≤ n → Q (.str x) H') (ExK K XC W P B N M H σ)
def mC (n : Nat) : Env → R Nat := fun e => .ok n e
theorem pm_str {i : Str} {n : Nat} {j pos} (h : i.length ≤ n) : PE X (.Constant (.str i) j pos) (tDM X.K XC W P (mC n)) := pe_str.dvi fun σ H Q ⟨B, N, M, e, s, k⟩ => k i H s (fun _ _ z => z) h
theorem toStr_len {i : Int} (h : i.natAbs < 10 ^ 20) : (toString i : Str).length ≤ 21 := by
  have e : (toString i : Str).length = (toString i : String).length := by
    show (PySem.Str.ofString (toString i)).length = _
    rw [PySem.Str.ofString_eq_toList]
    show (((toString i : String).toList.map Char.toNat).toArray).size = _
    rw [List.size_toArray, List.length_map, String.length_toList]
  rw [e]
  have hn : ∀ n : Nat, n < 10 ^ 20 → (Nat.repr n).length ≤ 20 := fun n hn => (Nat.length_repr_le_iff (n := n) (by decide : 0 < 20)).mpr hn
  cases i with
  | ofNat n => exact Nat.le_succ_of_le (hn n (by simpa using h))
  | negSucc n =>
    show (String.append "-" (Nat.repr (n + 1))).length ≤ 21
    have : ("-" ++ Nat.repr (n + 1)).length = 1 + (Nat.repr (n + 1)).length := by rw [String.length_append]; rfl
    have h2 := hn (n + 1) (by simpa using h)
    have h3 : (String.append "-" (Nat.repr (n + 1))).length = 1 + (Nat.repr (n + 1)).length := this
    omega
def mStr (a : Sem) : Env → R Nat := fun e => (a e).bind fun x e1 => match x with
  | .val (.int i) => if i.natAbs < 10 ^ 20 then .ok 21 e1 else .bad
  | _ => .bad
def mCat (a b : Env → R Nat) : Env → R Nat := fun e => (a e).bind fun x e1 => (b e1).bind fun y e2 => if x + y ≤ sizeLine then .ok (x + y) e2 else .bad
def mVar (a : Sem) : Env → R Nat := fun e => (a e).bind fun x e1 => match x with
  | .val (.str s) => .ok s.length e1
  | _ => .bad
theorem pm_var {ex : Expr} {a : Sem} (h : PE X ex (tD X.K XC W P a)) : PE X ex (tDM X.K XC W P (mVar a)) := h.dvi fun σ H Q ⟨B, N, M, e, s, h⟩ => by
  refine ⟨B, N, M, e, s, h.bind.imp fun x e' h v H' s' m rv => ?_⟩
  cases x with
  | slot i => exact h.elim
  | val d =>
    cases d with
    | str b =>
      have e := CR.str (H := H') (.rep rv)
      subst e
      exact h b H' s' m (Nat.le_refl _)
    | _ => exact h.elim
theorem pm_cat {a b : Expr} {sa sb : Env → R Nat} (ha : PE X a (tDM X.K XC W P sa)) (hb : PE X b (tDM X.K XC W P sb)) : PE X (.BinOp a .Add b pos) (tDM X.K XC W P (mCat sa sb)) := (pe_op op_add_str ha hb).dvi fun σ H Q ⟨B, N, M, e, s, h⟩ => by
  refine ⟨B, N, M, e, s, h.bind.imp fun x e1 h1 v H1 s1 m1 r1 => ?_⟩
  refine ⟨B, N, M, e1, s1, h1.bind.both (fun y e2 h2 w H2 s2 m2 r2 => ?_) fun c e' q => q.mono m1⟩
  by_cases hz : x + y ≤ sizeLine
  · rw [if_pos hz] at h2
    refine ⟨v, w, rfl, rfl, by omega, h2 (v ++ w) H2 s2 (Same.trans' m1 m2) ?_⟩
    show (v.cps ++ w.cps).size ≤ _
    rw [Array.size_append]
    exact Nat.add_le_add r1 r2
  · rw [if_neg hz] at h2
    exact h2.elim
theorem log2_lt {n : Nat} (h : n < 10 ^ 20) : n.log2 < 1920 := by
  by_cases z : n = 0
  · subst z; decide
  · exact (Nat.log2_lt z).mpr (Nat.lt_of_lt_of_le h (by decide +kernel))
theorem pm_toStr {ex : Expr} {x : Str} {px : Pos} {a : Sem} (hx : x = "str") (hg : Gl X x) (hm : X.mg x = none) (ha : PE X ex (tD X.K XC W P a)) (hs : starEach [ex] X.env = (false, eval ex X.env) :: starEach [] X.env := by rfl) (hpl : (backTo pos (starEach [] X.env)).any (·.1) = false := by rfl) : PE X (.Call (.Name x px) [ex] [] pos) (tDM X.K XC W P (mStr a)) := by
  subst hx
  refine (pe_callTy call_str_int hg hm (by rfl) (pa_cons ha pa_nil hs) (he := hs) (hpl := hpl)).dvi fun σ H Q ⟨B, N, M, e, s, h⟩ => ?_
  refine ⟨B, N, M, e, s, h.bind.imp fun x e' h v H' s' m rv => ?_⟩
  cases x with
  | slot i => exact h.elim
  | val d =>
    cases d with
    | int i =>
      have e := CR.int (H := H') (.rep rv)
      subst e
      by_cases hz : i.natAbs < 10 ^ 20
      · have h : Hold (if i.natAbs < 10 ^ 20 then R.ok 21 e' else .bad) _ _ := h
        rw [if_pos hz] at h
        exact ⟨i, rfl, log2_lt hz, h _ H' s' m (toStr_len hz)⟩
      · have h : Hold (if i.natAbs < 10 ^ 20 then R.ok 21 e' else .bad) _ _ := h
        rw [if_neg hz] at h
        exact h.elim
    | _ => exact h.elim
/-- raise C(text) -/
def sRaiseM (k : Nat) (a : Env → R Nat) : SSem := fun e => (a e).out fun _ e' => .exc ⟨k, none⟩ e'
theorem psd_raiseM {ex : Expr} {k : Nat} {a : Env → R Nat} (hc : X.calm = true) (tk : Takes X W) (he : PMk X ex (fun σ H Q => tDM X.K XC W P a σ H fun _ H1 => Q (.ref (XC k)) none H1)) : PS X (.Raise (some ex) none pos) (tDS X.K XC W P (sRaiseM k a)) :=
  (ps_raise hc tk he).dvi fun D' σ H ⟨B, N, M, e, s, h⟩ => ⟨B, N, M, e, s, (out_of h).imp fun x e' h v H' s' m r => h (.ref (XC k)) none σ M H' s' ⟨rfl, rfl⟩⟩
end
/-! ### a def that hands back a new object -/
section
variable {X : Cx} {XC : Nat → Addr} {W : WX} {P : Addr} {pos : Pos}
def spFr (K : Fg) (XC : Nat → Addr) (n : Nat) (F : List D → R D) : Sp := fun vs H Q E => vs.length = n ∧ ∃ (N : List Addr) (ds : List D), (∀ p ∈ N, ∃ o, H p = some o) ∧ Reps K (mask H N) vs ds ∧
  Hold (F ds) (fun d _ => ∀ p H', Same H H' → H p = none → OwnAt K (mask H' (p :: N)) H' p d → Q (.ref p) H') (fun c _ => ∀ cls dd H', Same H H' → ExcR K XC c cls dd H' → E cls dd H')
def runFr (n : Nat) (s : Env → R D) (ds : List D) : R D := (s (env0 n ds)).bind fun d _ => .ok d []
end
section
variable {P : Program} {w : World} {K : Fg} {mg : Str → Option Value} {base : Heap} {XC : Nat → Addr}
theorem fn_fr1 {dfl : List V} {x qual : Str} {st : Stmt} {f : Addr} {fd : FuncData} {Ns ps : List Str} {k : Nat} {sem : Env → R D} {ex : Expr} {pos : Pos} (F : FunD K x qual (defArgs st) (defBody st) (defScope st) dfl [] f fd) (S : FnScope Ns ps (defScope st)) (hbd : defBody st = [.Return (some ex) pos])
    (hb : ∀ (cdv : Value) (A : Around) (outer : List PySem.Env) (s : Shared) (H : Hp) (E : XK), Room k (A.deeper (PyProof.Rows.envOfC qual (defScope st) s.heap.objs.size f cdv)) →
      PE (cxOf (L2.CX P w) P w K mg base Ns qual (defScope st) f cdv A outer s H E) ex (tDF K XC (fun cls d _ H => E cls d H) 0 sem)) :
    FnOk P w K mg base (L2.CX P w) (k + 1) f fd ps (spFr K XC ps.length (runFr Ns.length sem)) := by
  refine F.ok S (fun vs H Q E h => h.1) fun cdv A outer s H vs Q E hr h => ?_
  obtain ⟨hl, N, ds, al, rp, h⟩ := h
  refine ⟨tRet (tDF K XC (fun cls d _ H => E cls d H) 0 sem), (by rw [hbd]; exact pss_one (ps_ret (hb cdv A outer s H E hr))), H, N, [], env0 Ns.length ds, ⟨fun a o q => by rw [mask_nil]; exact q, al, fun p hp => (nomatch hp), ?_⟩, ?_⟩
  · unfold env0 L2.start
    rw [← rp.length]
    exact er_start _ rp
  · unfold runFr at h
    exact h.bind.both (fun d e' h p H' s' n b m o => h p H' s'.weakN.same b (by simpa using o)) fun c e' h cls dd H' s' m x => h cls dd H' s'.same x
end
section
variable {X : Cx} {XC : Nat → Addr} {W : WX} {P : Addr} {pos : Pos}
def dCallFr (F : List D → R D) (dds : List D) (a : Env → R (List TV)) : Env → R D := fun e => (a e).bind fun xs e1 => match vals xs with
  | some ds => (match F (ds ++ dds) with
    | .ok d _ => .ok d e1
    | .exc c _ => .exc c e1
    | .bad => .bad)
  | none => .bad
theorem pd_callFr {k : Nat} {f : Addr} {fd : FuncData} {ps : List Str} {n : Nat} {F : List D → R D} {ds : List Value} {dvs : List V} {dds : List D} {a : Env → R (List TV)} {x : Str} {ex : Expr} {es : List Expr} {p pos : Pos}
    (G : FnOk X.prog X.w X.K X.mg X.base (L2.CX X.prog X.w) k f fd ps (spFr X.K XC n F)) (hr : Room k X.A) (hg : Gl X x) (hm : X.mg x = some (.ref f)) (hk : PySem.W.keepIn X.K (.ref f) = true) (hb : Binds X.K fd ps ds) (hd : Vals dvs ds)
    (rd : ∀ H, Reps X.K H dvs dds) (tk : Takes X W) (hn : n = (ex :: es).length + dds.length) (ha : PA X (ex :: es) (tDA X.K XC W P a)) (hal : ∀ e xs e', a e = .ok xs e' → xs.length = (ex :: es).length) (hdb : (x == ("__debug__" : Str)) = false := by decide)
    (he : starEach (ex :: es) X.env = (false, eval ex X.env) :: starEach es X.env := by rfl) (hpl : (backTo pos (starEach es X.env)).any (·.1) = false := by rfl) :
    PE X (.Call (.Name x p) (ex :: es) [] pos) (tDF X.K XC W P (dCallFr F dds a)) := (pe_callD G hr hg hm hk hb hd (fun σ => passAt tk σ) ha hdb he hpl).dvi fun σ H Q ⟨B, N, M, e, s, h⟩ => by
  unfold dCallFr at h
  cases hae : a e with
  | bad => rw [hae] at h; exact h.elim
  | exc c e' => rw [hae] at h; exact ⟨B, N, M, e, s, by rw [hae]; exact h⟩
  | ok xs e1 =>
    have hlen := hal e xs e1 hae
    rw [hae] at h
    refine ⟨B, N, M, e, s, ?_⟩
    rw [hae]
    intro vs H1 s1 m1 r1
    simp only [R.bind] at h
    cases q : vals xs with
    | none => rw [q] at h; exact h.elim
    | some es' =>
      rw [q] at h
      simp only at h
      have rp := vals_reps r1 q
      have hl2 : dvs.length = dds.length := (rd (fun _ => none)).length
      refine ⟨by rw [List.length_append, Paired.length' r1, hlen, hl2, hn], M ++ N, es' ++ dds, s1.alAll, rp.append (rd _), ?_⟩
      cases hF : F (es' ++ dds) with
      | bad => rw [hF] at h; exact h.elim
      | exc c z =>
        rw [hF] at h
        exact fun cls dd H' m' x => h cls dd H' (s1.mono m') (Same.trans' m1 (mask_mono m')) x
      | ok d z =>
        rw [hF] at h
        intro p H' m' hp ow
        have s2 := (s1.mono m')
        have hpM : p ∉ M ++ N := fun z => by
          obtain ⟨o, q⟩ := s1.alAll p z
          rw [hp] at q
          cases q
        have hB : B p = none := by
          cases q : B p with
          | none => rfl
          | some o =>
            have := s1.same p o q
            rw [hp] at this
            cases this
        obtain ⟨o, ho⟩ := ow.there
        have s3 : SR X.K P B (p :: N) M H' σ e1 := (s1.newN (o := o) hp).mono fun b ob q => by
          by_cases hb : b = p
          · subst hb
            rw [upd_same] at q
            rw [ho]
            exact q
          · rw [upd_ne hb] at q
            exact m' b ob q
        refine h p H' s3 (fun z => hpM (List.mem_append_right _ z)) hB (Same.trans' m1 (mask_mono m')) (ow.mono (mask_sub fun q hq => ?_) fun _ _ z => z)
        rcases List.mem_append.mp hq with z | z
        · exact List.mem_cons_of_mem _ (List.mem_append_left _ z)
        · rcases List.mem_cons.mp z with z | z
          · exact z ▸ List.mem_cons_self
          · exact List.mem_cons_of_mem _ (List.mem_append_right _ z)
end
end Dv

set_option maxRecDepth 100000
set_option maxHeartbeats 1000000
namespace Dv
open PySem L2
/-! ### the defs of a module, as callees; the own errors -/
/-- a def under its name; dds: the defaults that fill up -/
structure CalD (P : Program) (w : World) (K : Fg) (mg : Str → Option Value) (base : Heap) (k : Nat) (x : Str) (sp : Sp) (dds : List D) : Prop where
  ex : ∃ (f : Addr) (fd : FuncData) (ps : List Str) (ds : List Value) (dvs : List V), FnOk P w K mg base (L2.CX P w) k f fd ps sp ∧ mg x = some (.ref f) ∧ PySem.W.keepIn K (.ref f) = true ∧ Binds K fd ps ds ∧ Vals dvs ds ∧ ∀ H, Reps K H dvs dds
abbrev veTail : List Value := [.type "ValueError", .type "Exception", .type "BaseException", .type "object"]
/-- an own error over ValueError, without __init__ -/
structure OwnX (K : Fg) (mg : Str → Option Value) (C : Addr) (x : Str) : Prop where
  g : mg x = some (.ref C)
  q : PySem.W.excIn K C veTail "ValueError.__new__" = true
  k : PySem.W.keepIn K (.ref C) = true
  b : PySem.W.subIn K (.ref C) (.type "BaseException") = some true
  t : PySem.W.typeIn K (.ref C) = some (.type "type")
section
variable {X : Cx} {XC : Nat → Addr} {W : WX} {P : Addr} {pos : Pos}
theorem pd_callC {k j : Nat} {n : Nat} {F : List D → R D} {dds : List D} {a : Env → R (List TV)} {x : Str} {ex : Expr} {es : List Expr} {p pos : Pos}
    (c : CalD X.prog X.w X.K X.mg X.base k x (spF X.K XC n F) dds) (hr : Room j X.A) (hk : k ≤ j) (hg : Gl X x) (tk : Takes X W) (hn : n = (ex :: es).length + dds.length) (ha : PA X (ex :: es) (tDA X.K XC W P a)) (hal : ∀ e xs e', a e = .ok xs e' → xs.length = (ex :: es).length) (hdb : (x == ("__debug__" : Str)) = false := by decide)
    (he : starEach (ex :: es) X.env = (false, eval ex X.env) :: starEach es X.env := by rfl) (hpl : (backTo pos (starEach es X.env)).any (·.1) = false := by rfl) :
    PE X (.Call (.Name x p) (ex :: es) [] pos) (tD X.K XC W P (dCall F dds a)) := by
  obtain ⟨f, fd, ps, ds, dvs, G, h1, h2, h3, h4, h5⟩ := c.ex
  exact pd_call G (hr.mono hk) hg h1 h2 h3 h4 h5 tk hn ha hal hdb he hpl
theorem pd_callCS {k j : Nat} {n : Nat} {F : List D → R D} {dds : List D} {a : Env → R (List TV)} {x : Str} {ex : Expr} {es : List Expr} {p pos : Pos}
    (c : CalD X.prog X.w X.K X.mg X.base k x (spF X.K XC n F) dds) (hr : Room j X.A) (hk : k ≤ j) (hg : Gl X x) (tk : Takes X W) (hn : n = (ex :: es).length + dds.length) (ha : PA X (ex :: es) (tDA X.K XC W P a)) (hal : ∀ e xs e', a e = .ok xs e' → xs.length = (ex :: es).length) (hdb : (x == ("__debug__" : Str)) = false := by decide)
    (he : starEach (ex :: es) X.env = (false, eval ex X.env) :: starEach es X.env := by rfl) (hpl : (backTo pos (starEach es X.env)).any (·.1) = false := by rfl) :
    PE X (.Call (.Name x p) (ex :: es) [] pos) (tD X.K XC W P (dCallS F dds a)) := by
  obtain ⟨f, fd, ps, ds, dvs, G, h1, h2, h3, h4, h5⟩ := c.ex
  exact pd_callS G (hr.mono hk) hg h1 h2 h3 h4 h5 tk hn ha hal hdb he hpl
theorem pd_callCIO {k j : Nat} {n : Nat} {F : D → List D → R D} {dds : List D} {a : Env → R (List TV)} {x : Str} {ex : Expr} {es : List Expr} {p pos : Pos}
    (c : CalD X.prog X.w X.K X.mg X.base k x (spIO X.K XC n F) dds) (hr : Room j X.A) (hk : k ≤ j) (hg : Gl X x) (tk : Takes X W) (hn : n = (ex :: es).length + dds.length) (ha : PA X (ex :: es) (tDA X.K XC W P a)) (hal : ∀ e xs e', a e = .ok xs e' → xs.length = (ex :: es).length) (hdb : (x == ("__debug__" : Str)) = false := by decide)
    (he : starEach (ex :: es) X.env = (false, eval ex X.env) :: starEach es X.env := by rfl) (hpl : (backTo pos (starEach es X.env)).any (·.1) = false := by rfl) :
    PE X (.Call (.Name x p) (ex :: es) [] pos) (tD X.K XC W P (dCallIO F dds a)) := by
  obtain ⟨f, fd, ps, ds, dvs, G, h1, h2, h3, h4, h5⟩ := c.ex
  exact pd_callIO G (hr.mono hk) hg h1 h2 h3 h4 h5 tk hn ha hal hdb he hpl
theorem pd_callCFr {k j : Nat} {n : Nat} {F : List D → R D} {dds : List D} {a : Env → R (List TV)} {x : Str} {ex : Expr} {es : List Expr} {p pos : Pos}
    (c : CalD X.prog X.w X.K X.mg X.base k x (spFr X.K XC n F) dds) (hr : Room j X.A) (hk : k ≤ j) (hg : Gl X x) (tk : Takes X W) (hn : n = (ex :: es).length + dds.length) (ha : PA X (ex :: es) (tDA X.K XC W P a)) (hal : ∀ e xs e', a e = .ok xs e' → xs.length = (ex :: es).length) (hdb : (x == ("__debug__" : Str)) = false := by decide)
    (he : starEach (ex :: es) X.env = (false, eval ex X.env) :: starEach es X.env := by rfl) (hpl : (backTo pos (starEach es X.env)).any (·.1) = false := by rfl) :
    PE X (.Call (.Name x p) (ex :: es) [] pos) (tDF X.K XC W P (dCallFr F dds a)) := by
  obtain ⟨f, fd, ps, ds, dvs, G, h1, h2, h3, h4, h5⟩ := c.ex
  exact pd_callFr G (hr.mono hk) hg h1 h2 h3 h4 h5 tk hn ha hal hdb he hpl
theorem psd_raiseO {x : Str} {ex : Expr} {k : Nat} {a : Env → R Nat} {p p2 : Pos} (o : OwnX X.K X.mg (XC k) x) (hc : X.calm = true) (tk : Takes X W) (hg : Gl X x) (he : PE X ex (tDM X.K XC W P a)) (hs : starEach [ex] X.env = (false, eval ex X.env) :: starEach [] X.env := by rfl) (hdb : (x == ("__debug__" : Str)) = false := by decide) :
    PS X (.Raise (some (.Call (.Name x p) [ex] [] p2)) none pos) (tDS X.K XC W P (sRaiseM k a)) :=
  psd_raiseM hc tk (SkE.pmk_own1 PySem.F.excBase_ValueError o.q o.g o.k (raises_own o.b o.t) hg he hs hdb)
theorem pd_strL {i j : Str} {n : Nat} {pos : Pos} (h : i = j) : PE X (.Constant (.str i) n pos) (tD X.K XC W P (dC (.str j))) := h ▸ pd_str
theorem pd_globI {x : Str} {i : Int} {pos : Pos} (h : ∃ t, X.mg x = some (.int i t)) (hg : Gl X x) (hd : (x == ("__debug__" : Str)) = false := by decide) : PE X (.Name x pos) (tD X.K XC W P (dC (.int i))) := by
  obtain ⟨t, h⟩ := h
  exact pd_glob (v := .int i) hg h ⟨t, rfl⟩ (fun _ _ => .int i) hd
theorem fn_bad {P : Program} {w : World} {K : Fg} {mg : Str → Option Value} {base : Heap} {k : Nat} {f : Addr} {fd : FuncData} {ps : List Str} : FnOk P w K mg base (L2.CX P w) k f fd ps (spF K XC ps.length fun _ => .bad) :=
  ⟨fun vs H Q E h => h.1, fun A outer s H args us vs Q E hr e0 hb r h => by obtain ⟨_, _, _, _, _, h⟩ := h; exact h.elim⟩
/-! ### + and * of any kind, as values -/
def fPlus (a b : D) : Option D := match a, b with
  | .int i, .int j => some (.int (i + j))
  | .str _, _ => fCatS a b
  | .lst _, _ => fCat a b
  | _, _ => none
end
/-! ### append, extend, pop -/
section
variable {X : Cx} {XC : Nat → Addr} {W : WX} {P : Addr} {pos : Pos} {o ex : Expr} {so : Sem} {sa : Env → R (List TV)} {apos cpos : Pos}
end
theorem room64 {k : Nat} {A : Around} (hr : Room k A) : A.units + 64 < cLine := hr.units
theorem room1 {k : Nat} {A : Around} (hr : Room k A) : A.units + 1 < cLine := hu_of hr
end Dv

namespace Dv
open PySem L2
theorem exm_by {K : Fg} {C : Addr} {t : Value} {b : Bool} (h1 : PySem.W.subIn K (.ref C) (.type "BaseException") = some true) (h2 : PySem.W.isClsIn K C = true) (h3 : PySem.W.typeIn K (.ref C) = some (.type "type")) (h4 : PySem.W.subIn K t (.ref C) = some b) : PySem.W.exmOne K t (.ref C) = some b := by
  have e1 : (PySem.W.subIn K (.ref C) (.type "BaseException") == some true) = true := by rw [h1] <;> rfl
  have e2 : ((PySem.W.clsIn K C).isSome && PySem.W.typeIn K (.ref C) == some (.type "type")) = true := by
    have h2' : (PySem.W.clsIn K C).isSome = true := h2
    rw [h2', h3] <;> rfl
  show (if (PySem.W.subIn K (.ref C) (.type "BaseException") == some true) = true then (if ((PySem.W.clsIn K C).isSome && PySem.W.typeIn K (.ref C) == some (.type "type")) = true then PySem.W.subIn K t (.ref C) else none) else none) = some b
  rw [if_pos e1, if_pos e2]
  exact h4
theorem kit_by {K : Fg} {C : Addr} {t : Value} {b : Bool} (hs : PySem.W.subIn K (.ref C) (.ref C) = some true) (h2 : PySem.W.isClsIn K C = true) (h3 : PySem.W.typeIn K (.ref C) = some (.type "type")) (h4 : PySem.W.subIn K t (.ref C) = some b) : PySem.W.kitOne K t (.ref C) = some b := by
  have e2 : ((PySem.W.clsIn K C).isSome && PySem.W.typeIn K (.ref C) == some (.type "type")) = true := by
    have h2' : (PySem.W.clsIn K C).isSome = true := h2
    rw [h2', h3] <;> rfl
  unfold PySem.W.kitOne
  by_cases z : (t == .ref C) = true
  · rw [if_pos z]
    have z2 : t = .ref C := by simpa using z
    rw [z2, hs] at h4
    exact h4
  · rw [if_neg z]
    show (if ((PySem.W.clsIn K C).isSome && PySem.W.typeIn K (.ref C) == some (.type "type")) = true then PySem.W.subIn K t (.ref C) else none) = some b
    rw [if_pos e2]
    exact h4
theorem kit_ty {K : Fg} {a : Addr} {T : String} {b : Bool} (hm : PySem.W.kitMeta T = true) (h4 : PySem.W.subIn K (.ref a) (.type T) = some b) : PySem.W.kitOne K (.ref a) (.type T) = some b := by
  unfold PySem.W.kitOne
  rw [if_neg (by intro z; simp at z)]
  show (if PySem.W.kitMeta T = true then PySem.W.subIn K (.ref a) (.type T) else none) = some b
  rw [if_pos hm]
  exact h4
/-! ### names forgotten at a turn's end -/
def clrE : List Nat → Env → Option Env
  | [], e => some e
  | i :: r, e => match e[i]? with
    | some (.io _) => none
    | some _ => clrE r (e.set i .un)
    | none => none
theorem set_self {α : Type} {l : List α} {i : Nat} {x : α} (h : l[i]? = some x) : l.set i x = l := by
  obtain ⟨hi, rfl⟩ := List.getElem?_eq_some_iff.mp h
  exact List.set_getElem_self hi
theorem SR.clr {K : Fg} {P : Addr} {B H : Hp} {N : List Addr} {σ : St} : ∀ {vs : List Nat} {e e' : Env} {M : List Addr}, SR K P B N M H σ e → clrE vs e = some e' → ∃ M', SR K P B N M' H σ e'
  | [], e, e', M, s, h => by injection h with h; subst h; exact ⟨M, s⟩
  | i :: vs, e, e', M, s, h => by
    unfold clrE at h
    cases hq : e[i]? with
    | none => simp only [hq] at h; cases h
    | some x =>
      have hi : i < e.length := (List.getElem?_eq_some_iff.mp hq).1
      have hl : i < σ.length := by rw [s.er.length]; exact hi
      have key : (∀ d', e[i]? ≠ some (.io d')) → clrE vs (e.set i .un) = some e' → ∃ M', SR K P B N M' H σ e' := fun h1 h2 => by
        obtain ⟨M', s'⟩ := s.setU (w := σ[i]) hi h1
        rw [List.set_getElem_self hl] at s'
        exact s'.clr h2
      cases x with
      | io d => simp only [hq] at h; cases h
      | un => simp only [hq] at h; exact key (fun d' z => by rw [hq] at z; cases z) h
      | v d => simp only [hq] at h; exact key (fun d' z => by rw [hq] at z; cases z) h
      | own d => simp only [hq] at h; exact key (fun d' z => by rw [hq] at z; cases z) h
      | exn c => simp only [hq] at h; exact key (fun d' z => by rw [hq] at z; cases z) h
def clrO (vs : List Nat) : Out → Out
  | .nx e => (match clrE vs e with
    | some e' => .nx e'
    | none => .bad)
  | .cnt e => (match clrE vs e with
    | some e' => .cnt e'
    | none => .bad)
  | o => o
def sClr (vs : List Nat) (s : SSem) : SSem := fun e => clrO vs (s e)
section
variable {X : Cx} {XC : Nat → Addr} {W : WX} {P : Addr} {pos : Pos}
theorem After.clr {K : Fg} {B : Hp} {N : List Addr} {D' : Ends} {vs : List Nat} {o : Out} (h : After K XC W P B N D' (clrO vs o)) : After K XC W P B N D' o := by
  cases o with
  | nx e =>
    unfold clrO at h
    cases q : clrE vs e with
    | none => simp only [q] at h; exact h.elim
    | some e' =>
      simp only [q] at h
      intro σ M H' s'
      obtain ⟨M', s2⟩ := s'.clr q
      exact h σ M' H' s2
  | cnt e =>
    unfold clrO at h
    cases q : clrE vs e with
    | none => simp only [q] at h; exact h.elim
    | some e' =>
      simp only [q] at h
      intro σ M H' s'
      obtain ⟨M', s2⟩ := s'.clr q
      exact h σ M' H' s2
  | rt y e => exact h
  | brk e => exact h
  | exc c e => exact h
  | bad => exact h
theorem psd_clr {vs : List Nat} {body : List Stmt} {s : SSem} (h : PSs X body (tDS X.K XC W P s)) : PSs X body (tDS X.K XC W P (sClr vs s)) :=
  h.dvi fun D' σ H ⟨B, N, M, e, r, q⟩ => ⟨B, N, M, e, r, q.clr⟩
end
end Dv

set_option maxRecDepth 100000
set_option maxHeartbeats 1000000
namespace Dv
open PySem L2 PySem.Spec PyProof.Rows
/-! ### sorted(rows), tuples that begin with whole numbers, all other -/
def RowV (h : Heap) (v : Value) (x : Int) (tl : List V) : Prop := ∃ a o t us n, v = .ref a ∧ h.get? a = some o ∧ o.cls = .type "tuple" ∧ o.data = .seq (Value.int x t :: us).toArray n ∧ Vals tl us ∧ tl.all flatV = true
theorem RowV.keeps {h h' : Heap} {v : Value} {x : Int} {tl : List V} (p : RowV h v x tl) (k : ∀ b o, h.get? b = some o → o.cls = .type "tuple" → h'.get? b = some o) : RowV h' v x tl := by
  obtain ⟨a, o, t, us, n, e, ho, hc, hd, hv⟩ := p
  exact ⟨a, o, t, us, n, e, k _ _ ho hc, hc, hd, hv⟩
theorem eqV_self {x : V} (f : flatV x = true) : eqV x x = true := by
  cases x with
  | non => rfl
  | bl b => simp [eqV]
  | int b => simp [eqV]
  | str b => simp [eqV]
  | byt b => exact absurd f (by simp [flatV])
  | flt b => exact absurd f (by simp [flatV])
  | ref b => exact absurd f (by simp [flatV])
  | ty b => exact absurd f (by simp [flatV])
section
variable {prog : Program} {w : World} {A : Around} {s : Shared} {Q : Bool → Shared → Prop}
theorem lex_same : ∀ {tl : List V} {us us' : List Value} {i : Nat}, Vals tl us → Vals tl us' → tl.all flatV = true → Q false s → PySem.W.KatLex prog w A true false Q (us.zip us') i s
  | [], _, _, _, .nil, .nil, _, h => PySem.W.kat_nil h
  | x :: tl, u :: us, u' :: us', i, .cons r t, .cons r' t', f, h => by
    rw [List.all_cons, Bool.and_eq_true] at f
    refine PySem.W.kat_cons (eqAt_V r r' f.1 f.1 prog w _ _ ?_)
    rw [eqV_self f.1]
    exact PySem.W.kat_yes (lex_same t t' f.2 h)
theorem rows_cmp {vs : List Value} {k : Value → Int} {tl : Value → List V} (hp : ∀ v ∈ vs, RowV s.heap v (k v) (tl v)) (hd : ∀ v ∈ vs, ∀ u ∈ vs, k v = k u → tl v = tl u) :
    SrtO.Cmp prog w A s (tuples' true) (fun p => p.1 ∈ vs) (SrtO.lt2 fun v u => decide (k v < k u)) := by
  intro p q hm hm'
  have h1 := hp _ hm
  have h2 := hp _ hm'
  have hd' := hd _ hm _ hm'
  show wpAny (model prog w) A (keyLt' (tuples' true) p.1 q.1) (fun r s' => s' = s ∧ r = decide (k p.1 < k q.1)) (fun _ _ => False) s
  generalize k p.1 = x at h1 hd' ⊢
  generalize tl p.1 = y at h1 hd' ⊢
  generalize k q.1 = x' at h2 hd' ⊢
  generalize tl q.1 = y' at h2 hd' ⊢
  obtain ⟨a, o, t, us, n, e, ho, hc, hd1, hv, hf⟩ := h1
  obtain ⟨a', o', t', us', n', e', ho', hc', hd2, hv', hf'⟩ := h2
  rw [e, e']
  refine PySem.W.kat_lt ho hd1 ho' hd2 ?_
  show PySem.W.KatLex prog w A true (decide (us.length + 1 < us'.length + 1)) _ ((.int x t, .int x' t') :: us.zip us') 0 s
  refine PySem.W.kat_cons (SeqAt.EqAt.int_int x t x' t' prog w _ _ ?_)
  refine PySem.W.kat_go (fun e1 => ?_) (fun e1 => ?_)
  · have ex : x = x' := by simpa using e1
    have ey := hd' ex
    subst ex ey
    have el : decide (us.length + 1 < us'.length + 1) = false := by
      rw [← hv.length, ← hv'.length]
      exact decide_eq_false (Nat.lt_irrefl _)
    rw [el]
    exact PySem.W.kat_yes (lex_same hv hv' hf ⟨rfl, (decide_eq_false (Int.lt_irrefl _)).symm⟩)
  · exact PySem.W.kat_no (oneLt_int ⟨rfl, rfl⟩)
theorem swo_k (k : Value → Int) : SrtO.Swo fun v u => decide (k v < k u) := by
  refine ⟨fun x y h => ?_, fun x y z h1 h2 => ?_⟩
  · have h := of_decide_eq_true h
    exact decide_eq_false (by omega)
  · have h1 := of_decide_eq_false h1
    have h2 := of_decide_eq_false h2
    exact decide_eq_false (by omega)
theorem row_firsts {h : Heap} {k : Value → Int} {tl : Value → List V} : ∀ {vs : List Value}, (∀ v ∈ vs, RowV h v (k v) (tl v)) → ∃ fs : List Value, PySem.W.KatTups h vs fs ∧ fs.length = vs.length ∧ ∀ f ∈ fs, ∃ x t, f = Value.int x t
  | [], _ => ⟨[], PySem.W.KatTups.nil, rfl, fun _ hm => by simp at hm⟩
  | v :: vs, hp => by
    obtain ⟨fs, h1, h2, h3⟩ := row_firsts (vs := vs) fun v' hm => hp v' (List.mem_cons_of_mem _ hm)
    obtain ⟨a, o, t, us, n, e, ho, hc, hd, hv, hf⟩ := hp v (List.mem_cons_self ..)
    generalize k v = x at hd
    subst e
    refine ⟨.int x t :: fs, PySem.W.KatTups.cons ho hc hd rfl h1, by rw [List.length_cons, List.length_cons, h2], fun f hm => ?_⟩
    rcases List.mem_cons.mp hm with rfl | hm
    · exact ⟨x, t, rfl⟩
    · exact h3 f hm
theorem rows_sortable {a : Addr} {vs : List Value} {k : Value → Int} {tl : Value → List V} (h0 : 0 < vs.length) (hp : ∀ v ∈ vs, RowV s.heap v (k v) (tl v)) (hd : ∀ v ∈ vs, ∀ u ∈ vs, k v = k u → tl v = tl u) (ha : ∀ o, s.heap.get? a = some o → o.cls ≠ .type "tuple") :
    SrtO.SortableO prog w A s a vs fun v u => decide (k v < k u) := by
  intro h' keep
  have hp' : ∀ v ∈ vs, RowV h' v (k v) (tl v) := fun v hm => (hp v hm).keeps fun b o e c => keep b o (fun z => by subst z; exact ha o e c) e
  obtain ⟨fs, h1, h2, h3⟩ := row_firsts hp'
  refine ⟨tuples' true, fun Q E hq => ?_, rows_cmp hp' hd⟩
  refine PySem.W.kat_kind (T := .type "int") h1 (by omega) (fun f hm => ?_) (by rfl) ?_
  · obtain ⟨x, t, rfl⟩ := h3 f hm
    exact PySem.W.Looks.now
  · have e : (Value.type "int" != Value.type "tuple") = true := by first | decide +kernel | rfl | decide
    rw [e]
    exact hq
end
section
variable {X : Cx}
def rSortT : List V → Hp → VK → Prop := fun vs H Q => ∃ (a : Addr) (xs : List V) (k : V → Int) (tl : V → List V), vs = [V.ref a] ∧ H a = some (.lst xs) ∧ (∀ x ∈ xs, ∃ t, x = V.ref t ∧ H t = some (.tup (.int (k x) :: tl x)) ∧ (tl x).all flatV = true) ∧
  (∀ x ∈ xs, ∀ y ∈ xs, k x = k y → tl x = tl y) ∧ ∀ (ys : List V) (p : Addr), ys.Perm xs → ys.Pairwise (fun x y => k x ≤ k y) → H p = none → Q (.ref p) (upd H p (.lst ys))
theorem cr_sortT : CallR X (.builtin "sorted") rSortT := by
  intro pins s σ H vs us Q I r h
  obtain ⟨a, xs, k, tl, rfl, hs, hx, hd, q⟩ := h
  obtain ⟨its, rv, hl, hz⟩ := I.list (SqL.of (K := X.K) hs)
  obtain ⟨u, rfl, ru⟩ := vals1 r
  obtain rfl : u = Value.ref a := ru
  obtain ⟨e1, e2⟩ := refs_back rv fun x m => by
    obtain ⟨t, e, _⟩ := hx x m
    exact ⟨t, e⟩
  have back : ∀ v ∈ its, backV v ∈ xs := fun v hv => by rw [e1]; exact List.mem_map.mpr ⟨v, hv, rfl⟩
  have hrow : ∀ v ∈ its, RowV s.heap v (k (backV v)) (tl (backV v)) := fun v hv => by
    have hm := back v hv
    obtain ⟨t, rfl⟩ := e2 v hv
    obtain ⟨t', e, ht, hf⟩ := hx _ hm
    cases e
    obtain ⟨_, its2, r2, o, ho, hc, n, hdd⟩ := I.hok _ _ ht
    cases r2 with
    | cons ri rt =>
      obtain ⟨t1, rfl⟩ := ri
      exact ⟨t, o, t1, _, n, rfl, ho, hc, hdd, rt, hf⟩
  refine SrtO.sorted_ord (swo_k fun v => k (backV v)) hl.isList (by rw [← rv.length]; exact hz) (fun h2 h₁ a' ha kk => ?_) fun out h1 h2 => ?_
  · refine rows_sortable (s := { s with heap := h₁ }) (by omega) (fun v hm => (hrow v hm).keeps fun b o e _ => (kk b o e).2) (fun v hv u hu => hd _ (back v hv) _ (back u hu)) fun o e => ?_
    have e' : some o = some (seqObj "list" its.toArray 0) := e.symm.trans ha
    cases e'
    intro c
    exact absurd (Value.type.inj c) (by decide)
  · have h3 : ∀ u ∈ out, ∃ a, u = Value.ref a := fun u hu => e2 u (h2.perm.mem_iff.mp hu)
    obtain ⟨ep, he'⟩ := PyProof.Rows.sortedAll_at s.heap its out.toArray
    have hlen : (out.map backV).length ≤ sizeLine := by
      rw [List.length_map, h2.perm.length_eq, ← rv.length]
      exact hz
    refine ⟨.ref _, upd H (s.heap.objs.size + 1) (.lst (out.map backV)), I.laid (t' := s.toks) (fun _ _ => PyProof.Rows.sortedAll_old) (Nat.le_succ _) ⟨hlen, out, ep, vals_back h3, he'⟩, rfl, q _ _ ?_ ?_ (I.hok.fresh (Nat.le_succ _))⟩
    · rw [e1]; exact h2.perm.map backV
    · rw [List.pairwise_map]
      refine h1.imp fun {x y} z => ?_
      have z := of_decide_eq_false z
      omega
end
/-! ### the same of data -/
section
variable {α β : Type}
def insBy (k : α → Int) (x : α) : List α → List α
  | [] => [x]
  | y :: l => if k x ≤ k y then x :: y :: l else y :: insBy k x l
def sortBy (k : α → Int) : List α → List α
  | [] => []
  | x :: l => insBy k x (sortBy k l)
theorem insBy_perm (k : α → Int) (x : α) : ∀ l : List α, (insBy k x l).Perm (x :: l)
  | [] => List.Perm.refl _
  | y :: l => by
    unfold insBy
    split
    · exact List.Perm.refl _
    · exact ((insBy_perm k x l).cons y).trans (List.Perm.swap x y l)
theorem sortBy_perm (k : α → Int) : ∀ l : List α, (sortBy k l).Perm l
  | [] => List.Perm.refl _
  | x :: l => (insBy_perm k x _).trans ((sortBy_perm k l).cons x)
theorem insBy_sorted (k : α → Int) (x : α) : ∀ {l : List α}, l.Pairwise (fun a b => k a ≤ k b) → (insBy k x l).Pairwise (fun a b => k a ≤ k b)
  | [], _ => List.pairwise_singleton _ _
  | y :: l, h => by
    obtain ⟨h1, h2⟩ := List.pairwise_cons.mp h
    unfold insBy
    split
    · next q =>
      refine List.pairwise_cons.mpr ⟨fun z hz => ?_, h⟩
      rcases List.mem_cons.mp hz with rfl | hz
      · exact q
      · exact Int.le_trans q (h1 z hz)
    · next q =>
      refine List.pairwise_cons.mpr ⟨fun z hz => ?_, insBy_sorted k x h2⟩
      rcases List.mem_cons.mp ((insBy_perm k x l).mem_iff.mp hz) with rfl | hz
      · omega
      · exact h1 z hz
theorem sortBy_sorted (k : α → Int) : ∀ l : List α, (sortBy k l).Pairwise (fun a b => k a ≤ k b)
  | [] => .nil
  | x :: l => insBy_sorted k x (sortBy_sorted k l)
theorem insBy_map {k : α → Int} {j : β → Int} {f : α → β} (x : α) : ∀ {l : List α}, (∀ y ∈ x :: l, j (f y) = k y) → (insBy k x l).map f = insBy j (f x) (l.map f)
  | [], _ => rfl
  | y :: l, h => by
    have e1 := h x List.mem_cons_self
    have e2 := h y (List.mem_cons_of_mem _ List.mem_cons_self)
    show (if k x ≤ k y then x :: y :: l else y :: insBy k x l).map f = if j (f x) ≤ j (f y) then f x :: f y :: l.map f else f y :: insBy j (f x) (l.map f)
    rw [e1, e2]
    split
    · rfl
    · rw [List.map_cons, insBy_map x fun z hz => h z (by
        rcases List.mem_cons.mp hz with rfl | hz
        · exact List.mem_cons_self
        · exact List.mem_cons_of_mem _ (List.mem_cons_of_mem _ hz))]
theorem sortBy_map {k : α → Int} {j : β → Int} {f : α → β} : ∀ {l : List α}, (∀ y ∈ l, j (f y) = k y) → (sortBy k l).map f = sortBy j (l.map f)
  | [], _ => rfl
  | x :: l, h => by
    show (insBy k x (sortBy k l)).map f = insBy j (f x) (sortBy j (l.map f))
    rw [insBy_map x fun y hy => ?_, sortBy_map fun y hy => h y (List.mem_cons_of_mem _ hy)]
    refine h y ?_
    rcases List.mem_cons.mp hy with rfl | hy
    · exact List.mem_cons_self
    · exact List.mem_cons_of_mem _ ((sortBy_perm k l).mem_iff.mp hy)
theorem sorted_unique (k : α → Int) : ∀ {l m : List α}, l.Perm m → l.Pairwise (fun a b => k a ≤ k b) → m.Pairwise (fun a b => k a ≤ k b) → (∀ x ∈ l, ∀ y ∈ l, k x = k y → x = y) → l = m
  | [], m, p, _, _, _ => (List.nil_perm.mp p).symm
  | a :: l, [], p, _, _, _ => absurd p.length_eq (by simp)
  | a :: l, b :: m, p, h1, h2, h => by
    obtain ⟨a1, a2⟩ := List.pairwise_cons.mp h1
    obtain ⟨b1, b2⟩ := List.pairwise_cons.mp h2
    have ha : a ∈ b :: m := p.mem_iff.mp List.mem_cons_self
    have hb : b ∈ a :: l := p.mem_iff.mpr List.mem_cons_self
    have le1 : k a ≤ k b := by
      rcases List.mem_cons.mp hb with e | hb
      · rw [e]; exact Int.le_refl _
      · exact a1 b hb
    have le2 : k b ≤ k a := by
      rcases List.mem_cons.mp ha with e | ha
      · rw [e]; exact Int.le_refl _
      · exact b1 a ha
    have e : a = b := h a List.mem_cons_self b hb (by omega)
    subst e
    rw [sorted_unique k ((List.perm_cons a).mp p) a2 b2 fun x hx y hy => h x (List.mem_cons_of_mem _ hx) y (List.mem_cons_of_mem _ hy)]
end
def flatsV : List D → Option (List V)
  | [] => some []
  | d :: r => match flatD d, flatsV r with
    | some v, some vs => some (v :: vs)
    | _, _ => none
theorem flatD_of {K : Fg} {H : Hp} {v w : V} {d : D} (r : Rep K H v d) (h : flatD d = some w) : v = w ∧ flatV w = true := by
  cases r <;> first | (injection h with h; subst h; exact ⟨rfl, rfl⟩) | cases h
theorem flatsV_of {K : Fg} {H : Hp} : ∀ {vs ws : List V} {ds : List D}, Reps K H vs ds → flatsV ds = some ws → vs = ws ∧ ws.all flatV = true
  | _, _, _, .nil, h => by injection h with h; subst h; exact ⟨rfl, rfl⟩
  | v :: vs, ws, d :: ds, .cons r t, h => by
    unfold flatsV at h
    cases h1 : flatD d with
    | none => rw [h1] at h; cases h
    | some w =>
      cases h2 : flatsV ds with
      | none => rw [h1, h2] at h; cases h
      | some us =>
        rw [h1, h2] at h
        injection h with h
        subst h
        obtain ⟨rfl, f1⟩ := flatD_of r h1
        obtain ⟨rfl, f2⟩ := flatsV_of t h2
        exact ⟨rfl, by rw [List.all_cons, f1, f2]; rfl⟩
def keyR : D → Int
  | .tup (.int x :: _) => x
  | _ => 0
def okR : D → Bool
  | .tup (.int _ :: tl) => (flatsV tl).isSome
  | _ => false
def fSortT : List D → Option D
  | [.lst rows] => if rows.all okR = true ∧ (rows.map keyR).Nodup then some (.lst (sortBy keyR rows)) else none
  | _ => none
def kH (H : Hp) : V → Int
  | .ref t => (match H t with
    | some (.tup (.int x :: _)) => x
    | _ => 0)
  | _ => 0
def tlH (H : Hp) : V → List V
  | .ref t => (match H t with
    | some (.tup (.int _ :: r)) => r
    | _ => [])
  | _ => []
theorem okR_of {K : Fg} {Hm H : Hp} {v : V} {d : D} (r : Rep K Hm v d) (m : Same Hm H) (h : okR d = true) : (∃ t, v = V.ref t ∧ H t = some (.tup (.int (kH H v) :: tlH H v)) ∧ (tlH H v).all flatV = true) ∧ kH H v = keyR d := by
  cases r with
  | @tup a vs ds h1 h2 =>
    cases h2 with
    | nil => cases h
    | @cons x xs y ys rx rs =>
      cases rx with
      | int i =>
        have h : (flatsV ys).isSome = true := h
        obtain ⟨ws, hw⟩ := Option.isSome_iff_exists.mp h
        obtain ⟨rfl, hf⟩ := flatsV_of rs hw
        have e := m _ _ h1
        have e1 : kH H (.ref a) = i := by unfold kH; simp only [e]
        have e2 : tlH H (.ref a) = xs := by unfold tlH; simp only [e]
        exact ⟨⟨a, rfl, by rw [e1, e2]; exact e, by rw [e2]; exact hf⟩, e1⟩
      | _ => cases h
  | _ => cases h
theorem reps_zip {K : Fg} {H : Hp} : ∀ {vs : List V} {ds : List D}, Reps K H vs ds → (vs.zip ds).map (·.1) = vs ∧ (vs.zip ds).map (·.2) = ds ∧ ∀ p ∈ vs.zip ds, Rep K H p.1 p.2
  | _, _, .nil => ⟨rfl, rfl, fun p hp => nomatch hp⟩
  | _, _, .cons r t => by
    obtain ⟨h1, h2, h3⟩ := reps_zip t
    refine ⟨congrArg (_ :: ·) h1, congrArg (_ :: ·) h2, fun p hp => ?_⟩
    rcases List.mem_cons.mp hp with rfl | hp
    · exact r
    · exact h3 p hp
theorem reps_of_zip {K : Fg} {H : Hp} : ∀ {l : List (V × D)}, (∀ p ∈ l, Rep K H p.1 p.2) → Reps K H (l.map (·.1)) (l.map (·.2))
  | [], _ => .nil
  | p :: l, h => .cons (h p List.mem_cons_self) (reps_of_zip fun q hq => h q (List.mem_cons_of_mem _ hq))
theorem nodup_inj {α β : Type} {f : α → β} : ∀ {l : List α}, (l.map f).Nodup → ∀ x ∈ l, ∀ y ∈ l, f x = f y → x = y
  | [], _, x, hx, _, _, _ => nomatch hx
  | a :: l, h, x, hx, y, hy, e => by
    obtain ⟨h1, h2⟩ := List.nodup_cons.mp h
    rcases List.mem_cons.mp hx with e1 | hx'
    · rcases List.mem_cons.mp hy with e2 | hy'
      · rw [e1, e2]
      · exact absurd (List.mem_map.mpr ⟨y, hy', by rw [← e, e1]⟩) h1
    · rcases List.mem_cons.mp hy with e2 | hy'
      · exact absurd (List.mem_map.mpr ⟨x, hx', by rw [e, e2]⟩) h1
      · exact nodup_inj h2 x hx' y hy' e
theorem fresh_sortT {K : Fg} : FreshN K rSortT fSortT := by
  intro L H xs ds z Q al c h k
  unfold fSortT at h
  split at h
  · next rows =>
    split at h
    · next hc =>
      injection h with h
      subst h
      obtain ⟨x, rfl, cx⟩ := crs1 c
      obtain ⟨a, vs, rfl, ha, rs⟩ := cx.lst mask_le
      obtain ⟨z1, z2, z3⟩ := reps_zip rs
      have m : Same (mask H L) H := mask_le
      have rowok : ∀ p ∈ vs.zip rows, okR p.2 = true := fun p hp => List.all_eq_true.mp hc.1 _ (by rw [← z2]; exact List.mem_map.mpr ⟨p, hp, rfl⟩)
      have kk : ∀ p ∈ vs.zip rows, keyR p.2 = kH H p.1 := fun p hp => (okR_of (z3 p hp) m (rowok p hp)).2.symm
      have hv : ∀ v ∈ vs, ∃ p ∈ vs.zip rows, p.1 = v := fun v hv => by
        rw [← z1] at hv
        obtain ⟨p, hp, e⟩ := List.mem_map.mp hv
        exact ⟨p, hp, e⟩
      have nd : ((vs.zip rows).map fun p => keyR p.2).Nodup := by
        have : (vs.zip rows).map (fun p => keyR p.2) = rows.map keyR := by
          conv => rhs; rw [← z2]
          rw [List.map_map]
          rfl
        rw [this]
        exact hc.2
      have inj : ∀ v ∈ vs, ∀ u ∈ vs, kH H v = kH H u → v = u := fun v h1 u h2 e => by
        obtain ⟨p, hp, rfl⟩ := hv v h1
        obtain ⟨q, hq, rfl⟩ := hv u h2
        rw [nodup_inj nd p hp q hq (by rw [kk p hp, kk q hq]; exact e)]
      refine ⟨a, vs, kH H, tlH H, rfl, ha, fun v h1 => ?_, fun v h1 u h2 e => by rw [inj v h1 u h2 e], fun ys p hp hs hn => ?_⟩
      · obtain ⟨p, hp, rfl⟩ := hv v h1
        exact (okR_of (z3 p hp) m (rowok p hp)).1
      · have s1 := sortBy_map (f := fun p : V × D => p.2) (k := fun p => keyR p.2) (j := keyR) (l := vs.zip rows) fun _ _ => rfl
        have s2 := sortBy_map (f := fun p : V × D => p.1) (k := fun p => keyR p.2) (j := kH H) (l := vs.zip rows) fun q hq => (kk q hq).symm
        have e1 : (fun p : V × D => p.1) = (·.1) := rfl
        have ey : ys = sortBy (kH H) vs := sorted_unique (kH H) (hp.trans (sortBy_perm (kH H) vs).symm) hs (sortBy_sorted (kH H) vs) fun x hx y hy => inj x (hp.mem_iff.mp hx) y (hp.mem_iff.mp hy)
        have r2 : Reps K (mask H L) ys (sortBy keyR rows) := by
          have r := reps_of_zip (K := K) (H := mask H L) (l := sortBy (fun p : V × D => keyR p.2) (vs.zip rows)) fun q hq => z3 q ((sortBy_perm _ _).mem_iff.mp hq)
          rw [s1, s2, z1, z2] at r
          rw [ey]
          exact r
        exact k p _ hn (.lst upd_same r2)
    · cases h
  · cases h
end Dv

set_option maxRecDepth 100000
set_option maxHeartbeats 1000000
namespace Dv
open PySem L2
section
variable {X : Cx} {XC : Nat → Addr} {W : WX} {P : Addr} {pos : Pos}
/-! ### a part of a tuple -/
def dSlT (a : Sem) (lo hi : Env → R (Option Int)) : Sem := fun e => (a e).bind fun x e1 => (lo e1).bind fun l e2 => (hi e2).bind fun u e3 => match x with
  | .val (.tup ds) => .ok (.val (.tup (cutD ds l u))) e3
  | _ => .bad
theorem cutD_whole {ds : List D} {l u : Option Int} (h : HT.sIx ds.length 0 l = 0 ∧ HT.sIx ds.length ds.length u = ds.length) : cutD ds l u = ds := by
  unfold cutD
  rw [h.1, h.2]
  simp
theorem pd_slT {a : Expr} {lo hi : Option Expr} {p2 : Pos} {sa : Sem} {sl sh : Env → R (Option Int)} (ha : PE X a (tD X.K XC W P sa)) (hl : PO X lo (tDO X.K XC W P sl)) (hh : PO X hi (tDO X.K XC W P sh)) :
    PE X (.Subscript a (.Slice lo hi none p2) pos) (tD X.K XC W P (dSlT sa sl sh)) := (pe_slice sl_tupA ha hl hh).dvi fun σ H Q ⟨B, N, M, e, s, h⟩ => by
  refine ⟨B, N, M, e, s, h.bind.imp fun x e1 h1 v H1 s1 m1 r1 => ?_⟩
  refine ⟨B, N, M, e1, s1, h1.bind.both (fun l e2 h2 H2 s2 m2 => ?_) fun c e' q => q.mono m1⟩
  refine ⟨B, N, M, e2, s2, h2.bind.both (fun u e3 h3 H3 s3 m3 => ?_) fun c e' q => q.mono (Same.trans' m1 m2)⟩
  have mm := Same.trans' m1 (Same.trans' m2 m3)
  have r3 := r1.mono (Same.trans' m2 m3)
  cases x with
  | slot i => exact h3.elim
  | val d =>
    cases d with
    | tup ds =>
      have r4 : Rep X.K (mask H3 (M ++ N)) v (.tup ds) := r3
      cases r4 with
      | @tup a vs _ h4 h5 =>
        have hl : vs.length = ds.length := h5.length
        refine ⟨a, vs, rfl, .inl (.inl (mask_le _ _ h4)), fun hw => ?_, fun hw p hp => ?_⟩
        · rw [hl] at hw
          refine h3 _ H3 s3 mm ?_
          show Rep _ _ _ (.tup (cutD ds l u))
          rw [cutD_whole hw]
          exact .tup h4 h5
        · refine h3 (.ref p) _ (s3.mono (Same.new hp)) (Same.trans' mm (mask_mono (Same.new hp))) ?_
          refine .tup ?_ ((cut_reps h5 l u).mono (mask_mono (Same.new hp)))
          have np : p ∉ M ++ N := fun z => by
            obtain ⟨o, q⟩ := s3.alAll p z
            rw [hp] at q
            cases q
          rw [mask_out np]
          exact upd_same
    | _ => exact h3.elim
/-! ### dict(rows of two) -/
def pairD : D → Option (Key × D)
  | .tup [k, v] => (keyD k).map fun k => (k, v)
  | _ => none
def pairsD : List D → Option (List (Key × D))
  | [] => some []
  | d :: r => match pairD d, pairsD r with
    | some p, some ps => some (p :: ps)
    | _, _ => none
def mergeD (kds more : List (Key × D)) : List (Key × D) := more.foldl (fun acc kv => putDk acc kv.1 kv.2) kds
def fDictP : List D → Option D
  | [.lst rows] => (pairsD rows).map fun ps => .dk (mergeD [] ps)
  | _ => none
theorem pairsD_of {K : Fg} {Hm H : Hp} (m : Same Hm H) : ∀ {vs : List V} {ds : List D} {kds : List (Key × D)}, Reps K Hm vs ds → pairsD ds = some kds → ∃ (ps : List Addr) (kvs : List (Key × V)), vs = ps.map V.ref ∧ Paired (fun p kv => SqT K H p [kV kv.1, kv.2]) ps kvs ∧ KP K Hm kvs kds
  | _, _, _, .nil, h => by injection h with h; subst h; exact ⟨[], [], rfl, .nil, .nil⟩
  | v :: vs, d :: ds, kds, .cons r t, h => by
    unfold pairsD at h
    cases h1 : pairD d with
    | none => rw [h1] at h; cases h
    | some q =>
      cases h2 : pairsD ds with
      | none => rw [h1, h2] at h; cases h
      | some qs =>
        rw [h1, h2] at h
        injection h with h
        subst h
        obtain ⟨ps, kvs, e1, e2, e3⟩ := pairsD_of m t h2
        subst e1
        cases r with
        | @tup a ws _ g1 g2 =>
          cases g2 with
          | nil => cases h1
          | @cons x xs y ys rx rs =>
            cases rs with
            | nil => cases h1
            | @cons x2 xs2 y2 ys2 rx2 rs2 =>
              cases rs2 with
              | cons _ _ => cases h1
              | nil =>
                have h1 : (keyD y).map (fun k => (k, y2)) = some q := h1
                cases hk : keyD y with
                | none => rw [hk] at h1; cases h1
                | some k =>
                  rw [hk] at h1
                  injection h1 with h1
                  subst h1
                  have ex : x = kV k := keyD_of (Hm := Hm) (H := Hm) (.rep rx) hk
                  subst ex
                  exact ⟨a :: ps, (k, x2) :: kvs, rfl, .cons (.inl (.inl (m _ _ g1))) e2, .cons rx2 e3⟩
        | _ => cases h1
theorem kp_merge {K : Fg} {H : Hp} {more : List (Key × V)} {moreD : List (Key × D)} {kvs : List (Key × V)} {kds : List (Key × D)} (r : KP K H more moreD) (q : KP K H kvs kds) : KP K H (mergeK kvs more) (mergeD kds moreD) := by
  induction r generalizing kvs kds with
  | nil => exact q
  | cons r _ ih => exact ih (q.put _ r)
theorem fresh_dictP {K : Fg} : FreshN K (fun xs H Q => ∃ (a : Addr) (ps : List Addr) (kvs : List (Key × V)), xs = [.ref a] ∧ SqL K H a (ps.map V.ref) ∧ Paired (fun p kv => SqT K H p [kV kv.1, kv.2]) ps kvs ∧
    ∀ p, H p = none → Q (.ref p) (upd H p (.dK (mergeK [] kvs)))) fDictP := by
  intro L H xs ds z Q al c h k
  unfold fDictP at h
  split at h
  · next rows =>
    cases hp : pairsD rows with
    | none => rw [hp] at h; cases h
    | some kds =>
      rw [hp] at h
      injection h with h
      subst h
      obtain ⟨x, rfl, cx⟩ := crs1 c
      obtain ⟨a, vs, rfl, ha, rs⟩ := cx.lst mask_le
      obtain ⟨ps, kvs, rfl, e2, e3⟩ := pairsD_of (H := H) mask_le rs hp
      exact ⟨a, ps, kvs, rfl, .of ha, e2, fun p hn => k p _ hn (.dk upd_same (kp_merge e3 .nil).k)⟩
  · cases h
/-! ### a comprehension over a list that is a value, or this frame's -/
def dLcA (own : List Nat) (a : Sem) (t : Tgt) (test : Env → R Bool) (se : Sem) : Env → R D := fun e => match a e with
  | .ok (.slot _) _ => dLcS own a t test se e
  | _ => dLc own a t test se e
theorem lcA_of {K : Fg} {own : List (Str × Nat)} {t : Tgt} {test : Env → R Bool} {se : Sem} {σ : St} {H : Hp} {Q : VK} {sa : Sem} : tDF K XC W P (dLcA (own.map (·.2)) sa t test se) σ H Q → tLc (iList K (tD K XC W P sa)) (gX K P t) (tDT K XC W0 P test) (tD K XC W0 P se) (own.map (·.2)) σ H Q := fun ⟨B, N, M, e, s, h⟩ => by
  unfold dLcA at h
  cases hae : sa e with
  | bad => simp only [hae] at h; exact lc_of ⟨B, N, M, e, s, h⟩
  | exc c e1 => simp only [hae] at h; exact lc_of ⟨B, N, M, e, s, h⟩
  | ok x e1 =>
    cases x with
    | val d => simp only [hae] at h; exact lc_of ⟨B, N, M, e, s, h⟩
    | slot i => simp only [hae] at h; exact lcS_of ⟨B, N, M, e, s, h⟩
theorem pd_lcA {elt tg iter : Expr} {ifs : List Expr} {scope : Scope} {own : List (Str × Nat)} {sa se : Sem} {t : Tgt} {test : Env → R Bool} (hc : X.calm = true) (hN : X.N.Nodup) (ha : PE X iter (tD X.K XC W P sa)) (ok : BlkOk X.N X.env.scope scope own)
    (hg : ∀ (s : Shared) (H : Hp) (C : Addr) (cl : List (Str × Addr)) (fp : List Addr), PG (X.blk s H scope (compEnvC scope cl C X.env) fp) tg (gX X.K P t))
    (ht : ∀ (s : Shared) (H : Hp) (C : Addr) (cl : List (Str × Addr)) (fp : List Addr), PTs (X.blk s H scope (compEnvC scope cl C X.env) fp) ifs (tDT X.K XC W0 P test))
    (he : ∀ (s : Shared) (H : Hp) (C : Addr) (cl : List (Str × Addr)) (fp : List Addr), PE (X.blk s H scope (compEnvC scope cl C X.env) fp) elt (tD X.K XC W0 P se)) (hs : ∀ x, foldedSetIterable iter X.env x = pure x := by intro _; rfl) :
    PE X (.ListComp elt [⟨tg, iter, ifs, 0⟩] scope pos) (tDF X.K XC W P (dLcA (own.map (·.2)) sa t test se)) := (pe_lc hc hN (pi_list ha) ok hg ht he hs).dvi fun σ H Q q => lcA_of q
end
end Dv

set_option maxRecDepth 100000
set_option maxHeartbeats 4000000
namespace Dv.waydues_k65_hunts_for_leaks
open PySem L2 Dv
def top (i : Nat) : Stmt := PySem.Challenge.pw_waydues_k65_hunts_for_leaks.main.body.getD i (.Pass ⟨0, 0, 0, 0⟩)
def em_DuesError : Nat → Bool
  | 0 => true
  | 1 => true
  | 2 => true
  | _ => false
def ki_InvalidPaper : Nat → Bool
  | 0 => false
  | 1 => false
  | 2 => true
  | _ => false
def ki_ValueError : Nat → Bool
  | 0 => true
  | 1 => true
  | 2 => true
  | _ => false
structure Txt (K : Fg) (mg : Str → Option Value) (XC : Nat → Addr) : Prop where
  z_ValueError : mg "ValueError" = none
  z_abs : mg "abs" = none
  z_bool : mg "bool" = none
  z_dict : mg "dict" = none
  z_int : mg "int" = none
  z_isinstance : mg "isinstance" = none
  z_len : mg "len" = none
  z_list : mg "list" = none
  z_max : mg "max" = none
  z_min : mg "min" = none
  z_range : mg "range" = none
  z_sorted : mg "sorted" = none
  z_str : mg "str" = none
  z_tuple : mg "tuple" = none
  v_FAR : ∃ t, mg "FAR" = some (.int 1000000 t)
  v_MOST : ∃ t, mg "MOST" = some (.int 20 t)
  x_DuesError : OwnX K mg (XC 0) "DuesError"
  x_InvalidNumber : OwnX K mg (XC 1) "InvalidNumber"
  x_InvalidPaper : OwnX K mg (XC 2) "InvalidPaper"
  em_DuesError : ∀ k, k < 3 → PySem.W.exmOne K (.ref (XC k)) (.ref (XC 0)) = some (em_DuesError k)
  ki_InvalidPaper : ∀ k, k < 3 → PySem.W.kitOne K (.ref (XC k)) (.ref (XC 2)) = some (ki_InvalidPaper k)
  ki_ValueError : ∀ k, k < 3 → PySem.W.kitOne K (.ref (XC k)) (.type "ValueError") = some (ki_ValueError k)
  hE : ∀ k, k < 3 → ExcC K (XC k)
abbrev Ns__law_pool : List Str := ["script"]
theorem sc__law_pool : FnScope Ns__law_pool ["script"] (defScope (top 21)) := ⟨rfl, rfl, rfl, by decide +kernel, rfl, by decide +kernel, by decide +kernel⟩
def s__law_pool : Env → R D :=
  dLst (dACons (dF (dCBF fList (dACons (dV 0) (dANil)))) (dACons (dC (.int 0)) (dACons (dC (.int 0)) (dACons (dC (.int 0)) (dACons (dC (.int 0)) (dANil))))))
def F__law_pool : List D → R D := runFr 1 s__law_pool
theorem ok__law_pool {P : Program} {w : World} {K : Fg} {mg : Str → Option Value} {base : Heap} {XC : Nat → Addr} {f : Addr} {fd : FuncData} (F : FunD K "_law_pool" "_law_pool" (defArgs (top 21)) (defBody (top 21)) (defScope (top 21)) [] [] f fd) (T : Txt K mg XC)  :
    FnOk P w K mg base (L2.CX P w) 2 f fd ["script"] (spFr K XC 1 F__law_pool) :=
  fn_fr1 F sc__law_pool rfl fun cdv A outer s H E hr => 
  (pd_lst (pad_cons (pd_f (pd_callTyF (T := "list") call_list_of fresh_list rfl T.z_list (by rfl) (pad_cons (pd_v (pv 0)) (pad_nil)))) (pad_cons (pd_int) (pad_cons (pd_int) (pad_cons (pd_int) (pad_cons (pd_int) (pad_nil)))))))
abbrev Ns__law_draw : List Str := ["pool", "many", "found", "cell", "mixed"]
theorem sc__law_draw : FnScope Ns__law_draw ["pool", "many"] (defScope (top 22)) := ⟨rfl, rfl, rfl, by decide +kernel, rfl, by decide +kernel, by decide +kernel⟩
def s__law_draw : SSem :=
  sSeq (sIf (dTest (dBin fGt (dBin ixD (dV 0) (dC (.int 2))) (dC (.int 0)))) (sSeq (sAsg (dBin fMod (dCB fInt (dACons (dBin ixD (dV 0) (dC (.int 2))) (dANil))) (dV 1)) (.nm 2))
    (sSeq (sSetIx (dBin fDiv (dBin ixD (dV 0) (dC (.int 2))) (dV 1)) (dV 0) (dC (.int 2)))
    (sRet (dV 2)))) (sSkip))
  (sSeq (sIf (dAnd (dTest (dBin fEq (dBin fMod (dCB fInt (dACons (dBin ixD (dV 0) (dC (.int 4))) (dANil))) (dC (.int 8))) (dC (.int 0)))) (dTest (dBin fLt (dBin ixD (dV 0) (dC (.int 1))) (dCB fLen (dACons (dBin ixD (dV 0) (dC (.int 0))) (dANil)))))) (sSeq (sAsg (dCB fAbs (dACons (dBin ixD (dBin ixD (dV 0) (dC (.int 0))) (dBin ixD (dV 0) (dC (.int 1)))) (dANil))) (.nm 3))
    (sSeq (sSetIx (dBin fAdd (dBin ixD (dV 0) (dC (.int 1))) (dC (.int 1))) (dV 0) (dC (.int 1)))
    (sSeq (sIf (dTest (dBin fGe (dV 3) (dBin fPow (dC (.int 10)) (dC (.int 18))))) (sSeq (sSetIx (dBin fDiv (dV 3) (dV 1)) (dV 0) (dC (.int 2)))
      (sRet (dBin fMod (dCB fInt (dACons (dV 3) (dANil))) (dV 1)))) (sSkip))
    (sSetIx (dV 3) (dV 0) (dC (.int 3)))))) (sSkip))
  (sSeq (sSetIx (dBin fAdd (dBin ixD (dV 0) (dC (.int 4))) (dC (.int 1))) (dV 0) (dC (.int 4)))
  (sSeq (sAsg (dBin fMod (dCB fInt (dACons (dBin fAdd (dBin fAdd (dBin fMul (dBin ixD (dV 0) (dC (.int 3))) (dC (.int 48271))) (dBin fMul (dBin ixD (dV 0) (dC (.int 4))) (dC (.int 69621)))) (dC (.int 7919))) (dANil))) (dC (.int 2147483647))) (.nm 4))
  (sSeq (sAsg (dBin fMod (dCB fInt (dACons (dBin fAdd (dBin fMul (dV 4) (dV 4)) (dBin fMul (dBin ixD (dV 0) (dC (.int 4))) (dC (.int 40692)))) (dANil))) (dC (.int 2147483399))) (.nm 4))
  (sRet (dBin fMod (dCB fInt (dACons (dV 4) (dANil))) (dV 1)))))))
def F__law_draw : D → List D → R D := runIO 5 s__law_draw
theorem ok__law_draw {P : Program} {w : World} {K : Fg} {mg : Str → Option Value} {base : Heap} {XC : Nat → Addr} {f : Addr} {fd : FuncData} (F : FunD K "_law_draw" "_law_draw" (defArgs (top 22)) (defBody (top 22)) (defScope (top 22)) [] [] f fd) (T : Txt K mg XC)  :
    FnOk P w K mg base (L2.CX P w) 2 f fd ["pool", "many"] (spIO K XC 2 F__law_draw) :=
  fn_io F sc__law_draw fun p cdv A outer s H E hr => 
  (psd_cons (psd_if (pt_dcmp op_gt pure_gt rfl (pd_ix ix_seq pure_ix (fun _ _ => rfl) (pd_v (pv 0)) (pd_int)) (pd_int)) (psd_cons (psd_set (i := 2) sc__law_draw.nd rfl (by first | exact .inl rfl | exact .inr rfl) (pd_mod (pd_callTy (T := "int") call_int1 pure_int rfl T.z_int (by rfl) (pad_cons (pd_ix ix_seq pure_ix (fun _ _ => rfl) (pd_v (pv 0)) (pd_int)) (pad_nil))) (pd_v (pv 1))))
    (psd_cons (psd_setIx (pd_div (pd_ix ix_seq pure_ix (fun _ _ => rfl) (pd_v (pv 0)) (pd_int)) (pd_v (pv 1))) (pd_v (pv 0)) (pd_int))
    (psd_one (psd_ret (pd_v (pv 2)))))) (psd_nil))
  (psd_cons (psd_if (PW.pt (pw_dand (pt_dcmp (op_eqX (have h := room64 hr; h)) pure_eq rfl (pd_mod (pd_callTy (T := "int") call_int1 pure_int rfl T.z_int (by rfl) (pad_cons (pd_ix ix_seq pure_ix (fun _ _ => rfl) (pd_v (pv 0)) (pd_int)) (pad_nil))) (pd_int)) (pd_int)) (pw_d1a (pt_dcmp op_lt pure_lt rfl (pd_ix ix_seq pure_ix (fun _ _ => rfl) (pd_v (pv 0)) (pd_int)) (pd_callB (id := "len") call_len pure_len rfl T.z_len (by decide +kernel) (pad_cons (pd_ix ix_seq pure_ix (fun _ _ => rfl) (pd_v (pv 0)) (pd_int)) (pad_nil))))))) (psd_cons (psd_set (i := 3) sc__law_draw.nd rfl (by first | exact .inl rfl | exact .inr rfl) (pd_callB (id := "abs") call_abs pure_abs rfl T.z_abs (by decide +kernel) (pad_cons (pd_ix ix_seq pure_ix (fun _ _ => rfl) (pd_ix ix_seq pure_ix (fun _ _ => rfl) (pd_v (pv 0)) (pd_int)) (pd_ix ix_seq pure_ix (fun _ _ => rfl) (pd_v (pv 0)) (pd_int))) (pad_nil))))
    (psd_cons (psd_setIx (pd_add (pd_ix ix_seq pure_ix (fun _ _ => rfl) (pd_v (pv 0)) (pd_int)) (pd_int)) (pd_v (pv 0)) (pd_int))
    (psd_cons (psd_if (pt_dcmp op_ge pure_ge rfl (pd_v (pv 3)) (pd_pow (pd_int) (pd_int))) (psd_cons (psd_setIx (pd_div (pd_v (pv 3)) (pd_v (pv 1))) (pd_v (pv 0)) (pd_int))
      (psd_one (psd_ret (pd_mod (pd_callTy (T := "int") call_int1 pure_int rfl T.z_int (by rfl) (pad_cons (pd_v (pv 3)) (pad_nil))) (pd_v (pv 1)))))) (psd_nil))
    (psd_one (psd_setIx (pd_v (pv 3)) (pd_v (pv 0)) (pd_int)))))) (psd_nil))
  (psd_cons (psd_setIx (pd_add (pd_ix ix_seq pure_ix (fun _ _ => rfl) (pd_v (pv 0)) (pd_int)) (pd_int)) (pd_v (pv 0)) (pd_int))
  (psd_cons (psd_set (i := 4) sc__law_draw.nd rfl (by first | exact .inl rfl | exact .inr rfl) (pd_mod (pd_callTy (T := "int") call_int1 pure_int rfl T.z_int (by rfl) (pad_cons (pd_add (pd_add (pd_mul (pd_ix ix_seq pure_ix (fun _ _ => rfl) (pd_v (pv 0)) (pd_int)) (pd_int)) (pd_mul (pd_ix ix_seq pure_ix (fun _ _ => rfl) (pd_v (pv 0)) (pd_int)) (pd_int))) (pd_int)) (pad_nil))) (pd_int)))
  (psd_cons (psd_set (i := 4) sc__law_draw.nd rfl (by first | exact .inl rfl | exact .inr rfl) (pd_mod (pd_callTy (T := "int") call_int1 pure_int rfl T.z_int (by rfl) (pad_cons (pd_add (pd_mul (pd_v (pv 4)) (pd_v (pv 4))) (pd_mul (pd_ix ix_seq pure_ix (fun _ _ => rfl) (pd_v (pv 0)) (pd_int)) (pd_int))) (pad_nil))) (pd_int)))
  (psd_one (psd_ret (pd_mod (pd_callTy (T := "int") call_int1 pure_int rfl T.z_int (by rfl) (pad_cons (pd_v (pv 4)) (pad_nil))) (pd_v (pv 1))))))))))
abbrev Ns__law_fits : List Str := ["places", "tests", "leak", "row"]
theorem sc__law_fits : FnScope Ns__law_fits ["places", "tests", "leak"] (defScope (top 24)) := ⟨rfl, rfl, rfl, by decide +kernel, rfl, by decide +kernel, by decide +kernel⟩
def s__law_fits : SSem :=
  sRet (dBin fEq (dCB fLen (dACons (dF (dLc [3] (dV 1) (.nm 3) (dTest (dBin fNe (dBin ixD (dV 3) (dC (.int 1))) (dAndV (dBin fLt (dC (.int 0)) (dV 2)) (dBin fLe (dV 2) (dBin ixD (dV 3) (dC (.int 0))))))) (dV 3))) (dANil))) (dC (.int 0)))
def F__law_fits : List D → R D := runD 4 s__law_fits
theorem ok__law_fits {P : Program} {w : World} {K : Fg} {mg : Str → Option Value} {base : Heap} {XC : Nat → Addr} {f : Addr} {fd : FuncData} (F : FunD K "_law_fits" "_law_fits" (defArgs (top 24)) (defBody (top 24)) (defScope (top 24)) [] [] f fd) (T : Txt K mg XC)  :
    FnOk P w K mg base (L2.CX P w) 2 f fd ["places", "tests", "leak"] (spF K XC 3 F__law_fits) :=
  fn_d F sc__law_fits fun cdv A outer s H E hr => 
  (psd_one (psd_ret (pd_cmp (op_eqX (have h := room64 hr; h)) pure_eq rfl (pd_callB (id := "len") call_len pure_len rfl T.z_len (by decide +kernel) (pad_cons (pd_f (pd_lc (own := [("row", 3)]) rfl sc__law_fits.nd (pd_v (pv 1)) (blkOk_by (N := Ns__law_fits) (sc := defScope (top 24)) (own := [("row", 3)]) (by decide +kernel)) (fun _ _ _ _ _ => pgx_name (i := 3) sc__law_fits.nd rfl (by first | exact .inl rfl | exact .inr rfl)) (fun _ _ _ _ _ => ptsd_one (pt_dcmp (op_neX (have h := room64 hr; h)) pure_ne rfl (pd_ix ix_seq pure_ix (fun _ _ => rfl) (pd_v (pv 3)) (pd_int)) (pd_andV (pd_cmp op_lt pure_lt rfl (pd_int) (pd_v (pv 2))) (pd_one (pd_cmp op_le pure_le rfl (pd_v (pv 2)) (pd_ix ix_seq pure_ix (fun _ _ => rfl) (pd_v (pv 3)) (pd_int))))))) (fun _ _ _ _ _ => pd_v (pv 3)))) (pad_nil))) (pd_int))))
abbrev Ns_is_number : List Str := ["value", "least", "most"]
theorem sc_is_number : FnScope Ns_is_number ["value", "least", "most"] (defScope (top 6)) := ⟨rfl, rfl, rfl, by decide +kernel, rfl, by decide +kernel, by decide +kernel⟩
def s_is_number : SSem :=
  sSeq (sIf (dOr (dTru (dUn (isiD Ty.bool) (dV 0))) (dNot (dTru (dUn (isiD Ty.int) (dV 0))))) (sRet (dC (.bl false))) (sSkip))
  (sRet (dChain fLe fLe (dV 1) (dV 0) (dV 2)))
def F_is_number : List D → R D := runD 3 s_is_number
theorem ok_is_number {P : Program} {w : World} {K : Fg} {mg : Str → Option Value} {base : Heap} {XC : Nat → Addr} {f : Addr} {fd : FuncData} (F : FunD K "is_number" "is_number" (defArgs (top 6)) (defBody (top 6)) (defScope (top 6)) [.int 0, .int 1000000] [] f fd) (T : Txt K mg XC)  :
    FnOk P w K mg base (L2.CX P w) 2 f fd ["value", "least", "most"] (spF K XC 3 F_is_number) :=
  fn_d F sc_is_number fun cdv A outer s H E hr => 
  (psd_cons (psd_if (PW.pt (pw_dor (pt_dtru (pd_isi Ty.bool rfl T.z_isinstance (pd_v (pv 0)) (pe_bltn (v := .ty "bool") rfl T.z_bool (by rfl) rfl))) (pw_d1o (pt_dnot (pt_dtru (pd_isi Ty.int rfl T.z_isinstance (pd_v (pv 0)) (pe_bltn (v := .ty "int") rfl T.z_int (by rfl) rfl))))))) (psd_one (psd_ret (pd_bl))) (psd_nil))
  (psd_one (psd_ret (pd_chain op_le pure_le op_le pure_le (pd_v (pv 1)) (pd_v (pv 0)) (pd_v (pv 2))))))
abbrev Ns_checked_number : List Str := ["value", "least", "most"]
theorem sc_checked_number : FnScope Ns_checked_number ["value", "least", "most"] (defScope (top 7)) := ⟨rfl, rfl, rfl, by decide +kernel, rfl, by decide +kernel, by decide +kernel⟩
def s_checked_number : SSem :=
  sSeq (sIf (dNot (dTru (dCall F_is_number [] (dACons (dV 0) (dACons (dV 1) (dACons (dV 2) (dANil))))))) (sRaiseM 1 (mCat (mCat (mCat (mC 15) (mStr (dV 1))) (mC 4)) (mStr (dV 2)))) (sSkip))
  (sRet (dV 0))
def F_checked_number : List D → R D := runD 3 s_checked_number
theorem ok_checked_number {P : Program} {w : World} {K : Fg} {mg : Str → Option Value} {base : Heap} {XC : Nat → Addr} {f : Addr} {fd : FuncData} (F : FunD K "checked_number" "checked_number" (defArgs (top 7)) (defBody (top 7)) (defScope (top 7)) [.int 0, .int 1000000] [] f fd) (T : Txt K mg XC) (c_is_number_0 : CalD P w K mg base 2 "is_number" (spF K XC 3 F_is_number) []) :
    FnOk P w K mg base (L2.CX P w) 3 f fd ["value", "least", "most"] (spF K XC 3 F_checked_number) :=
  fn_d F sc_checked_number fun cdv A outer s H E hr => 
  (psd_cons (psd_if (pt_dnot (pt_dtru (pd_callC c_is_number_0 hr (by decide) rfl (takes_of rfl rfl rfl rfl) rfl (pad_cons (pd_v (pv 0)) (pad_cons (pd_v (pv 1)) (pad_cons (pd_v (pv 2)) (pad_nil)))) (alen_cons (alen_cons (alen_cons alen_nil)))))) (psd_one (psd_raiseO (k := 1) T.x_InvalidNumber rfl (takes_of rfl rfl rfl rfl) rfl (pm_cat (pm_cat (pm_cat (pm_str (by decide +kernel)) (pm_toStr (by decide +kernel) rfl T.z_str (pd_v (pv 1)))) (pm_str (by decide +kernel))) (pm_toStr (by decide +kernel) rfl T.z_str (pd_v (pv 2)))))) (psd_nil))
  (psd_one (psd_ret (pd_v (pv 0)))))
abbrev Ns_reach : List Str := ["wrong", "tests", "rows", "turn", "spoilt"]
theorem sc_reach : FnScope Ns_reach ["wrong", "tests"] (defScope (top 11)) := ⟨rfl, rfl, rfl, by decide +kernel, rfl, by decide +kernel, by decide +kernel⟩
def s_reach : SSem :=
  sSeq (sDrop (dCall F_checked_number [] (dACons (dV 0) (dACons (dC (.int 0)) (dACons (dC (.int 20)) (dANil))))))
  (sSeq (sDrop (dCall F_checked_number [] (dACons (dV 1) (dACons (dC (.int 0)) (dACons (dC (.int 20)) (dANil))))))
  (sSeq (sAsg (dF (dBinF fRep (dF (dLst (dACons (dC (.int 0)) (dANil)))) (dBin fAdd (dV 0) (dC (.int 1))))) (.nm 2))
  (sSeq (sForR1 (dACons (dV 1) (dANil)) (.nm 3) (sAsg (dF (dBinF fCat (dF (dLst (dACons (dC (.int 0)) (dANil)))) (dF (dLcR2 [4] (dACons (dC (.int 1)) (dACons (dBin fAdd (dV 0) (dC (.int 1))) (dANil))) (.nm 4) (dYes) (dBin fAdd (dBin fAdd (dBin ixD (dV 2) (dV 4)) (dBin ixD (dV 2) (dBin fSub (dV 4) (dC (.int 1))))) (dC (.int 1))))))) (.nm 2)))
  (sRet (dBin ixD (dV 2) (dV 0))))))
def F_reach : List D → R D := runD 5 s_reach
theorem ok_reach {P : Program} {w : World} {K : Fg} {mg : Str → Option Value} {base : Heap} {XC : Nat → Addr} {f : Addr} {fd : FuncData} (F : FunD K "reach" "reach" (defArgs (top 11)) (defBody (top 11)) (defScope (top 11)) [] [] f fd) (T : Txt K mg XC) (c_checked_number_0 : CalD P w K mg base 3 "checked_number" (spF K XC 3 F_checked_number) []) :
    FnOk P w K mg base (L2.CX P w) 4 f fd ["wrong", "tests"] (spF K XC 2 F_reach) :=
  fn_d F sc_reach fun cdv A outer s H E hr => 
  (psd_cons (psd_expr (pd_callC c_checked_number_0 hr (by decide) rfl (takes_of rfl rfl rfl rfl) rfl (pad_cons (pd_v (pv 0)) (pad_cons (pd_int) (pad_cons (pd_globI T.v_MOST rfl) (pad_nil)))) (alen_cons (alen_cons (alen_cons alen_nil)))))
  (psd_cons (psd_expr (pd_callC c_checked_number_0 hr (by decide) rfl (takes_of rfl rfl rfl rfl) rfl (pad_cons (pd_v (pv 1)) (pad_cons (pd_int) (pad_cons (pd_globI T.v_MOST rfl) (pad_nil)))) (alen_cons (alen_cons (alen_cons alen_nil)))))
  (psd_cons (psd_set (i := 2) sc_reach.nd rfl (by first | exact .inl rfl | exact .inr rfl) (pd_f (pd_binF op_rep fresh_rep (pd_f (pd_lst (pad_cons (pd_int) (pad_nil)))) (pd_add (pd_v (pv 0)) (pd_int)))))
  (psd_cons (psd_forR1 (passes_of rfl) rfl rfl T.z_range (pad_cons (pd_v (pv 1)) (pad_nil)) (pgd_name (i := 3) sc_reach.nd rfl (by first | exact .inl rfl | exact .inr rfl)) (psd_one (psd_set (i := 2) sc_reach.nd rfl (by first | exact .inl rfl | exact .inr rfl) (pd_f (pd_binF op_cat fresh_cat (pd_f (pd_lst (pad_cons (pd_int) (pad_nil)))) (pd_f (pd_lcR2 (own := [("spoilt", 4)]) rfl sc_reach.nd rfl T.z_range (pad_cons (pd_int) (pad_cons (pd_add (pd_v (pv 0)) (pd_int)) (pad_nil))) (blkOk_by (N := Ns_reach) (sc := defScope (top 11)) (own := [("spoilt", 4)]) (by decide +kernel)) (fun _ _ _ _ _ => pgx_name (i := 4) sc_reach.nd rfl (by first | exact .inl rfl | exact .inr rfl)) (fun _ _ _ _ _ => ptsd_nil) (fun _ _ _ _ _ => pd_add (pd_add (pd_ix ix_seq pure_ix (fun _ _ => rfl) (pd_v (pv 2)) (pd_v (pv 4))) (pd_ix ix_seq pure_ix (fun _ _ => rfl) (pd_v (pv 2)) (pd_sub (pd_v (pv 4)) (pd_int)))) (pd_int)))))))))
  (psd_one (psd_ret (pd_ix ix_seq pure_ix (fun _ _ => rfl) (pd_v (pv 2)) (pd_v (pv 0)))))))))
abbrev Ns_fewest : List Str := ["places", "wrong", "tests"]
theorem sc_fewest : FnScope Ns_fewest ["places", "wrong"] (defScope (top 12)) := ⟨rfl, rfl, rfl, by decide +kernel, rfl, by decide +kernel, by decide +kernel⟩
def s_fewest : SSem :=
  sSeq (sDrop (dCall F_checked_number [] (dACons (dV 0) (dACons (dC (.int 0)) (dACons (dC (.int 1000000)) (dANil))))))
  (sSeq (sDrop (dCall F_checked_number [] (dACons (dV 1) (dACons (dC (.int 0)) (dACons (dC (.int 20)) (dANil))))))
  (sSeq (sForR1 (dACons (dBin fAdd (dC (.int 20)) (dC (.int 1))) (dANil)) (.nm 2) (sIf (dTest (dBin fGe (dCall F_reach [] (dACons (dV 1) (dACons (dV 2) (dANil)))) (dV 0))) (sRet (dV 2)) (sSkip)))
  (sRet (dC .non))))
def F_fewest : List D → R D := runD 3 s_fewest
theorem ok_fewest {P : Program} {w : World} {K : Fg} {mg : Str → Option Value} {base : Heap} {XC : Nat → Addr} {f : Addr} {fd : FuncData} (F : FunD K "fewest" "fewest" (defArgs (top 12)) (defBody (top 12)) (defScope (top 12)) [] [] f fd) (T : Txt K mg XC) (c_checked_number_0 : CalD P w K mg base 3 "checked_number" (spF K XC 3 F_checked_number) []) (c_reach_0 : CalD P w K mg base 4 "reach" (spF K XC 2 F_reach) []) :
    FnOk P w K mg base (L2.CX P w) 5 f fd ["places", "wrong"] (spF K XC 2 F_fewest) :=
  fn_d F sc_fewest fun cdv A outer s H E hr => 
  (psd_cons (psd_expr (pd_callC c_checked_number_0 hr (by decide) rfl (takes_of rfl rfl rfl rfl) rfl (pad_cons (pd_v (pv 0)) (pad_cons (pd_int) (pad_cons (pd_globI T.v_FAR rfl) (pad_nil)))) (alen_cons (alen_cons (alen_cons alen_nil)))))
  (psd_cons (psd_expr (pd_callC c_checked_number_0 hr (by decide) rfl (takes_of rfl rfl rfl rfl) rfl (pad_cons (pd_v (pv 1)) (pad_cons (pd_int) (pad_cons (pd_globI T.v_MOST rfl) (pad_nil)))) (alen_cons (alen_cons (alen_cons alen_nil)))))
  (psd_cons (psd_forR1 (passes_of rfl) rfl rfl T.z_range (pad_cons (pd_add (pd_globI T.v_MOST rfl) (pd_int)) (pad_nil)) (pgd_name (i := 2) sc_fewest.nd rfl (by first | exact .inl rfl | exact .inr rfl)) (psd_one (psd_if (pt_dcmp op_ge pure_ge rfl (pd_callC c_reach_0 hr (by decide) rfl (takes_of rfl rfl rfl rfl) rfl (pad_cons (pd_v (pv 1)) (pad_cons (pd_v (pv 2)) (pad_nil))) (alen_cons (alen_cons alen_nil))) (pd_v (pv 0))) (psd_one (psd_ret (pd_v (pv 2)))) (psd_nil))))
  (psd_one (psd_ret (pd_non))))))
abbrev Ns_first_test : List Str := ["places", "wrong", "tests"]
theorem sc_first_test : FnScope Ns_first_test ["places", "wrong"] (defScope (top 13)) := ⟨rfl, rfl, rfl, by decide +kernel, rfl, by decide +kernel, by decide +kernel⟩
def s_first_test : SSem :=
  sSeq (sAsg (dCall F_fewest [] (dACons (dV 0) (dACons (dV 1) (dANil)))) (.nm 2))
  (sSeq (sIf (dOr (dTest (dBin fIsN (dV 2) (dC .non))) (dTest (dBin fEq (dV 2) (dC (.int 0))))) (sRaiseM 2 (mC 7)) (sSkip))
  (sRet (dCB fMin2 (dACons (dV 0) (dACons (dBin fAdd (dCall F_reach [] (dACons (dBin fSub (dV 1) (dC (.int 1))) (dACons (dBin fSub (dV 2) (dC (.int 1))) (dANil)))) (dC (.int 1))) (dANil))))))
def F_first_test : List D → R D := runD 3 s_first_test
theorem ok_first_test {P : Program} {w : World} {K : Fg} {mg : Str → Option Value} {base : Heap} {XC : Nat → Addr} {f : Addr} {fd : FuncData} (F : FunD K "first_test" "first_test" (defArgs (top 13)) (defBody (top 13)) (defScope (top 13)) [] [] f fd) (T : Txt K mg XC) (c_fewest_0 : CalD P w K mg base 5 "fewest" (spF K XC 2 F_fewest) []) (c_reach_0 : CalD P w K mg base 4 "reach" (spF K XC 2 F_reach) []) :
    FnOk P w K mg base (L2.CX P w) 6 f fd ["places", "wrong"] (spF K XC 2 F_first_test) :=
  fn_d F sc_first_test fun cdv A outer s H E hr => 
  (psd_cons (psd_set (i := 2) sc_first_test.nd rfl (by first | exact .inl rfl | exact .inr rfl) (pd_callC c_fewest_0 hr (by decide) rfl (takes_of rfl rfl rfl rfl) rfl (pad_cons (pd_v (pv 0)) (pad_cons (pd_v (pv 1)) (pad_nil))) (alen_cons (alen_cons alen_nil))))
  (psd_cons (psd_if (PW.pt (pw_dor (pt_dcmp op_isN pure_isN rfl (pd_v (pv 2)) (pd_non)) (pw_d1o (pt_dcmp (op_eqX (have h := room64 hr; h)) pure_eq rfl (pd_v (pv 2)) (pd_int))))) (psd_one (psd_raiseO (k := 2) T.x_InvalidPaper rfl (takes_of rfl rfl rfl rfl) rfl (pm_str (by decide +kernel)))) (psd_nil))
  (psd_one (psd_ret (pd_callB (id := "min") (call_min2 rfl) pure_2I rfl T.z_min (by decide +kernel) (pad_cons (pd_v (pv 0)) (pad_cons (pd_add (pd_callC c_reach_0 hr (by decide) rfl (takes_of rfl rfl rfl rfl) rfl (pad_cons (pd_sub (pd_v (pv 1)) (pd_int)) (pad_cons (pd_sub (pd_v (pv 2)) (pd_int)) (pad_nil))) (alen_cons (alen_cons alen_nil))) (pd_int)) (pad_nil))))))))
abbrev Ns_test_tree : List Str := ["places", "wrong", "rows", "waiting", "low", "high", "left", "place", "ahead", "behind"]
theorem sc_test_tree : FnScope Ns_test_tree ["places", "wrong"] (defScope (top 18)) := ⟨rfl, rfl, rfl, by decide +kernel, rfl, by decide +kernel, by decide +kernel⟩
def s_test_tree : SSem :=
  sSeq (sIf (dTest (dBin fIsN (dCall F_fewest [] (dACons (dV 0) (dACons (dV 1) (dANil)))) (dC .non))) (sRaiseM 2 (mC 8)) (sSkip))
  (sSeq (sAsgF (dLst (dANil)) 2)
  (sSeq (sAsgF (dLst (dACons (dTup (dACons (dC (.int 0)) (dACons (dV 0) (dACons (dV 1) (dANil))))) (dANil))) 3)
  (sSeq (sWhile 100 (dTru (dV 3)) (sSeq (sAsg (dMut gPop (dV 3) dANil) (.tup ((.nm 4) :: (.nm 5) :: (.nm 6) :: [])))
    (sIf (dTest (dBin fLt (dV 4) (dV 5))) (sSeq (sAsg (dBin fAdd (dV 4) (dCall F_first_test [] (dACons (dBin fSub (dV 5) (dV 4)) (dACons (dV 6) (dANil))))) (.nm 7))
      (sSeq (sAsg (dIf (dTest (dBin fLt (dV 4) (dBin fSub (dV 7) (dC (.int 1))))) (dBin fAdd (dV 4) (dCall F_first_test [] (dACons (dBin fSub (dBin fSub (dV 7) (dC (.int 1))) (dV 4)) (dACons (dBin fSub (dV 6) (dC (.int 1))) (dANil))))) (dC .non)) (.nm 8))
      (sSeq (sAsg (dIf (dTest (dBin fLt (dV 7) (dV 5))) (dBin fAdd (dV 7) (dCall F_first_test [] (dACons (dBin fSub (dV 5) (dV 7)) (dACons (dV 6) (dANil))))) (dC .non)) (.nm 9))
      (sSeq (sDrop (dMut gApp (dV 2) (dACons (dTup (dACons (dV 7) (dACons (dV 8) (dACons (dV 9) (dANil))))) (dANil))))
      (sDrop (dMut gExt (dV 3) (dACons (dF (dLst (dACons (dTup (dACons (dV 4) (dACons (dBin fSub (dV 7) (dC (.int 1))) (dACons (dBin fSub (dV 6) (dC (.int 1))) (dANil))))) (dACons (dTup (dACons (dV 7) (dACons (dV 5) (dACons (dV 6) (dANil))))) (dANil))))) (dANil)))))))) (sSkip))))
  (sRet (dF (dCBF fSortT (dACons (dV 2) (dANil))))))))
def F_test_tree : List D → R D := runD 10 s_test_tree
theorem ok_test_tree {P : Program} {w : World} {K : Fg} {mg : Str → Option Value} {base : Heap} {XC : Nat → Addr} {f : Addr} {fd : FuncData} (F : FunD K "test_tree" "test_tree" (defArgs (top 18)) (defBody (top 18)) (defScope (top 18)) [] [] f fd) (T : Txt K mg XC) (c_fewest_0 : CalD P w K mg base 5 "fewest" (spF K XC 2 F_fewest) []) (c_first_test_0 : CalD P w K mg base 6 "first_test" (spF K XC 2 F_first_test) []) :
    FnOk P w K mg base (L2.CX P w) 7 f fd ["places", "wrong"] (spF K XC 2 F_test_tree) :=
  fn_d F sc_test_tree fun cdv A outer s H E hr => 
  (psd_cons (psd_if (pt_dcmp op_isN pure_isN rfl (pd_callC c_fewest_0 hr (by decide) rfl (takes_of rfl rfl rfl rfl) rfl (pad_cons (pd_v (pv 0)) (pad_cons (pd_v (pv 1)) (pad_nil))) (alen_cons (alen_cons alen_nil))) (pd_non)) (psd_one (psd_raiseO (k := 2) T.x_InvalidPaper rfl (takes_of rfl rfl rfl rfl) rfl (pm_str (by decide +kernel)))) (psd_nil))
  (psd_cons (psd_asgF (i := 2) sc_test_tree.nd rfl (by first | exact .inl rfl | exact .inr rfl) (pd_lst (pad_nil)))
  (psd_cons (psd_asgF (i := 3) sc_test_tree.nd rfl (by first | exact .inl rfl | exact .inr rfl) (pd_lst (pad_cons (pd_tup (pad_cons (pd_int) (pad_cons (pd_v (pv 0)) (pad_cons (pd_v (pv 1)) (pad_nil))))) (pad_nil))))
  (psd_cons (psd_while 100 (passes_of rfl) (pt_dtru (pd_v (pv 3))) (psd_cons (psd_asg (pd_mut0 PySem.F.slot_list_pop (by rfl) mt_pop mut_pop (pd_v (pv 3))) (pgd_tup rfl (pgsd_cons (pgd_name (i := 4) sc_test_tree.nd rfl (by first | exact .inl rfl | exact .inr rfl)) (pgsd_cons (pgd_name (i := 5) sc_test_tree.nd rfl (by first | exact .inl rfl | exact .inr rfl)) (pgsd_cons (pgd_name (i := 6) sc_test_tree.nd rfl (by first | exact .inl rfl | exact .inr rfl)) (pgsd_nil))))))
    (psd_one (psd_if (pt_dcmp op_lt pure_lt rfl (pd_v (pv 4)) (pd_v (pv 5))) (psd_cons (psd_set (i := 7) sc_test_tree.nd rfl (by first | exact .inl rfl | exact .inr rfl) (pd_add (pd_v (pv 4)) (pd_callC c_first_test_0 hr (by decide) rfl (takes_of rfl rfl rfl rfl) rfl (pad_cons (pd_sub (pd_v (pv 5)) (pd_v (pv 4))) (pad_cons (pd_v (pv 6)) (pad_nil))) (alen_cons (alen_cons alen_nil)))))
      (psd_cons (psd_set (i := 8) sc_test_tree.nd rfl (by first | exact .inl rfl | exact .inr rfl) (pd_if (pt_dcmp op_lt pure_lt rfl (pd_v (pv 4)) (pd_sub (pd_v (pv 7)) (pd_int))) (pd_add (pd_v (pv 4)) (pd_callC c_first_test_0 hr (by decide) rfl (takes_of rfl rfl rfl rfl) rfl (pad_cons (pd_sub (pd_sub (pd_v (pv 7)) (pd_int)) (pd_v (pv 4))) (pad_cons (pd_sub (pd_v (pv 6)) (pd_int)) (pad_nil))) (alen_cons (alen_cons alen_nil)))) (pd_non)))
      (psd_cons (psd_set (i := 9) sc_test_tree.nd rfl (by first | exact .inl rfl | exact .inr rfl) (pd_if (pt_dcmp op_lt pure_lt rfl (pd_v (pv 7)) (pd_v (pv 5))) (pd_add (pd_v (pv 7)) (pd_callC c_first_test_0 hr (by decide) rfl (takes_of rfl rfl rfl rfl) rfl (pad_cons (pd_sub (pd_v (pv 5)) (pd_v (pv 7))) (pad_cons (pd_v (pv 6)) (pad_nil))) (alen_cons (alen_cons alen_nil)))) (pd_non)))
      (psd_cons (psd_expr (pd_mut PySem.F.slot_list_append (by rfl) mt_append mut_app (pd_v (pv 2)) (pad_cons (pd_tup (pad_cons (pd_v (pv 7)) (pad_cons (pd_v (pv 8)) (pad_cons (pd_v (pv 9)) (pad_nil))))) (pad_nil))))
      (psd_one (psd_expr (pd_mut PySem.F.slot_list_extend (by rfl) mt_extend mut_ext (pd_v (pv 3)) (pad_cons (pd_f (pd_lst (pad_cons (pd_tup (pad_cons (pd_v (pv 4)) (pad_cons (pd_sub (pd_v (pv 7)) (pd_int)) (pad_cons (pd_sub (pd_v (pv 6)) (pd_int)) (pad_nil))))) (pad_cons (pd_tup (pad_cons (pd_v (pv 7)) (pad_cons (pd_v (pv 5)) (pad_cons (pd_v (pv 6)) (pad_nil))))) (pad_nil))))) (pad_nil))))))))) (psd_nil)))))
  (psd_one (psd_ret (pd_f (pd_callBF (id := "sorted") cr_sortT fresh_sortT rfl T.z_sorted (by decide +kernel) (pad_cons (pd_v (pv 2)) (pad_nil))))))))))
abbrev Ns_hunt : List Str := ["places", "wrong", "leak", "tests", "low", "high", "left", "place", "is_wrong"]
theorem sc_hunt : FnScope Ns_hunt ["places", "wrong", "leak"] (defScope (top 14)) := ⟨rfl, rfl, rfl, by decide +kernel, rfl, by decide +kernel, by decide +kernel⟩
def s_hunt : SSem :=
  sSeq (sIf (dNot (dTru (dCall F_is_number [] (dACons (dV 2) (dACons (dC (.int 0)) (dACons (dV 0) (dANil))))))) (sRaiseM 1 (mC 8)) (sSkip))
  (sSeq (sAsgF (dLst (dANil)) 3)
  (sSeq (sAsg (dC (.int 0)) (.nm 4))
  (sSeq (sAsg (dV 0) (.nm 5))
  (sSeq (sAsg (dV 1) (.nm 6))
  (sSeq (sWhile 100 (dTest (dBin fLt (dV 4) (dV 5))) (sSeq (sAsg (dBin fAdd (dV 4) (dCall F_first_test [] (dACons (dBin fSub (dV 5) (dV 4)) (dACons (dV 6) (dANil))))) (.nm 7))
    (sSeq (sAsg (dChain fLt fLe (dC (.int 0)) (dV 2) (dV 7)) (.nm 8))
    (sSeq (sDrop (dMut gApp (dV 3) (dACons (dTup (dACons (dV 7) (dACons (dV 8) (dANil)))) (dANil))))
    (sIf (dTru (dV 8)) (sSeq (sAsg (dBin fSub (dV 7) (dC (.int 1))) (.nm 5))
      (sAsg (dBin fSub (dV 6) (dC (.int 1))) (.nm 6))) (sAsg (dV 7) (.nm 4)))))))
  (sRet (dV 3)))))))
def F_hunt : List D → R D := runD 9 s_hunt
theorem ok_hunt {P : Program} {w : World} {K : Fg} {mg : Str → Option Value} {base : Heap} {XC : Nat → Addr} {f : Addr} {fd : FuncData} (F : FunD K "hunt" "hunt" (defArgs (top 14)) (defBody (top 14)) (defScope (top 14)) [] [] f fd) (T : Txt K mg XC) (c_is_number_0 : CalD P w K mg base 2 "is_number" (spF K XC 3 F_is_number) []) (c_first_test_0 : CalD P w K mg base 6 "first_test" (spF K XC 2 F_first_test) []) :
    FnOk P w K mg base (L2.CX P w) 7 f fd ["places", "wrong", "leak"] (spF K XC 3 F_hunt) :=
  fn_d F sc_hunt fun cdv A outer s H E hr => 
  (psd_cons (psd_if (pt_dnot (pt_dtru (pd_callC c_is_number_0 hr (by decide) rfl (takes_of rfl rfl rfl rfl) rfl (pad_cons (pd_v (pv 2)) (pad_cons (pd_int) (pad_cons (pd_v (pv 0)) (pad_nil)))) (alen_cons (alen_cons (alen_cons alen_nil)))))) (psd_one (psd_raiseO (k := 1) T.x_InvalidNumber rfl (takes_of rfl rfl rfl rfl) rfl (pm_str (by decide +kernel)))) (psd_nil))
  (psd_cons (psd_asgF (i := 3) sc_hunt.nd rfl (by first | exact .inl rfl | exact .inr rfl) (pd_lst (pad_nil)))
  (psd_cons (psd_set (i := 4) sc_hunt.nd rfl (by first | exact .inl rfl | exact .inr rfl) (pd_int))
  (psd_cons (psd_set (i := 5) sc_hunt.nd rfl (by first | exact .inl rfl | exact .inr rfl) (pd_v (pv 0)))
  (psd_cons (psd_set (i := 6) sc_hunt.nd rfl (by first | exact .inl rfl | exact .inr rfl) (pd_v (pv 1)))
  (psd_cons (psd_while 100 (passes_of rfl) (pt_dcmp op_lt pure_lt rfl (pd_v (pv 4)) (pd_v (pv 5))) (psd_cons (psd_set (i := 7) sc_hunt.nd rfl (by first | exact .inl rfl | exact .inr rfl) (pd_add (pd_v (pv 4)) (pd_callC c_first_test_0 hr (by decide) rfl (takes_of rfl rfl rfl rfl) rfl (pad_cons (pd_sub (pd_v (pv 5)) (pd_v (pv 4))) (pad_cons (pd_v (pv 6)) (pad_nil))) (alen_cons (alen_cons alen_nil)))))
    (psd_cons (psd_set (i := 8) sc_hunt.nd rfl (by first | exact .inl rfl | exact .inr rfl) (pd_chain op_lt pure_lt op_le pure_le (pd_int) (pd_v (pv 2)) (pd_v (pv 7))))
    (psd_cons (psd_expr (pd_mut PySem.F.slot_list_append (by rfl) mt_append mut_app (pd_v (pv 3)) (pad_cons (pd_tup (pad_cons (pd_v (pv 7)) (pad_cons (pd_v (pv 8)) (pad_nil)))) (pad_nil))))
    (psd_one (psd_if (pt_dtru (pd_v (pv 8))) (psd_cons (psd_set (i := 5) sc_hunt.nd rfl (by first | exact .inl rfl | exact .inr rfl) (pd_sub (pd_v (pv 7)) (pd_int)))
      (psd_one (psd_set (i := 6) sc_hunt.nd rfl (by first | exact .inl rfl | exact .inr rfl) (pd_sub (pd_v (pv 6)) (pd_int))))) (psd_one (psd_set (i := 4) sc_hunt.nd rfl (by first | exact .inl rfl | exact .inr rfl) (pd_v (pv 7))))))))))
  (psd_one (psd_ret (pd_v (pv 3))))))))))
abbrev Ns_worst : List Str := ["places", "wrong", "leak"]
theorem sc_worst : FnScope Ns_worst ["places", "wrong"] (defScope (top 17)) := ⟨rfl, rfl, rfl, by decide +kernel, rfl, by decide +kernel, by decide +kernel⟩
def s_worst : SSem :=
  sSeq (sIf (dTest (dBin fIsN (dCall F_fewest [] (dACons (dV 0) (dACons (dV 1) (dANil)))) (dC .non))) (sRaiseM 2 (mC 8)) (sSkip))
  (sRet (dCB fMaxL (dACons (dF (dLcR1 [2] (dACons (dBin fAdd (dV 0) (dC (.int 1))) (dANil)) (.nm 2) (dYes) (dCB fLen (dACons (dCall F_hunt [] (dACons (dV 0) (dACons (dV 1) (dACons (dV 2) (dANil))))) (dANil))))) (dANil))))
def F_worst : List D → R D := runD 3 s_worst
theorem ok_worst {P : Program} {w : World} {K : Fg} {mg : Str → Option Value} {base : Heap} {XC : Nat → Addr} {f : Addr} {fd : FuncData} (F : FunD K "worst" "worst" (defArgs (top 17)) (defBody (top 17)) (defScope (top 17)) [] [] f fd) (T : Txt K mg XC) (c_fewest_0 : CalD P w K mg base 5 "fewest" (spF K XC 2 F_fewest) []) (c_hunt_0 : CalD P w K mg base 7 "hunt" (spF K XC 3 F_hunt) []) :
    FnOk P w K mg base (L2.CX P w) 8 f fd ["places", "wrong"] (spF K XC 2 F_worst) :=
  fn_d F sc_worst fun cdv A outer s H E hr => 
  (psd_cons (psd_if (pt_dcmp op_isN pure_isN rfl (pd_callC c_fewest_0 hr (by decide) rfl (takes_of rfl rfl rfl rfl) rfl (pad_cons (pd_v (pv 0)) (pad_cons (pd_v (pv 1)) (pad_nil))) (alen_cons (alen_cons alen_nil))) (pd_non)) (psd_one (psd_raiseO (k := 2) T.x_InvalidPaper rfl (takes_of rfl rfl rfl rfl) rfl (pm_str (by decide +kernel)))) (psd_nil))
  (psd_one (psd_ret (pd_callB (id := "max") (cr_max rfl) pure_maxL rfl T.z_max (by decide +kernel) (pad_cons (pd_f (pd_lcR1 (own := [("leak", 2)]) rfl sc_worst.nd rfl T.z_range (pad_cons (pd_add (pd_v (pv 0)) (pd_int)) (pad_nil)) (blkOk_by (N := Ns_worst) (sc := defScope (top 17)) (own := [("leak", 2)]) (by decide +kernel)) (fun _ _ _ _ _ => pgx_name (i := 2) sc_worst.nd rfl (by first | exact .inl rfl | exact .inr rfl)) (fun _ _ _ _ _ => ptsd_nil) (fun _ _ _ _ _ => pd_callB (id := "len") call_len pure_len rfl T.z_len (by decide +kernel) (pad_cons (pd_callC c_hunt_0 hr (by decide) rfl takes0 rfl (pad_cons (pd_v (pv 0)) (pad_cons (pd_v (pv 1)) (pad_cons (pd_v (pv 2)) (pad_nil)))) (alen_cons (alen_cons (alen_cons alen_nil)))) (pad_nil))))) (pad_nil))))))
abbrev Ns__law_refused : List Str := ["choice", "places", "wrong", "problem"]
theorem sc__law_refused : FnScope Ns__law_refused ["choice", "places", "wrong"] (defScope (top 25)) := ⟨rfl, rfl, rfl, by decide +kernel, rfl, by decide +kernel, by decide +kernel⟩
def s__law_refused : SSem :=
  sSeq (sTryAs 3 em_DuesError 3 (sIf (dTest (dBin fEq (dV 0) (dC (.int 0)))) (sDrop (dCall F_test_tree [] (dACons (dV 1) (dACons (dV 2) (dANil))))) (sDrop (dCall F_worst [] (dACons (dV 1) (dACons (dV 2) (dANil)))))) (fun k => sRet (dAndV (dIsE 3 (ki_InvalidPaper k)) (dIsE 3 (ki_ValueError k)))))
  (sRet (dC (.bl false)))
def F__law_refused : List D → R D := runD 4 s__law_refused
theorem ok__law_refused {P : Program} {w : World} {K : Fg} {mg : Str → Option Value} {base : Heap} {XC : Nat → Addr} {f : Addr} {fd : FuncData} (F : FunD K "_law_refused" "_law_refused" (defArgs (top 25)) (defBody (top 25)) (defScope (top 25)) [] [] f fd) (T : Txt K mg XC) (c_test_tree_0 : CalD P w K mg base 7 "test_tree" (spF K XC 2 F_test_tree) []) (c_worst_0 : CalD P w K mg base 8 "worst" (spF K XC 2 F_worst) []) :
    FnOk P w K mg base (L2.CX P w) 9 f fd ["choice", "places", "wrong"] (spF K XC 3 F__law_refused) :=
  fn_d F sc__law_refused fun cdv A outer s H E hr => 
  (psd_cons (psd_tryAs (i := 3) rfl rfl sc__law_refused.nd rfl rfl ⟨rfl, by decide, Or.inl T.x_DuesError.g⟩ (takes_of rfl rfl rfl rfl) (T.em_DuesError)
 (fun W pn xe tk hp => psd_one (psd_if (pt_dcmp (op_eqX (have h := room64 hr; h)) pure_eq rfl (pd_v (pv 0)) (pd_int)) (psd_one (psd_expr (pd_callC c_test_tree_0 hr (by decide) rfl tk rfl (pad_cons (pd_v (pv 1)) (pad_cons (pd_v (pv 2)) (pad_nil))) (alen_cons (alen_cons alen_nil))))) (psd_one (psd_expr (pd_callC c_worst_0 hr (by decide) rfl tk rfl (pad_cons (pd_v (pv 1)) (pad_cons (pd_v (pv 2)) (pad_nil))) (alen_cons (alen_cons alen_nil)))))))
 (fun k hk hm a oe pn hz hf => psd_one (psd_ret (pd_andV (pd_isE (T.hE _ hk) hz hf rfl T.z_isinstance (pv 3) (pe_glob (v := .ref (XC 2)) rfl T.x_InvalidPaper.g rfl) (fun u h => h) (T.ki_InvalidPaper _ hk)) (pd_one (pd_isE (T.hE _ hk) hz hf rfl T.z_isinstance (pv 3) (pe_bltn (v := .ty "ValueError") rfl T.z_ValueError (by rfl) rfl) (fun u h => h) (T.ki_ValueError _ hk)))))))
  (psd_one (psd_ret (pd_bl))))
abbrev Ns__law_same : List Str := ["actual", "due", "k"]
theorem sc__law_same : FnScope Ns__law_same ["actual", "due"] (defScope (top 20)) := ⟨rfl, rfl, rfl, by decide +kernel, rfl, by decide +kernel, by decide +kernel⟩
def s__law_same (F_rec : List D → R D) : SSem :=
  sSeq (sIf (dTest (dBin fIsN (dV 1) (dC .non))) (sRet (dBin fIsN (dV 0) (dC .non))) (sSkip))
  (sSeq (sIf (dTru (dUn (isiD2 Ty.tuple Ty.list) (dV 1))) (sSeq (sIf (dOr (dTest (dBin fNe (dUn (isiD Ty.tuple) (dV 1)) (dUn (isiD Ty.tuple) (dV 0)))) (dTest (dBin fNe (dUn (isiD Ty.list) (dV 1)) (dUn (isiD Ty.list) (dV 0))))) (sRet (dC (.bl false))) (sSkip))
    (sSeq (sIf (dTest (dBin fNe (dCB fLen (dACons (dV 0) (dANil))) (dCB fLen (dACons (dV 1) (dANil))))) (sRet (dC (.bl false))) (sSkip))
    (sSeq (sForR1 (dACons (dCB fLen (dACons (dV 1) (dANil))) (dANil)) (.nm 2) (sIf (dNot (dTru (dCall F_rec [] (dACons (dBin ixD (dV 0) (dV 2)) (dACons (dBin ixD (dV 1) (dV 2)) (dANil)))))) (sRet (dC (.bl false))) (sSkip)))
    (sRet (dC (.bl true)))))) (sSkip))
  (sSeq (sIf (dTru (dUn (isiD Ty.bool) (dV 1))) (sRet (dAndV (dUn (isiD Ty.bool) (dV 0)) (dBin fEq (dV 0) (dV 1)))) (sSkip))
  (sSeq (sIf (dTru (dUn (isiD Ty.int) (dV 1))) (sRet (dAndV (dUn (isiD Ty.int) (dV 0)) (dAndV (dNotV (dUn (isiD Ty.bool) (dV 0))) (dBin fEq (dV 0) (dV 1))))) (sSkip))
  (sRet (dAndV (dUn (isiD Ty.str) (dV 0)) (dBin fEq (dV 0) (dV 1)))))))
def F__law_same : Nat → List D → R D
  | 0 => fun _ => .bad
  | n + 1 => runD 3 (s__law_same (F__law_same n))
theorem ok__law_same {P : Program} {w : World} {K : Fg} {mg : Str → Option Value} {base : Heap} {XC : Nat → Addr} {f : Addr} {fd : FuncData} (F : FunD K "_law_same" "_law_same" (defArgs (top 20)) (defBody (top 20)) (defScope (top 20)) [] [] f fd) (T : Txt K mg XC) (g0 : mg "_law_same" = some (.ref f)) (k0 : PySem.W.keepIn K (.ref f) = true) (b0 : Binds K fd ["actual", "due"] [])  : ∀ n : Nat,
    FnOk P w K mg base (L2.CX P w) (n + 2) f fd ["actual", "due"] (spF K XC 2 (F__law_same n))
  | 0 => fn_bad
  | n + 1 => by
    have cal : CalD P w K mg base (n + 2) "_law_same" (spF K XC 2 (F__law_same n)) [] := ⟨f, fd, ["actual", "due"], [], [], ok__law_same F T g0 k0 b0  n, g0, k0, b0, .nil, fun _ => .nil⟩
    exact (fn_d (k := n + 2) F sc__law_same fun cdv A outer s H E hr => 
  (psd_cons (psd_if (pt_dcmp op_isN pure_isN rfl (pd_v (pv 1)) (pd_non)) (psd_one (psd_ret (pd_cmp op_isN pure_isN rfl (pd_v (pv 0)) (pd_non)))) (psd_nil))
  (psd_cons (psd_if (pt_dtru (pd_isi2 Ty.tuple Ty.list rfl T.z_isinstance (pd_v (pv 1)) (pe_bltn (v := .ty "tuple") rfl T.z_tuple (by rfl) rfl) (pe_bltn (v := .ty "list") rfl T.z_list (by rfl) rfl))) (psd_cons (psd_if (PW.pt (pw_dor (pt_dcmp (op_neX (have h := room64 hr; h)) pure_ne rfl (pd_isi Ty.tuple rfl T.z_isinstance (pd_v (pv 1)) (pe_bltn (v := .ty "tuple") rfl T.z_tuple (by rfl) rfl)) (pd_isi Ty.tuple rfl T.z_isinstance (pd_v (pv 0)) (pe_bltn (v := .ty "tuple") rfl T.z_tuple (by rfl) rfl))) (pw_d1o (pt_dcmp (op_neX (have h := room64 hr; h)) pure_ne rfl (pd_isi Ty.list rfl T.z_isinstance (pd_v (pv 1)) (pe_bltn (v := .ty "list") rfl T.z_list (by rfl) rfl)) (pd_isi Ty.list rfl T.z_isinstance (pd_v (pv 0)) (pe_bltn (v := .ty "list") rfl T.z_list (by rfl) rfl)))))) (psd_one (psd_ret (pd_bl))) (psd_nil))
    (psd_cons (psd_if (pt_dcmp (op_neX (have h := room64 hr; h)) pure_ne rfl (pd_callB (id := "len") call_len pure_len rfl T.z_len (by decide +kernel) (pad_cons (pd_v (pv 0)) (pad_nil))) (pd_callB (id := "len") call_len pure_len rfl T.z_len (by decide +kernel) (pad_cons (pd_v (pv 1)) (pad_nil)))) (psd_one (psd_ret (pd_bl))) (psd_nil))
    (psd_cons (psd_forR1 (passes_of rfl) rfl rfl T.z_range (pad_cons (pd_callB (id := "len") call_len pure_len rfl T.z_len (by decide +kernel) (pad_cons (pd_v (pv 1)) (pad_nil))) (pad_nil)) (pgd_name (i := 2) sc__law_same.nd rfl (by first | exact .inl rfl | exact .inr rfl)) (psd_one (psd_if (pt_dnot (pt_dtru (pd_callC cal hr (Nat.le_refl _) rfl (takes_of rfl rfl rfl rfl) rfl (pad_cons (pd_ix ix_seq pure_ix (fun _ _ => rfl) (pd_v (pv 0)) (pd_v (pv 2))) (pad_cons (pd_ix ix_seq pure_ix (fun _ _ => rfl) (pd_v (pv 1)) (pd_v (pv 2))) (pad_nil))) (alen_cons (alen_cons alen_nil))))) (psd_one (psd_ret (pd_bl))) (psd_nil))))
    (psd_one (psd_ret (pd_bl)))))) (psd_nil))
  (psd_cons (psd_if (pt_dtru (pd_isi Ty.bool rfl T.z_isinstance (pd_v (pv 1)) (pe_bltn (v := .ty "bool") rfl T.z_bool (by rfl) rfl))) (psd_one (psd_ret (pd_andV (pd_isi Ty.bool rfl T.z_isinstance (pd_v (pv 0)) (pe_bltn (v := .ty "bool") rfl T.z_bool (by rfl) rfl)) (pd_one (pd_cmp (op_eqX (have h := room64 hr; h)) pure_eq rfl (pd_v (pv 0)) (pd_v (pv 1))))))) (psd_nil))
  (psd_cons (psd_if (pt_dtru (pd_isi Ty.int rfl T.z_isinstance (pd_v (pv 1)) (pe_bltn (v := .ty "int") rfl T.z_int (by rfl) rfl))) (psd_one (psd_ret (pd_andV (pd_isi Ty.int rfl T.z_isinstance (pd_v (pv 0)) (pe_bltn (v := .ty "int") rfl T.z_int (by rfl) rfl)) (pd_andV (pd_notV (pd_isi Ty.bool rfl T.z_isinstance (pd_v (pv 0)) (pe_bltn (v := .ty "bool") rfl T.z_bool (by rfl) rfl))) (pd_one (pd_cmp (op_eqX (have h := room64 hr; h)) pure_eq rfl (pd_v (pv 0)) (pd_v (pv 1)))))))) (psd_nil))
  (psd_one (psd_ret (pd_andV (pd_isi Ty.str rfl T.z_isinstance (pd_v (pv 0)) (pe_bltn (v := .ty "str") rfl T.z_str (by rfl) rfl)) (pd_one (pd_cmp (op_eqX (have h := room64 hr; h)) pure_eq rfl (pd_v (pv 0)) (pd_v (pv 1))))))))))))
abbrev Ns_told_by : List Str := ["places", "tests", "low", "high", "is_open", "place", "is_wrong"]
theorem sc_told_by : FnScope Ns_told_by ["places", "tests"] (defScope (top 15)) := ⟨rfl, rfl, rfl, by decide +kernel, rfl, by decide +kernel, by decide +kernel⟩
def s_told_by : SSem :=
  sSeq (sAsg (dC (.int 0)) (.nm 2))
  (sSeq (sAsg (dV 0) (.nm 3))
  (sSeq (sAsg (dC (.bl true)) (.nm 4))
  (sSeq (sForL (dV 1) (.tup ((.nm 5) :: (.nm 6) :: [])) (sIf (dTru (dV 6)) (sSeq (sAsg (dCB fMin2 (dACons (dV 3) (dACons (dV 5) (dANil)))) (.nm 3))
      (sAsg (dC (.bl false)) (.nm 4))) (sAsg (dCB fMax2 (dACons (dV 2) (dACons (dV 5) (dANil)))) (.nm 2))))
  (sRet (dF (dBinF fCat (dF (dLstR2 (dBin fAdd (dV 2) (dC (.int 1))) (dBin fAdd (dV 3) (dC (.int 1))))) (dIf (dTru (dV 4)) (dF (dLst (dACons (dC (.int 0)) (dANil)))) (dF (dLst (dANil))))))))))
def F_told_by : List D → R D := runD 7 s_told_by
theorem ok_told_by {P : Program} {w : World} {K : Fg} {mg : Str → Option Value} {base : Heap} {XC : Nat → Addr} {f : Addr} {fd : FuncData} (F : FunD K "told_by" "told_by" (defArgs (top 15)) (defBody (top 15)) (defScope (top 15)) [] [] f fd) (T : Txt K mg XC)  :
    FnOk P w K mg base (L2.CX P w) 2 f fd ["places", "tests"] (spF K XC 2 F_told_by) :=
  fn_d F sc_told_by fun cdv A outer s H E hr => 
  (psd_cons (psd_set (i := 2) sc_told_by.nd rfl (by first | exact .inl rfl | exact .inr rfl) (pd_int))
  (psd_cons (psd_set (i := 3) sc_told_by.nd rfl (by first | exact .inl rfl | exact .inr rfl) (pd_v (pv 0)))
  (psd_cons (psd_set (i := 4) sc_told_by.nd rfl (by first | exact .inl rfl | exact .inr rfl) (pd_bl))
  (psd_cons (psd_forL (passes_of rfl) rfl (pd_v (pv 1)) (pgd_tup rfl (pgsd_cons (pgd_name (i := 5) sc_told_by.nd rfl (by first | exact .inl rfl | exact .inr rfl)) (pgsd_cons (pgd_name (i := 6) sc_told_by.nd rfl (by first | exact .inl rfl | exact .inr rfl)) (pgsd_nil)))) (psd_one (psd_if (pt_dtru (pd_v (pv 6))) (psd_cons (psd_set (i := 3) sc_told_by.nd rfl (by first | exact .inl rfl | exact .inr rfl) (pd_callB (id := "min") (call_min2 rfl) pure_2I rfl T.z_min (by decide +kernel) (pad_cons (pd_v (pv 3)) (pad_cons (pd_v (pv 5)) (pad_nil)))))
      (psd_one (psd_set (i := 4) sc_told_by.nd rfl (by first | exact .inl rfl | exact .inr rfl) (pd_bl)))) (psd_one (psd_set (i := 2) sc_told_by.nd rfl (by first | exact .inl rfl | exact .inr rfl) (pd_callB (id := "max") (call_max2 rfl) pure_2I rfl T.z_max (by decide +kernel) (pad_cons (pd_v (pv 2)) (pad_cons (pd_v (pv 5)) (pad_nil)))))))))
  (psd_one (psd_ret (pd_f (pd_binF op_cat fresh_cat (pd_f (pd_lstR2 rfl rfl T.z_list rfl T.z_range (pd_add (pd_v (pv 2)) (pd_int)) (pd_add (pd_v (pv 3)) (pd_int)))) (pd_if (pt_dtru (pd_v (pv 4))) (pd_f (pd_lst (pad_cons (pd_int) (pad_nil)))) (pd_f (pd_lst (pad_nil))))))))))))
abbrev Ns_is_found : List Str := ["places", "wrong", "tests", "row"]
theorem sc_is_found : FnScope Ns_is_found ["places", "wrong", "tests"] (defScope (top 16)) := ⟨rfl, rfl, rfl, by decide +kernel, rfl, by decide +kernel, by decide +kernel⟩
def s_is_found : SSem :=
  sSeq (sIf (dTest (dBin fGt (dCB fLen (dACons (dF (dLc [3] (dV 2) (.nm 3) (dTru (dBin ixD (dV 3) (dC (.int 1)))) (dV 3))) (dANil))) (dV 1))) (sRet (dC (.bl false))) (sSkip))
  (sRet (dBin fEq (dCB fLen (dACons (dCall F_told_by [] (dACons (dV 0) (dACons (dV 2) (dANil)))) (dANil))) (dC (.int 1))))
def F_is_found : List D → R D := runD 4 s_is_found
theorem ok_is_found {P : Program} {w : World} {K : Fg} {mg : Str → Option Value} {base : Heap} {XC : Nat → Addr} {f : Addr} {fd : FuncData} (F : FunD K "is_found" "is_found" (defArgs (top 16)) (defBody (top 16)) (defScope (top 16)) [] [] f fd) (T : Txt K mg XC) (c_told_by_0 : CalD P w K mg base 2 "told_by" (spF K XC 2 F_told_by) []) :
    FnOk P w K mg base (L2.CX P w) 3 f fd ["places", "wrong", "tests"] (spF K XC 3 F_is_found) :=
  fn_d F sc_is_found fun cdv A outer s H E hr => 
  (psd_cons (psd_if (pt_dcmp op_gt pure_gt rfl (pd_callB (id := "len") call_len pure_len rfl T.z_len (by decide +kernel) (pad_cons (pd_f (pd_lc (own := [("row", 3)]) rfl sc_is_found.nd (pd_v (pv 2)) (blkOk_by (N := Ns_is_found) (sc := defScope (top 16)) (own := [("row", 3)]) (by decide +kernel)) (fun _ _ _ _ _ => pgx_name (i := 3) sc_is_found.nd rfl (by first | exact .inl rfl | exact .inr rfl)) (fun _ _ _ _ _ => ptsd_one (pt_dtru (pd_ix ix_seq pure_ix (fun _ _ => rfl) (pd_v (pv 3)) (pd_int)))) (fun _ _ _ _ _ => pd_v (pv 3)))) (pad_nil))) (pd_v (pv 1))) (psd_one (psd_ret (pd_bl))) (psd_nil))
  (psd_one (psd_ret (pd_cmp (op_eqX (have h := room64 hr; h)) pure_eq rfl (pd_callB (id := "len") call_len pure_len rfl T.z_len (by decide +kernel) (pad_cons (pd_callC c_told_by_0 hr (by decide) rfl (takes_of rfl rfl rfl rfl) rfl (pad_cons (pd_v (pv 0)) (pad_cons (pd_v (pv 2)) (pad_nil))) (alen_cons (alen_cons alen_nil))) (pad_nil))) (pd_int)))))
abbrev Ns__law_pick : List Str := ["pool", "rows"]
theorem sc__law_pick : FnScope Ns__law_pick ["pool", "rows"] (defScope (top 23)) := ⟨rfl, rfl, rfl, by decide +kernel, rfl, by decide +kernel, by decide +kernel⟩
def s__law_pick : SSem :=
  sRet (dBin ixD (dV 1) (dCallIO F__law_draw [] (dACons (dV 0) (dACons (dCB fLen (dACons (dV 1) (dANil))) (dANil)))))
def F__law_pick : D → List D → R D := runIO 2 s__law_pick
theorem ok__law_pick {P : Program} {w : World} {K : Fg} {mg : Str → Option Value} {base : Heap} {XC : Nat → Addr} {f : Addr} {fd : FuncData} (F : FunD K "_law_pick" "_law_pick" (defArgs (top 23)) (defBody (top 23)) (defScope (top 23)) [] [] f fd) (T : Txt K mg XC) (c__law_draw_0 : CalD P w K mg base 2 "_law_draw" (spIO K XC 2 F__law_draw) []) :
    FnOk P w K mg base (L2.CX P w) 3 f fd ["pool", "rows"] (spIO K XC 2 F__law_pick) :=
  fn_io F sc__law_pick fun p cdv A outer s H E hr => 
  (psd_one (psd_ret (pd_ix ix_seq pure_ix (fun _ _ => rfl) (pd_v (pv 1)) (pd_callCIO c__law_draw_0 hr (by decide) rfl (takes_of rfl rfl rfl rfl) rfl (pad_cons (pd_v (pv 0)) (pad_cons (pd_callB (id := "len") call_len pure_len rfl T.z_len (by decide +kernel) (pad_cons (pd_v (pv 1)) (pad_nil))) (pad_nil))) (alen_cons (alen_cons alen_nil))))))
abbrev Ns_law : List Str := ["script", "pool", "k", "places", "wrong", "leak", "tests", "j", "place", "rows", "known", "one", "told", "fit", "many", "row"]
theorem sc_law : FnScope Ns_law ["script"] (defScope (top 26)) := ⟨rfl, rfl, rfl, by decide +kernel, rfl, by decide +kernel, by decide +kernel⟩
def law_1 : SSem := sAsgF (dCallFr F__law_pool [] (dACons (dV 0) (dANil))) 1   -- 140
def law_2 : SSem := sAsg (dCallIO F__law_draw [] (dACons (dV 1) (dACons (dC (.int 15)) (dANil)))) (.nm 3)   -- 142
def law_3 : SSem := sAsg (dCallIO F__law_draw [] (dACons (dV 1) (dACons (dC (.int 5)) (dANil)))) (.nm 4)   -- 143
def law_4 : SSem := sAsg (dCallIO F__law_draw [] (dACons (dV 1) (dACons (dBin fAdd (dV 3) (dC (.int 1))) (dANil)))) (.nm 5)   -- 144
def law_5 : SSem := sAsgF (dLst (dANil)) 6   -- 145
def law_6 : SSem := sAsg (dBin fAdd (dC (.int 1)) (dCallIO F__law_draw [] (dACons (dV 1) (dACons (dV 3) (dANil))))) (.nm 8)   -- 148
def law_7 : SSem := sDrop (dMut gApp (dV 6) (dACons (dTup (dACons (dV 8) (dACons (dCallIO F__law_pick [] (dACons (dV 1) (dACons (dF (dLst (dACons (dChain fLt fLe (dC (.int 0)) (dV 5) (dV 8)) (dACons (dChain fLt fLe (dC (.int 0)) (dV 5) (dV 8)) (dACons (dBin fEq (dCallIO F__law_draw [] (dACons (dV 1) (dACons (dC (.int 2)) (dANil)))) (dC (.int 0))) (dANil)))))) (dANil)))) (dANil)))) (dANil)))   -- 149
def law_8 : SSem := sIf (dTest (dBin fGt (dV 3) (dC (.int 0)))) (sSeq (law_6)
        (law_7)) (sSkip)   -- 147
def law_9 : SSem := sForR1 (dACons (dCallIO F__law_draw [] (dACons (dV 1) (dACons (dC (.int 6)) (dANil)))) (dANil)) (.nm 7) (sClr [7, 8] (law_8))   -- 146
def law_10 : SSem := sRet (dC (.bl false))   -- 152
def law_11 : SSem := sIf (dOr (dNot (dTru (dCall F__law_refused [] (dACons (dC (.int 0)) (dACons (dV 3) (dACons (dV 4) (dANil))))))) (dNot (dTru (dCall F__law_refused [] (dACons (dC (.int 1)) (dACons (dV 3) (dACons (dV 4) (dANil)))))))) (law_10) (sSkip)   -- 151
def law_12 : SSem := sAsg (dCall F_hunt [] (dACons (dV 3) (dACons (dV 4) (dACons (dV 5) (dANil))))) (.nm 6)   -- 155
def law_13 : SSem := sRet (dC (.bl false))   -- 157
def law_14 : SSem := sIf (dTest (dBin fNotB (dCallS F_is_found [] (dACons (dV 3) (dACons (dV 4) (dACons (dV 6) (dANil))))) (dC (.bl true)))) (law_13) (sSkip)   -- 156
def law_15 : SSem := sIf (dTest (dBin fEq (dCallIO F__law_draw [] (dACons (dV 1) (dACons (dC (.int 2)) (dANil)))) (dC (.int 0)))) (sSeq (law_12)
        (law_14)) (sSkip)   -- 154
def law_16 : SSem := sAsg (dCall F_test_tree [] (dACons (dV 3) (dACons (dV 4) (dANil)))) (.nm 9)   -- 158
def law_17 : SSem := sRet (dC (.bl false))   -- 160
def law_18 : SSem := sIf (dTest (dBin fNe (dF (dLc [15] (dV 9) (.nm 15) (dYes) (dBin ixD (dV 15) (dC (.int 0))))) (dF (dLstR2 (dC (.int 1)) (dBin fAdd (dV 3) (dC (.int 1))))))) (law_17) (sSkip)   -- 159
def law_19 : SSem := sAsg (dF (dCBF fDictP (dACons (dF (dLc [15] (dV 9) (.nm 15) (dYes) (dTup (dACons (dBin ixD (dV 15) (dC (.int 0))) (dACons (dSlT (dV 15) (dOSome (dC (.int 1))) (dONone)) (dANil)))))) (dANil)))) (.nm 10)   -- 161
def law_20 : SSem := sAsg (dIf (dTest (dBin fGt (dV 3) (dC (.int 0)))) (dCall F_first_test [] (dACons (dV 3) (dACons (dV 4) (dANil)))) (dC .non)) (.nm 8)   -- 163
def law_21 : SSem := sAsgF (dLst (dANil)) 12   -- 164
def law_22 : SSem := sDrop (dMut gApp (dV 12) (dACons (dTup (dACons (dV 8) (dACons (dAndV (dBin fLt (dC (.int 0)) (dV 11)) (dBin fLe (dV 11) (dV 8))) (dANil)))) (dANil)))   -- 166
def law_23 : SSem := sAsg (dIf (dTest (dChain fLt fLe (dC (.int 0)) (dV 11) (dV 8))) (dBin ixD (dBin getDD (dV 10) (dV 8)) (dC (.int 0))) (dBin ixD (dBin getDD (dV 10) (dV 8)) (dC (.int 1)))) (.nm 8)   -- 167
def law_24 : SSem := sWhile 100 (dAnd (dTest (dBin fNotN (dV 8) (dC .non))) (dTest (dBin fLe (dCB fLen (dACons (dV 12) (dANil))) (dV 3)))) (sSeq (law_22)
          (law_23))   -- 165
def law_25 : SSem := sRet (dC (.bl false))   -- 169
def law_26 : SSem := sIf (dNot (dTru (dCallS (F__law_same 12) [] (dACons (dV 12) (dACons (dCall F_hunt [] (dACons (dV 3) (dACons (dV 4) (dACons (dV 11) (dANil))))) (dANil)))))) (law_25) (sSkip)   -- 168
def law_27 : SSem := sForR1 (dACons (dBin fAdd (dV 3) (dC (.int 1))) (dANil)) (.nm 11) (sClr [11, 12] (sSeq (law_20)
        (sSeq (law_21)
        (sSeq (law_24)
        (law_26)))))   -- 162
def law_28 : SSem := sIf (dTest (dBin fIsN (dCall F_fewest [] (dACons (dV 3) (dACons (dV 4) (dANil)))) (dC .non))) (law_11) (sSeq (law_15)
      (sSeq (law_16)
      (sSeq (law_18)
      (sSeq (law_19)
      (law_27)))))   -- 150
def law_29 : SSem := sAsg (dF (dLcR2 [11] (dACons (dC (.int 1)) (dACons (dBin fAdd (dV 3) (dC (.int 1))) (dANil))) (.nm 11) (dTru (dCallS F__law_fits [] (dACons (dV 3) (dACons (dV 6) (dACons (dV 11) (dANil)))))) (dV 11))) (.nm 13)   -- 170
def law_30 : SSem := sAsg (dF (dBinF fCat (dV 13) (dF (dLst (dACons (dC (.int 0)) (dANil)))))) (.nm 13)   -- 172
def law_31 : SSem := sIf (dTru (dCallS F__law_fits [] (dACons (dV 3) (dACons (dV 6) (dACons (dC (.int 0)) (dANil)))))) (law_30) (sSkip)   -- 171
def law_32 : SSem := sRet (dC (.bl false))   -- 174
def law_33 : SSem := sIf (dNot (dTru (dCall (F__law_same 12) [] (dACons (dCall F_told_by [] (dACons (dV 3) (dACons (dF (dCBF fList (dACons (dV 6) (dANil)))) (dANil)))) (dACons (dV 13) (dANil)))))) (law_32) (sSkip)   -- 173
def law_34 : SSem := sAsg (dCB fLen (dACons (dF (dLcA [15] (dV 6) (.nm 15) (dTru (dBin ixD (dV 15) (dC (.int 1)))) (dV 15))) (dANil))) (.nm 14)   -- 175
def law_35 : SSem := sRet (dC (.bl false))   -- 177
def law_36 : SSem := sIf (dNot (dTru (dCall (F__law_same 12) [] (dACons (dCall F_is_found [] (dACons (dV 3) (dACons (dV 4) (dACons (dF (dCBF fList (dACons (dV 6) (dANil)))) (dANil))))) (dACons (dAndV (dBin fLe (dV 14) (dV 4)) (dBin fEq (dCB fLen (dACons (dV 13) (dANil))) (dC (.int 1)))) (dANil)))))) (law_35) (sSkip)   -- 176
def law_37 : SSem := sForR1 (dACons (dC (.int 3)) (dANil)) (.nm 2) (sClr [2, 3, 4, 5, 6, 7, 8, 9, 10, 11, 12, 13, 14] (sSeq (law_2)
    (sSeq (law_3)
    (sSeq (law_4)
    (sSeq (law_5)
    (sSeq (law_9)
    (sSeq (law_28)
    (sSeq (law_29)
    (sSeq (law_31)
    (sSeq (law_33)
    (sSeq (law_34)
    (law_36))))))))))))   -- 141
def law_38 : SSem := sRet (dAndV (dCall F__law_refused [] (dACons (dC (.int 0)) (dACons (dC (.int 3)) (dACons (dC (.int 0)) (dANil))))) (dCall F__law_refused [] (dACons (dC (.int 1)) (dACons (dC (.int 1000000)) (dACons (dC (.int 1)) (dANil))))))   -- 178
def s_law : SSem :=
  sSeq (law_1)
  (sSeq (law_37)
  (law_38))
def F_law : List D → R D := runD 16 s_law
theorem ok_law {P : Program} {w : World} {K : Fg} {mg : Str → Option Value} {base : Heap} {XC : Nat → Addr} {f : Addr} {fd : FuncData} (F : FunD K "law" "law" (defArgs (top 26)) (defBody (top 26)) (defScope (top 26)) [] [] f fd) (T : Txt K mg XC) (c__law_pool_0 : CalD P w K mg base 2 "_law_pool" (spFr K XC 1 F__law_pool) []) (c__law_draw_0 : CalD P w K mg base 2 "_law_draw" (spIO K XC 2 F__law_draw) []) (c__law_pick_0 : CalD P w K mg base 3 "_law_pick" (spIO K XC 2 F__law_pick) []) (c_fewest_0 : CalD P w K mg base 5 "fewest" (spF K XC 2 F_fewest) []) (c__law_refused_0 : CalD P w K mg base 9 "_law_refused" (spF K XC 3 F__law_refused) []) (c_hunt_0 : CalD P w K mg base 7 "hunt" (spF K XC 3 F_hunt) []) (c_is_found_0 : CalD P w K mg base 3 "is_found" (spF K XC 3 F_is_found) []) (c_test_tree_0 : CalD P w K mg base 7 "test_tree" (spF K XC 2 F_test_tree) []) (c_first_test_0 : CalD P w K mg base 6 "first_test" (spF K XC 2 F_first_test) []) (c__law_same_0 : CalD P w K mg base 14 "_law_same" (spF K XC 2 (F__law_same 12)) []) (c__law_fits_0 : CalD P w K mg base 2 "_law_fits" (spF K XC 3 F__law_fits) []) (c_told_by_0 : CalD P w K mg base 2 "told_by" (spF K XC 2 F_told_by) []) :
    FnOk P w K mg base (L2.CX P w) 15 f fd ["script"] (spF K XC 1 F_law) :=
  fn_d F sc_law fun cdv A outer s H E hr => 
  (psd_cons (psd_asgF (i := 1) sc_law.nd rfl (by first | exact .inl rfl | exact .inr rfl) (pd_callCFr c__law_pool_0 hr (by decide) rfl (takes_of rfl rfl rfl rfl) rfl (pad_cons (pd_v (pv 0)) (pad_nil)) (alen_cons alen_nil)))
  (psd_cons (psd_forR1 (passes_of rfl) rfl rfl T.z_range (pad_cons (pd_int) (pad_nil)) (pgd_name (i := 2) sc_law.nd rfl (by first | exact .inl rfl | exact .inr rfl)) (psd_clr (vs := [2, 3, 4, 5, 6, 7, 8, 9, 10, 11, 12, 13, 14]) (psd_cons (psd_set (i := 3) sc_law.nd rfl (by first | exact .inl rfl | exact .inr rfl) (pd_callCIO c__law_draw_0 hr (by decide) rfl (takes_of rfl rfl rfl rfl) rfl (pad_cons (pd_v (pv 1)) (pad_cons (pd_int) (pad_nil))) (alen_cons (alen_cons alen_nil))))
    (psd_cons (psd_set (i := 4) sc_law.nd rfl (by first | exact .inl rfl | exact .inr rfl) (pd_callCIO c__law_draw_0 hr (by decide) rfl (takes_of rfl rfl rfl rfl) rfl (pad_cons (pd_v (pv 1)) (pad_cons (pd_int) (pad_nil))) (alen_cons (alen_cons alen_nil))))
    (psd_cons (psd_set (i := 5) sc_law.nd rfl (by first | exact .inl rfl | exact .inr rfl) (pd_callCIO c__law_draw_0 hr (by decide) rfl (takes_of rfl rfl rfl rfl) rfl (pad_cons (pd_v (pv 1)) (pad_cons (pd_add (pd_v (pv 3)) (pd_int)) (pad_nil))) (alen_cons (alen_cons alen_nil))))
    (psd_cons (psd_asgF (i := 6) sc_law.nd rfl (by first | exact .inl rfl | exact .inr rfl) (pd_lst (pad_nil)))
    (psd_cons (psd_forR1 (passes_of rfl) rfl rfl T.z_range (pad_cons (pd_callCIO c__law_draw_0 hr (by decide) rfl (takes_of rfl rfl rfl rfl) rfl (pad_cons (pd_v (pv 1)) (pad_cons (pd_int) (pad_nil))) (alen_cons (alen_cons alen_nil))) (pad_nil)) (pgd_name (i := 7) sc_law.nd rfl (by first | exact .inl rfl | exact .inr rfl)) (psd_clr (vs := [7, 8]) (psd_one (psd_if (pt_dcmp op_gt pure_gt rfl (pd_v (pv 3)) (pd_int)) (psd_cons (psd_set (i := 8) sc_law.nd rfl (by first | exact .inl rfl | exact .inr rfl) (pd_add (pd_int) (pd_callCIO c__law_draw_0 hr (by decide) rfl (takes_of rfl rfl rfl rfl) rfl (pad_cons (pd_v (pv 1)) (pad_cons (pd_v (pv 3)) (pad_nil))) (alen_cons (alen_cons alen_nil)))))
        (psd_one (psd_expr (pd_mut PySem.F.slot_list_append (by rfl) mt_append mut_app (pd_v (pv 6)) (pad_cons (pd_tup (pad_cons (pd_v (pv 8)) (pad_cons (pd_callCIO c__law_pick_0 hr (by decide) rfl (takes_of rfl rfl rfl rfl) rfl (pad_cons (pd_v (pv 1)) (pad_cons (pd_f (pd_lst (pad_cons (pd_chain op_lt pure_lt op_le pure_le (pd_int) (pd_v (pv 5)) (pd_v (pv 8))) (pad_cons (pd_chain op_lt pure_lt op_le pure_le (pd_int) (pd_v (pv 5)) (pd_v (pv 8))) (pad_cons (pd_cmp (op_eqX (have h := room64 hr; h)) pure_eq rfl (pd_callCIO c__law_draw_0 hr (by decide) rfl (takes_of rfl rfl rfl rfl) rfl (pad_cons (pd_v (pv 1)) (pad_cons (pd_int) (pad_nil))) (alen_cons (alen_cons alen_nil))) (pd_int)) (pad_nil)))))) (pad_nil))) (alen_cons (alen_cons alen_nil))) (pad_nil)))) (pad_nil)))))) (psd_nil)))))
    (psd_cons (psd_if (pt_dcmp op_isN pure_isN rfl (pd_callC c_fewest_0 hr (by decide) rfl (takes_of rfl rfl rfl rfl) rfl (pad_cons (pd_v (pv 3)) (pad_cons (pd_v (pv 4)) (pad_nil))) (alen_cons (alen_cons alen_nil))) (pd_non)) (psd_one (psd_if (PW.pt (pw_dor (pt_dnot (pt_dtru (pd_callC c__law_refused_0 hr (by decide) rfl (takes_of rfl rfl rfl rfl) rfl (pad_cons (pd_int) (pad_cons (pd_v (pv 3)) (pad_cons (pd_v (pv 4)) (pad_nil)))) (alen_cons (alen_cons (alen_cons alen_nil)))))) (pw_d1o (pt_dnot (pt_dtru (pd_callC c__law_refused_0 hr (by decide) rfl (takes_of rfl rfl rfl rfl) rfl (pad_cons (pd_int) (pad_cons (pd_v (pv 3)) (pad_cons (pd_v (pv 4)) (pad_nil)))) (alen_cons (alen_cons (alen_cons alen_nil))))))))) (psd_one (psd_ret (pd_bl))) (psd_nil))) (psd_cons (psd_if (pt_dcmp (op_eqX (have h := room64 hr; h)) pure_eq rfl (pd_callCIO c__law_draw_0 hr (by decide) rfl (takes_of rfl rfl rfl rfl) rfl (pad_cons (pd_v (pv 1)) (pad_cons (pd_int) (pad_nil))) (alen_cons (alen_cons alen_nil))) (pd_int)) (psd_cons (psd_set (i := 6) sc_law.nd rfl (by first | exact .inl rfl | exact .inr rfl) (pd_callC c_hunt_0 hr (by decide) rfl (takes_of rfl rfl rfl rfl) rfl (pad_cons (pd_v (pv 3)) (pad_cons (pd_v (pv 4)) (pad_cons (pd_v (pv 5)) (pad_nil)))) (alen_cons (alen_cons (alen_cons alen_nil)))))
        (psd_one (psd_if (pt_dcmp op_notBl pure_notB rfl (pd_callCS c_is_found_0 hr (by decide) rfl (takes_of rfl rfl rfl rfl) rfl (pad_cons (pd_v (pv 3)) (pad_cons (pd_v (pv 4)) (pad_cons (pd_v (pv 6)) (pad_nil)))) (alen_cons (alen_cons (alen_cons alen_nil)))) (pd_bl)) (psd_one (psd_ret (pd_bl))) (psd_nil)))) (psd_nil))
      (psd_cons (psd_set (i := 9) sc_law.nd rfl (by first | exact .inl rfl | exact .inr rfl) (pd_callC c_test_tree_0 hr (by decide) rfl (takes_of rfl rfl rfl rfl) rfl (pad_cons (pd_v (pv 3)) (pad_cons (pd_v (pv 4)) (pad_nil))) (alen_cons (alen_cons alen_nil))))
      (psd_cons (psd_if (pt_dcmp (op_neX (have h := room64 hr; h)) pure_ne rfl (pd_f (pd_lc (own := [("row", 15)]) rfl sc_law.nd (pd_v (pv 9)) (blkOk_by (N := Ns_law) (sc := defScope (top 26)) (own := [("row", 15)]) (by decide +kernel)) (fun _ _ _ _ _ => pgx_name (i := 15) sc_law.nd rfl (by first | exact .inl rfl | exact .inr rfl)) (fun _ _ _ _ _ => ptsd_nil) (fun _ _ _ _ _ => pd_ix ix_seq pure_ix (fun _ _ => rfl) (pd_v (pv 15)) (pd_int)))) (pd_f (pd_lstR2 rfl rfl T.z_list rfl T.z_range (pd_int) (pd_add (pd_v (pv 3)) (pd_int))))) (psd_one (psd_ret (pd_bl))) (psd_nil))
      (psd_cons (psd_set (i := 10) sc_law.nd rfl (by first | exact .inl rfl | exact .inr rfl) (pd_f (pd_callTyF (T := "dict") (call_dictP rfl) fresh_dictP rfl T.z_dict (by rfl) (pad_cons (pd_f (pd_lc (own := [("row", 15)]) rfl sc_law.nd (pd_v (pv 9)) (blkOk_by (N := Ns_law) (sc := defScope (top 26)) (own := [("row", 15)]) (by decide +kernel)) (fun _ _ _ _ _ => pgx_name (i := 15) sc_law.nd rfl (by first | exact .inl rfl | exact .inr rfl)) (fun _ _ _ _ _ => ptsd_nil) (fun _ _ _ _ _ => pd_tup (pad_cons (pd_ix ix_seq pure_ix (fun _ _ => rfl) (pd_v (pv 15)) (pd_int)) (pad_cons (pd_slT (pd_v (pv 15)) (pod_some (pd_int)) (pod_none)) (pad_nil)))))) (pad_nil)))))
      (psd_one (psd_forR1 (passes_of rfl) rfl rfl T.z_range (pad_cons (pd_add (pd_v (pv 3)) (pd_int)) (pad_nil)) (pgd_name (i := 11) sc_law.nd rfl (by first | exact .inl rfl | exact .inr rfl)) (psd_clr (vs := [11, 12]) (psd_cons (psd_set (i := 8) sc_law.nd rfl (by first | exact .inl rfl | exact .inr rfl) (pd_if (pt_dcmp op_gt pure_gt rfl (pd_v (pv 3)) (pd_int)) (pd_callC c_first_test_0 hr (by decide) rfl (takes_of rfl rfl rfl rfl) rfl (pad_cons (pd_v (pv 3)) (pad_cons (pd_v (pv 4)) (pad_nil))) (alen_cons (alen_cons alen_nil))) (pd_non)))
        (psd_cons (psd_asgF (i := 12) sc_law.nd rfl (by first | exact .inl rfl | exact .inr rfl) (pd_lst (pad_nil)))
        (psd_cons (psd_while 100 (passes_of rfl) (PW.pt (pw_dand (pt_dcmp op_notN pure_notN rfl (pd_v (pv 8)) (pd_non)) (pw_d1a (pt_dcmp op_le pure_le rfl (pd_callB (id := "len") call_len pure_len rfl T.z_len (by decide +kernel) (pad_cons (pd_v (pv 12)) (pad_nil))) (pd_v (pv 3)))))) (psd_cons (psd_expr (pd_mut PySem.F.slot_list_append (by rfl) mt_append mut_app (pd_v (pv 12)) (pad_cons (pd_tup (pad_cons (pd_v (pv 8)) (pad_cons (pd_andV (pd_cmp op_lt pure_lt rfl (pd_int) (pd_v (pv 11))) (pd_one (pd_cmp op_le pure_le rfl (pd_v (pv 11)) (pd_v (pv 8))))) (pad_nil)))) (pad_nil))))
          (psd_one (psd_set (i := 8) sc_law.nd rfl (by first | exact .inl rfl | exact .inr rfl) (pd_if (pt_chain op_lt pure_lt op_le pure_le (pd_int) (pd_v (pv 11)) (pd_v (pv 8))) (pd_ix ix_seq pure_ix (fun _ _ => rfl) (pd_dget (have h := room1 hr; h) (pd_v (pv 10)) (pd_v (pv 8)) (fun _ _ => rfl)) (pd_int)) (pd_ix ix_seq pure_ix (fun _ _ => rfl) (pd_dget (have h := room1 hr; h) (pd_v (pv 10)) (pd_v (pv 8)) (fun _ _ => rfl)) (pd_int)))))))
        (psd_one (psd_if (pt_dnot (pt_dtru (pd_callCS c__law_same_0 hr (by decide) rfl (takes_of rfl rfl rfl rfl) rfl (pad_cons (pd_v (pv 12)) (pad_cons (pd_callC c_hunt_0 hr (by decide) rfl (takes_of rfl rfl rfl rfl) rfl (pad_cons (pd_v (pv 3)) (pad_cons (pd_v (pv 4)) (pad_cons (pd_v (pv 11)) (pad_nil)))) (alen_cons (alen_cons (alen_cons alen_nil)))) (pad_nil))) (alen_cons (alen_cons alen_nil))))) (psd_one (psd_ret (pd_bl))) (psd_nil))))))))))))))
    (psd_cons (psd_setLcV (own := [("one", 11)]) (sd := dLcR2 [11] (dACons (dC (.int 1)) (dACons (dBin fAdd (dV 3) (dC (.int 1))) (dANil))) (.nm 11) (dTru (dCallS F__law_fits [] (dACons (dV 3) (dACons (dV 6) (dACons (dV 11) (dANil)))))) (dV 11)) rfl sc_law.nd (i := 13) rfl rfl (sw_true rfl rfl rfl (by decide +kernel)) (by exact pi_range2 rfl T.z_range (pad_cons (pd_int) (pad_cons (pd_add (pd_v (pv 3)) (pd_int)) (pad_nil)))) (fun h => lcR2_of h) (blkOk_by (N := Ns_law) (sc := defScope (top 26)) (own := [("one", 11)]) (by decide +kernel)) (fun _ _ _ _ _ => pgx_name (i := 11) sc_law.nd rfl (by first | exact .inl rfl | exact .inr rfl)) (fun _ _ _ _ _ => ptsd_one (pt_dtru (pd_callCS c__law_fits_0 hr (by decide) rfl takes0 rfl (pad_cons (pd_v (pv 3)) (pad_cons (pd_v (pv 6)) (pad_cons (pd_v (pv 11)) (pad_nil)))) (alen_cons (alen_cons (alen_cons alen_nil)))))) (fun _ _ _ _ _ => pd_v (pv 11)))
    (psd_cons (psd_if (pt_dtru (pd_callCS c__law_fits_0 hr (by decide) rfl (takes_of rfl rfl rfl rfl) rfl (pad_cons (pd_v (pv 3)) (pad_cons (pd_v (pv 6)) (pad_cons (pd_int) (pad_nil)))) (alen_cons (alen_cons (alen_cons alen_nil))))) (psd_one (psd_set (i := 13) sc_law.nd rfl (by first | exact .inl rfl | exact .inr rfl) (pd_f (pd_binF op_cat fresh_cat (pd_v (pv 13)) (pd_f (pd_lst (pad_cons (pd_int) (pad_nil)))))))) (psd_nil))
    (psd_cons (psd_if (pt_dnot (pt_dtru (pd_callC c__law_same_0 hr (by decide) rfl (takes_of rfl rfl rfl rfl) rfl (pad_cons (pd_callC c_told_by_0 hr (by decide) rfl (takes_of rfl rfl rfl rfl) rfl (pad_cons (pd_v (pv 3)) (pad_cons (pd_f (pd_callTyF (T := "list") call_list_of fresh_list rfl T.z_list (by rfl) (pad_cons (pd_v (pv 6)) (pad_nil)))) (pad_nil))) (alen_cons (alen_cons alen_nil))) (pad_cons (pd_v (pv 13)) (pad_nil))) (alen_cons (alen_cons alen_nil))))) (psd_one (psd_ret (pd_bl))) (psd_nil))
    (psd_cons (psd_set (i := 14) sc_law.nd rfl (by first | exact .inl rfl | exact .inr rfl) (pd_callB (id := "len") call_len pure_len rfl T.z_len (by decide +kernel) (pad_cons (pd_f (pd_lcA (own := [("row", 15)]) rfl sc_law.nd (pd_v (pv 6)) (blkOk_by (N := Ns_law) (sc := defScope (top 26)) (own := [("row", 15)]) (by decide +kernel)) (fun _ _ _ _ _ => pgx_name (i := 15) sc_law.nd rfl (by first | exact .inl rfl | exact .inr rfl)) (fun _ _ _ _ _ => ptsd_one (pt_dtru (pd_ix ix_seq pure_ix (fun _ _ => rfl) (pd_v (pv 15)) (pd_int)))) (fun _ _ _ _ _ => pd_v (pv 15)))) (pad_nil))))
    (psd_one (psd_if (pt_dnot (pt_dtru (pd_callC c__law_same_0 hr (by decide) rfl (takes_of rfl rfl rfl rfl) rfl (pad_cons (pd_callC c_is_found_0 hr (by decide) rfl (takes_of rfl rfl rfl rfl) rfl (pad_cons (pd_v (pv 3)) (pad_cons (pd_v (pv 4)) (pad_cons (pd_f (pd_callTyF (T := "list") call_list_of fresh_list rfl T.z_list (by rfl) (pad_cons (pd_v (pv 6)) (pad_nil)))) (pad_nil)))) (alen_cons (alen_cons (alen_cons alen_nil)))) (pad_cons (pd_andV (pd_cmp op_le pure_le rfl (pd_v (pv 14)) (pd_v (pv 4))) (pd_one (pd_cmp (op_eqX (have h := room64 hr; h)) pure_eq rfl (pd_callB (id := "len") call_len pure_len rfl T.z_len (by decide +kernel) (pad_cons (pd_v (pv 13)) (pad_nil))) (pd_int)))) (pad_nil))) (alen_cons (alen_cons alen_nil))))) (psd_one (psd_ret (pd_bl))) (psd_nil)))))))))))))))
  (psd_one (psd_ret (pd_andV (pd_callC c__law_refused_0 hr (by decide) rfl (takes_of rfl rfl rfl rfl) rfl (pad_cons (pd_int) (pad_cons (pd_int) (pad_cons (pd_int) (pad_nil)))) (alen_cons (alen_cons (alen_cons alen_nil)))) (pd_one (pd_callC c__law_refused_0 hr (by decide) rfl (takes_of rfl rfl rfl rfl) rfl (pad_cons (pd_int) (pad_cons (pd_int) (pad_cons (pd_int) (pad_nil)))) (alen_cons (alen_cons (alen_cons alen_nil))))))))))
end Dv.waydues_k65_hunts_for_leaks

set_option maxRecDepth 100000
set_option maxHeartbeats 4000000
namespace Dv
open PySem L2
def drawS : SSem :=
  sSeq (sIf (dTest (dBin fGt (dBin ixD (dV 0) (dC (.int 2))) (dC (.int 0)))) (sSeq (sAsg (dBin fMod (dCB fInt (dACons (dBin ixD (dV 0) (dC (.int 2))) (dANil))) (dV 1)) (.nm 2))
    (sSeq (sSetIx (dBin fDiv (dBin ixD (dV 0) (dC (.int 2))) (dV 1)) (dV 0) (dC (.int 2)))
    (sRet (dV 2)))) (sSkip))
  (sSeq (sIf (dAnd (dTest (dBin fEq (dBin fMod (dCB fInt (dACons (dBin ixD (dV 0) (dC (.int 4))) (dANil))) (dC (.int 8))) (dC (.int 0)))) (dTest (dBin fLt (dBin ixD (dV 0) (dC (.int 1))) (dCB fLen (dACons (dBin ixD (dV 0) (dC (.int 0))) (dANil)))))) (sSeq (sAsg (dCB fAbs (dACons (dBin ixD (dBin ixD (dV 0) (dC (.int 0))) (dBin ixD (dV 0) (dC (.int 1)))) (dANil))) (.nm 3))
    (sSeq (sSetIx (dBin fAdd (dBin ixD (dV 0) (dC (.int 1))) (dC (.int 1))) (dV 0) (dC (.int 1)))
    (sSeq (sIf (dTest (dBin fGe (dV 3) (dBin fPow (dC (.int 10)) (dC (.int 18))))) (sSeq (sSetIx (dBin fDiv (dV 3) (dV 1)) (dV 0) (dC (.int 2)))
      (sRet (dBin fMod (dCB fInt (dACons (dV 3) (dANil))) (dV 1)))) (sSkip))
    (sSetIx (dV 3) (dV 0) (dC (.int 3)))))) (sSkip))
  (sSeq (sSetIx (dBin fAdd (dBin ixD (dV 0) (dC (.int 4))) (dC (.int 1))) (dV 0) (dC (.int 4)))
  (sSeq (sAsg (dBin fMod (dCB fInt (dACons (dBin fAdd (dBin fAdd (dBin fMul (dBin ixD (dV 0) (dC (.int 3))) (dC (.int 48271))) (dBin fMul (dBin ixD (dV 0) (dC (.int 4))) (dC (.int 69621)))) (dC (.int 7919))) (dANil))) (dC (.int 2147483647))) (.nm 4))
  (sSeq (sAsg (dBin fMod (dCB fInt (dACons (dBin fAdd (dBin fMul (dV 4) (dV 4)) (dBin fMul (dBin ixD (dV 0) (dC (.int 4))) (dC (.int 40692)))) (dANil))) (dC (.int 2147483399))) (.nm 4))
  (sRet (dBin fMod (dCB fInt (dACons (dV 4) (dANil))) (dV 1)))))))
def drawF : D → List D → R D := runIO 5 drawS
theorem atI0 {α : Type} (a : α) (l : List α) : atI (a :: l) 0 = some a := by
  unfold atI ixN; simp
theorem atI1 {α : Type} (a b : α) (l : List α) : atI (a :: b :: l) 1 = some b := by
  unfold atI ixN; simp; split <;> first | rfl | omega
/-- the pool -/
def pl (cs : List D) (a b c d : Int) : D := .lst [.lst cs, .int a, .int b, .int c, .int d]
section
variable {cs : List D} {a b c d : Int} {r : Env}
theorem p0 {x0 x1 x2 x3 x4 : D} : ixD (.lst [x0, x1, x2, x3, x4]) (.int 0) = some x0 := rfl
theorem p1 {x0 x1 x2 x3 x4 : D} : ixD (.lst [x0, x1, x2, x3, x4]) (.int 1) = some x1 := rfl
theorem p2 {x0 x1 x2 x3 x4 : D} : ixD (.lst [x0, x1, x2, x3, x4]) (.int 2) = some x2 := rfl
theorem p3 {x0 x1 x2 x3 x4 : D} : ixD (.lst [x0, x1, x2, x3, x4]) (.int 3) = some x3 := rfl
theorem p4 {x0 x1 x2 x3 x4 : D} : ixD (.lst [x0, x1, x2, x3, x4]) (.int 4) = some x4 := rfl
theorem pl1 : ixD (pl cs a b c d) (.int 0) = some (.lst cs) := rfl
theorem pl2 : ixD (pl cs a b c d) (.int 1) = some (.int a) := rfl
theorem pl3 : ixD (pl cs a b c d) (.int 2) = some (.int b) := rfl
theorem pl4 : ixD (pl cs a b c d) (.int 3) = some (.int c) := rfl
theorem pl5 : ixD (pl cs a b c d) (.int 4) = some (.int d) := rfl
end
theorem eqD_int (i j : Int) : eqD (.int i) (.int j) = some (decide (i = j)) := by
  show some (decide (V.int i = V.int j)) = _
  simp
theorem eqD_bl (i j : Bool) : eqD (.bl i) (.bl j) = some (decide (i = j)) := by
  show some (decide (V.bl i = V.bl j)) = _
  simp
theorem mulOkR {x y : Int} (h : (decide (-(2 ^ 64) < y) && decide (y < 2 ^ 64)) = true) : mulOk x y = true := by
  unfold mulOk
  rw [h, Bool.or_true]
theorem len_map_int (ns : List Int) : (ns.map D.int).length = ns.length := List.length_map ..
/-- what a draw leaves -/
def plN (ns : List Int) (p : D) : Prop := ∃ a b c d, p = pl (ns.map D.int) a b c d ∧ 0 ≤ a
theorem draw1 {cs : List D} {a b c d m : Int} (hb : 0 < b) (hm : 0 < m) (hm2 : m < 1073741824) : drawF (pl cs a b c d) [.int m] = .ok (.int (b % m)) [.io (pl cs a (b / m) c d)] := by
  simp [drawF, runIO, drawS, sSeq, sIf, dTest, dBin, R.bind, R.out, R.val, ap2, dV, dC, TV.data, slotD, pl, ixD, atI, ixN, fGt, i2, i2c, hb, hm, hm2, sAsg, dCB, dACons, dANil, apN, datas, fInt, putT, putV, sSetIx, slotL, putOwn, sRet, finIO, ioEnd, fMod, fDiv]
theorem mulR {x y : Int} (h : (decide (-(2 ^ 64) < y) && decide (y < 2 ^ 64)) = true) : mulOk x y = true := mulOkR h
theorem mulL {x y : Int} (h : (decide (-(2 ^ 64) < x) && decide (x < 2 ^ 64)) = true) : mulOk x y = true := by
  unfold mulOk
  rw [h, Bool.true_or]
/-- the mixing -/
def mixS : SSem := (sSeq (sSetIx (dBin fAdd (dBin ixD (dV 0) (dC (.int 4))) (dC (.int 1))) (dV 0) (dC (.int 4)))
  (sSeq (sAsg (dBin fMod (dCB fInt (dACons (dBin fAdd (dBin fAdd (dBin fMul (dBin ixD (dV 0) (dC (.int 3))) (dC (.int 48271))) (dBin fMul (dBin ixD (dV 0) (dC (.int 4))) (dC (.int 69621)))) (dC (.int 7919))) (dANil))) (dC (.int 2147483647))) (.nm 4))
  (sSeq (sAsg (dBin fMod (dCB fInt (dACons (dBin fAdd (dBin fMul (dV 4) (dV 4)) (dBin fMul (dBin ixD (dV 0) (dC (.int 4))) (dC (.int 40692)))) (dANil))) (dC (.int 2147483399))) (.nm 4))
  (sRet (dBin fMod (dCB fInt (dACons (dV 4) (dANil))) (dV 1))))))
def mix0 (c d : Int) : Int := (c * 48271 + (d + 1) * 69621 + 7919) % 2147483647
def mix1 (c d : Int) : Int := (mix0 c d * mix0 c d + (d + 1) * 40692) % 2147483399
theorem mix_ok {cs : List D} {a b c d m : Int} {s : Sl} (hm : 0 < m) : mixS [.io (pl cs a b c d), .v (.int m), .un, s, .un] = .rt (.val (.int (mix1 c d % m))) [.io (pl cs a b c (d + 1)), .v (.int m), .un, s, .v (.int (mix1 c d))] := by
  have e1 : mulOk c 48271 = true := mulR (by decide)
  have e2 : mulOk (d + 1) 69621 = true := mulR (by decide)
  have e3 : mulOk (d + 1) 40692 = true := mulR (by decide)
  have h1 : 0 ≤ mix0 c d := Int.emod_nonneg _ (by decide)
  have h2 : mix0 c d < 2147483647 := Int.emod_lt_of_pos _ (by decide)
  have e4 : mulOk (mix0 c d) (mix0 c d) = true := by
    refine mulL ?_
    rw [Bool.and_eq_true, decide_eq_true_eq, decide_eq_true_eq]
    omega
  have e5 : (c * 48271 + (d + 1) * 69621 + 7919) % 2147483647 = mix0 c d := rfl
  simp [mixS, sSeq, dBin, R.bind, R.out, R.val, ap2, dV, dC, TV.data, slotD, pl, ixD, atI, ixN, i2, i2c, hm, sAsg, dCB, dACons, dANil, apN, datas, fInt, putT, putV, sSetIx, slotL, putOwn, sRet, fMod, fAdd, fMul, e1, e2, e3, e4, e5, mix1]
theorem draw2 {cs : List D} {a b c d m : Int} (hb : ¬ 0 < b) (hd : ¬ (d % 8 = 0 ∧ a < cs.length)) (hm : 0 < m) : drawF (pl cs a b c d) [.int m] = .ok (.int (mix1 c d % m)) [.io (pl cs a b c (d + 1))] := by
  have h := mix_ok (cs := cs) (a := a) (b := b) (c := c) (d := d) (s := .un) hm
  have q : drawS [.io (pl cs a b c d), .v (.int m), .un, .un, .un] = mixS [.io (pl cs a b c d), .v (.int m), .un, .un, .un] := by
    show sSeq _ (sSeq _ mixS) _ = _
    by_cases hd1 : d % 8 = 0
    · have hd2 : ¬ a < cs.length := fun z => hd ⟨hd1, z⟩
      simp [sSeq, sIf, dTest, dAnd, dBin, R.bind, R.out, R.val, ap2, dV, dC, TV.data, slotD, pl, ixD, atI, ixN, fGt, fLt, fEq, eqD_int, i2, i2c, hb, hd1, hd2, dCB, dACons, dANil, apN, datas, fInt, fLen, fMod, sSkip, eqV]
    · simp [sSeq, sIf, dTest, dAnd, dBin, R.bind, R.out, R.val, ap2, dV, dC, TV.data, slotD, pl, ixD, atI, ixN, fGt, fLt, fEq, eqD_int, i2, i2c, hb, hd1, dCB, dACons, dANil, apN, datas, fInt, fLen, fMod, sSkip, eqV]
  show finIO (drawS _) = _
  rw [show (Sl.io (pl cs a b c d) :: ([D.int m].map .v ++ List.replicate (5 - 1 - [D.int m].length) .un)) = [.io (pl cs a b c d), .v (.int m), .un, .un, .un] from rfl, q, h]
  rfl
theorem absI (c : Int) : 0 ≤ (if c < 0 then -c else c) := by split <;> omega
theorem draw3 {ns : List Int} {a : Nat} {v b c d m : Int} (hb : ¬ 0 < b) (hd : d % 8 = 0) (ha : ns[a]? = some v) (hm : 0 < m) (hm2 : m < 1073741824) : ∃ z b' c' d', drawF (pl (ns.map .int) a b c d) [.int m] = .ok (.int (z % m)) [.io (pl (ns.map .int) (a + 1 : Nat) b' c' d')] := by
  have hl : a < ns.length := (List.getElem?_eq_some_iff.mp ha).1
  have hl2 : (a : Int) < (ns.map D.int).length := by rw [List.length_map]; omega
  have hat : atI (ns.map D.int) a = some (.int v) := by
    unfold atI ixN
    rw [if_pos (by omega), if_pos hl2]
    simp [ha]
  have hat' : ixD (.lst (ns.map D.int)) (.int a) = some (.int v) := hat
  let w := if v < 0 then -v else v
  by_cases hw : 1000000000000000000 ≤ w
  · refine ⟨w, w / m, c, d, ?_⟩
    have hw' : 1000000000000000000 ≤ (if v < 0 then -v else v) := hw
    simp [drawF, runIO, drawS, sSeq, sIf, dTest, dTru, truD, dAnd, dOr, dNot, dAndV, dOrV, dNotV, dIf, dChain, dUn, dBin, dBinF, dF, R.bind, R.out, R.val, ap2, dV, dC, TV.data, slotD, fGt, fLt, fLe, fGe, fIsN, fNotN, fIsB, fNotB, fPow, powOk, fEq, fNe, eqD_int, eqD_bl, i2, i2c, sAsg, sAsgF, dTup, dLst, vals, dCB, dCBF, dACons, dANil, apN, datas, fInt, fLen, fAbs, fMod, fDiv, fAdd, fSub, fMul, putT, putTs, putV, sSetIx, slotL, putOwn, sRet, sSkip, sDrop, sRaiseM, mC, mStr, mCat, mVar, hat', hb, hd, hl, hm, hm2, hw', finIO, ioEnd, pl, p0, p1, p2, p3, p4, ixN]
    exact ⟨rfl, rfl⟩
  · have hw' : ¬ 1000000000000000000 ≤ (if v < 0 then -v else v) := hw
    have h := mix_ok (cs := ns.map .int) (a := (a + 1 : Nat)) (b := b) (c := w) (d := d) (s := .v (.int w)) hm
    have q : drawS [.io (pl (ns.map .int) a b c d), .v (.int m), .un, .un, .un] = mixS [.io (pl (ns.map .int) (a + 1 : Nat) b w d), .v (.int m), .un, .v (.int w), .un] := by
      show sSeq _ (sSeq _ mixS) _ = _
      simp [sSeq, sIf, dTest, dTru, truD, dAnd, dOr, dNot, dAndV, dOrV, dNotV, dIf, dChain, dUn, dBin, dBinF, dF, R.bind, R.out, R.val, ap2, dV, dC, TV.data, slotD, fGt, fLt, fLe, fGe, fIsN, fNotN, fIsB, fNotB, fPow, powOk, fEq, fNe, eqD_int, eqD_bl, i2, i2c, sAsg, sAsgF, dTup, dLst, vals, dCB, dCBF, dACons, dANil, apN, datas, fInt, fLen, fAbs, fMod, fDiv, fAdd, fSub, fMul, putT, putTs, putV, sSetIx, slotL, putOwn, sRet, sSkip, sDrop, sRaiseM, mC, mStr, mCat, mVar, hat', hb, hd, hl, hm, hw', pl, p0, p1, p2, p3, p4, ixN]
      rfl
    refine ⟨mix1 w d, b, w, d + 1, ?_⟩
    show finIO (drawS _) = _
    rw [show (Sl.io (pl (ns.map .int) a b c d) :: ([D.int m].map .v ++ List.replicate (5 - 1 - [D.int m].length) .un)) = [.io (pl (ns.map .int) a b c d), .v (.int m), .un, .un, .un] from rfl, q, h]
    rfl
/-- a draw: a number below, the pool stays a pool -/
theorem draw_ok {ns : List Int} {p : D} {m : Int} (h : plN ns p) (hm : 0 < m) (hm2 : m < 1073741824) : ∃ r p', drawF p [.int m] = .ok (.int r) [.io p'] ∧ 0 ≤ r ∧ r < m ∧ plN ns p' := by
  obtain ⟨a, b, c, d, rfl, ha⟩ := h
  by_cases hb : 0 < b
  · exact ⟨_, _, draw1 hb hm hm2, Int.emod_nonneg _ (by omega), Int.emod_lt_of_pos _ hm, _, _, _, _, rfl, ha⟩
  · by_cases hd : d % 8 = 0 ∧ a < (ns.map D.int).length
    · obtain ⟨k, rfl⟩ : ∃ k : Nat, a = k := ⟨a.toNat, by omega⟩
      have hk : k < ns.length := by have := hd.2; rw [List.length_map] at this; omega
      obtain ⟨z, b', c', d', e⟩ := draw3 (c := c) hb hd.1 (List.getElem?_eq_getElem hk) hm hm2
      exact ⟨_, _, e, Int.emod_nonneg _ (by omega), Int.emod_lt_of_pos _ hm, _, _, _, _, rfl, by omega⟩
    · exact ⟨_, _, draw2 hb hd hm, Int.emod_nonneg _ (by omega), Int.emod_lt_of_pos _ hm, _, _, _, _, rfl, ha⟩
/-- one of some rows, drawn -/
def pickS : SSem := sRet (dBin ixD (dV 1) (dCallIO drawF [] (dACons (dV 0) (dACons (dCB fLen (dACons (dV 1) (dANil))) (dANil)))))
def pickF : D → List D → R D := runIO 2 pickS
theorem pick_ok {ns : List Int} {p : D} {rows : List D} (h : plN ns p) (h1 : 0 < rows.length) (h2 : rows.length < 1073741824) : ∃ d p', pickF p [.lst rows] = .ok d [.io p'] ∧ d ∈ rows ∧ plN ns p' := by
  obtain ⟨r, p', e, hr, hr2, hp⟩ := draw_ok h (m := (rows.length : Nat)) (by omega) (by omega)
  have hk : r.toNat < rows.length := by omega
  have hat : ixD (.lst rows) (.int r) = some rows[r.toNat] := by
    show atI rows r = _
    unfold atI ixN
    rw [if_pos hr, if_pos hr2]
    simp [hk]
  refine ⟨rows[r.toNat], p', ?_, List.getElem_mem _, hp⟩
  simp [pickF, runIO, pickS, sSeq, sIf, dTest, dTru, truD, dAnd, dOr, dNot, dAndV, dOrV, dNotV, dIf, dChain, dUn, dBin, dBinF, dF, R.bind, R.out, R.val, ap2, dV, dC, TV.data, slotD, fGt, fLt, fLe, fGe, fIsN, fNotN, fIsB, fNotB, fPow, powOk, fEq, fNe, eqD_int, eqD_bl, i2, i2c, sAsg, sAsgF, dTup, dLst, vals, dCB, dCBF, dACons, dANil, apN, datas, fInt, fLen, fAbs, fMod, fDiv, fAdd, fSub, fMul, putT, putTs, putV, sSetIx, slotL, putOwn, sRet, sSkip, sDrop, sRaiseM, mC, mStr, mCat, mVar, dCallIO, ioRes, e, hat, finIO, ioEnd]
theorem sSeq_assoc (a b c : SSem) : sSeq (sSeq a b) c = sSeq a (sSeq b c) := by
  funext e
  unfold sSeq
  cases a e <;> rfl
theorem seq_nx {s t : SSem} {e e' : Env} (h : s e = .nx e') : sSeq s t e = t e' := by
  unfold sSeq
  rw [h]
theorem map_at {α β : Type} {l : List α} {f g : α → β} (h : l.map f = l.map g) {a : α} (ha : a ∈ l) : f a = g a := List.map_inj_left.mp h a ha
/-- map under another name (so that the kernel compares items, not the functions) -/
def mapB {α β : Type} (f : α → β) : List α → List β
  | [] => []
  | a :: l => f a :: mapB f l
theorem mapB_at {α β : Type} {f g : α → β} : ∀ {l : List α}, l.map f = mapB g l → ∀ {a : α}, a ∈ l → f a = g a
  | [], _, a, ha => nomatch ha
  | b :: l, h, a, ha => by
    have h : f b :: l.map f = g b :: mapB g l := h
    injection h with h1 h2
    rcases List.mem_cons.mp ha with rfl | ha
    · exact h1
    · exact mapB_at h2 ha
theorem sIf_t {c : Env → R Bool} {s t : SSem} {e e' : Env} (h : c e = .ok true e') : sIf c s t e = s e' := by
  unfold sIf
  rw [h]
  rfl
theorem sIf_f {c : Env → R Bool} {s t : SSem} {e e' : Env} (h : c e = .ok false e') : sIf c s t e = t e' := by
  unfold sIf
  rw [h]
  rfl
end Dv

set_option maxRecDepth 100000
set_option maxHeartbeats 4000000
namespace Dv
open PySem L2
theorem set_un {e : Env} {i : Nat} {s : Sl} (h : e[i]? = some .un) : (e.set i s).set i .un = e := by
  rw [List.set_set]
  exact set_self h
theorem lcL_filter {i : Nat} {test : Env → R Bool} {se : Sem} {e : Env} {f : D → Bool} {g : D → D} (he : e[i]? = some .un) : ∀ (ds acc : List D), (∀ d ∈ ds, test (e.set i (.v d)) = .ok (f d) (e.set i (.v d))) →
    (∀ d ∈ ds, f d = true → se (e.set i (.v d)) = .ok (.val (g d)) (e.set i (.v d))) → acc.length + ds.length ≤ sizeLine → lcL [i] (.nm i) test se ds e acc = .ok (.lst (acc ++ (ds.filter f).map g)) e
  | [], acc, _, _, _ => by simp [lcL]
  | d :: ds, acc, ht, hs, hl => by
    have e1 : putX (.nm i) d e = some (e.set i (.v d)) := by
      show (if plainAt e i = true then some (e.set i (.v d)) else none) = _
      rw [if_pos]
      unfold plainAt
      rw [he]
    have hi : i < e.length := (List.getElem?_eq_some_iff.mp he).1
    have e2 : clearE [i] (e.set i (.v d)) = some e := by
      show (if plainAt (e.set i (.v d)) i = true then some ((e.set i (.v d)).set i .un) else none) = _
      rw [if_pos, set_un he]
      unfold plainAt
      rw [List.getElem?_set_self hi]
    have hl' : acc.length + ds.length + 1 ≤ sizeLine := by simpa [Nat.add_assoc] using hl
    have h1 := ht d List.mem_cons_self
    show lcTurn [i] (.nm i) test se d e acc _ = _
    unfold lcTurn
    rw [e1]
    show (nox (test (e.set i (.v d)))).bind _ = _
    rw [h1]
    show (if f d = true then _ else _) = _
    by_cases hf : f d = true
    · rw [if_pos hf, hs d List.mem_cons_self hf]
      show (if acc.length < sizeLine then _ else _) = _
      rw [if_pos (by omega), e2]
      show lcL [i] (.nm i) test se ds e (acc ++ [g d]) = _
      rw [lcL_filter he ds (acc ++ [g d]) (fun x hx => ht x (List.mem_cons_of_mem _ hx)) (fun x hx => hs x (List.mem_cons_of_mem _ hx)) (by simp; omega)]
      simp [hf]
    · rw [if_neg hf, e2]
      show lcL [i] (.nm i) test se ds e acc = _
      rw [lcL_filter he ds acc (fun x hx => ht x (List.mem_cons_of_mem _ hx)) (fun x hx => hs x (List.mem_cons_of_mem _ hx)) (by omega)]
      simp [hf]
theorem rngD_mem : ∀ (n : Nat) (a : Int) (d : D), d ∈ rngD a n → ∃ i : Int, d = .int i ∧ a ≤ i ∧ i < a + n
  | 0, a, d, h => nomatch h
  | n + 1, a, d, h => by
    rcases List.mem_cons.mp h with rfl | h
    · exact ⟨a, rfl, by omega, by omega⟩
    · obtain ⟨i, rfl, h1, h2⟩ := rngD_mem n (a + 1) d h
      exact ⟨i, rfl, by omega, by omega⟩
def inR (lo hi : Int) : D → Bool
  | .int i => decide (lo < i) && decide (i ≤ hi)
  | _ => false
theorem rngD_none (lo hi : Int) : ∀ (n : Nat) (a : Int), hi < a → (rngD a n).filter (inR lo hi) = []
  | 0, _, _ => rfl
  | n + 1, a, h => by
    show (D.int a :: rngD (a + 1) n).filter (inR lo hi) = []
    rw [List.filter_cons_of_neg (by simp [inR]; omega), rngD_none lo hi n (a + 1) (by omega)]
theorem rngD_in (lo hi : Int) : ∀ (n : Nat) (a : Int), lo < a → hi < a + n → (rngD a n).filter (inR lo hi) = rngD a (hi + 1 - a).toNat
  | 0, a, h1, h2 => by
    have : (hi + 1 - a).toNat = 0 := by omega
    rw [this]
    rfl
  | n + 1, a, h1, h2 => by
    by_cases h : a ≤ hi
    · have e : (hi + 1 - a).toNat = (hi + 1 - (a + 1)).toNat + 1 := by omega
      show (D.int a :: rngD (a + 1) n).filter (inR lo hi) = _
      rw [List.filter_cons_of_pos (by simp [inR]; omega), rngD_in lo hi n (a + 1) (by omega) (by omega), e]
      rfl
    · have e : (hi + 1 - a).toNat = 0 := by omega
      rw [e, rngD_none lo hi (n + 1) a (by omega)]
      rfl
theorem rngD_cut (lo hi : Int) : ∀ (n : Nat) (a : Int), a ≤ lo + 1 → hi < a + n → (rngD a n).filter (inR lo hi) = rngD (lo + 1) (hi - lo).toNat
  | 0, a, h1, h2 => by
    have : (hi - lo).toNat = 0 := by omega
    rw [this]
    rfl
  | n + 1, a, h1, h2 => by
    by_cases h : a = lo + 1
    · subst h
      rw [rngD_in lo hi (n + 1) (lo + 1) (by omega) h2, show hi + 1 - (lo + 1) = hi - lo by omega]
    · show (D.int a :: rngD (a + 1) n).filter (inR lo hi) = _
      rw [List.filter_cons_of_neg (by simp [inR]; omega), rngD_cut lo hi n (a + 1) (by omega) (by omega)]
end Dv
namespace Dv.waydues_k65_hunts_for_leaks
open PySem L2 Dv
def rowD (r : Int × Bool) : D := .tup [.int r.1, .bl r.2]
def rows (l : List (Int × Bool)) : D := .lst (l.map rowD)
/-- a test that is not true of one -/
def offB (one : Int) (r : Int × Bool) : Bool := r.2 != (decide (0 < one) && decide (one ≤ r.1))
def offD (one : Int) : D → Bool
  | .tup [.int p, .bl b] => offB one (p, b)
  | _ => false
def fitB (rs : List (Int × Bool)) (one : Int) : Bool := decide (((rs.map rowD).filter (offD one)).length = 0)
theorem fits_ok {P one : Int} {rs : List (Int × Bool)} (hl : rs.length ≤ sizeLine) : F__law_fits [.int P, rows rs, .int one] = .ok (.bl (fitB rs one)) [] := by
  have h := lcL_filter (i := 3) (test := dTest (dBin fNe (dBin ixD (dV 3) (dC (.int 1))) (dAndV (dBin fLt (dC (.int 0)) (dV 2)) (dBin fLe (dV 2) (dBin ixD (dV 3) (dC (.int 0))))))) (se := dV 3) (e := [.v (.int P), .v (rows rs), .v (.int one), .un]) (f := offD one) (g := id) rfl (rs.map rowD) [] (fun d hd => ?_) (fun d hd _ => rfl) (by simpa using hl)
  · have e1 : (dLc [3] (dV 1) (.nm 3) (dTest (dBin fNe (dBin ixD (dV 3) (dC (.int 1))) (dAndV (dBin fLt (dC (.int 0)) (dV 2)) (dBin fLe (dV 2) (dBin ixD (dV 3) (dC (.int 0))))))) (dV 3)) [.v (.int P), .v (rows rs), .v (.int one), .un] = .ok (.lst ((rs.map rowD).filter (offD one))) [.v (.int P), .v (rows rs), .v (.int one), .un] := by
      refine Eq.trans ?_ (h.trans (by simp))
      rfl
    show finD (s__law_fits [.v (.int P), .v (rows rs), .v (.int one), .un]) = _
    simp [s__law_fits, sSeq, sIf, dTest, dTru, truD, dAnd, dOr, dNot, dAndV, dOrV, dNotV, dIf, dChain, dUn, dBin, dBinF, dF, R.bind, R.out, R.val, ap2, dV, dC, TV.data, slotD, fGt, fLt, fLe, fGe, fIsN, fNotN, fIsB, fNotB, fPow, powOk, fEq, fNe, eqD_int, eqD_bl, i2, i2c, sAsg, sAsgF, dTup, dLst, vals, dCB, dCBF, dACons, dANil, apN, datas, fInt, fLen, fAbs, fMod, fDiv, fAdd, fSub, fMul, putT, putTs, putV, sSetIx, slotL, putOwn, sRet, sSkip, sDrop, sRaiseM, mC, mStr, mCat, mVar, e1, finD, fitB]
  · obtain ⟨r, hr, rfl⟩ := List.mem_map.mp hd
    have i1 : ixD (rowD r) (.int 1) = some (.bl r.2) := rfl
    have i0 : ixD (rowD r) (.int 0) = some (.int r.1) := rfl
    have o : offD one (rowD r) = offB one r := rfl
    by_cases h0 : 0 < one
    · simp [sSeq, sIf, dTest, dTru, truD, dAnd, dOr, dNot, dAndV, dOrV, dNotV, dIf, dChain, dUn, dBin, dBinF, dF, R.bind, R.out, R.val, ap2, dV, dC, TV.data, slotD, fGt, fLt, fLe, fGe, fIsN, fNotN, fIsB, fNotB, fPow, powOk, fEq, fNe, eqD_int, eqD_bl, i2, i2c, sAsg, sAsgF, dTup, dLst, vals, dCB, dCBF, dACons, dANil, apN, datas, fInt, fLen, fAbs, fMod, fDiv, fAdd, fSub, fMul, putT, putTs, putV, sSetIx, slotL, putOwn, sRet, sSkip, sDrop, sRaiseM, mC, mStr, mCat, mVar, i1, i0, o, offB, h0]
      cases r.2 <;> cases decide (one ≤ r.1) <;> rfl
    · simp [sSeq, sIf, dTest, dTru, truD, dAnd, dOr, dNot, dAndV, dOrV, dNotV, dIf, dChain, dUn, dBin, dBinF, dF, R.bind, R.out, R.val, ap2, dV, dC, TV.data, slotD, fGt, fLt, fLe, fGe, fIsN, fNotN, fIsB, fNotB, fPow, powOk, fEq, fNe, eqD_int, eqD_bl, i2, i2c, sAsg, sAsgF, dTup, dLst, vals, dCB, dCBF, dACons, dANil, apN, datas, fInt, fLen, fAbs, fMod, fDiv, fAdd, fSub, fMul, putT, putTs, putV, sSetIx, slotL, putOwn, sRet, sSkip, sDrop, sRaiseM, mC, mStr, mCat, mVar, i1, i0, o, offB, h0]
def stepT (t : Int × Int × Bool) (r : Int × Bool) : Int × Int × Bool := if r.2 = true then (t.1, if r.1 < t.2.1 then r.1 else t.2.1, false) else (if r.1 > t.1 then r.1 else t.1, t.2.1, t.2.2)
theorem told_loop {T : D} {P : Int} : ∀ (rs : List (Int × Bool)) (lo hi : Int) (op : Bool) (s5 s6 : Sl), (s5 = .un ∨ ∃ d, s5 = .v d) → (s6 = .un ∨ ∃ d, s6 = .v d) → ∃ s5' s6', forL (.tup ((.nm 5) :: (.nm 6) :: [])) (sIf (dTru (dV 6)) (sSeq (sAsg (dCB fMin2 (dACons (dV 3) (dACons (dV 5) (dANil)))) (.nm 3))
      (sAsg (dC (.bl false)) (.nm 4))) (sAsg (dCB fMax2 (dACons (dV 2) (dACons (dV 5) (dANil)))) (.nm 2))) (rs.map rowD) [.v (.int P), .v T, .v (.int lo), .v (.int hi), .v (.bl op), s5, s6] =
      .nx [.v (.int P), .v T, .v (.int (rs.foldl stepT (lo, hi, op)).1), .v (.int (rs.foldl stepT (lo, hi, op)).2.1), .v (.bl (rs.foldl stepT (lo, hi, op)).2.2), s5', s6']
  | [], lo, hi, op, s5, s6, _, _ => ⟨s5, s6, rfl⟩
  | r :: rs, lo, hi, op, s5, s6, h5, h6 => by
    obtain ⟨x, b⟩ := r
    have key : ∀ lo' hi' op', (sIf (dTru (dV 6)) (sSeq (sAsg (dCB fMin2 (dACons (dV 3) (dACons (dV 5) (dANil)))) (.nm 3))
      (sAsg (dC (.bl false)) (.nm 4))) (sAsg (dCB fMax2 (dACons (dV 2) (dACons (dV 5) (dANil)))) (.nm 2))) [.v (.int P), .v T, .v (.int lo), .v (.int hi), .v (.bl op), .v (.int x), .v (.bl b)] = .nx [.v (.int P), .v T, .v (.int lo'), .v (.int hi'), .v (.bl op'), .v (.int x), .v (.bl b)] → stepT (lo, hi, op) (x, b) = (lo', hi', op') →
      ∃ s5' s6', forL (.tup ((.nm 5) :: (.nm 6) :: [])) (sIf (dTru (dV 6)) (sSeq (sAsg (dCB fMin2 (dACons (dV 3) (dACons (dV 5) (dANil)))) (.nm 3))
      (sAsg (dC (.bl false)) (.nm 4))) (sAsg (dCB fMax2 (dACons (dV 2) (dACons (dV 5) (dANil)))) (.nm 2))) (((x, b) :: rs).map rowD) [.v (.int P), .v T, .v (.int lo), .v (.int hi), .v (.bl op), s5, s6] =
      .nx [.v (.int P), .v T, .v (.int (((x, b) :: rs).foldl stepT (lo, hi, op)).1), .v (.int (((x, b) :: rs).foldl stepT (lo, hi, op)).2.1), .v (.bl (((x, b) :: rs).foldl stepT (lo, hi, op)).2.2), s5', s6'] := fun lo' hi' op' e1 e2 => by
      obtain ⟨a, c, h⟩ := told_loop rs lo' hi' op' (.v (.int x)) (.v (.bl b)) (.inr ⟨_, rfl⟩) (.inr ⟨_, rfl⟩)
      refine ⟨a, c, ?_⟩
      rw [List.foldl_cons, e2, ← h]
      have ep : putT (.tup ((.nm 5) :: (.nm 6) :: [])) (rowD (x, b)) [.v (.int P), .v T, .v (.int lo), .v (.int hi), .v (.bl op), s5, s6] = some [.v (.int P), .v T, .v (.int lo), .v (.int hi), .v (.bl op), .v (.int x), .v (.bl b)] := by
        rcases h5 with rfl | ⟨d, rfl⟩ <;> rcases h6 with rfl | ⟨d', rfl⟩ <;> rfl
      show (match putT _ (rowD (x, b)) _ with
        | none => Out.bad
        | some e1 => _) = _
      rw [ep]
      show (match (sIf _ _ _ _ : Out) with
        | .nx e2 => _
        | .cnt e2 => _
        | .brk e2 => _
        | o => o) = _
      rw [e1]
    cases b with
    | true => exact key lo (if x < hi then x else hi) false (by simp [sSeq, sIf, dTest, dTru, truD, dAnd, dOr, dNot, dAndV, dOrV, dNotV, dIf, dChain, dUn, dBin, dBinF, dF, R.bind, R.out, R.val, ap2, dV, dC, TV.data, slotD, fGt, fLt, fLe, fGe, fIsN, fNotN, fIsB, fNotB, fPow, powOk, fEq, fNe, eqD_int, eqD_bl, i2, i2c, sAsg, sAsgF, dTup, dLst, vals, dCB, dCBF, dACons, dANil, apN, datas, fInt, fLen, fAbs, fMod, fDiv, fAdd, fSub, fMul, putT, putTs, putV, sSetIx, slotL, putOwn, sRet, sSkip, sDrop, sRaiseM, mC, mStr, mCat, mVar, f2I, fMin2]) rfl
    | false => exact key (if x > lo then x else lo) hi op (by simp [sSeq, sIf, dTest, dTru, truD, dAnd, dOr, dNot, dAndV, dOrV, dNotV, dIf, dChain, dUn, dBin, dBinF, dF, R.bind, R.out, R.val, ap2, dV, dC, TV.data, slotD, fGt, fLt, fLe, fGe, fIsN, fNotN, fIsB, fNotB, fPow, powOk, fEq, fNe, eqD_int, eqD_bl, i2, i2c, sAsg, sAsgF, dTup, dLst, vals, dCB, dCBF, dACons, dANil, apN, datas, fInt, fLen, fAbs, fMod, fDiv, fAdd, fSub, fMul, putT, putTs, putV, sSetIx, slotL, putOwn, sRet, sSkip, sDrop, sRaiseM, mC, mStr, mCat, mVar, f2I, fMax2]) rfl

def RIn (P : Int) (rs : List (Int × Bool)) : Prop := ∀ r ∈ rs, 0 ≤ r.1 ∧ r.1 ≤ P
theorem step_in {P : Int} : ∀ {rs : List (Int × Bool)} {lo hi : Int} {op : Bool}, RIn P rs → 0 ≤ lo → lo ≤ P → 0 ≤ hi → hi ≤ P → 0 ≤ (rs.foldl stepT (lo, hi, op)).1 ∧ (rs.foldl stepT (lo, hi, op)).1 ≤ P ∧ 0 ≤ (rs.foldl stepT (lo, hi, op)).2.1 ∧ (rs.foldl stepT (lo, hi, op)).2.1 ≤ P
  | [], lo, hi, op, _, h1, h2, h3, h4 => ⟨h1, h2, h3, h4⟩
  | (x, b) :: rs, lo, hi, op, h, h1, h2, h3, h4 => by
    have hx := h (x, b) List.mem_cons_self
    have hr : RIn P rs := fun r hr => h r (List.mem_cons_of_mem _ hr)
    rw [List.foldl_cons]
    cases b with
    | true =>
      rw [show stepT (lo, hi, op) (x, true) = (lo, (if x < hi then x else hi), false) from rfl]
      by_cases c : x < hi
      · rw [if_pos c]; exact step_in hr h1 h2 hx.1 hx.2
      · rw [if_neg c]; exact step_in hr h1 h2 h3 h4
    | false =>
      rw [show stepT (lo, hi, op) (x, false) = ((if x > lo then x else lo), hi, op) from rfl]
      by_cases c : x > lo
      · rw [if_pos c]; exact step_in hr hx.1 hx.2 h3 h4
      · rw [if_neg c]; exact step_in hr h1 h2 h3 h4
def toldL (P : Int) (rs : List (Int × Bool)) : List D := rngD ((rs.foldl stepT (0, P, true)).1 + 1) ((rs.foldl stepT (0, P, true)).2.1 - (rs.foldl stepT (0, P, true)).1).toNat ++ (if (rs.foldl stepT (0, P, true)).2.2 = true then [.int 0] else [])
theorem told_ok {P : Nat} {rs : List (Int × Bool)} (hP : P < 15) (h : RIn P rs) : F_told_by [.int P, rows rs] = .ok (.lst (toldL P rs)) [] := by
  obtain ⟨s5, s6, e⟩ := told_loop (T := rows rs) (P := P) rs 0 P true .un .un (.inl rfl) (.inl rfl)
  obtain ⟨b1, b2, b3, b4⟩ := step_in (op := true) h (Int.le_refl 0) (by omega : (0 : Int) ≤ P) (by omega) (Int.le_refl _)
  unfold toldL
  generalize (rs.foldl stepT (0, (P : Int), true)).1 = lo at *
  generalize (rs.foldl stepT (0, (P : Int), true)).2.1 = hi at *
  generalize (rs.foldl stepT (0, (P : Int), true)).2.2 = op at *
  have hg : rgOk (lo + 1) (hi + 1) = true := by
    unfold rgOk lim62
    simp only [Bool.and_eq_true, decide_eq_true_eq]
    omega
  have h62 : hi + 1 - (lo + 1) = hi - lo := by omega
  have hz : ∀ n : Nat, (rngD (lo + 1) (hi - lo).toNat).length + 1 ≤ sizeLine := fun n => by
    rw [rngD_length]
    have : (hi - lo).toNat ≤ 15 := by omega
    exact Nat.le_trans (Nat.succ_le_succ this) (by decide)
  show finD (s_told_by [.v (.int P), .v (rows rs), .un, .un, .un, .un, .un]) = _
  have st : s_told_by [.v (.int P), .v (rows rs), .un, .un, .un, .un, .un] = (sRet (dF (dBinF fCat (dF (dLstR2 (dBin fAdd (dV 2) (dC (.int 1))) (dBin fAdd (dV 3) (dC (.int 1))))) (dIf (dTru (dV 4)) (dF (dLst (dACons (dC (.int 0)) (dANil)))) (dF (dLst (dANil))))))) [.v (.int P), .v (rows rs), .v (.int lo), .v (.int hi), .v (.bl op), s5, s6] := by
    unfold s_told_by
    have q1 : sAsg (dC (.int 0)) (.nm 2) [.v (.int P), .v (rows rs), .un, .un, .un, .un, .un] = .nx [.v (.int P), .v (rows rs), .v (.int 0), .un, .un, .un, .un] := rfl
    have q2 : sAsg (dV 0) (.nm 3) [.v (.int P), .v (rows rs), .v (.int 0), .un, .un, .un, .un] = .nx [.v (.int P), .v (rows rs), .v (.int 0), .v (.int P), .un, .un, .un] := rfl
    have q3 : sAsg (dC (.bl true)) (.nm 4) [.v (.int P), .v (rows rs), .v (.int 0), .v (.int P), .un, .un, .un] = .nx [.v (.int P), .v (rows rs), .v (.int 0), .v (.int P), .v (.bl true), .un, .un] := rfl
    rw [seq_nx q1, seq_nx q2, seq_nx q3]
    exact seq_nx e
  rw [st]
  have hz1 := hz 0
  have hs : 1 ≤ sizeLine := by decide
  have hs0 : 0 ≤ sizeLine := by decide
  have hz2 : (rngD (lo + 1) (hi - lo).toNat).length ≤ sizeLine := by omega
  cases op with
  | true => simp [sSeq, sIf, dTest, dTru, truD, dAnd, dOr, dNot, dAndV, dOrV, dNotV, dIf, dChain, dUn, dBin, dBinF, dF, R.bind, R.out, R.val, ap2, dV, dC, TV.data, slotD, fGt, fLt, fLe, fGe, fIsN, fNotN, fIsB, fNotB, fPow, powOk, fEq, fNe, eqD_int, eqD_bl, i2, i2c, sAsg, sAsgF, dTup, dLst, vals, dCB, dCBF, dACons, dANil, apN, datas, fInt, fLen, fAbs, fMod, fDiv, fAdd, fSub, fMul, putT, putTs, putV, sSetIx, slotL, putOwn, sRet, sSkip, sDrop, sRaiseM, mC, mStr, mCat, mVar, dLstR2, hg, h62, fCat, hz1, hz2, hs, finD]
  | false => simp [sSeq, sIf, dTest, dTru, truD, dAnd, dOr, dNot, dAndV, dOrV, dNotV, dIf, dChain, dUn, dBin, dBinF, dF, R.bind, R.out, R.val, ap2, dV, dC, TV.data, slotD, fGt, fLt, fLe, fGe, fIsN, fNotN, fIsB, fNotB, fPow, powOk, fEq, fNe, eqD_int, eqD_bl, i2, i2c, sAsg, sAsgF, dTup, dLst, vals, dCB, dCBF, dACons, dANil, apN, datas, fInt, fLen, fAbs, fMod, fDiv, fAdd, fSub, fMul, putT, putTs, putV, sSetIx, slotL, putOwn, sRet, sSkip, sDrop, sRaiseM, mC, mStr, mCat, mVar, dLstR2, hg, h62, fCat, hz1, hz2, hs, hs0, finD]
theorem fitB_all (one : Int) : ∀ rs : List (Int × Bool), fitB rs one = rs.all fun r => !offB one r
  | [] => rfl
  | r :: rs => by
    have ih := fitB_all one rs
    unfold fitB at ih ⊢
    rw [List.all_cons, ← ih]
    have o : offD one (rowD r) = offB one r := rfl
    rw [List.map_cons]
    cases h : offB one r with
    | true => rw [List.filter_cons_of_pos (by rw [o, h])]; simp
    | false => rw [List.filter_cons_of_neg (by rw [o, h]; simp)]; simp
theorem fit_in {one : Int} (h0 : 0 < one) : ∀ (rs : List (Int × Bool)) (lo hi : Int) (op : Bool), inR (rs.foldl stepT (lo, hi, op)).1 (rs.foldl stepT (lo, hi, op)).2.1 (.int one) = (inR lo hi (.int one) && rs.all fun r => !offB one r)
  | [], lo, hi, op => by simp
  | (x, b) :: rs, lo, hi, op => by
    rw [List.foldl_cons, List.all_cons]
    cases b with
    | true =>
      show inR (rs.foldl stepT (lo, (if x < hi then x else hi), false)).1 (rs.foldl stepT (lo, (if x < hi then x else hi), false)).2.1 (.int one) = _
      rw [fit_in h0 rs]
      rw [← Bool.and_assoc]
      congr 1
      simp only [inR, offB, h0, decide_true, Bool.true_and, Bool.true_bne, Bool.not_not]
      rw [Bool.eq_iff_iff]
      simp only [Bool.and_eq_true, decide_eq_true_eq]
      split <;> omega
    | false =>
      show inR (rs.foldl stepT ((if x > lo then x else lo), hi, op)).1 (rs.foldl stepT ((if x > lo then x else lo), hi, op)).2.1 (.int one) = _
      rw [fit_in h0 rs]
      rw [← Bool.and_assoc]
      congr 1
      simp only [inR, offB, h0, decide_true, Bool.true_and, Bool.false_bne]
      rw [Bool.eq_iff_iff]
      simp only [Bool.and_eq_true, decide_eq_true_eq, Bool.not_eq_true', decide_eq_false_iff_not]
      split <;> omega
theorem fit_open : ∀ (rs : List (Int × Bool)) (lo hi : Int) (op : Bool), (rs.foldl stepT (lo, hi, op)).2.2 = (op && rs.all fun r => !offB 0 r)
  | [], lo, hi, op => by simp
  | (x, b) :: rs, lo, hi, op => by
    rw [List.foldl_cons, List.all_cons]
    cases b with
    | true =>
      show (rs.foldl stepT (lo, (if x < hi then x else hi), false)).2.2 = _
      rw [fit_open rs]
      simp [offB]
    | false =>
      show (rs.foldl stepT ((if x > lo then x else lo), hi, op)).2.2 = _
      rw [fit_open rs]
      simp [offB]
/-- the places that fit, then 0 -/
def fitL (P : Nat) (rs : List (Int × Bool)) : List D := (rngD 1 P).filter (fun d => match d with
  | .int i => fitB rs i
  | _ => false)
theorem fit_told {P : Nat} {rs : List (Int × Bool)} (h : RIn P rs) : toldL P rs = fitL P rs ++ (if fitB rs 0 = true then [.int 0] else []) := by
  obtain ⟨b1, b2, b3, b4⟩ := step_in (op := true) h (Int.le_refl 0) (by omega : (0 : Int) ≤ P) (by omega) (Int.le_refl _)
  unfold toldL
  rw [show (rs.foldl stepT (0, (P : Int), true)).2.2 = fitB rs 0 by rw [fit_open, Bool.true_and, fitB_all]]
  congr 1
  rw [← rngD_cut _ _ P 1 (by omega) (by omega)]
  unfold fitL
  refine List.filter_congr fun d hd => ?_
  obtain ⟨i, rfl, h1, h2⟩ := rngD_mem P 1 d hd
  show _ = fitB rs i
  rw [fit_in (by omega) rs 0 P true, fitB_all]
  have : inR 0 (P : Int) (.int i) = true := by
    simp [inR]
    omega
  rw [this, Bool.true_and]
end Dv.waydues_k65_hunts_for_leaks

set_option maxRecDepth 100000
set_option maxHeartbeats 4000000
namespace Dv.waydues_k65_hunts_for_leaks
open PySem L2 Dv PyProof.Rows
theorem draw_is : F__law_draw = drawF := rfl
theorem pick_is : F__law_pick = pickF := rfl
abbrev NT := Nat × Nat
def prs : List NT := (List.range 15).flatMap fun p => (List.range 5).map fun w => (p, w)
def huntTab : List (List (List (List (Int × Bool)))) := [[[[]], [[]], [[]], [[]], [[]]],
  [[], [[(1, false)], [(1, true)]], [[(1, false)], [(1, true)]], [[(1, false)], [(1, true)]], [[(1, false)], [(1, true)]]],
  [[], [[(1, false), (2, false)], [(1, true)], [(1, false), (2, true)]], [[(2, false)], [(2, true), (1, true)], [(2, true), (1, false)]], [[(2, false)], [(2, true), (1, true)], [(2, true), (1, false)]], [[(2, false)], [(2, true), (1, true)], [(2, true), (1, false)]]],
  [[], [[(1, false), (2, false), (3, false)], [(1, true)], [(1, false), (2, true)], [(1, false), (2, false), (3, true)]], [[(2, false), (3, false)], [(2, true), (1, true)], [(2, true), (1, false)], [(2, false), (3, true)]], [[(2, false), (3, false)], [(2, true), (1, true)], [(2, true), (1, false)], [(2, false), (3, true)]], [[(2, false), (3, false)], [(2, true), (1, true)], [(2, true), (1, false)], [(2, false), (3, true)]]],
  [[], [[(1, false), (2, false), (3, false), (4, false)], [(1, true)], [(1, false), (2, true)], [(1, false), (2, false), (3, true)], [(1, false), (2, false), (3, false), (4, true)]], [[(3, false), (4, false)], [(3, true), (1, true)], [(3, true), (1, false), (2, true)], [(3, true), (1, false), (2, false)], [(3, false), (4, true)]], [[(4, false)], [(4, true), (2, true), (1, true)], [(4, true), (2, true), (1, false)], [(4, true), (2, false), (3, true)], [(4, true), (2, false), (3, false)]], [[(4, false)], [(4, true), (2, true), (1, true)], [(4, true), (2, true), (1, false)], [(4, true), (2, false), (3, true)], [(4, true), (2, false), (3, false)]]],
  [[], [[(1, false), (2, false), (3, false), (4, false), (5, false)], [(1, true)], [(1, false), (2, true)], [(1, false), (2, false), (3, true)], [(1, false), (2, false), (3, false), (4, true)], [(1, false), (2, false), (3, false), (4, false), (5, true)]], [[(3, false), (5, false)], [(3, true), (1, true)], [(3, true), (1, false), (2, true)], [(3, true), (1, false), (2, false)], [(3, false), (5, true), (4, true)], [(3, false), (5, true), (4, false)]], [[(4, false), (5, false)], [(4, true), (2, true), (1, true)], [(4, true), (2, true), (1, false)], [(4, true), (2, false), (3, true)], [(4, true), (2, false), (3, false)], [(4, false), (5, true)]], [[(4, false), (5, false)], [(4, true), (2, true), (1, true)], [(4, true), (2, true), (1, false)], [(4, true), (2, false), (3, true)], [(4, true), (2, false), (3, false)], [(4, false), (5, true)]]],
  [[], [[(1, false), (2, false), (3, false), (4, false), (5, false), (6, false)], [(1, true)], [(1, false), (2, true)], [(1, false), (2, false), (3, true)], [(1, false), (2, false), (3, false), (4, true)], [(1, false), (2, false), (3, false), (4, false), (5, true)], [(1, false), (2, false), (3, false), (4, false), (5, false), (6, true)]], [[(3, false), (5, false), (6, false)], [(3, true), (1, true)], [(3, true), (1, false), (2, true)], [(3, true), (1, false), (2, false)], [(3, false), (5, true), (4, true)], [(3, false), (5, true), (4, false)], [(3, false), (5, false), (6, true)]], [[(4, false), (6, false)], [(4, true), (2, true), (1, true)], [(4, true), (2, true), (1, false)], [(4, true), (2, false), (3, true)], [(4, true), (2, false), (3, false)], [(4, false), (6, true), (5, true)], [(4, false), (6, true), (5, false)]], [[(4, false), (6, false)], [(4, true), (2, true), (1, true)], [(4, true), (2, true), (1, false)], [(4, true), (2, false), (3, true)], [(4, true), (2, false), (3, false)], [(4, false), (6, true), (5, true)], [(4, false), (6, true), (5, false)]]],
  [[], [[(1, false), (2, false), (3, false), (4, false), (5, false), (6, false), (7, false)], [(1, true)], [(1, false), (2, true)], [(1, false), (2, false), (3, true)], [(1, false), (2, false), (3, false), (4, true)], [(1, false), (2, false), (3, false), (4, false), (5, true)], [(1, false), (2, false), (3, false), (4, false), (5, false), (6, true)], [(1, false), (2, false), (3, false), (4, false), (5, false), (6, false), (7, true)]], [[(4, false), (6, false), (7, false)], [(4, true), (1, true)], [(4, true), (1, false), (2, true)], [(4, true), (1, false), (2, false), (3, true)], [(4, true), (1, false), (2, false), (3, false)], [(4, false), (6, true), (5, true)], [(4, false), (6, true), (5, false)], [(4, false), (6, false), (7, true)]], [[(4, false), (6, false), (7, false)], [(4, true), (2, true), (1, true)], [(4, true), (2, true), (1, false)], [(4, true), (2, false), (3, true)], [(4, true), (2, false), (3, false)], [(4, false), (6, true), (5, true)], [(4, false), (6, true), (5, false)], [(4, false), (6, false), (7, true)]], [[(4, false), (6, false), (7, false)], [(4, true), (2, true), (1, true)], [(4, true), (2, true), (1, false)], [(4, true), (2, false), (3, true)], [(4, true), (2, false), (3, false)], [(4, false), (6, true), (5, true)], [(4, false), (6, true), (5, false)], [(4, false), (6, false), (7, true)]]],
  [[], [[(1, false), (2, false), (3, false), (4, false), (5, false), (6, false), (7, false), (8, false)], [(1, true)], [(1, false), (2, true)], [(1, false), (2, false), (3, true)], [(1, false), (2, false), (3, false), (4, true)], [(1, false), (2, false), (3, false), (4, false), (5, true)], [(1, false), (2, false), (3, false), (4, false), (5, false), (6, true)], [(1, false), (2, false), (3, false), (4, false), (5, false), (6, false), (7, true)], [(1, false), (2, false), (3, false), (4, false), (5, false), (6, false), (7, false), (8, true)]], [[(4, false), (7, false), (8, false)], [(4, true), (1, true)], [(4, true), (1, false), (2, true)], [(4, true), (1, false), (2, false), (3, true)], [(4, true), (1, false), (2, false), (3, false)], [(4, false), (7, true), (5, true)], [(4, false), (7, true), (5, false), (6, true)], [(4, false), (7, true), (5, false), (6, false)], [(4, false), (7, false), (8, true)]], [[(7, false), (8, false)], [(7, true), (3, true), (1, true)], [(7, true), (3, true), (1, false), (2, true)], [(7, true), (3, true), (1, false), (2, false)], [(7, true), (3, false), (5, true), (4, true)], [(7, true), (3, false), (5, true), (4, false)], [(7, true), (3, false), (5, false), (6, true)], [(7, true), (3, false), (5, false), (6, false)], [(7, false), (8, true)]], [[(8, false)], [(8, true), (4, true), (2, true), (1, true)], [(8, true), (4, true), (2, true), (1, false)], [(8, true), (4, true), (2, false), (3, true)], [(8, true), (4, true), (2, false), (3, false)], [(8, true), (4, false), (6, true), (5, true)], [(8, true), (4, false), (6, true), (5, false)], [(8, true), (4, false), (6, false), (7, true)], [(8, true), (4, false), (6, false), (7, false)]]],
  [[], [[(1, false), (2, false), (3, false), (4, false), (5, false), (6, false), (7, false), (8, false), (9, false)], [(1, true)], [(1, false), (2, true)], [(1, false), (2, false), (3, true)], [(1, false), (2, false), (3, false), (4, true)], [(1, false), (2, false), (3, false), (4, false), (5, true)], [(1, false), (2, false), (3, false), (4, false), (5, false), (6, true)], [(1, false), (2, false), (3, false), (4, false), (5, false), (6, false), (7, true)], [(1, false), (2, false), (3, false), (4, false), (5, false), (6, false), (7, false), (8, true)], [(1, false), (2, false), (3, false), (4, false), (5, false), (6, false), (7, false), (8, false), (9, true)]], [[(4, false), (7, false), (9, false)], [(4, true), (1, true)], [(4, true), (1, false), (2, true)], [(4, true), (1, false), (2, false), (3, true)], [(4, true), (1, false), (2, false), (3, false)], [(4, false), (7, true), (5, true)], [(4, false), (7, true), (5, false), (6, true)], [(4, false), (7, true), (5, false), (6, false)], [(4, false), (7, false), (9, true), (8, true)], [(4, false), (7, false), (9, true), (8, false)]], [[(7, false), (9, false)], [(7, true), (3, true), (1, true)], [(7, true), (3, true), (1, false), (2, true)], [(7, true), (3, true), (1, false), (2, false)], [(7, true), (3, false), (5, true), (4, true)], [(7, true), (3, false), (5, true), (4, false)], [(7, true), (3, false), (5, false), (6, true)], [(7, true), (3, false), (5, false), (6, false)], [(7, false), (9, true), (8, true)], [(7, false), (9, true), (8, false)]], [[(8, false), (9, false)], [(8, true), (4, true), (2, true), (1, true)], [(8, true), (4, true), (2, true), (1, false)], [(8, true), (4, true), (2, false), (3, true)], [(8, true), (4, true), (2, false), (3, false)], [(8, true), (4, false), (6, true), (5, true)], [(8, true), (4, false), (6, true), (5, false)], [(8, true), (4, false), (6, false), (7, true)], [(8, true), (4, false), (6, false), (7, false)], [(8, false), (9, true)]]],
  [[], [[(1, false), (2, false), (3, false), (4, false), (5, false), (6, false), (7, false), (8, false), (9, false), (10, false)], [(1, true)], [(1, false), (2, true)], [(1, false), (2, false), (3, true)], [(1, false), (2, false), (3, false), (4, true)], [(1, false), (2, false), (3, false), (4, false), (5, true)], [(1, false), (2, false), (3, false), (4, false), (5, false), (6, true)], [(1, false), (2, false), (3, false), (4, false), (5, false), (6, false), (7, true)], [(1, false), (2, false), (3, false), (4, false), (5, false), (6, false), (7, false), (8, true)], [(1, false), (2, false), (3, false), (4, false), (5, false), (6, false), (7, false), (8, false), (9, true)], [(1, false), (2, false), (3, false), (4, false), (5, false), (6, false), (7, false), (8, false), (9, false), (10, true)]], [[(4, false), (7, false), (9, false), (10, false)], [(4, true), (1, true)], [(4, true), (1, false), (2, true)], [(4, true), (1, false), (2, false), (3, true)], [(4, true), (1, false), (2, false), (3, false)], [(4, false), (7, true), (5, true)], [(4, false), (7, true), (5, false), (6, true)], [(4, false), (7, true), (5, false), (6, false)], [(4, false), (7, false), (9, true), (8, true)], [(4, false), (7, false), (9, true), (8, false)], [(4, false), (7, false), (9, false), (10, true)]], [[(7, false), (9, false), (10, false)], [(7, true), (3, true), (1, true)], [(7, true), (3, true), (1, false), (2, true)], [(7, true), (3, true), (1, false), (2, false)], [(7, true), (3, false), (5, true), (4, true)], [(7, true), (3, false), (5, true), (4, false)], [(7, true), (3, false), (5, false), (6, true)], [(7, true), (3, false), (5, false), (6, false)], [(7, false), (9, true), (8, true)], [(7, false), (9, true), (8, false)], [(7, false), (9, false), (10, true)]], [[(8, false), (10, false)], [(8, true), (4, true), (2, true), (1, true)], [(8, true), (4, true), (2, true), (1, false)], [(8, true), (4, true), (2, false), (3, true)], [(8, true), (4, true), (2, false), (3, false)], [(8, true), (4, false), (6, true), (5, true)], [(8, true), (4, false), (6, true), (5, false)], [(8, true), (4, false), (6, false), (7, true)], [(8, true), (4, false), (6, false), (7, false)], [(8, false), (10, true), (9, true)], [(8, false), (10, true), (9, false)]]],
  [[], [[(1, false), (2, false), (3, false), (4, false), (5, false), (6, false), (7, false), (8, false), (9, false), (10, false), (11, false)], [(1, true)], [(1, false), (2, true)], [(1, false), (2, false), (3, true)], [(1, false), (2, false), (3, false), (4, true)], [(1, false), (2, false), (3, false), (4, false), (5, true)], [(1, false), (2, false), (3, false), (4, false), (5, false), (6, true)], [(1, false), (2, false), (3, false), (4, false), (5, false), (6, false), (7, true)], [(1, false), (2, false), (3, false), (4, false), (5, false), (6, false), (7, false), (8, true)], [(1, false), (2, false), (3, false), (4, false), (5, false), (6, false), (7, false), (8, false), (9, true)], [(1, false), (2, false), (3, false), (4, false), (5, false), (6, false), (7, false), (8, false), (9, false), (10, true)], [(1, false), (2, false), (3, false), (4, false), (5, false), (6, false), (7, false), (8, false), (9, false), (10, false), (11, true)]], [[(5, false), (8, false), (10, false), (11, false)], [(5, true), (1, true)], [(5, true), (1, false), (2, true)], [(5, true), (1, false), (2, false), (3, true)], [(5, true), (1, false), (2, false), (3, false), (4, true)], [(5, true), (1, false), (2, false), (3, false), (4, false)], [(5, false), (8, true), (6, true)], [(5, false), (8, true), (6, false), (7, true)], [(5, false), (8, true), (6, false), (7, false)], [(5, false), (8, false), (10, true), (9, true)], [(5, false), (8, false), (10, true), (9, false)], [(5, false), (8, false), (10, false), (11, true)]], [[(7, false), (11, false)], [(7, true), (3, true), (1, true)], [(7, true), (3, true), (1, false), (2, true)], [(7, true), (3, true), (1, false), (2, false)], [(7, true), (3, false), (5, true), (4, true)], [(7, true), (3, false), (5, true), (4, false)], [(7, true), (3, false), (5, false), (6, true)], [(7, true), (3, false), (5, false), (6, false)], [(7, false), (11, true), (9, true), (8, true)], [(7, false), (11, true), (9, true), (8, false)], [(7, false), (11, true), (9, false), (10, true)], [(7, false), (11, true), (9, false), (10, false)]], [[(8, false), (10, false), (11, false)], [(8, true), (4, true), (2, true), (1, true)], [(8, true), (4, true), (2, true), (1, false)], [(8, true), (4, true), (2, false), (3, true)], [(8, true), (4, true), (2, false), (3, false)], [(8, true), (4, false), (6, true), (5, true)], [(8, true), (4, false), (6, true), (5, false)], [(8, true), (4, false), (6, false), (7, true)], [(8, true), (4, false), (6, false), (7, false)], [(8, false), (10, true), (9, true)], [(8, false), (10, true), (9, false)], [(8, false), (10, false), (11, true)]]],
  [[], [[(1, false), (2, false), (3, false), (4, false), (5, false), (6, false), (7, false), (8, false), (9, false), (10, false), (11, false), (12, false)], [(1, true)], [(1, false), (2, true)], [(1, false), (2, false), (3, true)], [(1, false), (2, false), (3, false), (4, true)], [(1, false), (2, false), (3, false), (4, false), (5, true)], [(1, false), (2, false), (3, false), (4, false), (5, false), (6, true)], [(1, false), (2, false), (3, false), (4, false), (5, false), (6, false), (7, true)], [(1, false), (2, false), (3, false), (4, false), (5, false), (6, false), (7, false), (8, true)], [(1, false), (2, false), (3, false), (4, false), (5, false), (6, false), (7, false), (8, false), (9, true)], [(1, false), (2, false), (3, false), (4, false), (5, false), (6, false), (7, false), (8, false), (9, false), (10, true)], [(1, false), (2, false), (3, false), (4, false), (5, false), (6, false), (7, false), (8, false), (9, false), (10, false), (11, true)], [(1, false), (2, false), (3, false), (4, false), (5, false), (6, false), (7, false), (8, false), (9, false), (10, false), (11, false), (12, true)]], [[(5, false), (9, false), (11, false), (12, false)], [(5, true), (1, true)], [(5, true), (1, false), (2, true)], [(5, true), (1, false), (2, false), (3, true)], [(5, true), (1, false), (2, false), (3, false), (4, true)], [(5, true), (1, false), (2, false), (3, false), (4, false)], [(5, false), (9, true), (6, true)], [(5, false), (9, true), (6, false), (7, true)], [(5, false), (9, true), (6, false), (7, false), (8, true)], [(5, false), (9, true), (6, false), (7, false), (8, false)], [(5, false), (9, false), (11, true), (10, true)], [(5, false), (9, false), (11, true), (10, false)], [(5, false), (9, false), (11, false), (12, true)]], [[(7, false), (11, false), (12, false)], [(7, true), (3, true), (1, true)], [(7, true), (3, true), (1, false), (2, true)], [(7, true), (3, true), (1, false), (2, false)], [(7, true), (3, false), (5, true), (4, true)], [(7, true), (3, false), (5, true), (4, false)], [(7, true), (3, false), (5, false), (6, true)], [(7, true), (3, false), (5, false), (6, false)], [(7, false), (11, true), (9, true), (8, true)], [(7, false), (11, true), (9, true), (8, false)], [(7, false), (11, true), (9, false), (10, true)], [(7, false), (11, true), (9, false), (10, false)], [(7, false), (11, false), (12, true)]], [[(8, false), (12, false)], [(8, true), (4, true), (2, true), (1, true)], [(8, true), (4, true), (2, true), (1, false)], [(8, true), (4, true), (2, false), (3, true)], [(8, true), (4, true), (2, false), (3, false)], [(8, true), (4, false), (6, true), (5, true)], [(8, true), (4, false), (6, true), (5, false)], [(8, true), (4, false), (6, false), (7, true)], [(8, true), (4, false), (6, false), (7, false)], [(8, false), (12, true), (10, true), (9, true)], [(8, false), (12, true), (10, true), (9, false)], [(8, false), (12, true), (10, false), (11, true)], [(8, false), (12, true), (10, false), (11, false)]]],
  [[], [[(1, false), (2, false), (3, false), (4, false), (5, false), (6, false), (7, false), (8, false), (9, false), (10, false), (11, false), (12, false), (13, false)], [(1, true)], [(1, false), (2, true)], [(1, false), (2, false), (3, true)], [(1, false), (2, false), (3, false), (4, true)], [(1, false), (2, false), (3, false), (4, false), (5, true)], [(1, false), (2, false), (3, false), (4, false), (5, false), (6, true)], [(1, false), (2, false), (3, false), (4, false), (5, false), (6, false), (7, true)], [(1, false), (2, false), (3, false), (4, false), (5, false), (6, false), (7, false), (8, true)], [(1, false), (2, false), (3, false), (4, false), (5, false), (6, false), (7, false), (8, false), (9, true)], [(1, false), (2, false), (3, false), (4, false), (5, false), (6, false), (7, false), (8, false), (9, false), (10, true)], [(1, false), (2, false), (3, false), (4, false), (5, false), (6, false), (7, false), (8, false), (9, false), (10, false), (11, true)], [(1, false), (2, false), (3, false), (4, false), (5, false), (6, false), (7, false), (8, false), (9, false), (10, false), (11, false), (12, true)], [(1, false), (2, false), (3, false), (4, false), (5, false), (6, false), (7, false), (8, false), (9, false), (10, false), (11, false), (12, false), (13, true)]], [[(5, false), (9, false), (12, false), (13, false)], [(5, true), (1, true)], [(5, true), (1, false), (2, true)], [(5, true), (1, false), (2, false), (3, true)], [(5, true), (1, false), (2, false), (3, false), (4, true)], [(5, true), (1, false), (2, false), (3, false), (4, false)], [(5, false), (9, true), (6, true)], [(5, false), (9, true), (6, false), (7, true)], [(5, false), (9, true), (6, false), (7, false), (8, true)], [(5, false), (9, true), (6, false), (7, false), (8, false)], [(5, false), (9, false), (12, true), (10, true)], [(5, false), (9, false), (12, true), (10, false), (11, true)], [(5, false), (9, false), (12, true), (10, false), (11, false)], [(5, false), (9, false), (12, false), (13, true)]], [[(7, false), (11, false), (13, false)], [(7, true), (3, true), (1, true)], [(7, true), (3, true), (1, false), (2, true)], [(7, true), (3, true), (1, false), (2, false)], [(7, true), (3, false), (5, true), (4, true)], [(7, true), (3, false), (5, true), (4, false)], [(7, true), (3, false), (5, false), (6, true)], [(7, true), (3, false), (5, false), (6, false)], [(7, false), (11, true), (9, true), (8, true)], [(7, false), (11, true), (9, true), (8, false)], [(7, false), (11, true), (9, false), (10, true)], [(7, false), (11, true), (9, false), (10, false)], [(7, false), (11, false), (13, true), (12, true)], [(7, false), (11, false), (13, true), (12, false)]], [[(8, false), (12, false), (13, false)], [(8, true), (4, true), (2, true), (1, true)], [(8, true), (4, true), (2, true), (1, false)], [(8, true), (4, true), (2, false), (3, true)], [(8, true), (4, true), (2, false), (3, false)], [(8, true), (4, false), (6, true), (5, true)], [(8, true), (4, false), (6, true), (5, false)], [(8, true), (4, false), (6, false), (7, true)], [(8, true), (4, false), (6, false), (7, false)], [(8, false), (12, true), (10, true), (9, true)], [(8, false), (12, true), (10, true), (9, false)], [(8, false), (12, true), (10, false), (11, true)], [(8, false), (12, true), (10, false), (11, false)], [(8, false), (12, false), (13, true)]]],
  [[], [[(1, false), (2, false), (3, false), (4, false), (5, false), (6, false), (7, false), (8, false), (9, false), (10, false), (11, false), (12, false), (13, false), (14, false)], [(1, true)], [(1, false), (2, true)], [(1, false), (2, false), (3, true)], [(1, false), (2, false), (3, false), (4, true)], [(1, false), (2, false), (3, false), (4, false), (5, true)], [(1, false), (2, false), (3, false), (4, false), (5, false), (6, true)], [(1, false), (2, false), (3, false), (4, false), (5, false), (6, false), (7, true)], [(1, false), (2, false), (3, false), (4, false), (5, false), (6, false), (7, false), (8, true)], [(1, false), (2, false), (3, false), (4, false), (5, false), (6, false), (7, false), (8, false), (9, true)], [(1, false), (2, false), (3, false), (4, false), (5, false), (6, false), (7, false), (8, false), (9, false), (10, true)], [(1, false), (2, false), (3, false), (4, false), (5, false), (6, false), (7, false), (8, false), (9, false), (10, false), (11, true)], [(1, false), (2, false), (3, false), (4, false), (5, false), (6, false), (7, false), (8, false), (9, false), (10, false), (11, false), (12, true)], [(1, false), (2, false), (3, false), (4, false), (5, false), (6, false), (7, false), (8, false), (9, false), (10, false), (11, false), (12, false), (13, true)], [(1, false), (2, false), (3, false), (4, false), (5, false), (6, false), (7, false), (8, false), (9, false), (10, false), (11, false), (12, false), (13, false), (14, true)]], [[(5, false), (9, false), (12, false), (14, false)], [(5, true), (1, true)], [(5, true), (1, false), (2, true)], [(5, true), (1, false), (2, false), (3, true)], [(5, true), (1, false), (2, false), (3, false), (4, true)], [(5, true), (1, false), (2, false), (3, false), (4, false)], [(5, false), (9, true), (6, true)], [(5, false), (9, true), (6, false), (7, true)], [(5, false), (9, true), (6, false), (7, false), (8, true)], [(5, false), (9, true), (6, false), (7, false), (8, false)], [(5, false), (9, false), (12, true), (10, true)], [(5, false), (9, false), (12, true), (10, false), (11, true)], [(5, false), (9, false), (12, true), (10, false), (11, false)], [(5, false), (9, false), (12, false), (14, true), (13, true)], [(5, false), (9, false), (12, false), (14, true), (13, false)]], [[(7, false), (11, false), (13, false), (14, false)], [(7, true), (3, true), (1, true)], [(7, true), (3, true), (1, false), (2, true)], [(7, true), (3, true), (1, false), (2, false)], [(7, true), (3, false), (5, true), (4, true)], [(7, true), (3, false), (5, true), (4, false)], [(7, true), (3, false), (5, false), (6, true)], [(7, true), (3, false), (5, false), (6, false)], [(7, false), (11, true), (9, true), (8, true)], [(7, false), (11, true), (9, true), (8, false)], [(7, false), (11, true), (9, false), (10, true)], [(7, false), (11, true), (9, false), (10, false)], [(7, false), (11, false), (13, true), (12, true)], [(7, false), (11, false), (13, true), (12, false)], [(7, false), (11, false), (13, false), (14, true)]], [[(8, false), (12, false), (14, false)], [(8, true), (4, true), (2, true), (1, true)], [(8, true), (4, true), (2, true), (1, false)], [(8, true), (4, true), (2, false), (3, true)], [(8, true), (4, true), (2, false), (3, false)], [(8, true), (4, false), (6, true), (5, true)], [(8, true), (4, false), (6, true), (5, false)], [(8, true), (4, false), (6, false), (7, true)], [(8, true), (4, false), (6, false), (7, false)], [(8, false), (12, true), (10, true), (9, true)], [(8, false), (12, true), (10, true), (9, false)], [(8, false), (12, true), (10, false), (11, true)], [(8, false), (12, true), (10, false), (11, false)], [(8, false), (12, false), (14, true), (13, true)], [(8, false), (12, false), (14, true), (13, false)]]]]
def huntT (q : NT) (l : Nat) : List (Int × Bool) := ((huntTab.getD q.1 []).getD q.2 []).getD l []
def rowsTab : List (List D) := [[.lst [], .lst [], .lst [], .lst [], .lst []],
  [.non, .lst [.tup [.int 1, .non, .non]], .lst [.tup [.int 1, .non, .non]], .lst [.tup [.int 1, .non, .non]], .lst [.tup [.int 1, .non, .non]]],
  [.non, .lst [.tup [.int 1, .non, .int 2], .tup [.int 2, .non, .non]], .lst [.tup [.int 1, .non, .non], .tup [.int 2, .int 1, .non]], .lst [.tup [.int 1, .non, .non], .tup [.int 2, .int 1, .non]], .lst [.tup [.int 1, .non, .non], .tup [.int 2, .int 1, .non]]],
  [.non, .lst [.tup [.int 1, .non, .int 2], .tup [.int 2, .non, .int 3], .tup [.int 3, .non, .non]], .lst [.tup [.int 1, .non, .non], .tup [.int 2, .int 1, .int 3], .tup [.int 3, .non, .non]], .lst [.tup [.int 1, .non, .non], .tup [.int 2, .int 1, .int 3], .tup [.int 3, .non, .non]], .lst [.tup [.int 1, .non, .non], .tup [.int 2, .int 1, .int 3], .tup [.int 3, .non, .non]]],
  [.non, .lst [.tup [.int 1, .non, .int 2], .tup [.int 2, .non, .int 3], .tup [.int 3, .non, .int 4], .tup [.int 4, .non, .non]], .lst [.tup [.int 1, .non, .int 2], .tup [.int 2, .non, .non], .tup [.int 3, .int 1, .int 4], .tup [.int 4, .non, .non]], .lst [.tup [.int 1, .non, .non], .tup [.int 2, .int 1, .int 3], .tup [.int 3, .non, .non], .tup [.int 4, .int 2, .non]], .lst [.tup [.int 1, .non, .non], .tup [.int 2, .int 1, .int 3], .tup [.int 3, .non, .non], .tup [.int 4, .int 2, .non]]],
  [.non, .lst [.tup [.int 1, .non, .int 2], .tup [.int 2, .non, .int 3], .tup [.int 3, .non, .int 4], .tup [.int 4, .non, .int 5], .tup [.int 5, .non, .non]], .lst [.tup [.int 1, .non, .int 2], .tup [.int 2, .non, .non], .tup [.int 3, .int 1, .int 5], .tup [.int 4, .non, .non], .tup [.int 5, .int 4, .non]], .lst [.tup [.int 1, .non, .non], .tup [.int 2, .int 1, .int 3], .tup [.int 3, .non, .non], .tup [.int 4, .int 2, .int 5], .tup [.int 5, .non, .non]], .lst [.tup [.int 1, .non, .non], .tup [.int 2, .int 1, .int 3], .tup [.int 3, .non, .non], .tup [.int 4, .int 2, .int 5], .tup [.int 5, .non, .non]]],
  [.non, .lst [.tup [.int 1, .non, .int 2], .tup [.int 2, .non, .int 3], .tup [.int 3, .non, .int 4], .tup [.int 4, .non, .int 5], .tup [.int 5, .non, .int 6], .tup [.int 6, .non, .non]], .lst [.tup [.int 1, .non, .int 2], .tup [.int 2, .non, .non], .tup [.int 3, .int 1, .int 5], .tup [.int 4, .non, .non], .tup [.int 5, .int 4, .int 6], .tup [.int 6, .non, .non]], .lst [.tup [.int 1, .non, .non], .tup [.int 2, .int 1, .int 3], .tup [.int 3, .non, .non], .tup [.int 4, .int 2, .int 6], .tup [.int 5, .non, .non], .tup [.int 6, .int 5, .non]], .lst [.tup [.int 1, .non, .non], .tup [.int 2, .int 1, .int 3], .tup [.int 3, .non, .non], .tup [.int 4, .int 2, .int 6], .tup [.int 5, .non, .non], .tup [.int 6, .int 5, .non]]],
  [.non, .lst [.tup [.int 1, .non, .int 2], .tup [.int 2, .non, .int 3], .tup [.int 3, .non, .int 4], .tup [.int 4, .non, .int 5], .tup [.int 5, .non, .int 6], .tup [.int 6, .non, .int 7], .tup [.int 7, .non, .non]], .lst [.tup [.int 1, .non, .int 2], .tup [.int 2, .non, .int 3], .tup [.int 3, .non, .non], .tup [.int 4, .int 1, .int 6], .tup [.int 5, .non, .non], .tup [.int 6, .int 5, .int 7], .tup [.int 7, .non, .non]], .lst [.tup [.int 1, .non, .non], .tup [.int 2, .int 1, .int 3], .tup [.int 3, .non, .non], .tup [.int 4, .int 2, .int 6], .tup [.int 5, .non, .non], .tup [.int 6, .int 5, .int 7], .tup [.int 7, .non, .non]], .lst [.tup [.int 1, .non, .non], .tup [.int 2, .int 1, .int 3], .tup [.int 3, .non, .non], .tup [.int 4, .int 2, .int 6], .tup [.int 5, .non, .non], .tup [.int 6, .int 5, .int 7], .tup [.int 7, .non, .non]]],
  [.non, .lst [.tup [.int 1, .non, .int 2], .tup [.int 2, .non, .int 3], .tup [.int 3, .non, .int 4], .tup [.int 4, .non, .int 5], .tup [.int 5, .non, .int 6], .tup [.int 6, .non, .int 7], .tup [.int 7, .non, .int 8], .tup [.int 8, .non, .non]], .lst [.tup [.int 1, .non, .int 2], .tup [.int 2, .non, .int 3], .tup [.int 3, .non, .non], .tup [.int 4, .int 1, .int 7], .tup [.int 5, .non, .int 6], .tup [.int 6, .non, .non], .tup [.int 7, .int 5, .int 8], .tup [.int 8, .non, .non]], .lst [.tup [.int 1, .non, .int 2], .tup [.int 2, .non, .non], .tup [.int 3, .int 1, .int 5], .tup [.int 4, .non, .non], .tup [.int 5, .int 4, .int 6], .tup [.int 6, .non, .non], .tup [.int 7, .int 3, .int 8], .tup [.int 8, .non, .non]], .lst [.tup [.int 1, .non, .non], .tup [.int 2, .int 1, .int 3], .tup [.int 3, .non, .non], .tup [.int 4, .int 2, .int 6], .tup [.int 5, .non, .non], .tup [.int 6, .int 5, .int 7], .tup [.int 7, .non, .non], .tup [.int 8, .int 4, .non]]],
  [.non, .lst [.tup [.int 1, .non, .int 2], .tup [.int 2, .non, .int 3], .tup [.int 3, .non, .int 4], .tup [.int 4, .non, .int 5], .tup [.int 5, .non, .int 6], .tup [.int 6, .non, .int 7], .tup [.int 7, .non, .int 8], .tup [.int 8, .non, .int 9], .tup [.int 9, .non, .non]], .lst [.tup [.int 1, .non, .int 2], .tup [.int 2, .non, .int 3], .tup [.int 3, .non, .non], .tup [.int 4, .int 1, .int 7], .tup [.int 5, .non, .int 6], .tup [.int 6, .non, .non], .tup [.int 7, .int 5, .int 9], .tup [.int 8, .non, .non], .tup [.int 9, .int 8, .non]], .lst [.tup [.int 1, .non, .int 2], .tup [.int 2, .non, .non], .tup [.int 3, .int 1, .int 5], .tup [.int 4, .non, .non], .tup [.int 5, .int 4, .int 6], .tup [.int 6, .non, .non], .tup [.int 7, .int 3, .int 9], .tup [.int 8, .non, .non], .tup [.int 9, .int 8, .non]], .lst [.tup [.int 1, .non, .non], .tup [.int 2, .int 1, .int 3], .tup [.int 3, .non, .non], .tup [.int 4, .int 2, .int 6], .tup [.int 5, .non, .non], .tup [.int 6, .int 5, .int 7], .tup [.int 7, .non, .non], .tup [.int 8, .int 4, .int 9], .tup [.int 9, .non, .non]]],
  [.non, .lst [.tup [.int 1, .non, .int 2], .tup [.int 2, .non, .int 3], .tup [.int 3, .non, .int 4], .tup [.int 4, .non, .int 5], .tup [.int 5, .non, .int 6], .tup [.int 6, .non, .int 7], .tup [.int 7, .non, .int 8], .tup [.int 8, .non, .int 9], .tup [.int 9, .non, .int 10], .tup [.int 10, .non, .non]], .lst [.tup [.int 1, .non, .int 2], .tup [.int 2, .non, .int 3], .tup [.int 3, .non, .non], .tup [.int 4, .int 1, .int 7], .tup [.int 5, .non, .int 6], .tup [.int 6, .non, .non], .tup [.int 7, .int 5, .int 9], .tup [.int 8, .non, .non], .tup [.int 9, .int 8, .int 10], .tup [.int 10, .non, .non]], .lst [.tup [.int 1, .non, .int 2], .tup [.int 2, .non, .non], .tup [.int 3, .int 1, .int 5], .tup [.int 4, .non, .non], .tup [.int 5, .int 4, .int 6], .tup [.int 6, .non, .non], .tup [.int 7, .int 3, .int 9], .tup [.int 8, .non, .non], .tup [.int 9, .int 8, .int 10], .tup [.int 10, .non, .non]], .lst [.tup [.int 1, .non, .non], .tup [.int 2, .int 1, .int 3], .tup [.int 3, .non, .non], .tup [.int 4, .int 2, .int 6], .tup [.int 5, .non, .non], .tup [.int 6, .int 5, .int 7], .tup [.int 7, .non, .non], .tup [.int 8, .int 4, .int 10], .tup [.int 9, .non, .non], .tup [.int 10, .int 9, .non]]],
  [.non, .lst [.tup [.int 1, .non, .int 2], .tup [.int 2, .non, .int 3], .tup [.int 3, .non, .int 4], .tup [.int 4, .non, .int 5], .tup [.int 5, .non, .int 6], .tup [.int 6, .non, .int 7], .tup [.int 7, .non, .int 8], .tup [.int 8, .non, .int 9], .tup [.int 9, .non, .int 10], .tup [.int 10, .non, .int 11], .tup [.int 11, .non, .non]], .lst [.tup [.int 1, .non, .int 2], .tup [.int 2, .non, .int 3], .tup [.int 3, .non, .int 4], .tup [.int 4, .non, .non], .tup [.int 5, .int 1, .int 8], .tup [.int 6, .non, .int 7], .tup [.int 7, .non, .non], .tup [.int 8, .int 6, .int 10], .tup [.int 9, .non, .non], .tup [.int 10, .int 9, .int 11], .tup [.int 11, .non, .non]], .lst [.tup [.int 1, .non, .int 2], .tup [.int 2, .non, .non], .tup [.int 3, .int 1, .int 5], .tup [.int 4, .non, .non], .tup [.int 5, .int 4, .int 6], .tup [.int 6, .non, .non], .tup [.int 7, .int 3, .int 11], .tup [.int 8, .non, .non], .tup [.int 9, .int 8, .int 10], .tup [.int 10, .non, .non], .tup [.int 11, .int 9, .non]], .lst [.tup [.int 1, .non, .non], .tup [.int 2, .int 1, .int 3], .tup [.int 3, .non, .non], .tup [.int 4, .int 2, .int 6], .tup [.int 5, .non, .non], .tup [.int 6, .int 5, .int 7], .tup [.int 7, .non, .non], .tup [.int 8, .int 4, .int 10], .tup [.int 9, .non, .non], .tup [.int 10, .int 9, .int 11], .tup [.int 11, .non, .non]]],
  [.non, .lst [.tup [.int 1, .non, .int 2], .tup [.int 2, .non, .int 3], .tup [.int 3, .non, .int 4], .tup [.int 4, .non, .int 5], .tup [.int 5, .non, .int 6], .tup [.int 6, .non, .int 7], .tup [.int 7, .non, .int 8], .tup [.int 8, .non, .int 9], .tup [.int 9, .non, .int 10], .tup [.int 10, .non, .int 11], .tup [.int 11, .non, .int 12], .tup [.int 12, .non, .non]], .lst [.tup [.int 1, .non, .int 2], .tup [.int 2, .non, .int 3], .tup [.int 3, .non, .int 4], .tup [.int 4, .non, .non], .tup [.int 5, .int 1, .int 9], .tup [.int 6, .non, .int 7], .tup [.int 7, .non, .int 8], .tup [.int 8, .non, .non], .tup [.int 9, .int 6, .int 11], .tup [.int 10, .non, .non], .tup [.int 11, .int 10, .int 12], .tup [.int 12, .non, .non]], .lst [.tup [.int 1, .non, .int 2], .tup [.int 2, .non, .non], .tup [.int 3, .int 1, .int 5], .tup [.int 4, .non, .non], .tup [.int 5, .int 4, .int 6], .tup [.int 6, .non, .non], .tup [.int 7, .int 3, .int 11], .tup [.int 8, .non, .non], .tup [.int 9, .int 8, .int 10], .tup [.int 10, .non, .non], .tup [.int 11, .int 9, .int 12], .tup [.int 12, .non, .non]], .lst [.tup [.int 1, .non, .non], .tup [.int 2, .int 1, .int 3], .tup [.int 3, .non, .non], .tup [.int 4, .int 2, .int 6], .tup [.int 5, .non, .non], .tup [.int 6, .int 5, .int 7], .tup [.int 7, .non, .non], .tup [.int 8, .int 4, .int 12], .tup [.int 9, .non, .non], .tup [.int 10, .int 9, .int 11], .tup [.int 11, .non, .non], .tup [.int 12, .int 10, .non]]],
  [.non, .lst [.tup [.int 1, .non, .int 2], .tup [.int 2, .non, .int 3], .tup [.int 3, .non, .int 4], .tup [.int 4, .non, .int 5], .tup [.int 5, .non, .int 6], .tup [.int 6, .non, .int 7], .tup [.int 7, .non, .int 8], .tup [.int 8, .non, .int 9], .tup [.int 9, .non, .int 10], .tup [.int 10, .non, .int 11], .tup [.int 11, .non, .int 12], .tup [.int 12, .non, .int 13], .tup [.int 13, .non, .non]], .lst [.tup [.int 1, .non, .int 2], .tup [.int 2, .non, .int 3], .tup [.int 3, .non, .int 4], .tup [.int 4, .non, .non], .tup [.int 5, .int 1, .int 9], .tup [.int 6, .non, .int 7], .tup [.int 7, .non, .int 8], .tup [.int 8, .non, .non], .tup [.int 9, .int 6, .int 12], .tup [.int 10, .non, .int 11], .tup [.int 11, .non, .non], .tup [.int 12, .int 10, .int 13], .tup [.int 13, .non, .non]], .lst [.tup [.int 1, .non, .int 2], .tup [.int 2, .non, .non], .tup [.int 3, .int 1, .int 5], .tup [.int 4, .non, .non], .tup [.int 5, .int 4, .int 6], .tup [.int 6, .non, .non], .tup [.int 7, .int 3, .int 11], .tup [.int 8, .non, .non], .tup [.int 9, .int 8, .int 10], .tup [.int 10, .non, .non], .tup [.int 11, .int 9, .int 13], .tup [.int 12, .non, .non], .tup [.int 13, .int 12, .non]], .lst [.tup [.int 1, .non, .non], .tup [.int 2, .int 1, .int 3], .tup [.int 3, .non, .non], .tup [.int 4, .int 2, .int 6], .tup [.int 5, .non, .non], .tup [.int 6, .int 5, .int 7], .tup [.int 7, .non, .non], .tup [.int 8, .int 4, .int 12], .tup [.int 9, .non, .non], .tup [.int 10, .int 9, .int 11], .tup [.int 11, .non, .non], .tup [.int 12, .int 10, .int 13], .tup [.int 13, .non, .non]]],
  [.non, .lst [.tup [.int 1, .non, .int 2], .tup [.int 2, .non, .int 3], .tup [.int 3, .non, .int 4], .tup [.int 4, .non, .int 5], .tup [.int 5, .non, .int 6], .tup [.int 6, .non, .int 7], .tup [.int 7, .non, .int 8], .tup [.int 8, .non, .int 9], .tup [.int 9, .non, .int 10], .tup [.int 10, .non, .int 11], .tup [.int 11, .non, .int 12], .tup [.int 12, .non, .int 13], .tup [.int 13, .non, .int 14], .tup [.int 14, .non, .non]], .lst [.tup [.int 1, .non, .int 2], .tup [.int 2, .non, .int 3], .tup [.int 3, .non, .int 4], .tup [.int 4, .non, .non], .tup [.int 5, .int 1, .int 9], .tup [.int 6, .non, .int 7], .tup [.int 7, .non, .int 8], .tup [.int 8, .non, .non], .tup [.int 9, .int 6, .int 12], .tup [.int 10, .non, .int 11], .tup [.int 11, .non, .non], .tup [.int 12, .int 10, .int 14], .tup [.int 13, .non, .non], .tup [.int 14, .int 13, .non]], .lst [.tup [.int 1, .non, .int 2], .tup [.int 2, .non, .non], .tup [.int 3, .int 1, .int 5], .tup [.int 4, .non, .non], .tup [.int 5, .int 4, .int 6], .tup [.int 6, .non, .non], .tup [.int 7, .int 3, .int 11], .tup [.int 8, .non, .non], .tup [.int 9, .int 8, .int 10], .tup [.int 10, .non, .non], .tup [.int 11, .int 9, .int 13], .tup [.int 12, .non, .non], .tup [.int 13, .int 12, .int 14], .tup [.int 14, .non, .non]], .lst [.tup [.int 1, .non, .non], .tup [.int 2, .int 1, .int 3], .tup [.int 3, .non, .non], .tup [.int 4, .int 2, .int 6], .tup [.int 5, .non, .non], .tup [.int 6, .int 5, .int 7], .tup [.int 7, .non, .non], .tup [.int 8, .int 4, .int 12], .tup [.int 9, .non, .non], .tup [.int 10, .int 9, .int 11], .tup [.int 11, .non, .non], .tup [.int 12, .int 10, .int 14], .tup [.int 13, .non, .non], .tup [.int 14, .int 13, .non]]]]
def rowsT (q : NT) : D := (rowsTab.getD q.1 []).getD q.2 .non
def knownTab : List (List D) := [[.dk [], .dk [], .dk [], .dk [], .dk []],
  [.non, .dk [(.inl 1, .tup [.non, .non])], .dk [(.inl 1, .tup [.non, .non])], .dk [(.inl 1, .tup [.non, .non])], .dk [(.inl 1, .tup [.non, .non])]],
  [.non, .dk [(.inl 1, .tup [.non, .int 2]), (.inl 2, .tup [.non, .non])], .dk [(.inl 1, .tup [.non, .non]), (.inl 2, .tup [.int 1, .non])], .dk [(.inl 1, .tup [.non, .non]), (.inl 2, .tup [.int 1, .non])], .dk [(.inl 1, .tup [.non, .non]), (.inl 2, .tup [.int 1, .non])]],
  [.non, .dk [(.inl 1, .tup [.non, .int 2]), (.inl 2, .tup [.non, .int 3]), (.inl 3, .tup [.non, .non])], .dk [(.inl 1, .tup [.non, .non]), (.inl 2, .tup [.int 1, .int 3]), (.inl 3, .tup [.non, .non])], .dk [(.inl 1, .tup [.non, .non]), (.inl 2, .tup [.int 1, .int 3]), (.inl 3, .tup [.non, .non])], .dk [(.inl 1, .tup [.non, .non]), (.inl 2, .tup [.int 1, .int 3]), (.inl 3, .tup [.non, .non])]],
  [.non, .dk [(.inl 1, .tup [.non, .int 2]), (.inl 2, .tup [.non, .int 3]), (.inl 3, .tup [.non, .int 4]), (.inl 4, .tup [.non, .non])], .dk [(.inl 1, .tup [.non, .int 2]), (.inl 2, .tup [.non, .non]), (.inl 3, .tup [.int 1, .int 4]), (.inl 4, .tup [.non, .non])], .dk [(.inl 1, .tup [.non, .non]), (.inl 2, .tup [.int 1, .int 3]), (.inl 3, .tup [.non, .non]), (.inl 4, .tup [.int 2, .non])], .dk [(.inl 1, .tup [.non, .non]), (.inl 2, .tup [.int 1, .int 3]), (.inl 3, .tup [.non, .non]), (.inl 4, .tup [.int 2, .non])]],
  [.non, .dk [(.inl 1, .tup [.non, .int 2]), (.inl 2, .tup [.non, .int 3]), (.inl 3, .tup [.non, .int 4]), (.inl 4, .tup [.non, .int 5]), (.inl 5, .tup [.non, .non])], .dk [(.inl 1, .tup [.non, .int 2]), (.inl 2, .tup [.non, .non]), (.inl 3, .tup [.int 1, .int 5]), (.inl 4, .tup [.non, .non]), (.inl 5, .tup [.int 4, .non])], .dk [(.inl 1, .tup [.non, .non]), (.inl 2, .tup [.int 1, .int 3]), (.inl 3, .tup [.non, .non]), (.inl 4, .tup [.int 2, .int 5]), (.inl 5, .tup [.non, .non])], .dk [(.inl 1, .tup [.non, .non]), (.inl 2, .tup [.int 1, .int 3]), (.inl 3, .tup [.non, .non]), (.inl 4, .tup [.int 2, .int 5]), (.inl 5, .tup [.non, .non])]],
  [.non, .dk [(.inl 1, .tup [.non, .int 2]), (.inl 2, .tup [.non, .int 3]), (.inl 3, .tup [.non, .int 4]), (.inl 4, .tup [.non, .int 5]), (.inl 5, .tup [.non, .int 6]), (.inl 6, .tup [.non, .non])], .dk [(.inl 1, .tup [.non, .int 2]), (.inl 2, .tup [.non, .non]), (.inl 3, .tup [.int 1, .int 5]), (.inl 4, .tup [.non, .non]), (.inl 5, .tup [.int 4, .int 6]), (.inl 6, .tup [.non, .non])], .dk [(.inl 1, .tup [.non, .non]), (.inl 2, .tup [.int 1, .int 3]), (.inl 3, .tup [.non, .non]), (.inl 4, .tup [.int 2, .int 6]), (.inl 5, .tup [.non, .non]), (.inl 6, .tup [.int 5, .non])], .dk [(.inl 1, .tup [.non, .non]), (.inl 2, .tup [.int 1, .int 3]), (.inl 3, .tup [.non, .non]), (.inl 4, .tup [.int 2, .int 6]), (.inl 5, .tup [.non, .non]), (.inl 6, .tup [.int 5, .non])]],
  [.non, .dk [(.inl 1, .tup [.non, .int 2]), (.inl 2, .tup [.non, .int 3]), (.inl 3, .tup [.non, .int 4]), (.inl 4, .tup [.non, .int 5]), (.inl 5, .tup [.non, .int 6]), (.inl 6, .tup [.non, .int 7]), (.inl 7, .tup [.non, .non])], .dk [(.inl 1, .tup [.non, .int 2]), (.inl 2, .tup [.non, .int 3]), (.inl 3, .tup [.non, .non]), (.inl 4, .tup [.int 1, .int 6]), (.inl 5, .tup [.non, .non]), (.inl 6, .tup [.int 5, .int 7]), (.inl 7, .tup [.non, .non])], .dk [(.inl 1, .tup [.non, .non]), (.inl 2, .tup [.int 1, .int 3]), (.inl 3, .tup [.non, .non]), (.inl 4, .tup [.int 2, .int 6]), (.inl 5, .tup [.non, .non]), (.inl 6, .tup [.int 5, .int 7]), (.inl 7, .tup [.non, .non])], .dk [(.inl 1, .tup [.non, .non]), (.inl 2, .tup [.int 1, .int 3]), (.inl 3, .tup [.non, .non]), (.inl 4, .tup [.int 2, .int 6]), (.inl 5, .tup [.non, .non]), (.inl 6, .tup [.int 5, .int 7]), (.inl 7, .tup [.non, .non])]],
  [.non, .dk [(.inl 1, .tup [.non, .int 2]), (.inl 2, .tup [.non, .int 3]), (.inl 3, .tup [.non, .int 4]), (.inl 4, .tup [.non, .int 5]), (.inl 5, .tup [.non, .int 6]), (.inl 6, .tup [.non, .int 7]), (.inl 7, .tup [.non, .int 8]), (.inl 8, .tup [.non, .non])], .dk [(.inl 1, .tup [.non, .int 2]), (.inl 2, .tup [.non, .int 3]), (.inl 3, .tup [.non, .non]), (.inl 4, .tup [.int 1, .int 7]), (.inl 5, .tup [.non, .int 6]), (.inl 6, .tup [.non, .non]), (.inl 7, .tup [.int 5, .int 8]), (.inl 8, .tup [.non, .non])], .dk [(.inl 1, .tup [.non, .int 2]), (.inl 2, .tup [.non, .non]), (.inl 3, .tup [.int 1, .int 5]), (.inl 4, .tup [.non, .non]), (.inl 5, .tup [.int 4, .int 6]), (.inl 6, .tup [.non, .non]), (.inl 7, .tup [.int 3, .int 8]), (.inl 8, .tup [.non, .non])], .dk [(.inl 1, .tup [.non, .non]), (.inl 2, .tup [.int 1, .int 3]), (.inl 3, .tup [.non, .non]), (.inl 4, .tup [.int 2, .int 6]), (.inl 5, .tup [.non, .non]), (.inl 6, .tup [.int 5, .int 7]), (.inl 7, .tup [.non, .non]), (.inl 8, .tup [.int 4, .non])]],
  [.non, .dk [(.inl 1, .tup [.non, .int 2]), (.inl 2, .tup [.non, .int 3]), (.inl 3, .tup [.non, .int 4]), (.inl 4, .tup [.non, .int 5]), (.inl 5, .tup [.non, .int 6]), (.inl 6, .tup [.non, .int 7]), (.inl 7, .tup [.non, .int 8]), (.inl 8, .tup [.non, .int 9]), (.inl 9, .tup [.non, .non])], .dk [(.inl 1, .tup [.non, .int 2]), (.inl 2, .tup [.non, .int 3]), (.inl 3, .tup [.non, .non]), (.inl 4, .tup [.int 1, .int 7]), (.inl 5, .tup [.non, .int 6]), (.inl 6, .tup [.non, .non]), (.inl 7, .tup [.int 5, .int 9]), (.inl 8, .tup [.non, .non]), (.inl 9, .tup [.int 8, .non])], .dk [(.inl 1, .tup [.non, .int 2]), (.inl 2, .tup [.non, .non]), (.inl 3, .tup [.int 1, .int 5]), (.inl 4, .tup [.non, .non]), (.inl 5, .tup [.int 4, .int 6]), (.inl 6, .tup [.non, .non]), (.inl 7, .tup [.int 3, .int 9]), (.inl 8, .tup [.non, .non]), (.inl 9, .tup [.int 8, .non])], .dk [(.inl 1, .tup [.non, .non]), (.inl 2, .tup [.int 1, .int 3]), (.inl 3, .tup [.non, .non]), (.inl 4, .tup [.int 2, .int 6]), (.inl 5, .tup [.non, .non]), (.inl 6, .tup [.int 5, .int 7]), (.inl 7, .tup [.non, .non]), (.inl 8, .tup [.int 4, .int 9]), (.inl 9, .tup [.non, .non])]],
  [.non, .dk [(.inl 1, .tup [.non, .int 2]), (.inl 2, .tup [.non, .int 3]), (.inl 3, .tup [.non, .int 4]), (.inl 4, .tup [.non, .int 5]), (.inl 5, .tup [.non, .int 6]), (.inl 6, .tup [.non, .int 7]), (.inl 7, .tup [.non, .int 8]), (.inl 8, .tup [.non, .int 9]), (.inl 9, .tup [.non, .int 10]), (.inl 10, .tup [.non, .non])], .dk [(.inl 1, .tup [.non, .int 2]), (.inl 2, .tup [.non, .int 3]), (.inl 3, .tup [.non, .non]), (.inl 4, .tup [.int 1, .int 7]), (.inl 5, .tup [.non, .int 6]), (.inl 6, .tup [.non, .non]), (.inl 7, .tup [.int 5, .int 9]), (.inl 8, .tup [.non, .non]), (.inl 9, .tup [.int 8, .int 10]), (.inl 10, .tup [.non, .non])], .dk [(.inl 1, .tup [.non, .int 2]), (.inl 2, .tup [.non, .non]), (.inl 3, .tup [.int 1, .int 5]), (.inl 4, .tup [.non, .non]), (.inl 5, .tup [.int 4, .int 6]), (.inl 6, .tup [.non, .non]), (.inl 7, .tup [.int 3, .int 9]), (.inl 8, .tup [.non, .non]), (.inl 9, .tup [.int 8, .int 10]), (.inl 10, .tup [.non, .non])], .dk [(.inl 1, .tup [.non, .non]), (.inl 2, .tup [.int 1, .int 3]), (.inl 3, .tup [.non, .non]), (.inl 4, .tup [.int 2, .int 6]), (.inl 5, .tup [.non, .non]), (.inl 6, .tup [.int 5, .int 7]), (.inl 7, .tup [.non, .non]), (.inl 8, .tup [.int 4, .int 10]), (.inl 9, .tup [.non, .non]), (.inl 10, .tup [.int 9, .non])]],
  [.non, .dk [(.inl 1, .tup [.non, .int 2]), (.inl 2, .tup [.non, .int 3]), (.inl 3, .tup [.non, .int 4]), (.inl 4, .tup [.non, .int 5]), (.inl 5, .tup [.non, .int 6]), (.inl 6, .tup [.non, .int 7]), (.inl 7, .tup [.non, .int 8]), (.inl 8, .tup [.non, .int 9]), (.inl 9, .tup [.non, .int 10]), (.inl 10, .tup [.non, .int 11]), (.inl 11, .tup [.non, .non])], .dk [(.inl 1, .tup [.non, .int 2]), (.inl 2, .tup [.non, .int 3]), (.inl 3, .tup [.non, .int 4]), (.inl 4, .tup [.non, .non]), (.inl 5, .tup [.int 1, .int 8]), (.inl 6, .tup [.non, .int 7]), (.inl 7, .tup [.non, .non]), (.inl 8, .tup [.int 6, .int 10]), (.inl 9, .tup [.non, .non]), (.inl 10, .tup [.int 9, .int 11]), (.inl 11, .tup [.non, .non])], .dk [(.inl 1, .tup [.non, .int 2]), (.inl 2, .tup [.non, .non]), (.inl 3, .tup [.int 1, .int 5]), (.inl 4, .tup [.non, .non]), (.inl 5, .tup [.int 4, .int 6]), (.inl 6, .tup [.non, .non]), (.inl 7, .tup [.int 3, .int 11]), (.inl 8, .tup [.non, .non]), (.inl 9, .tup [.int 8, .int 10]), (.inl 10, .tup [.non, .non]), (.inl 11, .tup [.int 9, .non])], .dk [(.inl 1, .tup [.non, .non]), (.inl 2, .tup [.int 1, .int 3]), (.inl 3, .tup [.non, .non]), (.inl 4, .tup [.int 2, .int 6]), (.inl 5, .tup [.non, .non]), (.inl 6, .tup [.int 5, .int 7]), (.inl 7, .tup [.non, .non]), (.inl 8, .tup [.int 4, .int 10]), (.inl 9, .tup [.non, .non]), (.inl 10, .tup [.int 9, .int 11]), (.inl 11, .tup [.non, .non])]],
  [.non, .dk [(.inl 1, .tup [.non, .int 2]), (.inl 2, .tup [.non, .int 3]), (.inl 3, .tup [.non, .int 4]), (.inl 4, .tup [.non, .int 5]), (.inl 5, .tup [.non, .int 6]), (.inl 6, .tup [.non, .int 7]), (.inl 7, .tup [.non, .int 8]), (.inl 8, .tup [.non, .int 9]), (.inl 9, .tup [.non, .int 10]), (.inl 10, .tup [.non, .int 11]), (.inl 11, .tup [.non, .int 12]), (.inl 12, .tup [.non, .non])], .dk [(.inl 1, .tup [.non, .int 2]), (.inl 2, .tup [.non, .int 3]), (.inl 3, .tup [.non, .int 4]), (.inl 4, .tup [.non, .non]), (.inl 5, .tup [.int 1, .int 9]), (.inl 6, .tup [.non, .int 7]), (.inl 7, .tup [.non, .int 8]), (.inl 8, .tup [.non, .non]), (.inl 9, .tup [.int 6, .int 11]), (.inl 10, .tup [.non, .non]), (.inl 11, .tup [.int 10, .int 12]), (.inl 12, .tup [.non, .non])], .dk [(.inl 1, .tup [.non, .int 2]), (.inl 2, .tup [.non, .non]), (.inl 3, .tup [.int 1, .int 5]), (.inl 4, .tup [.non, .non]), (.inl 5, .tup [.int 4, .int 6]), (.inl 6, .tup [.non, .non]), (.inl 7, .tup [.int 3, .int 11]), (.inl 8, .tup [.non, .non]), (.inl 9, .tup [.int 8, .int 10]), (.inl 10, .tup [.non, .non]), (.inl 11, .tup [.int 9, .int 12]), (.inl 12, .tup [.non, .non])], .dk [(.inl 1, .tup [.non, .non]), (.inl 2, .tup [.int 1, .int 3]), (.inl 3, .tup [.non, .non]), (.inl 4, .tup [.int 2, .int 6]), (.inl 5, .tup [.non, .non]), (.inl 6, .tup [.int 5, .int 7]), (.inl 7, .tup [.non, .non]), (.inl 8, .tup [.int 4, .int 12]), (.inl 9, .tup [.non, .non]), (.inl 10, .tup [.int 9, .int 11]), (.inl 11, .tup [.non, .non]), (.inl 12, .tup [.int 10, .non])]],
  [.non, .dk [(.inl 1, .tup [.non, .int 2]), (.inl 2, .tup [.non, .int 3]), (.inl 3, .tup [.non, .int 4]), (.inl 4, .tup [.non, .int 5]), (.inl 5, .tup [.non, .int 6]), (.inl 6, .tup [.non, .int 7]), (.inl 7, .tup [.non, .int 8]), (.inl 8, .tup [.non, .int 9]), (.inl 9, .tup [.non, .int 10]), (.inl 10, .tup [.non, .int 11]), (.inl 11, .tup [.non, .int 12]), (.inl 12, .tup [.non, .int 13]), (.inl 13, .tup [.non, .non])], .dk [(.inl 1, .tup [.non, .int 2]), (.inl 2, .tup [.non, .int 3]), (.inl 3, .tup [.non, .int 4]), (.inl 4, .tup [.non, .non]), (.inl 5, .tup [.int 1, .int 9]), (.inl 6, .tup [.non, .int 7]), (.inl 7, .tup [.non, .int 8]), (.inl 8, .tup [.non, .non]), (.inl 9, .tup [.int 6, .int 12]), (.inl 10, .tup [.non, .int 11]), (.inl 11, .tup [.non, .non]), (.inl 12, .tup [.int 10, .int 13]), (.inl 13, .tup [.non, .non])], .dk [(.inl 1, .tup [.non, .int 2]), (.inl 2, .tup [.non, .non]), (.inl 3, .tup [.int 1, .int 5]), (.inl 4, .tup [.non, .non]), (.inl 5, .tup [.int 4, .int 6]), (.inl 6, .tup [.non, .non]), (.inl 7, .tup [.int 3, .int 11]), (.inl 8, .tup [.non, .non]), (.inl 9, .tup [.int 8, .int 10]), (.inl 10, .tup [.non, .non]), (.inl 11, .tup [.int 9, .int 13]), (.inl 12, .tup [.non, .non]), (.inl 13, .tup [.int 12, .non])], .dk [(.inl 1, .tup [.non, .non]), (.inl 2, .tup [.int 1, .int 3]), (.inl 3, .tup [.non, .non]), (.inl 4, .tup [.int 2, .int 6]), (.inl 5, .tup [.non, .non]), (.inl 6, .tup [.int 5, .int 7]), (.inl 7, .tup [.non, .non]), (.inl 8, .tup [.int 4, .int 12]), (.inl 9, .tup [.non, .non]), (.inl 10, .tup [.int 9, .int 11]), (.inl 11, .tup [.non, .non]), (.inl 12, .tup [.int 10, .int 13]), (.inl 13, .tup [.non, .non])]],
  [.non, .dk [(.inl 1, .tup [.non, .int 2]), (.inl 2, .tup [.non, .int 3]), (.inl 3, .tup [.non, .int 4]), (.inl 4, .tup [.non, .int 5]), (.inl 5, .tup [.non, .int 6]), (.inl 6, .tup [.non, .int 7]), (.inl 7, .tup [.non, .int 8]), (.inl 8, .tup [.non, .int 9]), (.inl 9, .tup [.non, .int 10]), (.inl 10, .tup [.non, .int 11]), (.inl 11, .tup [.non, .int 12]), (.inl 12, .tup [.non, .int 13]), (.inl 13, .tup [.non, .int 14]), (.inl 14, .tup [.non, .non])], .dk [(.inl 1, .tup [.non, .int 2]), (.inl 2, .tup [.non, .int 3]), (.inl 3, .tup [.non, .int 4]), (.inl 4, .tup [.non, .non]), (.inl 5, .tup [.int 1, .int 9]), (.inl 6, .tup [.non, .int 7]), (.inl 7, .tup [.non, .int 8]), (.inl 8, .tup [.non, .non]), (.inl 9, .tup [.int 6, .int 12]), (.inl 10, .tup [.non, .int 11]), (.inl 11, .tup [.non, .non]), (.inl 12, .tup [.int 10, .int 14]), (.inl 13, .tup [.non, .non]), (.inl 14, .tup [.int 13, .non])], .dk [(.inl 1, .tup [.non, .int 2]), (.inl 2, .tup [.non, .non]), (.inl 3, .tup [.int 1, .int 5]), (.inl 4, .tup [.non, .non]), (.inl 5, .tup [.int 4, .int 6]), (.inl 6, .tup [.non, .non]), (.inl 7, .tup [.int 3, .int 11]), (.inl 8, .tup [.non, .non]), (.inl 9, .tup [.int 8, .int 10]), (.inl 10, .tup [.non, .non]), (.inl 11, .tup [.int 9, .int 13]), (.inl 12, .tup [.non, .non]), (.inl 13, .tup [.int 12, .int 14]), (.inl 14, .tup [.non, .non])], .dk [(.inl 1, .tup [.non, .non]), (.inl 2, .tup [.int 1, .int 3]), (.inl 3, .tup [.non, .non]), (.inl 4, .tup [.int 2, .int 6]), (.inl 5, .tup [.non, .non]), (.inl 6, .tup [.int 5, .int 7]), (.inl 7, .tup [.non, .non]), (.inl 8, .tup [.int 4, .int 12]), (.inl 9, .tup [.non, .non]), (.inl 10, .tup [.int 9, .int 11]), (.inl 11, .tup [.non, .non]), (.inl 12, .tup [.int 10, .int 14]), (.inl 13, .tup [.non, .non]), (.inl 14, .tup [.int 13, .non])]]]
def knownT (q : NT) : D := (knownTab.getD q.1 []).getD q.2 .non
def fewN (q : NT) : Bool := match F_fewest [.int q.1, .int q.2] with
  | .ok .non _ => true
  | _ => false
def prN : List NT := prs.filter fun q => fewN q
def prS : List NT := prs.filter fun q => !fewN q
/-- before the tests are looked at; t: the tests' slot -/
def eT (t : Sl) (q : NT) (x5 : D) (s p : D) (k : D) : Env := [.v s, .own p, .v k, .v (.int q.1), .v (.int q.2), .v x5, t, .un, .un, .un, .un, .un, .un, .un, .un, .un]
theorem thN (t : Sl) (x5 s p k : D) : prN.map (fun q => law_28 (eT t q x5 s p k)) = mapB (fun q => .nx (eT t q x5 s p k)) prN := by kernel_rfl
def prC (a b : Nat) : List NT := prS.filter fun q => decide (a ≤ q.1) && decide (q.1 ≤ b)
theorem thH_0 : (prC 0 8).map (fun q => (List.range (q.1 + 1)).map fun (l : Nat) => [F_hunt [.int q.1, .int q.2, .int l], F_is_found [.int q.1, .int q.2, .lst ((huntT q l).map rowD)]]) = mapB (fun q => mapB (fun (l : Nat) => [.ok (.lst ((huntT q l).map rowD)) [], .ok (.bl true) []]) (List.range (q.1 + 1))) (prC 0 8) := by kernel_rfl
theorem thH_9 : (prC 9 10).map (fun q => (List.range (q.1 + 1)).map fun (l : Nat) => [F_hunt [.int q.1, .int q.2, .int l], F_is_found [.int q.1, .int q.2, .lst ((huntT q l).map rowD)]]) = mapB (fun q => mapB (fun (l : Nat) => [.ok (.lst ((huntT q l).map rowD)) [], .ok (.bl true) []]) (List.range (q.1 + 1))) (prC 9 10) := by kernel_rfl
theorem thH_11 : (prC 11 11).map (fun q => (List.range (q.1 + 1)).map fun (l : Nat) => [F_hunt [.int q.1, .int q.2, .int l], F_is_found [.int q.1, .int q.2, .lst ((huntT q l).map rowD)]]) = mapB (fun q => mapB (fun (l : Nat) => [.ok (.lst ((huntT q l).map rowD)) [], .ok (.bl true) []]) (List.range (q.1 + 1))) (prC 11 11) := by kernel_rfl
theorem thH_12 : (prC 12 12).map (fun q => (List.range (q.1 + 1)).map fun (l : Nat) => [F_hunt [.int q.1, .int q.2, .int l], F_is_found [.int q.1, .int q.2, .lst ((huntT q l).map rowD)]]) = mapB (fun q => mapB (fun (l : Nat) => [.ok (.lst ((huntT q l).map rowD)) [], .ok (.bl true) []]) (List.range (q.1 + 1))) (prC 12 12) := by kernel_rfl
theorem thH_13 : (prC 13 13).map (fun q => (List.range (q.1 + 1)).map fun (l : Nat) => [F_hunt [.int q.1, .int q.2, .int l], F_is_found [.int q.1, .int q.2, .lst ((huntT q l).map rowD)]]) = mapB (fun q => mapB (fun (l : Nat) => [.ok (.lst ((huntT q l).map rowD)) [], .ok (.bl true) []]) (List.range (q.1 + 1))) (prC 13 13) := by kernel_rfl
theorem thH_14 : (prC 14 14).map (fun q => (List.range (q.1 + 1)).map fun (l : Nat) => [F_hunt [.int q.1, .int q.2, .int l], F_is_found [.int q.1, .int q.2, .lst ((huntT q l).map rowD)]]) = mapB (fun q => mapB (fun (l : Nat) => [.ok (.lst ((huntT q l).map rowD)) [], .ok (.bl true) []]) (List.range (q.1 + 1))) (prC 14 14) := by kernel_rfl
theorem prS_lt {q : NT} (hq : q ∈ prS) : q.1 < 15 := by
  have h := (List.mem_filter.mp hq).1
  unfold prs at h
  obtain ⟨p, hp, h⟩ := List.mem_flatMap.mp h
  obtain ⟨w, _, rfl⟩ := List.mem_map.mp h
  exact List.mem_range.mp hp
theorem inC {q : NT} {a b : Nat} (hq : q ∈ prS) (h1 : a ≤ q.1) (h2 : q.1 ≤ b) : q ∈ prC a b := List.mem_filter.mpr ⟨hq, by simp [h1, h2]⟩
theorem thH {q : NT} (hq : q ∈ prS) {l : Nat} (hl : l < q.1 + 1) : F_hunt [.int q.1, .int q.2, .int l] = .ok (rows (huntT q l)) [] ∧ F_is_found [.int q.1, .int q.2, rows (huntT q l)] = .ok (.bl true) [] := by
  have h := prS_lt hq
  have hm := List.mem_range.mpr hl
  have key : [F_hunt [.int q.1, .int q.2, .int l], F_is_found [.int q.1, .int q.2, .lst ((huntT q l).map rowD)]] = [.ok (.lst ((huntT q l).map rowD)) [], .ok (.bl true) []] := by
    by_cases h0 : q.1 ≤ 8
    · exact mapB_at (mapB_at thH_0 (inC hq (by omega) h0)) hm
    by_cases h9 : q.1 ≤ 10
    · exact mapB_at (mapB_at thH_9 (inC hq (by omega) h9)) hm
    by_cases h11 : q.1 ≤ 11
    · exact mapB_at (mapB_at thH_11 (inC hq (by omega) h11)) hm
    by_cases h12 : q.1 ≤ 12
    · exact mapB_at (mapB_at thH_12 (inC hq (by omega) h12)) hm
    by_cases h13 : q.1 ≤ 13
    · exact mapB_at (mapB_at thH_13 (inC hq (by omega) h13)) hm
    exact mapB_at (mapB_at thH_14 (inC hq (by omega) (by omega))) hm
  injection key with k1 k2
  injection k2 with k2 _
  exact ⟨k1, k2⟩
theorem thR : prS.map (fun q => F_test_tree [.int q.1, .int q.2]) = mapB (fun q => .ok (rowsT q) []) prS := by kernel_rfl
def eV (t x9 x10 : Sl) (q : NT) (x5 : D) (s p : D) (k : D) : Env := [.v s, .own p, .v k, .v (.int q.1), .v (.int q.2), .v x5, t, .un, .un, x9, x10, .un, .un, .un, .un, .un]
def eU (t : Sl) (q : NT) (x5 : D) (s p : D) (k : D) : Env := [.v s, .own p, .v k, .v (.int q.1), .v (.int q.2), .v x5, t, .un, .v .non, .v (rowsT q), .v (knownT q), .un, .un, .un, .un, .un]
theorem thK (t : Sl) (x5 s p k : D) : prS.map (fun q => sSeq law_18 law_19 (eV t (.v (rowsT q)) .un q x5 s p k)) = mapB (fun q => .nx (eV t (.v (rowsT q)) (.v (knownT q)) q x5 s p k)) prS := by kernel_rfl
theorem thO_0 (t : Sl) (x5 s p k : D) : (prC 0 8).map (fun q => law_27 (eV t (.v (rowsT q)) (.v (knownT q)) q x5 s p k)) = mapB (fun q => .nx (eU t q x5 s p k)) (prC 0 8) := by kernel_rfl
theorem thO_9 (t : Sl) (x5 s p k : D) : (prC 9 10).map (fun q => law_27 (eV t (.v (rowsT q)) (.v (knownT q)) q x5 s p k)) = mapB (fun q => .nx (eU t q x5 s p k)) (prC 9 10) := by kernel_rfl
theorem thO_11 (t : Sl) (x5 s p k : D) : (prC 11 11).map (fun q => law_27 (eV t (.v (rowsT q)) (.v (knownT q)) q x5 s p k)) = mapB (fun q => .nx (eU t q x5 s p k)) (prC 11 11) := by kernel_rfl
theorem thO_12 (t : Sl) (x5 s p k : D) : (prC 12 12).map (fun q => law_27 (eV t (.v (rowsT q)) (.v (knownT q)) q x5 s p k)) = mapB (fun q => .nx (eU t q x5 s p k)) (prC 12 12) := by kernel_rfl
theorem thO_13 (t : Sl) (x5 s p k : D) : (prC 13 13).map (fun q => law_27 (eV t (.v (rowsT q)) (.v (knownT q)) q x5 s p k)) = mapB (fun q => .nx (eU t q x5 s p k)) (prC 13 13) := by kernel_rfl
theorem thO_14 (t : Sl) (x5 s p k : D) : (prC 14 14).map (fun q => law_27 (eV t (.v (rowsT q)) (.v (knownT q)) q x5 s p k)) = mapB (fun q => .nx (eU t q x5 s p k)) (prC 14 14) := by kernel_rfl
theorem thO (t : Sl) (x5 s p k : D) {q : NT} (hq : q ∈ prS) : law_27 (eV t (.v (rowsT q)) (.v (knownT q)) q x5 s p k) = .nx (eU t q x5 s p k) := by
  have h := prS_lt hq
  by_cases h0 : q.1 ≤ 8
  · exact mapB_at (thO_0 t x5 s p k) (inC hq (by omega) h0)
  by_cases h9 : q.1 ≤ 10
  · exact mapB_at (thO_9 t x5 s p k) (inC hq (by omega) h9)
  by_cases h11 : q.1 ≤ 11
  · exact mapB_at (thO_11 t x5 s p k) (inC hq (by omega) h11)
  by_cases h12 : q.1 ≤ 12
  · exact mapB_at (thO_12 t x5 s p k) (inC hq (by omega) h12)
  by_cases h13 : q.1 ≤ 13
  · exact mapB_at (thO_13 t x5 s p k) (inC hq (by omega) h13)
  exact mapB_at (thO_14 t x5 s p k) (inC hq (by omega) (by omega))
theorem call9 {F : List D → R D} {s p k a b c d : D} {t : Sl} (h : F [a, b] = .ok d []) : sAsg (dCall F [] (dACons (dV 3) (dACons (dV 4) (dANil)))) (.nm 9) [.v s, .own p, .v k, .v a, .v b, .v c, t, .un, .un, .un, .un, .un, .un, .un, .un, .un] = .nx [.v s, .own p, .v k, .v a, .v b, .v c, t, .un, .un, .v d, .un, .un, .un, .un, .un, .un] := by
  simp [sSeq, sIf, dTest, dTru, truD, dAnd, dOr, dNot, dAndV, dOrV, dNotV, dIf, dChain, dUn, dBin, dBinF, dF, R.bind, R.out, R.val, ap2, dV, dC, TV.data, slotD, fGt, fLt, fLe, fGe, fIsN, fNotN, fIsB, fNotB, fPow, powOk, fEq, fNe, eqD_int, eqD_bl, i2, i2c, sAsg, sAsgF, dTup, dLst, vals, dCB, dCBF, dACons, dANil, apN, datas, fInt, fLen, fAbs, fMod, fDiv, fAdd, fSub, fMul, putT, putTs, putV, sSetIx, slotL, putOwn, sRet, sSkip, sDrop, sRaiseM, mC, mStr, mCat, mVar, dCall, liftF, h]
def pre : SSem := sSeq law_16 (sSeq law_18 (sSeq law_19 law_27))
theorem thD (t : Sl) (x5 s p k : D) {q : NT} (hq : q ∈ prS) : pre (eT t q x5 s p k) = .nx (eU t q x5 s p k) := by
  have a1 : law_16 (eT t q x5 s p k) = .nx (eV t (.v (rowsT q)) .un q x5 s p k) := call9 (mapB_at (f := fun q : NT => F_test_tree [.int q.1, .int q.2]) (g := fun q => .ok (rowsT q) []) thR hq)
  unfold pre
  rw [seq_nx a1, ← sSeq_assoc, seq_nx (mapB_at (thK t x5 s p k) hq)]
  exact thO t x5 s p k hq
theorem thL : prS.map (fun q => (List.range (q.1 + 1)).map fun (l : Nat) => decide ((huntT q l).length ≤ 20)) = mapB (fun q => mapB (fun (l : Nat) => true) (List.range (q.1 + 1))) prS := by kernel_rfl
theorem thI : prS.map (fun q => (List.range (q.1 + 1)).map fun (l : Nat) => (huntT q l).all fun r => decide (0 ≤ r.1) && decide (r.1 ≤ (q.1 : Int))) = mapB (fun q => mapB (fun (l : Nat) => true) (List.range (q.1 + 1))) prS := by kernel_rfl
end Dv.waydues_k65_hunts_for_leaks

set_option maxRecDepth 100000
set_option maxHeartbeats 4000000
namespace Dv
open PySem L2 PyProof.Rows
theorem if_skip {c : Env → R Bool} {s t : SSem} {e e' : Env} (h : c e = .ok false e') : sSeq (sIf c s sSkip) t e = t e' := seq_nx (sIf_f h)
theorem seq_rt {s t : SSem} {e e' : Env} {x : TV} (h : s e = .rt x e') : sSeq s t e = .rt x e' := by
  unfold sSeq
  rw [h]
theorem forR1_nx {a : Env → R (List TV)} {t : Tgt} {body : SSem} {e e1 : Env} {j : Int} {o : Out} (h : a e = .ok [.val (.int j)] e1) (hl : lim62 j = true) (q : forL t body (rngD 0 j.toNat) e1 = o) : sForR1 a t body e = o := by
  unfold sForR1
  rw [h]
  exact (if_pos hl).trans q
theorem lcR2_ok {own : List Nat} {a : Env → R (List TV)} {t : Tgt} {test : Env → R Bool} {se : Sem} {e e1 : Env} {i j : Int} {o : R D} (h : a e = .ok [.val (.int i), .val (.int j)] e1) (hl : lim62 i = true ∧ lim62 j = true) (hu : allUn own e1 = true) (ho : (slotsT t).all (own.contains ·) = true) (q : lcL own t test se (rngD i (j - i).toNat) e1 [] = o) : dLcR2 own a t test se e = o := by
  unfold dLcR2
  rw [h]
  exact (if_pos ⟨hl, hu, ho⟩).trans q
theorem asg_f {a : Env → R D} {i : Nat} {e e1 e2 : Env} {d : D} (h : a e = .ok d e1) (q : putV i d e1 = some e2) : sAsg (dF a) (.nm i) e = .nx e2 := by
  unfold sAsg dF
  rw [h]
  show (match putT (.nm i) d e1 with
    | some e2 => Out.nx e2
    | none => .bad) = _
  rw [show putT (.nm i) d e1 = some e2 from q]
/-! ### the laws' own comparison -/
def sameS (F_rec : List D → R D) : SSem :=
  sSeq (sIf (dTest (dBin fIsN (dV 1) (dC .non))) (sRet (dBin fIsN (dV 0) (dC .non))) (sSkip))
  (sSeq (sIf (dTru (dUn (isiD2 Ty.tuple Ty.list) (dV 1))) (sSeq (sIf (dOr (dTest (dBin fNe (dUn (isiD Ty.tuple) (dV 1)) (dUn (isiD Ty.tuple) (dV 0)))) (dTest (dBin fNe (dUn (isiD Ty.list) (dV 1)) (dUn (isiD Ty.list) (dV 0))))) (sRet (dC (.bl false))) (sSkip))
    (sSeq (sIf (dTest (dBin fNe (dCB fLen (dACons (dV 0) (dANil))) (dCB fLen (dACons (dV 1) (dANil))))) (sRet (dC (.bl false))) (sSkip))
    (sSeq (sForR1 (dACons (dCB fLen (dACons (dV 1) (dANil))) (dANil)) (.nm 2) (sIf (dNot (dTru (dCall F_rec [] (dACons (dBin ixD (dV 0) (dV 2)) (dACons (dBin ixD (dV 1) (dV 2)) (dANil)))))) (sRet (dC (.bl false))) (sSkip)))
    (sRet (dC (.bl true)))))) (sSkip))
  (sSeq (sIf (dTru (dUn (isiD Ty.bool) (dV 1))) (sRet (dAndV (dUn (isiD Ty.bool) (dV 0)) (dBin fEq (dV 0) (dV 1)))) (sSkip))
  (sSeq (sIf (dTru (dUn (isiD Ty.int) (dV 1))) (sRet (dAndV (dUn (isiD Ty.int) (dV 0)) (dAndV (dNotV (dUn (isiD Ty.bool) (dV 0))) (dBin fEq (dV 0) (dV 1))))) (sSkip))
  (sRet (dAndV (dUn (isiD Ty.str) (dV 0)) (dBin fEq (dV 0) (dV 1)))))))
def sameF : Nat → List D → R D
  | 0 => fun _ => .bad
  | n + 1 => runD 3 (sameS (sameF n))
abbrev yes : R D := .ok (.bl true) []
theorem same_int (n : Nat) (i : Int) : sameF (n + 1) [.int i, .int i] = yes := by
  show finD (sameS (sameF n) [.v (.int i), .v (.int i), .un]) = _
  simp [sameS, sSeq, sIf, dTest, dTru, truD, dAnd, dOr, dNot, dAndV, dOrV, dNotV, dIf, dChain, dUn, dBin, dBinF, dF, R.bind, R.out, R.val, ap2, dV, dC, TV.data, slotD, fGt, fLt, fLe, fGe, fIsN, fNotN, fIsB, fNotB, fPow, powOk, fEq, fNe, eqD_int, eqD_bl, i2, i2c, sAsg, sAsgF, dTup, dLst, vals, dCB, dCBF, dACons, dANil, apN, datas, fInt, fLen, fAbs, fMod, fDiv, fAdd, fSub, fMul, putT, putTs, putV, sSetIx, slotL, putOwn, sRet, sSkip, sDrop, sRaiseM, mC, mStr, mCat, mVar, isiD2, isiD, isi, finD]
theorem same_bl (n : Nat) (i : Bool) : sameF (n + 1) [.bl i, .bl i] = yes := by
  show finD (sameS (sameF n) [.v (.bl i), .v (.bl i), .un]) = _
  simp [sameS, sSeq, sIf, dTest, dTru, truD, dAnd, dOr, dNot, dAndV, dOrV, dNotV, dIf, dChain, dUn, dBin, dBinF, dF, R.bind, R.out, R.val, ap2, dV, dC, TV.data, slotD, fGt, fLt, fLe, fGe, fIsN, fNotN, fIsB, fNotB, fPow, powOk, fEq, fNe, eqD_int, eqD_bl, i2, i2c, sAsg, sAsgF, dTup, dLst, vals, dCB, dCBF, dACons, dANil, apN, datas, fInt, fLen, fAbs, fMod, fDiv, fAdd, fSub, fMul, putT, putTs, putV, sSetIx, slotL, putOwn, sRet, sSkip, sDrop, sRaiseM, mC, mStr, mCat, mVar, isiD2, isiD, isi, finD]
theorem same_non (n : Nat) : sameF (n + 1) [.non, .non] = yes := rfl
def sameB (F : List D → R D) : SSem := sIf (dNot (dTru (dCall F [] (dACons (dBin ixD (dV 0) (dV 2)) (dACons (dBin ixD (dV 1) (dV 2)) (dANil)))))) (sRet (dC (.bl false))) (sSkip)
theorem same_loop {F : List D → R D} {L : List D} {a : D} (ha : a = .lst L ∨ a = .tup L) (h : ∀ d ∈ L, F [d, d] = yes) : ∀ (m i : Nat) (s : Sl), (s = .un ∨ ∃ d, s = .v d) → i + m = L.length → ∃ s', forL (.nm 2) (sameB F) (rngD i m) [.v a, .v a, s] = .nx [.v a, .v a, s']
  | 0, i, s, _, _ => ⟨s, rfl⟩
  | m + 1, i, s, hs, hl => by
    have hi : i < L.length := by omega
    have hx : ixD a (.int i) = some L[i] := by
      have : atI L (i : Int) = some L[i] := by
        unfold atI ixN
        rw [if_pos (by omega), if_pos (by omega)]
        simp [hi]
      rcases ha with rfl | rfl <;> exact this
    have hF := h L[i] (List.getElem_mem hi)
    have hb : sameB F [.v a, .v a, .v (.int i)] = .nx [.v a, .v a, .v (.int i)] := by
      simp [sameB, sSeq, sIf, dTest, dTru, truD, dAnd, dOr, dNot, dAndV, dOrV, dNotV, dIf, dChain, dUn, dBin, dBinF, dF, R.bind, R.out, R.val, ap2, dV, dC, TV.data, slotD, fGt, fLt, fLe, fGe, fIsN, fNotN, fIsB, fNotB, fPow, powOk, fEq, fNe, eqD_int, eqD_bl, i2, i2c, sAsg, sAsgF, dTup, dLst, vals, dCB, dCBF, dACons, dANil, apN, datas, fInt, fLen, fAbs, fMod, fDiv, fAdd, fSub, fMul, putT, putTs, putV, sSetIx, slotL, putOwn, sRet, sSkip, sDrop, sRaiseM, mC, mStr, mCat, mVar, dCall, liftF, hx, hF]
    obtain ⟨s', e⟩ := same_loop ha h m (i + 1) (.v (.int i)) (.inr ⟨_, rfl⟩) (by omega)
    refine ⟨s', ?_⟩
    have ep : putT (.nm 2) (.int i) [.v a, .v a, s] = some [.v a, .v a, .v (.int i)] := by
      rcases hs with rfl | ⟨d, rfl⟩ <;> rfl
    show (match putT (.nm 2) (.int i) [.v a, .v a, s] with
      | none => Out.bad
      | some e1 => match sameB F e1 with
        | .nx e2 => forL (.nm 2) (sameB F) (rngD ((i : Int) + 1) m) e2
        | .cnt e2 => forL (.nm 2) (sameB F) (rngD ((i : Int) + 1) m) e2
        | .brk e2 => .nx e2
        | o => o) = _
    rw [ep]
    show (match sameB F [.v a, .v a, .v (.int i)] with
        | .nx e2 => forL (.nm 2) (sameB F) (rngD ((i : Int) + 1) m) e2
        | .cnt e2 => forL (.nm 2) (sameB F) (rngD ((i : Int) + 1) m) e2
        | .brk e2 => .nx e2
        | o => o) = _
    rw [hb]
    exact e
section
variable {n : Nat} {L : List D} {a : D}
theorem q1 (ha : a = .lst L ∨ a = .tup L) : (dTest (dBin fIsN (dV 1) (dC .non))) [.v a, .v a, .un] = .ok false [.v a, .v a, .un] := by rcases ha with rfl | rfl <;> rfl
theorem q2 (ha : a = .lst L ∨ a = .tup L) : (dTru (dUn (isiD2 Ty.tuple Ty.list) (dV 1))) [.v a, .v a, .un] = .ok true [.v a, .v a, .un] := by rcases ha with rfl | rfl <;> rfl
theorem q3 (ha : a = .lst L ∨ a = .tup L) : (dOr (dTest (dBin fNe (dUn (isiD Ty.tuple) (dV 1)) (dUn (isiD Ty.tuple) (dV 0)))) (dTest (dBin fNe (dUn (isiD Ty.list) (dV 1)) (dUn (isiD Ty.list) (dV 0))))) [.v a, .v a, .un] = .ok false [.v a, .v a, .un] := by rcases ha with rfl | rfl <;> simp [sSeq, sIf, dTest, dTru, truD, dAnd, dOr, dNot, dAndV, dOrV, dNotV, dIf, dChain, dUn, dBin, dBinF, dF, R.bind, R.out, R.val, ap2, dV, dC, TV.data, slotD, fGt, fLt, fLe, fGe, fIsN, fNotN, fIsB, fNotB, fPow, powOk, fEq, fNe, eqD_int, eqD_bl, i2, i2c, sAsg, sAsgF, dTup, dLst, vals, dCB, dCBF, dACons, dANil, apN, datas, fInt, fLen, fAbs, fMod, fDiv, fAdd, fSub, fMul, putT, putTs, putV, sSetIx, slotL, putOwn, sRet, sSkip, sDrop, sRaiseM, mC, mStr, mCat, mVar, isiD, isi]
theorem q4 (ha : a = .lst L ∨ a = .tup L) : (dTest (dBin fNe (dCB fLen (dACons (dV 0) (dANil))) (dCB fLen (dACons (dV 1) (dANil))))) [.v a, .v a, .un] = .ok false [.v a, .v a, .un] := by rcases ha with rfl | rfl <;> simp [sSeq, sIf, dTest, dTru, truD, dAnd, dOr, dNot, dAndV, dOrV, dNotV, dIf, dChain, dUn, dBin, dBinF, dF, R.bind, R.out, R.val, ap2, dV, dC, TV.data, slotD, fGt, fLt, fLe, fGe, fIsN, fNotN, fIsB, fNotB, fPow, powOk, fEq, fNe, eqD_int, eqD_bl, i2, i2c, sAsg, sAsgF, dTup, dLst, vals, dCB, dCBF, dACons, dANil, apN, datas, fInt, fLen, fAbs, fMod, fDiv, fAdd, fSub, fMul, putT, putTs, putV, sSetIx, slotL, putOwn, sRet, sSkip, sDrop, sRaiseM, mC, mStr, mCat, mVar]
theorem q62 (hl : L.length ≤ 1000) : lim62 (L.length : Int) = true := by
  unfold lim62
  simp only [Bool.and_eq_true, decide_eq_true_eq]
  omega
theorem q6 (ha : a = .lst L ∨ a = .tup L) : (dACons (dCB fLen (dACons (dV 1) (dANil))) (dANil)) [.v a, .v a, .un] = .ok [.val (.int L.length)] [.v a, .v a, .un] := by
  rcases ha with rfl | rfl <;> rfl
theorem q7 {t : Tgt} {body : SSem} {o : Out} (ha : a = .lst L ∨ a = .tup L) (hl : L.length ≤ 1000) (e : forL t body (rngD 0 L.length) [.v a, .v a, .un] = o) : sForR1 (dACons (dCB fLen (dACons (dV 1) (dANil))) (dANil)) t body [.v a, .v a, .un] = o :=
  forR1_nx (q6 ha) (q62 hl) (by rw [Int.toNat_natCast]; exact e)
end
theorem same_seq {n : Nat} {L : List D} {a : D} (ha : a = .lst L ∨ a = .tup L) (h : ∀ d ∈ L, sameF n [d, d] = yes) (hl : L.length ≤ 1000) : sameF (n + 1) [a, a] = yes := by
  obtain ⟨s', e⟩ := same_loop (F := sameF n) ha h L.length 0 .un (.inl rfl) (by omega)
  generalize hF : sameF n = F at e
  have h5 := q7 ha hl e
  have g : sameS F [.v a, .v a, .un] = .rt (.val (.bl true)) [.v a, .v a, s'] := by
    unfold sameS
    rw [if_skip (q1 ha)]
    have g2 : (sIf (dTru (dUn (isiD2 Ty.tuple Ty.list) (dV 1))) (sSeq (sIf (dOr (dTest (dBin fNe (dUn (isiD Ty.tuple) (dV 1)) (dUn (isiD Ty.tuple) (dV 0)))) (dTest (dBin fNe (dUn (isiD Ty.list) (dV 1)) (dUn (isiD Ty.list) (dV 0))))) (sRet (dC (.bl false))) (sSkip))
    (sSeq (sIf (dTest (dBin fNe (dCB fLen (dACons (dV 0) (dANil))) (dCB fLen (dACons (dV 1) (dANil))))) (sRet (dC (.bl false))) (sSkip))
    (sSeq (sForR1 (dACons (dCB fLen (dACons (dV 1) (dANil))) (dANil)) (.nm 2) (sameB F))
    (sRet (dC (.bl true)))))) (sSkip)) [.v a, .v a, .un] = .rt (.val (.bl true)) [.v a, .v a, s'] := by
      rw [sIf_t (q2 ha), if_skip (q3 ha), if_skip (q4 ha), seq_nx h5]
      rfl
    exact seq_rt g2
  have k : sameF (n + 1) [a, a] = finD (sameS (sameF n) [.v a, .v a, .un]) := rfl
  rw [k, hF, g]
  rfl
theorem same_lst {n : Nat} {L : List D} (h : ∀ d ∈ L, sameF n [d, d] = yes) (hl : L.length ≤ 1000) : sameF (n + 1) [.lst L, .lst L] = yes := same_seq (.inl rfl) h hl
theorem same_tup {n : Nat} {L : List D} (h : ∀ d ∈ L, sameF n [d, d] = yes) (hl : L.length ≤ 1000) : sameF (n + 1) [.tup L, .tup L] = yes := same_seq (.inr rfl) h hl
end Dv

set_option maxRecDepth 100000
set_option maxHeartbeats 4000000
namespace Dv.waydues_k65_hunts_for_leaks
open PySem L2 Dv PyProof.Rows
theorem mem_prs {p w : Nat} (hp : p < 15) (hw : w < 5) : (p, w) ∈ prs := by
  unfold prs
  rw [List.mem_flatMap]
  exact ⟨p, List.mem_range.mpr hp, List.mem_map.mpr ⟨w, List.mem_range.mpr hw, rfl⟩⟩
/-! ### what is drawn -/
def eZ (s p : D) : Env := [.v s, .own p, .un, .un, .un, .un, .un, .un, .un, .un, .un, .un, .un, .un, .un, .un]
def e0 (s p k : D) : Env := [.v s, .own p, .v k, .un, .un, .un, .un, .un, .un, .un, .un, .un, .un, .un, .un, .un]
theorem st2 {ns : List Int} {p s k : D} (h : plN ns p) : ∃ (P : Nat) (p' : D), law_2 (e0 s p k) = .nx [.v s, .own p', .v k, .v (.int P), .un, .un, .un, .un, .un, .un, .un, .un, .un, .un, .un, .un] ∧ P < 15 ∧ plN ns p' := by
  obtain ⟨r, p', e, h1, h2, h3⟩ := draw_ok h (m := 15) (by decide) (by decide)
  obtain ⟨P, rfl⟩ : ∃ P : Nat, r = P := ⟨r.toNat, by omega⟩
  refine ⟨P, p', ?_, by omega, h3⟩
  simp [law_2, e0, sSeq, sIf, dTest, dTru, truD, dAnd, dOr, dNot, dAndV, dOrV, dNotV, dIf, dChain, dUn, dBin, dBinF, dF, R.bind, R.out, R.val, ap2, dV, dC, TV.data, slotD, fGt, fLt, fLe, fGe, fIsN, fNotN, fIsB, fNotB, fPow, powOk, fEq, fNe, eqD_int, eqD_bl, i2, i2c, sAsg, sAsgF, dTup, dLst, vals, dCB, dCBF, dACons, dANil, apN, datas, fInt, fLen, fAbs, fMod, fDiv, fAdd, fSub, fMul, putT, putTs, putV, sSetIx, slotL, putOwn, sRet, sSkip, sDrop, sRaiseM, mC, mStr, mCat, mVar, dCallIO, ioRes, draw_is, e]
theorem st3 {ns : List Int} {p s k : D} {P : Nat} (h : plN ns p) : ∃ (W : Nat) (p' : D), law_3 [.v s, .own p, .v k, .v (.int P), .un, .un, .un, .un, .un, .un, .un, .un, .un, .un, .un, .un] = .nx [.v s, .own p', .v k, .v (.int P), .v (.int W), .un, .un, .un, .un, .un, .un, .un, .un, .un, .un, .un] ∧ W < 5 ∧ plN ns p' := by
  obtain ⟨r, p', e, h1, h2, h3⟩ := draw_ok h (m := 5) (by decide) (by decide)
  obtain ⟨W, rfl⟩ : ∃ W : Nat, r = W := ⟨r.toNat, by omega⟩
  refine ⟨W, p', ?_, by omega, h3⟩
  simp [law_3, sSeq, sIf, dTest, dTru, truD, dAnd, dOr, dNot, dAndV, dOrV, dNotV, dIf, dChain, dUn, dBin, dBinF, dF, R.bind, R.out, R.val, ap2, dV, dC, TV.data, slotD, fGt, fLt, fLe, fGe, fIsN, fNotN, fIsB, fNotB, fPow, powOk, fEq, fNe, eqD_int, eqD_bl, i2, i2c, sAsg, sAsgF, dTup, dLst, vals, dCB, dCBF, dACons, dANil, apN, datas, fInt, fLen, fAbs, fMod, fDiv, fAdd, fSub, fMul, putT, putTs, putV, sSetIx, slotL, putOwn, sRet, sSkip, sDrop, sRaiseM, mC, mStr, mCat, mVar, dCallIO, ioRes, draw_is, e]
def eQ (t : Sl) (P W l : Nat) (s p k : D) : Env := [.v s, .own p, .v k, .v (.int P), .v (.int W), .v (.int l), t, .un, .un, .un, .un, .un, .un, .un, .un, .un]
theorem st4 {ns : List Int} {p s k : D} {P W : Nat} (h : plN ns p) (hP : P < 15) : ∃ (l : Nat) (p' : D), sSeq law_4 law_5 [.v s, .own p, .v k, .v (.int P), .v (.int W), .un, .un, .un, .un, .un, .un, .un, .un, .un, .un, .un] = .nx (eQ (.own (rows [])) P W l s p' k) ∧ l < P + 1 ∧ plN ns p' := by
  obtain ⟨r, p', e, h1, h2, h3⟩ := draw_ok h (m := (P : Int) + 1) (by omega) (by omega)
  obtain ⟨l, rfl⟩ : ∃ W : Nat, r = W := ⟨r.toNat, by omega⟩
  refine ⟨l, p', ?_, by omega, h3⟩
  simp [law_4, law_5, eQ, rows, sSeq, sIf, dTest, dTru, truD, dAnd, dOr, dNot, dAndV, dOrV, dNotV, dIf, dChain, dUn, dBin, dBinF, dF, R.bind, R.out, R.val, ap2, dV, dC, TV.data, slotD, fGt, fLt, fLe, fGe, fIsN, fNotN, fIsB, fNotB, fPow, powOk, fEq, fNe, eqD_int, eqD_bl, i2, i2c, sAsg, sAsgF, dTup, dLst, vals, dCB, dCBF, dACons, dANil, apN, datas, fInt, fLen, fAbs, fMod, fDiv, fAdd, fSub, fMul, putT, putTs, putV, sSetIx, slotL, putOwn, sRet, sSkip, sDrop, sRaiseM, mC, mStr, mCat, mVar, dCallIO, ioRes, draw_is, e]
theorem rin_app {P : Int} {rs : List (Int × Bool)} {x : Int} {b : Bool} (h : RIn P rs) (h1 : 0 ≤ x) (h2 : x ≤ P) : RIn P (rs ++ [(x, b)]) := fun r hr => by
  rcases List.mem_append.mp hr with hr | hr
  · exact h r hr
  · have e : r = (x, b) := by simpa using hr
    rw [e]
    exact ⟨h1, h2⟩
/-- a turn of the drawn tests -/
theorem st8 {ns : List Int} {p s k d : D} {P W l : Nat} {rs : List (Int × Bool)} (h : plN ns p) (hP : P < 15) (hl : rs.length < sizeLine) (hi : RIn P rs) : ∃ rs' p', sClr [7, 8] law_8 [.v s, .own p, .v k, .v (.int P), .v (.int W), .v (.int l), .own (rows rs), .v d, .un, .un, .un, .un, .un, .un, .un, .un] = .nx (eQ (.own (rows rs')) P W l s p' k) ∧ rs'.length ≤ rs.length + 1 ∧ RIn P rs' ∧ plN ns p' := by
  by_cases h0 : P = 0
  · subst h0
    refine ⟨rs, p, ?_, by omega, hi, h⟩
    simp [sClr, clrO, clrE, law_8, eQ, sSeq, sIf, dTest, dTru, truD, dAnd, dOr, dNot, dAndV, dOrV, dNotV, dIf, dChain, dUn, dBin, dBinF, dF, R.bind, R.out, R.val, ap2, dV, dC, TV.data, slotD, fGt, fLt, fLe, fGe, fIsN, fNotN, fIsB, fNotB, fPow, powOk, fEq, fNe, eqD_int, eqD_bl, i2, i2c, sAsg, sAsgF, dTup, dLst, vals, dCB, dCBF, dACons, dANil, apN, datas, fInt, fLen, fAbs, fMod, fDiv, fAdd, fSub, fMul, putT, putTs, putV, sSetIx, slotL, putOwn, sRet, sSkip, sDrop, sRaiseM, mC, mStr, mCat, mVar]
  · obtain ⟨r, p1, e1, h1, h2, h3⟩ := draw_ok h (m := (P : Int)) (by omega) (by omega)
    obtain ⟨r2, p2, e2, h4, h5, h6⟩ := draw_ok h3 (m := 2) (by decide) (by decide)
    have hz : (3 : Nat) ≤ sizeLine := by decide
    have hz2 : (2 : Nat) ≤ sizeLine := by decide
    have h0' : 0 < P := by omega
    by_cases hl1 : (0 : Int) < l
    · obtain ⟨d, p3, e3, hd, h7⟩ := pick_ok (rows := [.bl (decide ((l : Int) ≤ 1 + r)), .bl (decide ((l : Int) ≤ 1 + r)), .bl (decide (r2 = 0))]) h6 (by simp) (by simp)
      obtain ⟨b, rfl⟩ : ∃ b, d = .bl b := by
        simp only [List.mem_cons, List.not_mem_nil, or_false] at hd
        rcases hd with rfl | rfl | rfl <;> exact ⟨_, rfl⟩
      refine ⟨rs ++ [(1 + r, b)], p3, ?_, by simp, rin_app hi (by omega) (by omega), h7⟩
      have hl2 : 0 < l := by omega
      simp [sClr, clrO, clrE, law_8, law_6, law_7, eQ, rows, rowD, sSeq, sIf, dTest, dTru, truD, dAnd, dOr, dNot, dAndV, dOrV, dNotV, dIf, dChain, dUn, dBin, dBinF, dF, R.bind, R.out, R.val, ap2, dV, dC, TV.data, slotD, fGt, fLt, fLe, fGe, fIsN, fNotN, fIsB, fNotB, fPow, powOk, fEq, fNe, eqD_int, eqD_bl, i2, i2c, sAsg, sAsgF, dTup, dLst, vals, dCB, dCBF, dACons, dANil, apN, datas, fInt, fLen, fAbs, fMod, fDiv, fAdd, fSub, fMul, putT, putTs, putV, sSetIx, slotL, putOwn, sRet, sSkip, sDrop, sRaiseM, mC, mStr, mCat, mVar, dCallIO, ioRes, draw_is, pick_is, e1, e2, e3, h0', hl1, hl2, hz, hz2, dMut, gApp, mutRes, hl]
    · obtain ⟨d, p3, e3, hd, h7⟩ := pick_ok (rows := [.bl false, .bl false, .bl (decide (r2 = 0))]) h6 (by simp) (by simp)
      obtain ⟨b, rfl⟩ : ∃ b, d = .bl b := by
        simp only [List.mem_cons, List.not_mem_nil, or_false] at hd
        rcases hd with rfl | rfl | rfl <;> exact ⟨_, rfl⟩
      refine ⟨rs ++ [(1 + r, b)], p3, ?_, by simp, rin_app hi (by omega) (by omega), h7⟩
      have hl2 : ¬ 0 < l := by omega
      simp [sClr, clrO, clrE, law_8, law_6, law_7, eQ, rows, rowD, sSeq, sIf, dTest, dTru, truD, dAnd, dOr, dNot, dAndV, dOrV, dNotV, dIf, dChain, dUn, dBin, dBinF, dF, R.bind, R.out, R.val, ap2, dV, dC, TV.data, slotD, fGt, fLt, fLe, fGe, fIsN, fNotN, fIsB, fNotB, fPow, powOk, fEq, fNe, eqD_int, eqD_bl, i2, i2c, sAsg, sAsgF, dTup, dLst, vals, dCB, dCBF, dACons, dANil, apN, datas, fInt, fLen, fAbs, fMod, fDiv, fAdd, fSub, fMul, putT, putTs, putV, sSetIx, slotL, putOwn, sRet, sSkip, sDrop, sRaiseM, mC, mStr, mCat, mVar, dCallIO, ioRes, draw_is, pick_is, e1, e2, e3, h0', hl1, hl2, hz, hz2, dMut, gApp, mutRes, hl]

theorem loop9 {ns : List Int} {s k : D} {P W l : Nat} (hP : P < 15) : ∀ (ds : List D) (rs : List (Int × Bool)) (p : D), plN ns p → RIn P rs → rs.length + ds.length < sizeLine → ∃ rs' p', forL (.nm 7) (sClr [7, 8] law_8) ds (eQ (.own (rows rs)) P W l s p k) = .nx (eQ (.own (rows rs')) P W l s p' k) ∧ rs'.length ≤ rs.length + ds.length ∧ RIn P rs' ∧ plN ns p'
  | [], rs, p, h, hi, _ => ⟨rs, p, rfl, by simp, hi, h⟩
  | d :: ds, rs, p, h, hi, hl => by
    rw [List.length_cons] at hl
    obtain ⟨rs1, p1, e1, h1, h2, h3⟩ := st8 (s := s) (k := k) (d := d) (W := W) (l := l) h hP (by omega) hi
    obtain ⟨rs2, p2, e2, h4, h5, h6⟩ := loop9 (s := s) (k := k) (W := W) (l := l) hP ds rs1 p1 h3 h2 (by omega)
    refine ⟨rs2, p2, ?_, by rw [List.length_cons]; omega, h5, h6⟩
    show (match sClr [7, 8] law_8 [.v s, .own p, .v k, .v (.int P), .v (.int W), .v (.int l), .own (rows rs), .v d, .un, .un, .un, .un, .un, .un, .un, .un] with
      | .nx e2 => forL (.nm 7) (sClr [7, 8] law_8) ds e2
      | .cnt e2 => forL (.nm 7) (sClr [7, 8] law_8) ds e2
      | .brk e2 => .nx e2
      | o => o) = _
    rw [e1]
    exact e2
theorem sz20 : 20 < sizeLine := by decide
theorem st9 {ns : List Int} {p s k : D} {P W l : Nat} (h : plN ns p) (hP : P < 15) : ∃ rs' p', law_9 (eQ (.own (rows [])) P W l s p k) = .nx (eQ (.own (rows rs')) P W l s p' k) ∧ rs'.length ≤ 5 ∧ RIn P rs' ∧ plN ns p' := by
  obtain ⟨r, p1, e, h1, h2, h3⟩ := draw_ok h (m := 6) (by decide) (by decide)
  obtain ⟨n, rfl⟩ : ∃ n : Nat, r = n := ⟨r.toNat, by omega⟩
  obtain ⟨rs, p2, e2, h4, h5, h6⟩ := loop9 (s := s) (k := k) (W := W) (l := l) hP (rngD 0 n) [] p1 h3 (fun _ hr => nomatch hr) (by rw [rngD_length]; have := sz20; simp; omega)
  rw [rngD_length] at h4
  refine ⟨rs, p2, ?_, by simp at h4; omega, h5, h6⟩
  have ea : (dACons (dCallIO F__law_draw [] (dACons (dV 1) (dACons (dC (.int 6)) (dANil)))) (dANil)) (eQ (.own (rows [])) P W l s p k) = .ok [.val (.int n)] (eQ (.own (rows [])) P W l s p1 k) := by
    simp [eQ, sSeq, sIf, dTest, dTru, truD, dAnd, dOr, dNot, dAndV, dOrV, dNotV, dIf, dChain, dUn, dBin, dBinF, dF, R.bind, R.out, R.val, ap2, dV, dC, TV.data, slotD, fGt, fLt, fLe, fGe, fIsN, fNotN, fIsB, fNotB, fPow, powOk, fEq, fNe, eqD_int, eqD_bl, i2, i2c, sAsg, sAsgF, dTup, dLst, vals, dCB, dCBF, dACons, dANil, apN, datas, fInt, fLen, fAbs, fMod, fDiv, fAdd, fSub, fMul, putT, putTs, putV, sSetIx, slotL, putOwn, sRet, sSkip, sDrop, sRaiseM, mC, mStr, mCat, mVar, dCallIO, ioRes, draw_is, e]
  have hn : lim62 (n : Int) = true := by
    unfold lim62
    simp only [Bool.and_eq_true, decide_eq_true_eq]
    omega
  exact forR1_nx ea hn (by rw [Int.toNat_natCast]; exact e2)
def eW (t x8 x9 x10 : Sl) (q : NT) (x5 s p k : D) : Env := [.v s, .own p, .v k, .v (.int q.1), .v (.int q.2), .v x5, t, .un, x8, x9, x10, .un, .un, .un, .un, .un]
/-- the tests' slot: of this frame, or a value -/
def TS (t : Sl) (rs : List (Int × Bool)) : Prop := t = .own (rows rs) ∨ t = .v (rows rs)
def XS (x8 x9 x10 : Sl) : Prop := (x8 = .un ∧ x9 = .un ∧ x10 = .un) ∨ ∃ a b c, x8 = .v a ∧ x9 = .v b ∧ x10 = .v c
def isI : R D → Bool
  | .ok (.int _) [] => true
  | _ => false
theorem thF2 : prS.map (fun q => isI (F_fewest [.int q.1, .int q.2])) = mapB (fun _ => true) prS := by kernel_rfl
theorem call6 {F : List D → R D} {s p k a b c d : D} {t : Sl} (ht : (∃ x, t = .own x) ∨ ∃ x, t = .v x) (h : F [a, b, c] = .ok d []) : sAsg (dCall F [] (dACons (dV 3) (dACons (dV 4) (dACons (dV 5) (dANil))))) (.nm 6) [.v s, .own p, .v k, .v a, .v b, .v c, t, .un, .un, .un, .un, .un, .un, .un, .un, .un] = .nx [.v s, .own p, .v k, .v a, .v b, .v c, .v d, .un, .un, .un, .un, .un, .un, .un, .un, .un] := by
  rcases ht with ⟨x, rfl⟩ | ⟨x, rfl⟩ <;> simp [sSeq, sIf, dTest, dTru, truD, dAnd, dOr, dNot, dAndV, dOrV, dNotV, dIf, dChain, dUn, dBin, dBinF, dF, R.bind, R.out, R.val, ap2, dV, dC, TV.data, slotD, fGt, fLt, fLe, fGe, fIsN, fNotN, fIsB, fNotB, fPow, powOk, fEq, fNe, eqD_int, eqD_bl, i2, i2c, sAsg, sAsgF, dTup, dLst, vals, dCB, dCBF, dACons, dANil, apN, datas, fInt, fLen, fAbs, fMod, fDiv, fAdd, fSub, fMul, putT, putTs, putV, sSetIx, slotL, putOwn, sRet, sSkip, sDrop, sRaiseM, mC, mStr, mCat, mVar, dCall, liftF, h]
theorem found14 {F : List D → R D} {s p k a b c d : D} (h : F [a, b, d] = .ok (.bl true) []) : sIf (dTest (dBin fNotB (dCallS F [] (dACons (dV 3) (dACons (dV 4) (dACons (dV 6) (dANil))))) (dC (.bl true)))) (law_13) (sSkip) [.v s, .own p, .v k, .v a, .v b, .v c, .v d, .un, .un, .un, .un, .un, .un, .un, .un, .un] = .nx [.v s, .own p, .v k, .v a, .v b, .v c, .v d, .un, .un, .un, .un, .un, .un, .un, .un, .un] := by
  simp [sSeq, sIf, dTest, dTru, truD, dAnd, dOr, dNot, dAndV, dOrV, dNotV, dIf, dChain, dUn, dBin, dBinF, dF, R.bind, R.out, R.val, ap2, dV, dC, TV.data, slotD, fGt, fLt, fLe, fGe, fIsN, fNotN, fIsB, fNotB, fPow, powOk, fEq, fNe, eqD_int, eqD_bl, i2, i2c, sAsg, sAsgF, dTup, dLst, vals, dCB, dCBF, dACons, dANil, apN, datas, fInt, fLen, fAbs, fMod, fDiv, fAdd, fSub, fMul, putT, putTs, putV, sSetIx, slotL, putOwn, sRet, sSkip, sDrop, sRaiseM, mC, mStr, mCat, mVar, dCallS, liftF, h, flat]
theorem test28 {F : List D → R D} {s p k a b c : D} {t : Sl} {i : Int} (h : F [a, b] = .ok (.int i) []) : dTest (dBin fIsN (dCall F [] (dACons (dV 3) (dACons (dV 4) (dANil)))) (dC .non)) [.v s, .own p, .v k, .v a, .v b, .v c, t, .un, .un, .un, .un, .un, .un, .un, .un, .un] = .ok false [.v s, .own p, .v k, .v a, .v b, .v c, t, .un, .un, .un, .un, .un, .un, .un, .un, .un] := by
  simp [sSeq, sIf, dTest, dTru, truD, dAnd, dOr, dNot, dAndV, dOrV, dNotV, dIf, dChain, dUn, dBin, dBinF, dF, R.bind, R.out, R.val, ap2, dV, dC, TV.data, slotD, fGt, fLt, fLe, fGe, fIsN, fNotN, fIsB, fNotB, fPow, powOk, fEq, fNe, eqD_int, eqD_bl, i2, i2c, sAsg, sAsgF, dTup, dLst, vals, dCB, dCBF, dACons, dANil, apN, datas, fInt, fLen, fAbs, fMod, fDiv, fAdd, fSub, fMul, putT, putTs, putV, sSetIx, slotL, putOwn, sRet, sSkip, sDrop, sRaiseM, mC, mStr, mCat, mVar, dCall, liftF, h]
theorem st15 {ns : List Int} {p s k : D} {q : NT} {l : Nat} {rs : List (Int × Bool)} (h : plN ns p) (hq : q ∈ prS) (hl : l < q.1 + 1) (hi : RIn q.1 rs) (hn : rs.length ≤ 20) : ∃ t rs' p', law_15 (eT (.own (rows rs)) q (.int l) s p k) = .nx (eT t q (.int l) s p' k) ∧ TS t rs' ∧ RIn q.1 rs' ∧ rs'.length ≤ 20 ∧ plN ns p' := by
  obtain ⟨r, p1, e, h1, h2, h3⟩ := draw_ok h (m := 2) (by decide) (by decide)
  have et : (dTest (dBin fEq (dCallIO F__law_draw [] (dACons (dV 1) (dACons (dC (.int 2)) (dANil)))) (dC (.int 0)))) (eT (.own (rows rs)) q (.int l) s p k) = .ok (decide (r = 0)) (eT (.own (rows rs)) q (.int l) s p1 k) := by
    simp [eT, sSeq, sIf, dTest, dTru, truD, dAnd, dOr, dNot, dAndV, dOrV, dNotV, dIf, dChain, dUn, dBin, dBinF, dF, R.bind, R.out, R.val, ap2, dV, dC, TV.data, slotD, fGt, fLt, fLe, fGe, fIsN, fNotN, fIsB, fNotB, fPow, powOk, fEq, fNe, eqD_int, eqD_bl, i2, i2c, sAsg, sAsgF, dTup, dLst, vals, dCB, dCBF, dACons, dANil, apN, datas, fInt, fLen, fAbs, fMod, fDiv, fAdd, fSub, fMul, putT, putTs, putV, sSetIx, slotL, putOwn, sRet, sSkip, sDrop, sRaiseM, mC, mStr, mCat, mVar, dCallIO, ioRes, draw_is, e]
  by_cases hr : r = 0
  · rw [decide_eq_true hr] at et
    obtain ⟨a1, a2⟩ := thH hq hl
    have hm := List.mem_range.mpr hl
    have a3 := mapB_at (mapB_at thI hq) hm
    have a4 : (huntT q l).length ≤ 20 := of_decide_eq_true (mapB_at (mapB_at thL hq) hm)
    refine ⟨.v (rows (huntT q l)), huntT q l, p1, ?_, .inr rfl, fun r hr => ?_, a4, h3⟩
    · unfold law_15
      rw [sIf_t et]
      have b1 : law_12 (eT (.own (rows rs)) q (.int l) s p1 k) = .nx (eT (.v (rows (huntT q l))) q (.int l) s p1 k) := call6 (.inl ⟨_, rfl⟩) a1
      rw [seq_nx b1]
      exact found14 a2
    · have := List.all_eq_true.mp a3 r hr
      simpa using this
  · rw [decide_eq_false hr] at et
    refine ⟨.own (rows rs), rs, p1, ?_, .inl rfl, hi, hn, h3⟩
    unfold law_15
    rw [sIf_f et]
    rfl
theorem st28 {ns : List Int} {p s k : D} {q : NT} {l : Nat} {rs : List (Int × Bool)} (h : plN ns p) (hq : q ∈ prs) (hl : l < q.1 + 1) (hi : RIn q.1 rs) (hn : rs.length ≤ 20) : ∃ t x8 x9 x10 rs' p', law_28 (eT (.own (rows rs)) q (.int l) s p k) = .nx (eW t x8 x9 x10 q (.int l) s p' k) ∧ TS t rs' ∧ XS x8 x9 x10 ∧ RIn q.1 rs' ∧ rs'.length ≤ 20 ∧ plN ns p' := by
  by_cases hf : fewN q = true
  · exact ⟨.own (rows rs), .un, .un, .un, rs, p, mapB_at (thN (.own (rows rs)) (.int l) s p k) (List.mem_filter.mpr ⟨hq, hf⟩), .inl rfl, .inl ⟨rfl, rfl, rfl⟩, hi, hn, h⟩
  · have hq2 : q ∈ prS := List.mem_filter.mpr ⟨hq, by simpa using hf⟩
    obtain ⟨t, rs', p1, e1, h1, h2, h2', h3⟩ := st15 (s := s) (k := k) h hq2 hl hi hn
    have hI := mapB_at thF2 hq2
    obtain ⟨i, hF⟩ : ∃ i, F_fewest [.int q.1, .int q.2] = .ok (.int i) [] := by
      revert hI
      show isI (F_fewest [.int q.1, .int q.2]) = true → _
      generalize F_fewest [.int q.1, .int q.2] = x
      intro hI
      unfold isI at hI
      split at hI
      · exact ⟨_, rfl⟩
      · cases hI
    refine ⟨t, .v .non, .v (rowsT q), .v (knownT q), rs', p1, ?_, h1, .inr ⟨_, _, _, rfl, rfl, rfl⟩, h2, h2', h3⟩
    have e2 := thD t (.int l) s p1 k hq2
    have et := test28 (s := s) (p := p) (k := k) (c := .int l) (t := .own (rows rs)) hF
    refine (sIf_f et).trans ?_
    show sSeq law_15 pre (eT (.own (rows rs)) q (.int l) s p k) = _
    rw [seq_nx e1]
    exact e2

theorem same_is : ∀ n, F__law_same n = sameF n
  | 0 => rfl
  | n + 1 => by
    show runD 3 (s__law_same (F__law_same n)) = runD 3 (sameS (sameF n))
    rw [same_is n]
    rfl
/-- behind the fit list; and behind the count -/
def eX (t x8 x9 x10 : Sl) (f : D) (q : NT) (x5 s p k : D) : Env := [.v s, .own p, .v k, .v (.int q.1), .v (.int q.2), .v x5, t, .un, x8, x9, x10, .un, .un, .v f, .un, .un]
def eY (t x8 x9 x10 : Sl) (f m : D) (q : NT) (x5 s p k : D) : Env := [.v s, .own p, .v k, .v (.int q.1), .v (.int q.2), .v x5, t, .un, x8, x9, x10, .un, .un, .v f, .v m, .un]
theorem lim_small {n : Nat} (h : n ≤ 1000) : lim62 (n : Int) = true ∧ lim62 ((n : Int) + 1) = true := by
  unfold lim62
  simp only [Bool.and_eq_true, decide_eq_true_eq]
  omega
theorem fits_t {t x8 x9 x10 : Sl} {q : NT} {x5 s p k : D} {rs : List (Int × Bool)} {i : Int} (ht : TS t rs) (hn : rs.length ≤ 20) : (dTru (dCallS F__law_fits [] (dACons (dV 3) (dACons (dV 6) (dACons (dV 11) (dANil)))))) ((eW t x8 x9 x10 q x5 s p k).set 11 (.v (.int i))) = .ok (fitB rs i) ((eW t x8 x9 x10 q x5 s p k).set 11 (.v (.int i))) := by
  have e := fits_ok (P := (q.1 : Int)) (one := i) (rs := rs) (by have := sz20; omega)
  rcases ht with rfl | rfl <;> simp [eW, sSeq, sIf, dTest, dTru, truD, dAnd, dOr, dNot, dAndV, dOrV, dNotV, dIf, dChain, dUn, dBin, dBinF, dF, R.bind, R.out, R.val, ap2, dV, dC, TV.data, slotD, fGt, fLt, fLe, fGe, fIsN, fNotN, fIsB, fNotB, fPow, powOk, fEq, fNe, eqD_int, eqD_bl, i2, i2c, sAsg, sAsgF, dTup, dLst, vals, dCB, dCBF, dACons, dANil, apN, datas, fInt, fLen, fAbs, fMod, fDiv, fAdd, fSub, fMul, putT, putTs, putV, sSetIx, slotL, putOwn, sRet, sSkip, sDrop, sRaiseM, mC, mStr, mCat, mVar, dCallS, liftF, e, flat]
theorem st29 {t x8 x9 x10 : Sl} {q : NT} {x5 s p k : D} {rs : List (Int × Bool)} (ht : TS t rs) (hn : rs.length ≤ 20) (hP : q.1 < 15) : law_29 (eW t x8 x9 x10 q x5 s p k) = .nx (eX t x8 x9 x10 (.lst (fitL q.1 rs)) q x5 s p k) := by
  have h := lcL_filter (i := 11) (test := dTru (dCallS F__law_fits [] (dACons (dV 3) (dACons (dV 6) (dACons (dV 11) (dANil)))))) (se := dV 11) (e := eW t x8 x9 x10 q x5 s p k) (f := fun d => match d with
    | .int i => fitB rs i
    | _ => false) (g := id) rfl (rngD 1 q.1) [] (fun d hd => by
      obtain ⟨i, rfl, _, _⟩ := rngD_mem _ _ _ hd
      exact fits_t ht hn) (fun d hd _ => rfl) (by rw [rngD_length]; have := sz20; simp; omega)
  rw [List.map_id, List.nil_append] at h
  have ea : (dACons (dC (.int 1)) (dACons (dBin fAdd (dV 3) (dC (.int 1))) (dANil))) (eW t x8 x9 x10 q x5 s p k) = .ok [.val (.int 1), .val (.int ((q.1 : Int) + 1))] (eW t x8 x9 x10 q x5 s p k) := rfl
  have el : (dLcR2 [11] (dACons (dC (.int 1)) (dACons (dBin fAdd (dV 3) (dC (.int 1))) (dANil))) (.nm 11) (dTru (dCallS F__law_fits [] (dACons (dV 3) (dACons (dV 6) (dACons (dV 11) (dANil)))))) (dV 11)) (eW t x8 x9 x10 q x5 s p k) = .ok (.lst (fitL q.1 rs)) (eW t x8 x9 x10 q x5 s p k) := by
    refine lcR2_ok ea ⟨(lim_small (n := 1) (by decide)).1, (lim_small (n := q.1) (by omega)).2⟩ rfl rfl ?_
    rw [show ((q.1 : Int) + 1 - 1).toNat = q.1 by omega]
    exact h
  unfold law_29
  exact asg_f (by rw [el]) rfl
theorem st31 {t x8 x9 x10 : Sl} {q : NT} {x5 s p k : D} {rs : List (Int × Bool)} (ht : TS t rs) (hn : rs.length ≤ 20) (hP : q.1 < 15) : law_31 (eX t x8 x9 x10 (.lst (fitL q.1 rs)) q x5 s p k) = .nx (eX t x8 x9 x10 (.lst (fitL q.1 rs ++ (if fitB rs 0 = true then [D.int 0] else []))) q x5 s p k) := by
  have e := fits_ok (P := (q.1 : Int)) (one := 0) (rs := rs) (by have := sz20; omega)
  have et : (dTru (dCallS F__law_fits [] (dACons (dV 3) (dACons (dV 6) (dACons (dC (.int 0)) (dANil)))))) (eX t x8 x9 x10 (.lst (fitL q.1 rs)) q x5 s p k) = .ok (fitB rs 0) (eX t x8 x9 x10 (.lst (fitL q.1 rs)) q x5 s p k) := by
    rcases ht with rfl | rfl <;> simp [eX, sSeq, sIf, dTest, dTru, truD, dAnd, dOr, dNot, dAndV, dOrV, dNotV, dIf, dChain, dUn, dBin, dBinF, dF, R.bind, R.out, R.val, ap2, dV, dC, TV.data, slotD, fGt, fLt, fLe, fGe, fIsN, fNotN, fIsB, fNotB, fPow, powOk, fEq, fNe, eqD_int, eqD_bl, i2, i2c, sAsg, sAsgF, dTup, dLst, vals, dCB, dCBF, dACons, dANil, apN, datas, fInt, fLen, fAbs, fMod, fDiv, fAdd, fSub, fMul, putT, putTs, putV, sSetIx, slotL, putOwn, sRet, sSkip, sDrop, sRaiseM, mC, mStr, mCat, mVar, dCallS, liftF, e, flat]
  have hlen : (fitL q.1 rs).length + 1 ≤ sizeLine := by
    have h1 := List.length_filter_le (fun d => match d with
      | .int i => fitB rs i
      | _ => false) (rngD 1 q.1)
    rw [rngD_length] at h1
    have h2 : (fitL q.1 rs).length ≤ q.1 := h1
    have := sz20
    omega
  have hs1 : 1 ≤ sizeLine := by decide
  unfold law_31
  by_cases hb : fitB rs 0 = true
  · rw [hb] at et
    rw [sIf_t et, if_pos hb]
    simp [law_30, eX, sSeq, sIf, dTest, dTru, truD, dAnd, dOr, dNot, dAndV, dOrV, dNotV, dIf, dChain, dUn, dBin, dBinF, dF, R.bind, R.out, R.val, ap2, dV, dC, TV.data, slotD, fGt, fLt, fLe, fGe, fIsN, fNotN, fIsB, fNotB, fPow, powOk, fEq, fNe, eqD_int, eqD_bl, i2, i2c, sAsg, sAsgF, dTup, dLst, vals, dCB, dCBF, dACons, dANil, apN, datas, fInt, fLen, fAbs, fMod, fDiv, fAdd, fSub, fMul, putT, putTs, putV, sSetIx, slotL, putOwn, sRet, sSkip, sDrop, sRaiseM, mC, mStr, mCat, mVar, fCat, hlen, hs1]
  · have hb' : fitB rs 0 = false := by simpa using hb
    rw [hb'] at et
    rw [sIf_f et, if_neg hb, List.append_nil]
    rfl
theorem fit_ints {P : Nat} {rs : List (Int × Bool)} : ∀ d ∈ fitL P rs ++ (if fitB rs 0 = true then [D.int 0] else []), ∃ i, d = D.int i := fun d hd => by
  rcases List.mem_append.mp hd with hd | hd
  · obtain ⟨i, e, _⟩ := rngD_mem _ _ _ (List.mem_filter.mp hd).1
    exact ⟨i, e⟩
  · split at hd
    · exact ⟨0, by simpa using hd⟩
    · exact nomatch hd
theorem fit_len {P : Nat} {rs : List (Int × Bool)} (hP : P < 15) : (fitL P rs ++ (if fitB rs 0 = true then [D.int 0] else [])).length ≤ 20 := by
  have h1 := List.length_filter_le (fun d => match d with
      | .int i => fitB rs i
      | _ => false) (rngD 1 P)
  rw [rngD_length] at h1
  have h2 : (fitL P rs).length ≤ P := h1
  rw [List.length_append]
  split <;> simp <;> omega
theorem st33 {t x8 x9 x10 : Sl} {q : NT} {x5 s p k : D} {rs : List (Int × Bool)} (ht : TS t rs) (hi : RIn q.1 rs) (hP : q.1 < 15) : law_33 (eX t x8 x9 x10 (.lst (fitL q.1 rs ++ (if fitB rs 0 = true then [D.int 0] else []))) q x5 s p k) = .nx (eX t x8 x9 x10 (.lst (fitL q.1 rs ++ (if fitB rs 0 = true then [D.int 0] else []))) q x5 s p k) := by
  have e1 := told_ok hP hi
  rw [fit_told hi] at e1
  have e2 : F__law_same 12 [.lst (fitL q.1 rs ++ (if fitB rs 0 = true then [D.int 0] else [])), .lst (fitL q.1 rs ++ (if fitB rs 0 = true then [D.int 0] else []))] = .ok (.bl true) [] := by
    rw [same_is]
    refine same_lst (n := 11) (fun d hd => ?_) (by have := fit_len (rs := rs) hP; omega)
    obtain ⟨i, rfl⟩ := fit_ints d hd
    exact same_int 10 i
  generalize fitL q.1 rs ++ (if fitB rs 0 = true then [D.int 0] else []) = f at e1 e2 ⊢
  unfold law_33
  generalize F__law_same 12 = G at e2 ⊢
  generalize F_told_by = T at e1 ⊢
  have e1' : T [.int q.1, .lst (rs.map rowD)] = .ok (.lst f) [] := e1
  rcases ht with rfl | rfl <;> simp [eX, rows, sSeq, sIf, dTest, dTru, truD, dAnd, dOr, dNot, dAndV, dOrV, dNotV, dIf, dChain, dUn, dBin, dBinF, dF, R.bind, R.out, R.val, ap2, dV, dC, TV.data, slotD, fGt, fLt, fLe, fGe, fIsN, fNotN, fIsB, fNotB, fPow, powOk, fEq, fNe, eqD_int, eqD_bl, i2, i2c, sAsg, sAsgF, dTup, dLst, vals, dCB, dCBF, dACons, dANil, apN, datas, fInt, fLen, fAbs, fMod, fDiv, fAdd, fSub, fMul, putT, putTs, putV, sSetIx, slotL, putOwn, sRet, sSkip, sDrop, sRaiseM, mC, mStr, mCat, mVar, dCall, liftF, fList, e1', e2]

def trueD : D → Bool
  | .tup [_, .bl b] => b
  | _ => false
def cnt (rs : List (Int × Bool)) : Nat := ((rs.map rowD).filter trueD).length
theorem lcS_filter {sl j : Nat} {test : Env → R Bool} {se : Sem} {e : Env} {f : D → Bool} {g : D → D} {ds : List D} (he : e[j]? = some .un) (hsl : slotL e sl = some ds) (ht : ∀ d ∈ ds, test (e.set j (.v d)) = .ok (f d) (e.set j (.v d)))
    (hs : ∀ d ∈ ds, f d = true → se (e.set j (.v d)) = .ok (.val (g d)) (e.set j (.v d))) : ∀ (n i : Nat) (acc : List D), i + n = ds.length → acc.length + n ≤ sizeLine → lcS sl [j] (.nm j) test se n i e acc = .ok (.lst (acc ++ ((ds.drop i).filter f).map g)) e
  | 0, i, acc, h, _ => by
    unfold lcS
    rw [hsl]
    have hd : ds.drop i = [] := List.drop_eq_nil_iff.mpr (by omega)
    have hle : ds.length ≤ i := by omega
    simp [hd, hle]
  | n + 1, i, acc, h, hl => by
    have hi : i < ds.length := by omega
    have hj : j < e.length := (List.getElem?_eq_some_iff.mp he).1
    have e1 : putX (.nm j) ds[i] e = some (e.set j (.v ds[i])) := by
      show (if plainAt e j = true then some (e.set j (.v ds[i])) else none) = _
      rw [if_pos]
      unfold plainAt
      rw [he]
    have e2 : clearE [j] (e.set j (.v ds[i])) = some e := by
      show (if plainAt (e.set j (.v ds[i])) j = true then some ((e.set j (.v ds[i])).set j .un) else none) = _
      rw [if_pos, set_un he]
      unfold plainAt
      rw [List.getElem?_set_self hj]
    have hm := List.getElem_mem hi
    have hd : ds.drop i = ds[i] :: ds.drop (i + 1) := List.drop_eq_getElem_cons hi
    unfold lcS
    rw [hsl]
    show (match ds[i]? with
      | some d => lcTurn [j] (.nm j) test se d e acc fun e' acc' => lcS sl [j] (.nm j) test se n (i + 1) e' acc'
      | none => R.ok (.lst acc) e) = _
    rw [List.getElem?_eq_getElem hi]
    show lcTurn [j] (.nm j) test se ds[i] e acc _ = _
    unfold lcTurn
    rw [e1]
    show (nox (test (e.set j (.v ds[i])))).bind _ = _
    rw [ht _ hm]
    show (if f ds[i] = true then _ else _) = _
    by_cases hf : f ds[i] = true
    · rw [if_pos hf, hs _ hm hf]
      show (if acc.length < sizeLine then _ else _) = _
      rw [if_pos (by omega), e2]
      show lcS sl [j] (.nm j) test se n (i + 1) e (acc ++ [g ds[i]]) = _
      rw [lcS_filter he hsl ht hs n (i + 1) (acc ++ [g ds[i]]) (by omega) (by simp; omega), hd, List.filter_cons_of_pos hf, List.map_cons, List.append_assoc, List.singleton_append]
    · rw [if_neg hf, e2]
      show lcS sl [j] (.nm j) test se n (i + 1) e acc = _
      rw [lcS_filter he hsl ht hs n (i + 1) acc (by omega) (by omega), hd, List.filter_cons_of_neg hf]
theorem mem_row {rs : List (Int × Bool)} {d : D} (h : d ∈ rs.map rowD) : ∃ x b, d = .tup [.int x, .bl b] := by
  obtain ⟨r, _, rfl⟩ := List.mem_map.mp h
  exact ⟨r.1, r.2, rfl⟩
theorem count_t {t x8 x9 x10 : Sl} {f : D} {q : NT} {x5 s p k : D} {rs : List (Int × Bool)} (ht : TS t rs) (hn : rs.length ≤ 20) : (dLcA [15] (dV 6) (.nm 15) (dTru (dBin ixD (dV 15) (dC (.int 1)))) (dV 15)) (eX t x8 x9 x10 f q x5 s p k) = .ok (.lst ((rs.map rowD).filter trueD)) (eX t x8 x9 x10 f q x5 s p k) := by
  have h1 : ∀ d ∈ rs.map rowD, (dTru (dBin ixD (dV 15) (dC (.int 1)))) ((eX t x8 x9 x10 f q x5 s p k).set 15 (.v d)) = .ok (trueD d) ((eX t x8 x9 x10 f q x5 s p k).set 15 (.v d)) := fun d hd => by
    obtain ⟨x, b, rfl⟩ := mem_row hd
    rfl
  have hz := sz20
  rcases ht with rfl | rfl
  · have h := lcS_filter (sl := 6) (j := 15) (g := id) (e := eX (.own (rows rs)) x8 x9 x10 f q x5 s p k) (se := dV 15) rfl (ds := rs.map rowD) rfl h1 (fun d hd _ => rfl) (rs.map rowD).length 0 [] (by simp) (by simp; omega)
    refine Eq.trans ?_ (h.trans (by simp))
    rfl
  · have h := lcL_filter (i := 15) (g := id) (e := eX (.v (rows rs)) x8 x9 x10 f q x5 s p k) (se := dV 15) rfl (rs.map rowD) [] h1 (fun d hd _ => rfl) (by simp; omega)
    refine Eq.trans ?_ (h.trans (by simp))
    rfl
theorem st34 {t x8 x9 x10 : Sl} {f : D} {q : NT} {x5 s p k : D} {rs : List (Int × Bool)} (ht : TS t rs) (hn : rs.length ≤ 20) : law_34 (eX t x8 x9 x10 f q x5 s p k) = .nx (eY t x8 x9 x10 f (.int (cnt rs)) q x5 s p k) := by
  have e := count_t (x8 := x8) (x9 := x9) (x10 := x10) (f := f) (q := q) (x5 := x5) (s := s) (p := p) (k := k) ht hn
  unfold law_34
  generalize (dLcA [15] (dV 6) (.nm 15) (dTru (dBin ixD (dV 15) (dC (.int 1)))) (dV 15)) = c at e ⊢
  unfold eX at e ⊢
  simp [eY, sSeq, sIf, dTest, dTru, truD, dAnd, dOr, dNot, dAndV, dOrV, dNotV, dIf, dChain, dUn, dBin, dBinF, dF, R.bind, R.out, R.val, ap2, dV, dC, TV.data, slotD, fGt, fLt, fLe, fGe, fIsN, fNotN, fIsB, fNotB, fPow, powOk, fEq, fNe, eqD_int, eqD_bl, i2, i2c, sAsg, sAsgF, dTup, dLst, vals, dCB, dCBF, dACons, dANil, apN, datas, fInt, fLen, fAbs, fMod, fDiv, fAdd, fSub, fMul, putT, putTs, putV, sSetIx, slotL, putOwn, sRet, sSkip, sDrop, sRaiseM, mC, mStr, mCat, mVar, e, cnt]
theorem found_ok {P W : Nat} {rs : List (Int × Bool)} {F : List D} (hn : rs.length ≤ 20) (e1 : F_told_by [.int P, rows rs] = .ok (.lst F) []) : F_is_found [.int P, .int W, rows rs] = .ok (.bl (decide (cnt rs ≤ W) && decide (F.length = 1))) [] := by
  have hz := sz20
  have h := lcL_filter (i := 3) (test := dTru (dBin ixD (dV 3) (dC (.int 1)))) (se := dV 3) (e := [.v (.int P), .v (.int W), .v (rows rs), .un]) (f := trueD) (g := id) rfl (rs.map rowD) [] (fun d hd => by
    obtain ⟨x, b, rfl⟩ := mem_row hd
    rfl) (fun d hd _ => rfl) (by simp; omega)
  have el : (dLc [3] (dV 2) (.nm 3) (dTru (dBin ixD (dV 3) (dC (.int 1)))) (dV 3)) [.v (.int P), .v (.int W), .v (rows rs), .un] = .ok (.lst ((rs.map rowD).filter trueD)) [.v (.int P), .v (.int W), .v (rows rs), .un] := by
    refine Eq.trans ?_ (h.trans (by simp))
    rfl
  show finD (s_is_found [.v (.int P), .v (.int W), .v (rows rs), .un]) = _
  unfold s_is_found
  generalize (dLc [3] (dV 2) (.nm 3) (dTru (dBin ixD (dV 3) (dC (.int 1)))) (dV 3)) = c at el ⊢
  generalize F_told_by = T at e1 ⊢
  by_cases hc : cnt rs ≤ W
  · have hc' : ¬ W < ((rs.map rowD).filter trueD).length := by unfold cnt at hc; omega
    have hc2 : ¬ W < (List.filter trueD (List.map rowD rs)).length := hc'
    simp [sSeq, sIf, dTest, dTru, truD, dAnd, dOr, dNot, dAndV, dOrV, dNotV, dIf, dChain, dUn, dBin, dBinF, dF, R.bind, R.out, R.val, ap2, dV, dC, TV.data, slotD, fGt, fLt, fLe, fGe, fIsN, fNotN, fIsB, fNotB, fPow, powOk, fEq, fNe, eqD_int, eqD_bl, i2, i2c, sAsg, sAsgF, dTup, dLst, vals, dCB, dCBF, dACons, dANil, apN, datas, fInt, fLen, fAbs, fMod, fDiv, fAdd, fSub, fMul, putT, putTs, putV, sSetIx, slotL, putOwn, sRet, sSkip, sDrop, sRaiseM, mC, mStr, mCat, mVar, el, finD, hc, hc2, dCall, liftF, e1]
    by_cases hF : F.length = 1
    · simp [hF]
    · simp [hF]; omega
  · have hc' : W < ((rs.map rowD).filter trueD).length := by unfold cnt at hc; omega
    simp [sSeq, sIf, dTest, dTru, truD, dAnd, dOr, dNot, dAndV, dOrV, dNotV, dIf, dChain, dUn, dBin, dBinF, dF, R.bind, R.out, R.val, ap2, dV, dC, TV.data, slotD, fGt, fLt, fLe, fGe, fIsN, fNotN, fIsB, fNotB, fPow, powOk, fEq, fNe, eqD_int, eqD_bl, i2, i2c, sAsg, sAsgF, dTup, dLst, vals, dCB, dCBF, dACons, dANil, apN, datas, fInt, fLen, fAbs, fMod, fDiv, fAdd, fSub, fMul, putT, putTs, putV, sSetIx, slotL, putOwn, sRet, sSkip, sDrop, sRaiseM, mC, mStr, mCat, mVar, el, finD, hc, hc', dCall, liftF, e1]

theorem same12 (b : Bool) : F__law_same 12 [.bl b, .bl b] = .ok (.bl true) [] := by
  rw [same_is]
  exact same_bl 11 b
theorem st36 {t x8 x9 x10 : Sl} {q : NT} {x5 s p k : D} {rs : List (Int × Bool)} {F : List D} (ht : TS t rs) (hn : rs.length ≤ 20) (e1 : F_told_by [.int q.1, rows rs] = .ok (.lst F) []) : law_36 (eY t x8 x9 x10 (.lst F) (.int (cnt rs)) q x5 s p k) = .nx (eY t x8 x9 x10 (.lst F) (.int (cnt rs)) q x5 s p k) := by
  have e2 := found_ok (W := q.2) hn e1
  have e3 := same12
  have e2' : F_is_found [.int q.1, .int q.2, .lst (rs.map rowD)] = .ok (.bl (decide (cnt rs ≤ q.2) && decide (F.length = 1))) [] := e2
  unfold law_36
  generalize F__law_same 12 = G at e3 ⊢
  generalize F_is_found = T at e2' ⊢
  by_cases hc : cnt rs ≤ q.2
  · by_cases hF : F.length = 1
    · simp only [hc, hF, decide_true, Bool.and_self] at e2'
      have hF' : ((F.length : Nat) : Int) = 1 := by omega
      have hc' : (cnt rs : Int) ≤ (q.2 : Int) := by omega
      rcases ht with rfl | rfl <;> simp [eY, rows, sSeq, sIf, dTest, dTru, truD, dAnd, dOr, dNot, dAndV, dOrV, dNotV, dIf, dChain, dUn, dBin, dBinF, dF, R.bind, R.out, R.val, ap2, dV, dC, TV.data, slotD, fGt, fLt, fLe, fGe, fIsN, fNotN, fIsB, fNotB, fPow, powOk, fEq, fNe, eqD_int, eqD_bl, i2, i2c, sAsg, sAsgF, dTup, dLst, vals, dCB, dCBF, dACons, dANil, apN, datas, fInt, fLen, fAbs, fMod, fDiv, fAdd, fSub, fMul, putT, putTs, putV, sSetIx, slotL, putOwn, sRet, sSkip, sDrop, sRaiseM, mC, mStr, mCat, mVar, dCall, liftF, fList, e2', e3, hc, hc', hF, hF']
    · simp only [hc, hF, decide_true, decide_false, Bool.and_false] at e2'
      have hF' : ¬ ((F.length : Nat) : Int) = 1 := by omega
      rcases ht with rfl | rfl <;> simp [eY, rows, sSeq, sIf, dTest, dTru, truD, dAnd, dOr, dNot, dAndV, dOrV, dNotV, dIf, dChain, dUn, dBin, dBinF, dF, R.bind, R.out, R.val, ap2, dV, dC, TV.data, slotD, fGt, fLt, fLe, fGe, fIsN, fNotN, fIsB, fNotB, fPow, powOk, fEq, fNe, eqD_int, eqD_bl, i2, i2c, sAsg, sAsgF, dTup, dLst, vals, dCB, dCBF, dACons, dANil, apN, datas, fInt, fLen, fAbs, fMod, fDiv, fAdd, fSub, fMul, putT, putTs, putV, sSetIx, slotL, putOwn, sRet, sSkip, sDrop, sRaiseM, mC, mStr, mCat, mVar, dCall, liftF, fList, e2', e3, hc, hF, hF']
  · simp only [hc, decide_false, Bool.false_and] at e2'
    rcases ht with rfl | rfl <;> simp [eY, rows, sSeq, sIf, dTest, dTru, truD, dAnd, dOr, dNot, dAndV, dOrV, dNotV, dIf, dChain, dUn, dBin, dBinF, dF, R.bind, R.out, R.val, ap2, dV, dC, TV.data, slotD, fGt, fLt, fLe, fGe, fIsN, fNotN, fIsB, fNotB, fPow, powOk, fEq, fNe, eqD_int, eqD_bl, i2, i2c, sAsg, sAsgF, dTup, dLst, vals, dCB, dCBF, dACons, dANil, apN, datas, fInt, fLen, fAbs, fMod, fDiv, fAdd, fSub, fMul, putT, putTs, putV, sSetIx, slotL, putOwn, sRet, sSkip, sDrop, sRaiseM, mC, mStr, mCat, mVar, dCall, liftF, fList, e2', e3, hc]
def body : SSem := sSeq law_2 (sSeq law_3 (sSeq law_4 (sSeq law_5 (sSeq law_9 (sSeq law_28 (sSeq law_29 (sSeq law_31 (sSeq law_33 (sSeq law_34 law_36)))))))))
theorem turn {ns : List Int} {p s k : D} (h : plN ns p) : ∃ p', sClr [2, 3, 4, 5, 6, 7, 8, 9, 10, 11, 12, 13, 14] body (e0 s p k) = .nx (eZ s p') ∧ plN ns p' := by
  obtain ⟨P, p1, a1, hP, h1⟩ := st2 (s := s) (k := k) h
  obtain ⟨W, p2, a2, hW, h2⟩ := st3 (s := s) (k := k) (P := P) h1
  obtain ⟨l, p3, a3, hl, h3⟩ := st4 (s := s) (k := k) (W := W) h2 hP
  obtain ⟨rs, p4, a4, hn, hi, h4⟩ := st9 (s := s) (k := k) (W := W) (l := l) h3 hP
  have hq := mem_prs hP hW
  obtain ⟨t, x8, x9, x10, rs', p5, a5, ht, hx, hi', hn', h5⟩ := st28 (s := s) (k := k) (q := (P, W)) h4 hq hl hi (by omega)
  have a5 : law_28 (eQ (.own (rows rs)) P W l s p4 k) = .nx (eW t x8 x9 x10 (P, W) (.int l) s p5 k) := a5
  have a6 := st29 (x8 := x8) (x9 := x9) (x10 := x10) (q := (P, W)) (x5 := .int l) (s := s) (p := p5) (k := k) ht hn' hP
  have a7 := st31 (x8 := x8) (x9 := x9) (x10 := x10) (q := (P, W)) (x5 := .int l) (s := s) (p := p5) (k := k) ht hn' hP
  have a8 := st33 (x8 := x8) (x9 := x9) (x10 := x10) (q := (P, W)) (x5 := .int l) (s := s) (p := p5) (k := k) ht hi' hP
  have ee := told_ok hP hi'
  rw [fit_told hi'] at ee
  have a9 := st34 (x8 := x8) (x9 := x9) (x10 := x10) (f := .lst (fitL P rs' ++ (if fitB rs' 0 = true then [D.int 0] else []))) (q := (P, W)) (x5 := .int l) (s := s) (p := p5) (k := k) ht hn'
  have a10 := st36 (x8 := x8) (x9 := x9) (x10 := x10) (q := (P, W)) (x5 := .int l) (s := s) (p := p5) (k := k) ht hn' ee
  refine ⟨p5, ?_, h5⟩
  have b1 : body (e0 s p k) = .nx (eY t x8 x9 x10 (.lst (fitL P rs' ++ (if fitB rs' 0 = true then [D.int 0] else []))) (.int (cnt rs')) (P, W) (.int l) s p5 k) := by
    unfold body
    rw [seq_nx a1, seq_nx a2, ← sSeq_assoc law_4, seq_nx a3, seq_nx a4, seq_nx a5, seq_nx a6, seq_nx a7, seq_nx a8, seq_nx a9]
    exact a10
  unfold sClr
  rw [b1]
  rcases ht with rfl | rfl <;> rcases hx with ⟨rfl, rfl, rfl⟩ | ⟨a, b, c, rfl, rfl, rfl⟩ <;> rfl
theorem st37 {ns : List Int} {p s : D} (h : plN ns p) : ∃ p', law_37 (eZ s p) = .nx (eZ s p') ∧ plN ns p' := by
  obtain ⟨p1, a1, h1⟩ := turn (s := s) (k := .int 0) h
  obtain ⟨p2, a2, h2⟩ := turn (s := s) (k := .int 1) h1
  obtain ⟨p3, a3, h3⟩ := turn (s := s) (k := .int 2) h2
  refine ⟨p3, ?_, h3⟩
  have b1 : ∀ d p r, forL (.nm 2) (sClr [2, 3, 4, 5, 6, 7, 8, 9, 10, 11, 12, 13, 14] body) (d :: r) (eZ s p) = (match sClr [2, 3, 4, 5, 6, 7, 8, 9, 10, 11, 12, 13, 14] body (e0 s p d) with
      | .nx e2 => forL (.nm 2) (sClr [2, 3, 4, 5, 6, 7, 8, 9, 10, 11, 12, 13, 14] body) r e2
      | .cnt e2 => forL (.nm 2) (sClr [2, 3, 4, 5, 6, 7, 8, 9, 10, 11, 12, 13, 14] body) r e2
      | .brk e2 => .nx e2
      | o => o) := fun _ _ _ => rfl
  show forL (.nm 2) (sClr [2, 3, 4, 5, 6, 7, 8, 9, 10, 11, 12, 13, 14] body) [.int 0, .int 1, .int 2] (eZ s p) = _
  rw [b1, a1]
  show forL (.nm 2) (sClr [2, 3, 4, 5, 6, 7, 8, 9, 10, 11, 12, 13, 14] body) [.int 1, .int 2] (eZ s p1) = _
  rw [b1, a2]
  show forL (.nm 2) (sClr [2, 3, 4, 5, 6, 7, 8, 9, 10, 11, 12, 13, 14] body) [.int 2] (eZ s p2) = _
  rw [b1, a3]
  rfl
theorem st38 (s p : D) : law_38 (eZ s p) = .rt (.val (.bl true)) (eZ s p) := by kernel_rfl
theorem law_true : ∀ ns : List Int, ns.length ≤ 63 → ∃ e, F_law [.scr (ns.map D.int)] = .ok (.bl true) e := fun ns _ => by
  have h0 : plN ns (pl (ns.map D.int) 0 0 0 0) := ⟨0, 0, 0, 0, rfl, by decide⟩
  have a1 : law_1 [.v (.scr (ns.map D.int)), .un, .un, .un, .un, .un, .un, .un, .un, .un, .un, .un, .un, .un, .un, .un] = .nx (eZ (.scr (ns.map D.int)) (pl (ns.map D.int) 0 0 0 0)) := rfl
  obtain ⟨p1, a2, h1⟩ := st37 (s := .scr (ns.map D.int)) h0
  have a6 := st38 (.scr (ns.map D.int)) p1
  refine ⟨[], ?_⟩
  show finD (s_law [.v (.scr (ns.map D.int)), .un, .un, .un, .un, .un, .un, .un, .un, .un, .un, .un, .un, .un, .un, .un]) = _
  unfold s_law
  rw [seq_nx a1, seq_nx a2, a6]
  rfl
end Dv.waydues_k65_hunts_for_leaks

set_option maxRecDepth 100000
set_option maxHeartbeats 4000000
namespace Dv.waydues_k65_hunts_for_leaks
open PySem L2 Dv
def XCf (c0 : Addr) (c1 : Addr) (c2 : Addr) : Nat → Addr
  | 0 => c0
  | 1 => c1
  | 2 => c2
  | _ => 0
def spLaw (K : Fg) : Sp := fun vs H Q _ => ∃ (a : Addr) (ns : List Int), vs = [.ref a] ∧ SqL K H a (ns.map V.int) ∧ ns.length ≤ 63 ∧ ∀ H', Q (.bl true) H'
theorem reps_ints {K : Fg} {H : Hp} : ∀ ns : List Int, Reps K H (ns.map V.int) (ns.map D.int)
  | [] => .nil
  | n :: r => .cons (.int n) (reps_ints r)
theorem law_sp {K : Fg} {XC : Nat → Addr} (vs : List V) (H : Hp) (Q : VK) (E : XK) (h : spLaw K vs H Q E) : spF K XC 1 F_law vs H Q E := by
  obtain ⟨a, ns, rfl, hS, hl, k⟩ := h
  obtain ⟨e, he⟩ := law_true ns hl
  refine ⟨rfl, [], [.scr (ns.map D.int)], fun p hp => (nomatch hp), .cons (.scr (by rw [mask_nil]; exact hS) (reps_ints ns)) .nil, ?_⟩
  rw [he]
  intro v H' m r
  cases r
  exact k H'
theorem all_mk {l : PySem.W.OpenLaw} {w : World} {K : PySem.W.Frag} {h : Heap} {mg : Str → Option Value} {fa : Addr} (X : K.In h) (G : h.Ns mainGlobals mg) (hfa : mg "law" = some (.ref fa))
    {C0 : Addr}
    {C1 : Addr}
    {C2 : Addr}
    {t_FAR : Tok}
    {t_MOST : Tok}
    {a__law_pool : Addr} {oc__law_pool kV__law_pool doc__law_pool pm__law_pool cd__law_pool ct__law_pool : Value} {od__law_pool an__law_pool : Option Addr} {sl__law_pool : Array (Option Value)}
    {a__law_draw : Addr} {oc__law_draw kV__law_draw doc__law_draw pm__law_draw cd__law_draw ct__law_draw : Value} {od__law_draw an__law_draw : Option Addr} {sl__law_draw : Array (Option Value)}
    {a__law_fits : Addr} {oc__law_fits kV__law_fits doc__law_fits pm__law_fits cd__law_fits ct__law_fits : Value} {od__law_fits an__law_fits : Option Addr} {sl__law_fits : Array (Option Value)}
    {a_is_number : Addr} {oc_is_number kV_is_number doc_is_number pm_is_number cd_is_number ct_is_number : Value} {od_is_number an_is_number : Option Addr} {sl_is_number : Array (Option Value)}
    {T_is_number : Addr} {tc_is_number : Value} {td_is_number : Option Addr} {tn_is_number : Nat} {ts_is_number : Array (Option Value)} {u_is_number_0 : Tok} {u_is_number_1 : Tok}
    {a_checked_number : Addr} {oc_checked_number kV_checked_number doc_checked_number pm_checked_number cd_checked_number ct_checked_number : Value} {od_checked_number an_checked_number : Option Addr} {sl_checked_number : Array (Option Value)}
    {T_checked_number : Addr} {tc_checked_number : Value} {td_checked_number : Option Addr} {tn_checked_number : Nat} {ts_checked_number : Array (Option Value)} {u_checked_number_0 : Tok} {u_checked_number_1 : Tok}
    {a_reach : Addr} {oc_reach kV_reach doc_reach pm_reach cd_reach ct_reach : Value} {od_reach an_reach : Option Addr} {sl_reach : Array (Option Value)}
    {a_fewest : Addr} {oc_fewest kV_fewest doc_fewest pm_fewest cd_fewest ct_fewest : Value} {od_fewest an_fewest : Option Addr} {sl_fewest : Array (Option Value)}
    {a_first_test : Addr} {oc_first_test kV_first_test doc_first_test pm_first_test cd_first_test ct_first_test : Value} {od_first_test an_first_test : Option Addr} {sl_first_test : Array (Option Value)}
    {a_test_tree : Addr} {oc_test_tree kV_test_tree doc_test_tree pm_test_tree cd_test_tree ct_test_tree : Value} {od_test_tree an_test_tree : Option Addr} {sl_test_tree : Array (Option Value)}
    {a_hunt : Addr} {oc_hunt kV_hunt doc_hunt pm_hunt cd_hunt ct_hunt : Value} {od_hunt an_hunt : Option Addr} {sl_hunt : Array (Option Value)}
    {a_worst : Addr} {oc_worst kV_worst doc_worst pm_worst cd_worst ct_worst : Value} {od_worst an_worst : Option Addr} {sl_worst : Array (Option Value)}
    {a__law_refused : Addr} {oc__law_refused kV__law_refused doc__law_refused pm__law_refused cd__law_refused ct__law_refused : Value} {od__law_refused an__law_refused : Option Addr} {sl__law_refused : Array (Option Value)}
    {a__law_same : Addr} {oc__law_same kV__law_same doc__law_same pm__law_same cd__law_same ct__law_same : Value} {od__law_same an__law_same : Option Addr} {sl__law_same : Array (Option Value)}
    {a_told_by : Addr} {oc_told_by kV_told_by doc_told_by pm_told_by cd_told_by ct_told_by : Value} {od_told_by an_told_by : Option Addr} {sl_told_by : Array (Option Value)}
    {a_is_found : Addr} {oc_is_found kV_is_found doc_is_found pm_is_found cd_is_found ct_is_found : Value} {od_is_found an_is_found : Option Addr} {sl_is_found : Array (Option Value)}
    {a__law_pick : Addr} {oc__law_pick kV__law_pick doc__law_pick pm__law_pick cd__law_pick ct__law_pick : Value} {od__law_pick an__law_pick : Option Addr} {sl__law_pick : Array (Option Value)}
    {a_law : Addr} {oc_law kV_law doc_law pm_law cd_law ct_law : Value} {od_law an_law : Option Addr} {sl_law : Array (Option Value)}
    (aC0 : PySem.W.nsIn K mainGlobals "DuesError" = some (some (.ref C0)))
    (qC0 : PySem.W.excIn K C0 veTail "ValueError.__new__" = true)
    (kC0 : PySem.W.keepIn K (.ref C0) = true)
    (bC0 : PySem.W.subIn K (.ref C0) (.type "BaseException") = some true)
    (tC0 : PySem.W.typeIn K (.ref C0) = some (.type "type"))
    (iC0 : PySem.W.isClsIn K C0 = true)
    (aC1 : PySem.W.nsIn K mainGlobals "InvalidNumber" = some (some (.ref C1)))
    (qC1 : PySem.W.excIn K C1 veTail "ValueError.__new__" = true)
    (kC1 : PySem.W.keepIn K (.ref C1) = true)
    (bC1 : PySem.W.subIn K (.ref C1) (.type "BaseException") = some true)
    (tC1 : PySem.W.typeIn K (.ref C1) = some (.type "type"))
    (iC1 : PySem.W.isClsIn K C1 = true)
    (aC2 : PySem.W.nsIn K mainGlobals "InvalidPaper" = some (some (.ref C2)))
    (qC2 : PySem.W.excIn K C2 veTail "ValueError.__new__" = true)
    (kC2 : PySem.W.keepIn K (.ref C2) = true)
    (bC2 : PySem.W.subIn K (.ref C2) (.type "BaseException") = some true)
    (tC2 : PySem.W.typeIn K (.ref C2) = some (.type "type"))
    (iC2 : PySem.W.isClsIn K C2 = true)
    (s_0_0 : PySem.W.subIn K (.ref C0) (.ref C0) = some true)
    (s_0_1 : PySem.W.subIn K (.ref C0) (.ref C1) = some false)
    (s_0_2 : PySem.W.subIn K (.ref C0) (.ref C2) = some false)
    (s_0_ValueError : PySem.W.subIn K (.ref C0) (.type "ValueError") = some true)
    (s_1_0 : PySem.W.subIn K (.ref C1) (.ref C0) = some true)
    (s_1_1 : PySem.W.subIn K (.ref C1) (.ref C1) = some true)
    (s_1_2 : PySem.W.subIn K (.ref C1) (.ref C2) = some false)
    (s_1_ValueError : PySem.W.subIn K (.ref C1) (.type "ValueError") = some true)
    (s_2_0 : PySem.W.subIn K (.ref C2) (.ref C0) = some true)
    (s_2_1 : PySem.W.subIn K (.ref C2) (.ref C1) = some false)
    (s_2_2 : PySem.W.subIn K (.ref C2) (.ref C2) = some true)
    (s_2_ValueError : PySem.W.subIn K (.ref C2) (.type "ValueError") = some true)
    (e1_0 : PySem.W.findIn K (.ref C0) "__getattribute__" = some (some (.builtin "BaseException.__getattribute__")))
    (e2_0 : PySem.W.findIn K (.ref C0) "__getattr__" = some none)
    (e4_0 : PySem.W.hasDictIn K C0 = true)
    (e5_0 : PySem.W.findIn K (.ref C0) "__class__" = some (some (.builtin "object.__class__")))
    (e8_0 : PySem.W.mroIn K C0 (.type "object") = some true)
    (e1_1 : PySem.W.findIn K (.ref C1) "__getattribute__" = some (some (.builtin "BaseException.__getattribute__")))
    (e2_1 : PySem.W.findIn K (.ref C1) "__getattr__" = some none)
    (e4_1 : PySem.W.hasDictIn K C1 = true)
    (e5_1 : PySem.W.findIn K (.ref C1) "__class__" = some (some (.builtin "object.__class__")))
    (e8_1 : PySem.W.mroIn K C1 (.type "object") = some true)
    (e1_2 : PySem.W.findIn K (.ref C2) "__getattribute__" = some (some (.builtin "BaseException.__getattribute__")))
    (e2_2 : PySem.W.findIn K (.ref C2) "__getattr__" = some none)
    (e4_2 : PySem.W.hasDictIn K C2 = true)
    (e5_2 : PySem.W.findIn K (.ref C2) "__class__" = some (some (.builtin "object.__class__")))
    (e8_2 : PySem.W.mroIn K C2 (.type "object") = some true)
    (e6 : PySem.W.specialIn K (.builtin "object.__class__") "__get__" = some (some (.builtin "getset_descriptor.__get__")))
    (e7 : PySem.W.takesIn K (.builtin "object.__class__") = some true)
    (z_ValueError : PySem.W.nsIn K mainGlobals "ValueError" = some none)
    (z_abs : PySem.W.nsIn K mainGlobals "abs" = some none)
    (z_bool : PySem.W.nsIn K mainGlobals "bool" = some none)
    (z_dict : PySem.W.nsIn K mainGlobals "dict" = some none)
    (z_int : PySem.W.nsIn K mainGlobals "int" = some none)
    (z_isinstance : PySem.W.nsIn K mainGlobals "isinstance" = some none)
    (z_len : PySem.W.nsIn K mainGlobals "len" = some none)
    (z_list : PySem.W.nsIn K mainGlobals "list" = some none)
    (z_max : PySem.W.nsIn K mainGlobals "max" = some none)
    (z_min : PySem.W.nsIn K mainGlobals "min" = some none)
    (z_range : PySem.W.nsIn K mainGlobals "range" = some none)
    (z_sorted : PySem.W.nsIn K mainGlobals "sorted" = some none)
    (z_str : PySem.W.nsIn K mainGlobals "str" = some none)
    (z_tuple : PySem.W.nsIn K mainGlobals "tuple" = some none)
    (v_FAR : PySem.W.nsIn K mainGlobals "FAR" = some (some (.int 1000000 t_FAR)))
    (v_MOST : PySem.W.nsIn K mainGlobals "MOST" = some (some (.int 20 t_MOST)))
    (a__law_pool_ : PySem.W.nsIn K mainGlobals "_law_pool" = some (some (.ref a__law_pool)))
    (l__law_pool : K.lookup a__law_pool = some ⟨oc__law_pool, od__law_pool, .func (PySem.W.fnOf "_law_pool" "_law_pool" (defArgs (top 21)) (defBody (top 21)) (defScope (top 21)) .none kV__law_pool doc__law_pool pm__law_pool an__law_pool cd__law_pool ct__law_pool), sl__law_pool⟩)
    (c__law_pool : PySem.W.codeIn K cd__law_pool "_law_pool" = true)
    (k__law_pool : PySem.W.keepIn K (.ref a__law_pool) = true)
    (a__law_draw_ : PySem.W.nsIn K mainGlobals "_law_draw" = some (some (.ref a__law_draw)))
    (l__law_draw : K.lookup a__law_draw = some ⟨oc__law_draw, od__law_draw, .func (PySem.W.fnOf "_law_draw" "_law_draw" (defArgs (top 22)) (defBody (top 22)) (defScope (top 22)) .none kV__law_draw doc__law_draw pm__law_draw an__law_draw cd__law_draw ct__law_draw), sl__law_draw⟩)
    (c__law_draw : PySem.W.codeIn K cd__law_draw "_law_draw" = true)
    (k__law_draw : PySem.W.keepIn K (.ref a__law_draw) = true)
    (a__law_fits_ : PySem.W.nsIn K mainGlobals "_law_fits" = some (some (.ref a__law_fits)))
    (l__law_fits : K.lookup a__law_fits = some ⟨oc__law_fits, od__law_fits, .func (PySem.W.fnOf "_law_fits" "_law_fits" (defArgs (top 24)) (defBody (top 24)) (defScope (top 24)) .none kV__law_fits doc__law_fits pm__law_fits an__law_fits cd__law_fits ct__law_fits), sl__law_fits⟩)
    (c__law_fits : PySem.W.codeIn K cd__law_fits "_law_fits" = true)
    (k__law_fits : PySem.W.keepIn K (.ref a__law_fits) = true)
    (a_is_number_ : PySem.W.nsIn K mainGlobals "is_number" = some (some (.ref a_is_number)))
    (l_is_number : K.lookup a_is_number = some ⟨oc_is_number, od_is_number, .func (PySem.W.fnOf "is_number" "is_number" (defArgs (top 6)) (defBody (top 6)) (defScope (top 6)) (.ref T_is_number) kV_is_number doc_is_number pm_is_number an_is_number cd_is_number ct_is_number), sl_is_number⟩)
    (c_is_number : PySem.W.codeIn K cd_is_number "is_number" = true)
    (k_is_number : PySem.W.keepIn K (.ref a_is_number) = true)
    (d_is_number : K.lookup T_is_number = some ⟨tc_is_number, td_is_number, .seq #[.int 0 u_is_number_0, .int 1000000 u_is_number_1] tn_is_number, ts_is_number⟩)
    (a_checked_number_ : PySem.W.nsIn K mainGlobals "checked_number" = some (some (.ref a_checked_number)))
    (l_checked_number : K.lookup a_checked_number = some ⟨oc_checked_number, od_checked_number, .func (PySem.W.fnOf "checked_number" "checked_number" (defArgs (top 7)) (defBody (top 7)) (defScope (top 7)) (.ref T_checked_number) kV_checked_number doc_checked_number pm_checked_number an_checked_number cd_checked_number ct_checked_number), sl_checked_number⟩)
    (c_checked_number : PySem.W.codeIn K cd_checked_number "checked_number" = true)
    (k_checked_number : PySem.W.keepIn K (.ref a_checked_number) = true)
    (d_checked_number : K.lookup T_checked_number = some ⟨tc_checked_number, td_checked_number, .seq #[.int 0 u_checked_number_0, .int 1000000 u_checked_number_1] tn_checked_number, ts_checked_number⟩)
    (a_reach_ : PySem.W.nsIn K mainGlobals "reach" = some (some (.ref a_reach)))
    (l_reach : K.lookup a_reach = some ⟨oc_reach, od_reach, .func (PySem.W.fnOf "reach" "reach" (defArgs (top 11)) (defBody (top 11)) (defScope (top 11)) .none kV_reach doc_reach pm_reach an_reach cd_reach ct_reach), sl_reach⟩)
    (c_reach : PySem.W.codeIn K cd_reach "reach" = true)
    (k_reach : PySem.W.keepIn K (.ref a_reach) = true)
    (a_fewest_ : PySem.W.nsIn K mainGlobals "fewest" = some (some (.ref a_fewest)))
    (l_fewest : K.lookup a_fewest = some ⟨oc_fewest, od_fewest, .func (PySem.W.fnOf "fewest" "fewest" (defArgs (top 12)) (defBody (top 12)) (defScope (top 12)) .none kV_fewest doc_fewest pm_fewest an_fewest cd_fewest ct_fewest), sl_fewest⟩)
    (c_fewest : PySem.W.codeIn K cd_fewest "fewest" = true)
    (k_fewest : PySem.W.keepIn K (.ref a_fewest) = true)
    (a_first_test_ : PySem.W.nsIn K mainGlobals "first_test" = some (some (.ref a_first_test)))
    (l_first_test : K.lookup a_first_test = some ⟨oc_first_test, od_first_test, .func (PySem.W.fnOf "first_test" "first_test" (defArgs (top 13)) (defBody (top 13)) (defScope (top 13)) .none kV_first_test doc_first_test pm_first_test an_first_test cd_first_test ct_first_test), sl_first_test⟩)
    (c_first_test : PySem.W.codeIn K cd_first_test "first_test" = true)
    (k_first_test : PySem.W.keepIn K (.ref a_first_test) = true)
    (a_test_tree_ : PySem.W.nsIn K mainGlobals "test_tree" = some (some (.ref a_test_tree)))
    (l_test_tree : K.lookup a_test_tree = some ⟨oc_test_tree, od_test_tree, .func (PySem.W.fnOf "test_tree" "test_tree" (defArgs (top 18)) (defBody (top 18)) (defScope (top 18)) .none kV_test_tree doc_test_tree pm_test_tree an_test_tree cd_test_tree ct_test_tree), sl_test_tree⟩)
    (c_test_tree : PySem.W.codeIn K cd_test_tree "test_tree" = true)
    (k_test_tree : PySem.W.keepIn K (.ref a_test_tree) = true)
    (a_hunt_ : PySem.W.nsIn K mainGlobals "hunt" = some (some (.ref a_hunt)))
    (l_hunt : K.lookup a_hunt = some ⟨oc_hunt, od_hunt, .func (PySem.W.fnOf "hunt" "hunt" (defArgs (top 14)) (defBody (top 14)) (defScope (top 14)) .none kV_hunt doc_hunt pm_hunt an_hunt cd_hunt ct_hunt), sl_hunt⟩)
    (c_hunt : PySem.W.codeIn K cd_hunt "hunt" = true)
    (k_hunt : PySem.W.keepIn K (.ref a_hunt) = true)
    (a_worst_ : PySem.W.nsIn K mainGlobals "worst" = some (some (.ref a_worst)))
    (l_worst : K.lookup a_worst = some ⟨oc_worst, od_worst, .func (PySem.W.fnOf "worst" "worst" (defArgs (top 17)) (defBody (top 17)) (defScope (top 17)) .none kV_worst doc_worst pm_worst an_worst cd_worst ct_worst), sl_worst⟩)
    (c_worst : PySem.W.codeIn K cd_worst "worst" = true)
    (k_worst : PySem.W.keepIn K (.ref a_worst) = true)
    (a__law_refused_ : PySem.W.nsIn K mainGlobals "_law_refused" = some (some (.ref a__law_refused)))
    (l__law_refused : K.lookup a__law_refused = some ⟨oc__law_refused, od__law_refused, .func (PySem.W.fnOf "_law_refused" "_law_refused" (defArgs (top 25)) (defBody (top 25)) (defScope (top 25)) .none kV__law_refused doc__law_refused pm__law_refused an__law_refused cd__law_refused ct__law_refused), sl__law_refused⟩)
    (c__law_refused : PySem.W.codeIn K cd__law_refused "_law_refused" = true)
    (k__law_refused : PySem.W.keepIn K (.ref a__law_refused) = true)
    (a__law_same_ : PySem.W.nsIn K mainGlobals "_law_same" = some (some (.ref a__law_same)))
    (l__law_same : K.lookup a__law_same = some ⟨oc__law_same, od__law_same, .func (PySem.W.fnOf "_law_same" "_law_same" (defArgs (top 20)) (defBody (top 20)) (defScope (top 20)) .none kV__law_same doc__law_same pm__law_same an__law_same cd__law_same ct__law_same), sl__law_same⟩)
    (c__law_same : PySem.W.codeIn K cd__law_same "_law_same" = true)
    (k__law_same : PySem.W.keepIn K (.ref a__law_same) = true)
    (a_told_by_ : PySem.W.nsIn K mainGlobals "told_by" = some (some (.ref a_told_by)))
    (l_told_by : K.lookup a_told_by = some ⟨oc_told_by, od_told_by, .func (PySem.W.fnOf "told_by" "told_by" (defArgs (top 15)) (defBody (top 15)) (defScope (top 15)) .none kV_told_by doc_told_by pm_told_by an_told_by cd_told_by ct_told_by), sl_told_by⟩)
    (c_told_by : PySem.W.codeIn K cd_told_by "told_by" = true)
    (k_told_by : PySem.W.keepIn K (.ref a_told_by) = true)
    (a_is_found_ : PySem.W.nsIn K mainGlobals "is_found" = some (some (.ref a_is_found)))
    (l_is_found : K.lookup a_is_found = some ⟨oc_is_found, od_is_found, .func (PySem.W.fnOf "is_found" "is_found" (defArgs (top 16)) (defBody (top 16)) (defScope (top 16)) .none kV_is_found doc_is_found pm_is_found an_is_found cd_is_found ct_is_found), sl_is_found⟩)
    (c_is_found : PySem.W.codeIn K cd_is_found "is_found" = true)
    (k_is_found : PySem.W.keepIn K (.ref a_is_found) = true)
    (a__law_pick_ : PySem.W.nsIn K mainGlobals "_law_pick" = some (some (.ref a__law_pick)))
    (l__law_pick : K.lookup a__law_pick = some ⟨oc__law_pick, od__law_pick, .func (PySem.W.fnOf "_law_pick" "_law_pick" (defArgs (top 23)) (defBody (top 23)) (defScope (top 23)) .none kV__law_pick doc__law_pick pm__law_pick an__law_pick cd__law_pick ct__law_pick), sl__law_pick⟩)
    (c__law_pick : PySem.W.codeIn K cd__law_pick "_law_pick" = true)
    (k__law_pick : PySem.W.keepIn K (.ref a__law_pick) = true)
    (a_law_ : PySem.W.nsIn K mainGlobals "law" = some (some (.ref a_law)))
    (l_law : K.lookup a_law = some ⟨oc_law, od_law, .func (PySem.W.fnOf "law" "law" (defArgs (top 26)) (defBody (top 26)) (defScope (top 26)) .none kV_law doc_law pm_law an_law cd_law ct_law), sl_law⟩)
    (c_law : PySem.W.codeIn K cd_law "law" = true)
    (k_law : PySem.W.keepIn K (.ref a_law) = true) :
    ∃ fd : FuncData, (∀ (s : Shared) (v : Value), BindsTo s fd ⟨[v], []⟩ [("script", v)]) ∧ ∀ base : Heap, K.In base → base.Ns mainGlobals mg → FnOk l.prog w K mg base (L2.CX l.prog w) 15 fa fd ["script"] (spLaw K) := by
  have T : Txt K mg (XCf C0 C1 C2) :=
    { z_ValueError := PySem.W.mg_none_of X G z_ValueError,
      z_abs := PySem.W.mg_none_of X G z_abs,
      z_bool := PySem.W.mg_none_of X G z_bool,
      z_dict := PySem.W.mg_none_of X G z_dict,
      z_int := PySem.W.mg_none_of X G z_int,
      z_isinstance := PySem.W.mg_none_of X G z_isinstance,
      z_len := PySem.W.mg_none_of X G z_len,
      z_list := PySem.W.mg_none_of X G z_list,
      z_max := PySem.W.mg_none_of X G z_max,
      z_min := PySem.W.mg_none_of X G z_min,
      z_range := PySem.W.mg_none_of X G z_range,
      z_sorted := PySem.W.mg_none_of X G z_sorted,
      z_str := PySem.W.mg_none_of X G z_str,
      z_tuple := PySem.W.mg_none_of X G z_tuple,
      v_FAR := ⟨_, PySem.W.mg_of X G v_FAR⟩,
      v_MOST := ⟨_, PySem.W.mg_of X G v_MOST⟩,
      x_DuesError := ⟨PySem.W.mg_of X G aC0, qC0, kC0, bC0, tC0⟩,
      x_InvalidNumber := ⟨PySem.W.mg_of X G aC1, qC1, kC1, bC1, tC1⟩,
      x_InvalidPaper := ⟨PySem.W.mg_of X G aC2, qC2, kC2, bC2, tC2⟩,
      em_DuesError := fun k hk => match k, hk with | 0, _ => exm_by bC0 iC0 tC0 s_0_0 | 1, _ => exm_by bC0 iC0 tC0 s_1_0 | 2, _ => exm_by bC0 iC0 tC0 s_2_0,
      ki_InvalidPaper := fun k hk => match k, hk with | 0, _ => kit_by s_2_2 iC2 tC2 s_0_2 | 1, _ => kit_by s_2_2 iC2 tC2 s_1_2 | 2, _ => kit_by s_2_2 iC2 tC2 s_2_2,
      ki_ValueError := fun k hk => match k, hk with | 0, _ => kit_ty (by decide +kernel) s_0_ValueError | 1, _ => kit_ty (by decide +kernel) s_1_ValueError | 2, _ => kit_ty (by decide +kernel) s_2_ValueError,
      hE := fun k hk => match k, hk with | 0, _ => ⟨e1_0, e2_0, bC0, e4_0, e5_0, e6, e7, e8_0⟩ | 1, _ => ⟨e1_1, e2_1, bC1, e4_1, e5_1, e6, e7, e8_1⟩ | 2, _ => ⟨e1_2, e2_2, bC2, e4_2, e5_2, e6, e7, e8_2⟩ }
  have e : Value.ref fa = .ref a_law := Option.some.inj (hfa.symm.trans (PySem.W.mg_of X G a_law_))
  have e : fa = a_law := by injection e
  subst fa
  have F__law_pool : FunD K "_law_pool" "_law_pool" (defArgs (top 21)) (defBody (top 21)) (defScope (top 21)) [] [] a__law_pool _ := ⟨⟨_, _, _, _, _, _, _, _, _, _, rfl, l__law_pool, c__law_pool, .inl ⟨rfl, rfl⟩, .inl rfl⟩, k__law_pool⟩
  have b__law_pool := F__law_pool.bindsN (ps := ["script"]) fun _ _ _ _ _ _ us hl => match us, hl with | [_], _ => rfl
  have F__law_draw : FunD K "_law_draw" "_law_draw" (defArgs (top 22)) (defBody (top 22)) (defScope (top 22)) [] [] a__law_draw _ := ⟨⟨_, _, _, _, _, _, _, _, _, _, rfl, l__law_draw, c__law_draw, .inl ⟨rfl, rfl⟩, .inl rfl⟩, k__law_draw⟩
  have b__law_draw := F__law_draw.bindsN (ps := ["pool", "many"]) fun _ _ _ _ _ _ us hl => match us, hl with | [_, _], _ => rfl
  have F__law_fits : FunD K "_law_fits" "_law_fits" (defArgs (top 24)) (defBody (top 24)) (defScope (top 24)) [] [] a__law_fits _ := ⟨⟨_, _, _, _, _, _, _, _, _, _, rfl, l__law_fits, c__law_fits, .inl ⟨rfl, rfl⟩, .inl rfl⟩, k__law_fits⟩
  have b__law_fits := F__law_fits.bindsN (ps := ["places", "tests", "leak"]) fun _ _ _ _ _ _ us hl => match us, hl with | [_, _, _], _ => rfl
  have F_is_number : FunD K "is_number" "is_number" (defArgs (top 6)) (defBody (top 6)) (defScope (top 6)) [.int 0, .int 1000000] [] a_is_number _ := ⟨⟨_, _, _, _, _, _, _, _, _, _, rfl, l_is_number, c_is_number, .inr ⟨(by intro z; cases z), _, _, [_, _], _, rfl, d_is_number, rfl, .cons ⟨_, rfl⟩ (.cons ⟨_, rfl⟩ (.nil))⟩, .inl rfl⟩, k_is_number⟩
  obtain ⟨ds_is_number_0, dv_is_number_0, b_is_number_0⟩ := F_is_number.binds1 (ps := ["value", "least", "most"]) 3 2 (by intro z; cases z) (by decide) fun _ _ _ _ _ _ _ us its hl hi => match us, hl, its, hi with | [_, _, _], _, [_, _], _ => ⟨_, rfl, rfl⟩
  have F_checked_number : FunD K "checked_number" "checked_number" (defArgs (top 7)) (defBody (top 7)) (defScope (top 7)) [.int 0, .int 1000000] [] a_checked_number _ := ⟨⟨_, _, _, _, _, _, _, _, _, _, rfl, l_checked_number, c_checked_number, .inr ⟨(by intro z; cases z), _, _, [_, _], _, rfl, d_checked_number, rfl, .cons ⟨_, rfl⟩ (.cons ⟨_, rfl⟩ (.nil))⟩, .inl rfl⟩, k_checked_number⟩
  obtain ⟨ds_checked_number_0, dv_checked_number_0, b_checked_number_0⟩ := F_checked_number.binds1 (ps := ["value", "least", "most"]) 3 2 (by intro z; cases z) (by decide) fun _ _ _ _ _ _ _ us its hl hi => match us, hl, its, hi with | [_, _, _], _, [_, _], _ => ⟨_, rfl, rfl⟩
  have F_reach : FunD K "reach" "reach" (defArgs (top 11)) (defBody (top 11)) (defScope (top 11)) [] [] a_reach _ := ⟨⟨_, _, _, _, _, _, _, _, _, _, rfl, l_reach, c_reach, .inl ⟨rfl, rfl⟩, .inl rfl⟩, k_reach⟩
  have b_reach := F_reach.bindsN (ps := ["wrong", "tests"]) fun _ _ _ _ _ _ us hl => match us, hl with | [_, _], _ => rfl
  have F_fewest : FunD K "fewest" "fewest" (defArgs (top 12)) (defBody (top 12)) (defScope (top 12)) [] [] a_fewest _ := ⟨⟨_, _, _, _, _, _, _, _, _, _, rfl, l_fewest, c_fewest, .inl ⟨rfl, rfl⟩, .inl rfl⟩, k_fewest⟩
  have b_fewest := F_fewest.bindsN (ps := ["places", "wrong"]) fun _ _ _ _ _ _ us hl => match us, hl with | [_, _], _ => rfl
  have F_first_test : FunD K "first_test" "first_test" (defArgs (top 13)) (defBody (top 13)) (defScope (top 13)) [] [] a_first_test _ := ⟨⟨_, _, _, _, _, _, _, _, _, _, rfl, l_first_test, c_first_test, .inl ⟨rfl, rfl⟩, .inl rfl⟩, k_first_test⟩
  have b_first_test := F_first_test.bindsN (ps := ["places", "wrong"]) fun _ _ _ _ _ _ us hl => match us, hl with | [_, _], _ => rfl
  have F_test_tree : FunD K "test_tree" "test_tree" (defArgs (top 18)) (defBody (top 18)) (defScope (top 18)) [] [] a_test_tree _ := ⟨⟨_, _, _, _, _, _, _, _, _, _, rfl, l_test_tree, c_test_tree, .inl ⟨rfl, rfl⟩, .inl rfl⟩, k_test_tree⟩
  have b_test_tree := F_test_tree.bindsN (ps := ["places", "wrong"]) fun _ _ _ _ _ _ us hl => match us, hl with | [_, _], _ => rfl
  have F_hunt : FunD K "hunt" "hunt" (defArgs (top 14)) (defBody (top 14)) (defScope (top 14)) [] [] a_hunt _ := ⟨⟨_, _, _, _, _, _, _, _, _, _, rfl, l_hunt, c_hunt, .inl ⟨rfl, rfl⟩, .inl rfl⟩, k_hunt⟩
  have b_hunt := F_hunt.bindsN (ps := ["places", "wrong", "leak"]) fun _ _ _ _ _ _ us hl => match us, hl with | [_, _, _], _ => rfl
  have F_worst : FunD K "worst" "worst" (defArgs (top 17)) (defBody (top 17)) (defScope (top 17)) [] [] a_worst _ := ⟨⟨_, _, _, _, _, _, _, _, _, _, rfl, l_worst, c_worst, .inl ⟨rfl, rfl⟩, .inl rfl⟩, k_worst⟩
  have b_worst := F_worst.bindsN (ps := ["places", "wrong"]) fun _ _ _ _ _ _ us hl => match us, hl with | [_, _], _ => rfl
  have F__law_refused : FunD K "_law_refused" "_law_refused" (defArgs (top 25)) (defBody (top 25)) (defScope (top 25)) [] [] a__law_refused _ := ⟨⟨_, _, _, _, _, _, _, _, _, _, rfl, l__law_refused, c__law_refused, .inl ⟨rfl, rfl⟩, .inl rfl⟩, k__law_refused⟩
  have b__law_refused := F__law_refused.bindsN (ps := ["choice", "places", "wrong"]) fun _ _ _ _ _ _ us hl => match us, hl with | [_, _, _], _ => rfl
  have F__law_same : FunD K "_law_same" "_law_same" (defArgs (top 20)) (defBody (top 20)) (defScope (top 20)) [] [] a__law_same _ := ⟨⟨_, _, _, _, _, _, _, _, _, _, rfl, l__law_same, c__law_same, .inl ⟨rfl, rfl⟩, .inl rfl⟩, k__law_same⟩
  have b__law_same := F__law_same.bindsN (ps := ["actual", "due"]) fun _ _ _ _ _ _ us hl => match us, hl with | [_, _], _ => rfl
  have F_told_by : FunD K "told_by" "told_by" (defArgs (top 15)) (defBody (top 15)) (defScope (top 15)) [] [] a_told_by _ := ⟨⟨_, _, _, _, _, _, _, _, _, _, rfl, l_told_by, c_told_by, .inl ⟨rfl, rfl⟩, .inl rfl⟩, k_told_by⟩
  have b_told_by := F_told_by.bindsN (ps := ["places", "tests"]) fun _ _ _ _ _ _ us hl => match us, hl with | [_, _], _ => rfl
  have F_is_found : FunD K "is_found" "is_found" (defArgs (top 16)) (defBody (top 16)) (defScope (top 16)) [] [] a_is_found _ := ⟨⟨_, _, _, _, _, _, _, _, _, _, rfl, l_is_found, c_is_found, .inl ⟨rfl, rfl⟩, .inl rfl⟩, k_is_found⟩
  have b_is_found := F_is_found.bindsN (ps := ["places", "wrong", "tests"]) fun _ _ _ _ _ _ us hl => match us, hl with | [_, _, _], _ => rfl
  have F__law_pick : FunD K "_law_pick" "_law_pick" (defArgs (top 23)) (defBody (top 23)) (defScope (top 23)) [] [] a__law_pick _ := ⟨⟨_, _, _, _, _, _, _, _, _, _, rfl, l__law_pick, c__law_pick, .inl ⟨rfl, rfl⟩, .inl rfl⟩, k__law_pick⟩
  have b__law_pick := F__law_pick.bindsN (ps := ["pool", "rows"]) fun _ _ _ _ _ _ us hl => match us, hl with | [_, _], _ => rfl
  have F_law : FunD K "law" "law" (defArgs (top 26)) (defBody (top 26)) (defScope (top 26)) [] [] a_law _ := ⟨⟨_, _, _, _, _, _, _, _, _, _, rfl, l_law, c_law, .inl ⟨rfl, rfl⟩, .inl rfl⟩, k_law⟩
  have b_law := F_law.bindsN (ps := ["script"]) fun _ _ _ _ _ _ us hl => match us, hl with | [_], _ => rfl
  refine ⟨_, fun s v => F_law.bindsA (ps := ["script"]) (fun _ _ _ _ _ _ us hl => match us, hl with | [_], _ => rfl) s [v] rfl, fun base _ _ => ?_⟩
  have G__law_pool := ok__law_pool (P := l.prog) (w := w) (base := base) F__law_pool T 
  have C__law_pool_0 : CalD l.prog w K mg base 2 "_law_pool" (spFr K (XCf C0 C1 C2) 1 Dv.waydues_k65_hunts_for_leaks.F__law_pool) [] := ⟨a__law_pool, _, ["script"], [], [], G__law_pool, PySem.W.mg_of X G a__law_pool_, k__law_pool, b__law_pool, .nil, fun _ => .nil⟩
  have G__law_draw := ok__law_draw (P := l.prog) (w := w) (base := base) F__law_draw T 
  have C__law_draw_0 : CalD l.prog w K mg base 2 "_law_draw" (spIO K (XCf C0 C1 C2) 2 Dv.waydues_k65_hunts_for_leaks.F__law_draw) [] := ⟨a__law_draw, _, ["pool", "many"], [], [], G__law_draw, PySem.W.mg_of X G a__law_draw_, k__law_draw, b__law_draw, .nil, fun _ => .nil⟩
  have G__law_fits := ok__law_fits (P := l.prog) (w := w) (base := base) F__law_fits T 
  have C__law_fits_0 : CalD l.prog w K mg base 2 "_law_fits" (spF K (XCf C0 C1 C2) 3 Dv.waydues_k65_hunts_for_leaks.F__law_fits) [] := ⟨a__law_fits, _, ["places", "tests", "leak"], [], [], G__law_fits, PySem.W.mg_of X G a__law_fits_, k__law_fits, b__law_fits, .nil, fun _ => .nil⟩
  have G_is_number := ok_is_number (P := l.prog) (w := w) (base := base) F_is_number T 
  have C_is_number_0 : CalD l.prog w K mg base 2 "is_number" (spF K (XCf C0 C1 C2) 3 Dv.waydues_k65_hunts_for_leaks.F_is_number) [] := ⟨a_is_number, _, ["value", "least", "most"], ds_is_number_0, _, G_is_number, PySem.W.mg_of X G a_is_number_, k_is_number, b_is_number_0, dv_is_number_0, fun _ => .nil⟩
  have G_checked_number := ok_checked_number (P := l.prog) (w := w) (base := base) F_checked_number T C_is_number_0
  have C_checked_number_0 : CalD l.prog w K mg base 3 "checked_number" (spF K (XCf C0 C1 C2) 3 Dv.waydues_k65_hunts_for_leaks.F_checked_number) [] := ⟨a_checked_number, _, ["value", "least", "most"], ds_checked_number_0, _, G_checked_number, PySem.W.mg_of X G a_checked_number_, k_checked_number, b_checked_number_0, dv_checked_number_0, fun _ => .nil⟩
  have G_reach := ok_reach (P := l.prog) (w := w) (base := base) F_reach T C_checked_number_0
  have C_reach_0 : CalD l.prog w K mg base 4 "reach" (spF K (XCf C0 C1 C2) 2 Dv.waydues_k65_hunts_for_leaks.F_reach) [] := ⟨a_reach, _, ["wrong", "tests"], [], [], G_reach, PySem.W.mg_of X G a_reach_, k_reach, b_reach, .nil, fun _ => .nil⟩
  have G_fewest := ok_fewest (P := l.prog) (w := w) (base := base) F_fewest T C_checked_number_0 C_reach_0
  have C_fewest_0 : CalD l.prog w K mg base 5 "fewest" (spF K (XCf C0 C1 C2) 2 Dv.waydues_k65_hunts_for_leaks.F_fewest) [] := ⟨a_fewest, _, ["places", "wrong"], [], [], G_fewest, PySem.W.mg_of X G a_fewest_, k_fewest, b_fewest, .nil, fun _ => .nil⟩
  have G_first_test := ok_first_test (P := l.prog) (w := w) (base := base) F_first_test T C_fewest_0 C_reach_0
  have C_first_test_0 : CalD l.prog w K mg base 6 "first_test" (spF K (XCf C0 C1 C2) 2 Dv.waydues_k65_hunts_for_leaks.F_first_test) [] := ⟨a_first_test, _, ["places", "wrong"], [], [], G_first_test, PySem.W.mg_of X G a_first_test_, k_first_test, b_first_test, .nil, fun _ => .nil⟩
  have G_test_tree := ok_test_tree (P := l.prog) (w := w) (base := base) F_test_tree T C_fewest_0 C_first_test_0
  have C_test_tree_0 : CalD l.prog w K mg base 7 "test_tree" (spF K (XCf C0 C1 C2) 2 Dv.waydues_k65_hunts_for_leaks.F_test_tree) [] := ⟨a_test_tree, _, ["places", "wrong"], [], [], G_test_tree, PySem.W.mg_of X G a_test_tree_, k_test_tree, b_test_tree, .nil, fun _ => .nil⟩
  have G_hunt := ok_hunt (P := l.prog) (w := w) (base := base) F_hunt T C_is_number_0 C_first_test_0
  have C_hunt_0 : CalD l.prog w K mg base 7 "hunt" (spF K (XCf C0 C1 C2) 3 Dv.waydues_k65_hunts_for_leaks.F_hunt) [] := ⟨a_hunt, _, ["places", "wrong", "leak"], [], [], G_hunt, PySem.W.mg_of X G a_hunt_, k_hunt, b_hunt, .nil, fun _ => .nil⟩
  have G_worst := ok_worst (P := l.prog) (w := w) (base := base) F_worst T C_fewest_0 C_hunt_0
  have C_worst_0 : CalD l.prog w K mg base 8 "worst" (spF K (XCf C0 C1 C2) 2 Dv.waydues_k65_hunts_for_leaks.F_worst) [] := ⟨a_worst, _, ["places", "wrong"], [], [], G_worst, PySem.W.mg_of X G a_worst_, k_worst, b_worst, .nil, fun _ => .nil⟩
  have G__law_refused := ok__law_refused (P := l.prog) (w := w) (base := base) F__law_refused T C_test_tree_0 C_worst_0
  have C__law_refused_0 : CalD l.prog w K mg base 9 "_law_refused" (spF K (XCf C0 C1 C2) 3 Dv.waydues_k65_hunts_for_leaks.F__law_refused) [] := ⟨a__law_refused, _, ["choice", "places", "wrong"], [], [], G__law_refused, PySem.W.mg_of X G a__law_refused_, k__law_refused, b__law_refused, .nil, fun _ => .nil⟩
  have G__law_same := ok__law_same (P := l.prog) (w := w) (base := base) F__law_same T (PySem.W.mg_of X G a__law_same_) k__law_same b__law_same  12
  have C__law_same_0 : CalD l.prog w K mg base 14 "_law_same" (spF K (XCf C0 C1 C2) 2 (Dv.waydues_k65_hunts_for_leaks.F__law_same 12)) [] := ⟨a__law_same, _, ["actual", "due"], [], [], G__law_same, PySem.W.mg_of X G a__law_same_, k__law_same, b__law_same, .nil, fun _ => .nil⟩
  have G_told_by := ok_told_by (P := l.prog) (w := w) (base := base) F_told_by T 
  have C_told_by_0 : CalD l.prog w K mg base 2 "told_by" (spF K (XCf C0 C1 C2) 2 Dv.waydues_k65_hunts_for_leaks.F_told_by) [] := ⟨a_told_by, _, ["places", "tests"], [], [], G_told_by, PySem.W.mg_of X G a_told_by_, k_told_by, b_told_by, .nil, fun _ => .nil⟩
  have G_is_found := ok_is_found (P := l.prog) (w := w) (base := base) F_is_found T C_told_by_0
  have C_is_found_0 : CalD l.prog w K mg base 3 "is_found" (spF K (XCf C0 C1 C2) 3 Dv.waydues_k65_hunts_for_leaks.F_is_found) [] := ⟨a_is_found, _, ["places", "wrong", "tests"], [], [], G_is_found, PySem.W.mg_of X G a_is_found_, k_is_found, b_is_found, .nil, fun _ => .nil⟩
  have G__law_pick := ok__law_pick (P := l.prog) (w := w) (base := base) F__law_pick T C__law_draw_0
  have C__law_pick_0 : CalD l.prog w K mg base 3 "_law_pick" (spIO K (XCf C0 C1 C2) 2 Dv.waydues_k65_hunts_for_leaks.F__law_pick) [] := ⟨a__law_pick, _, ["pool", "rows"], [], [], G__law_pick, PySem.W.mg_of X G a__law_pick_, k__law_pick, b__law_pick, .nil, fun _ => .nil⟩
  have G_law := ok_law (P := l.prog) (w := w) (base := base) F_law T C__law_pool_0 C__law_draw_0 C__law_pick_0 C_fewest_0 C__law_refused_0 C_hunt_0 C_is_found_0 C_test_tree_0 C_first_test_0 C__law_same_0 C__law_fits_0 C_told_by_0
  exact G_law.imp law_sp
theorem walk {l : PySem.W.OpenLaw} {q : Program} {loose : List Str} {XP : (Str → Option Value) → Heap → Prop} {YP : World → Heap → Prop} {d : DefRec} {K : Params → PySem.W.Frag} (hn : l.most = some 63) (hdf : d.params.defaults = [])
    (hY : ∀ (w : World) (h : Heap), YP w h → (K w.params).In h)
    (F : ∀ (w : World) (mg : Str → Option Value) (fa : Addr) (h : Heap), (K w.params).In h → h.Ns mainGlobals mg → mg d.name = some (.ref fa) →
      ∃ fd : FuncData, (∀ (s : Shared) (u : Value), BindsTo s fd ⟨[u], []⟩ [("script", u)]) ∧ ∀ base : Heap, (K w.params).In base → base.Ns mainGlobals mg → FnOk l.prog w (K w.params) mg base (L2.CX l.prog w) 15 fa fd ["script"] (spLaw (K w.params))) :
    PySem.W.WalkO q loose XP YP l.row.toRowW d [] (fun f vs => PySem.call f vs) :=
  L2.walk_of (n := 63) (k := 15) (x := "script") (CX := fun w => L2.CX l.prog w) (sp := fun w => spLaw (K w.params)) hn (by decide) hdf ⟨rfl, by decide, by decide⟩ hY F (fun _ _ a ns hl _ hS => ⟨a, ns, rfl, hS, hl, fun _ => rfl⟩) (fun w H s e s' h => by obtain ⟨_, _, _, _, _, _, _, _, _, _, _, _, z⟩ := h; exact z)
end Dv.waydues_k65_hunts_for_leaks
open PySem PySem.W PyProof.Rows
set_option maxRecDepth 100000 in
set_option maxHeartbeats 0 in
theorem PySem.Challenge.cw_waydues_k65_hunts_for_leaks_holds : PySem.Challenge.rw_waydues_k65_hunts_for_leaks.Holds := by
  w_on; o_law; k_head; (case hw => w_witness2)
  k_fill
  refine Dv.waydues_k65_hunts_for_leaks.walk (l := PySem.Challenge.rw_waydues_k65_hunts_for_leaks) rfl rfl (fun w h Y => PySem.W.kIn_of Y) ?F
  case F =>
    intro w mg fa h KX G hmg
    refine' Dv.waydues_k65_hunts_for_leaks.all_mk KX G hmg ?aC0 ?qC0 ?kC0 ?bC0 ?tC0 ?iC0 ?aC1 ?qC1 ?kC1 ?bC1 ?tC1 ?iC1 ?aC2 ?qC2 ?kC2 ?bC2 ?tC2 ?iC2 ?s_0_0 ?s_0_1 ?s_0_2 ?s_0_ValueError ?s_1_0 ?s_1_1 ?s_1_2 ?s_1_ValueError ?s_2_0 ?s_2_1 ?s_2_2 ?s_2_ValueError ?e1_0 ?e2_0 ?e4_0 ?e5_0 ?e8_0 ?e1_1 ?e2_1 ?e4_1 ?e5_1 ?e8_1 ?e1_2 ?e2_2 ?e4_2 ?e5_2 ?e8_2 ?e6 ?e7 ?z_ValueError ?z_abs ?z_bool ?z_dict ?z_int ?z_isinstance ?z_len ?z_list ?z_max ?z_min ?z_range ?z_sorted ?z_str ?z_tuple ?v_FAR ?v_MOST ?a__law_pool_ ?l__law_pool ?c__law_pool ?k__law_pool ?a__law_draw_ ?l__law_draw ?c__law_draw ?k__law_draw ?a__law_fits_ ?l__law_fits ?c__law_fits ?k__law_fits ?a_is_number_ ?l_is_number ?c_is_number ?k_is_number ?d_is_number ?a_checked_number_ ?l_checked_number ?c_checked_number ?k_checked_number ?d_checked_number ?a_reach_ ?l_reach ?c_reach ?k_reach ?a_fewest_ ?l_fewest ?c_fewest ?k_fewest ?a_first_test_ ?l_first_test ?c_first_test ?k_first_test ?a_test_tree_ ?l_test_tree ?c_test_tree ?k_test_tree ?a_hunt_ ?l_hunt ?c_hunt ?k_hunt ?a_worst_ ?l_worst ?c_worst ?k_worst ?a__law_refused_ ?l__law_refused ?c__law_refused ?k__law_refused ?a__law_same_ ?l__law_same ?c__law_same ?k__law_same ?a_told_by_ ?l_told_by ?c_told_by ?k_told_by ?a_is_found_ ?l_is_found ?c_is_found ?k_is_found ?a__law_pick_ ?l__law_pick ?c__law_pick ?k__law_pick ?a_law_ ?l_law ?c_law ?k_law
    (case aC0 => k_is)
    (case qC0 => k_exc)
    (case kC0 => k_is)
    (case bC0 => k_is)
    (case tC0 => k_is)
    (case iC0 => k_is)
    (case aC1 => k_is)
    (case qC1 => k_exc)
    (case kC1 => k_is)
    (case bC1 => k_is)
    (case tC1 => k_is)
    (case iC1 => k_is)
    (case aC2 => k_is)
    (case qC2 => k_exc)
    (case kC2 => k_is)
    (case bC2 => k_is)
    (case tC2 => k_is)
    (case iC2 => k_is)
    (case s_0_0 => k_is)
    (case s_0_1 => k_is)
    (case s_0_2 => k_is)
    (case s_0_ValueError => k_is)
    (case s_1_0 => k_is)
    (case s_1_1 => k_is)
    (case s_1_2 => k_is)
    (case s_1_ValueError => k_is)
    (case s_2_0 => k_is)
    (case s_2_1 => k_is)
    (case s_2_2 => k_is)
    (case s_2_ValueError => k_is)
    (case e1_0 => k_is)
    (case e2_0 => k_is)
    (case e4_0 => k_is)
    (case e5_0 => k_is)
    (case e8_0 => k_is)
    (case e1_1 => k_is)
    (case e2_1 => k_is)
    (case e4_1 => k_is)
    (case e5_1 => k_is)
    (case e8_1 => k_is)
    (case e1_2 => k_is)
    (case e2_2 => k_is)
    (case e4_2 => k_is)
    (case e5_2 => k_is)
    (case e8_2 => k_is)
    (case e6 => k_is)
    (case e7 => k_is)
    (case z_ValueError => k_is)
    (case z_abs => k_is)
    (case z_bool => k_is)
    (case z_dict => k_is)
    (case z_int => k_is)
    (case z_isinstance => k_is)
    (case z_len => k_is)
    (case z_list => k_is)
    (case z_max => k_is)
    (case z_min => k_is)
    (case z_range => k_is)
    (case z_sorted => k_is)
    (case z_str => k_is)
    (case z_tuple => k_is)
    (case v_FAR => k_is)
    (case v_MOST => k_is)
    (case a__law_pool_ => k_is)
    (case l__law_pool => k_is)
    (case c__law_pool => k_is)
    (case k__law_pool => k_is)
    (case a__law_draw_ => k_is)
    (case l__law_draw => k_is)
    (case c__law_draw => k_is)
    (case k__law_draw => k_is)
    (case a__law_fits_ => k_is)
    (case l__law_fits => k_is)
    (case c__law_fits => k_is)
    (case k__law_fits => k_is)
    (case a_is_number_ => k_is)
    (case l_is_number => k_is)
    (case c_is_number => k_is)
    (case k_is_number => k_is)
    (case d_is_number => k_is)
    (case a_checked_number_ => k_is)
    (case l_checked_number => k_is)
    (case c_checked_number => k_is)
    (case k_checked_number => k_is)
    (case d_checked_number => k_is)
    (case a_reach_ => k_is)
    (case l_reach => k_is)
    (case c_reach => k_is)
    (case k_reach => k_is)
    (case a_fewest_ => k_is)
    (case l_fewest => k_is)
    (case c_fewest => k_is)
    (case k_fewest => k_is)
    (case a_first_test_ => k_is)
    (case l_first_test => k_is)
    (case c_first_test => k_is)
    (case k_first_test => k_is)
    (case a_test_tree_ => k_is)
    (case l_test_tree => k_is)
    (case c_test_tree => k_is)
    (case k_test_tree => k_is)
    (case a_hunt_ => k_is)
    (case l_hunt => k_is)
    (case c_hunt => k_is)
    (case k_hunt => k_is)
    (case a_worst_ => k_is)
    (case l_worst => k_is)
    (case c_worst => k_is)
    (case k_worst => k_is)
    (case a__law_refused_ => k_is)
    (case l__law_refused => k_is)
    (case c__law_refused => k_is)
    (case k__law_refused => k_is)
    (case a__law_same_ => k_is)
    (case l__law_same => k_is)
    (case c__law_same => k_is)
    (case k__law_same => k_is)
    (case a_told_by_ => k_is)
    (case l_told_by => k_is)
    (case c_told_by => k_is)
    (case k_told_by => k_is)
    (case a_is_found_ => k_is)
    (case l_is_found => k_is)
    (case c_is_found => k_is)
    (case k_is_found => k_is)
    (case a__law_pick_ => k_is)
    (case l__law_pick => k_is)
    (case c__law_pick => k_is)
    (case k__law_pick => k_is)
    (case a_law_ => k_is)
    (case l_law => k_is)
    (case c_law => k_is)
    (case k_law => k_is)
#print axioms PySem.Challenge.cw_waydues_k65_hunts_for_leaks_holds

