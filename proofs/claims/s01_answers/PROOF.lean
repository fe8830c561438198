import PyProof.Rows.All
import Wide.All
import OpenK.AllK
import Wide.FinOn
import PyProof.EqAt
import PyProof.EqKinds
import PyProof.TupleCall
import Open.SpecLaws
import KE.OsGo
import HandS.ForSpec
import HandS.ForMost
import HandS.TryMany
import HandS.ExcInit
import HandS.ExcField
import HandS.Walk
import HandS.More
import HandS.Flow
import HandS.Zip
import HandS.SortRule
import PySem.Challenge.RW_coatracks_s01_answers
section
set_option linter.all false
/-! The matching: the program's search for one claim more, against the specification's count of all subsets. -/
namespace Ck

/-! ### lists -/
theorem lookup_none_of {α β : Type} [BEq α] [LawfulBEq α] {l : List (α × β)} {k : α} : l.lookup k = none ↔ k ∉ l.map (·.1) := by
  induction l with
  | nil => simp
  | cons p l ih =>
    obtain ⟨a, b⟩ := p
    by_cases h : k = a
    · subst h; simp [List.lookup]
    · have e : (k == a) = false := by simpa using h
      simp only [List.lookup, e, ih, List.map_cons, List.mem_cons, h, false_or]
theorem mem_of_lookup {α β : Type} [BEq α] [LawfulBEq α] {l : List (α × β)} {k : α} {v : β} (h : l.lookup k = some v) : (k, v) ∈ l := by
  induction l with
  | nil => simp [List.lookup] at h
  | cons p l ih =>
    obtain ⟨a, b⟩ := p
    by_cases e : k = a
    · subst e; simp [List.lookup] at h; subst h; simp
    · have e' : (k == a) = false := by simpa using e
      simp only [List.lookup, e'] at h
      exact List.mem_cons_of_mem _ (ih h)
theorem lookup_of_mem {α β : Type} [BEq α] [LawfulBEq α] {l : List (α × β)} {k : α} {v : β} (hn : (l.map (·.1)).Nodup) (h : (k, v) ∈ l) : l.lookup k = some v := by
  induction l with
  | nil => simp at h
  | cons p l ih =>
    obtain ⟨a, b⟩ := p
    rw [List.map_cons, List.nodup_cons] at hn
    rcases List.mem_cons.mp h with e | m
    · cases e; simp [List.lookup]
    · have hk : k ∈ l.map (·.1) := List.mem_map.mpr ⟨_, m, rfl⟩
      have e : k ≠ a := fun z => hn.1 (z ▸ hk)
      have e' : (k == a) = false := by simpa using e
      simp only [List.lookup, e']
      exact ih hn.2 m
/-- a Nodup list within another is no longer -/
theorem nodup_le {l : List Nat} : ∀ {m : List Nat}, l.Nodup → (∀ x ∈ l, x ∈ m) → l.length ≤ m.length := by
  induction l with
  | nil => intros; simp
  | cons a l ih =>
    intro m hn hs
    rw [List.nodup_cons] at hn
    have ha : a ∈ m := hs a (List.mem_cons_self ..)
    have := ih (m := m.erase a) hn.2 fun x hx => (List.mem_erase_of_ne (fun (z : x = a) => hn.1 (by rw [← z]; exact hx))).mpr (hs x (List.mem_cons_of_mem _ hx))
    have h2 := List.length_erase_of_mem ha
    have h3 : 0 < m.length := List.length_pos_of_mem ha
    simp only [List.length_cons]
    omega
theorem mem_dups {l : List Nat} {x : Nat} : x ∈ l.eraseDups ↔ x ∈ l := List.mem_eraseDups
theorem nodup_dups : ∀ (n : Nat) (l : List Nat), l.length ≤ n → l.eraseDups.Nodup
  | 0, l, h => by
    have : l = [] := List.length_eq_zero_iff.mp (by omega)
    subst this; simp
  | n + 1, [], h => by simp
  | n + 1, a :: l, h => by
    rw [List.eraseDups_cons, List.nodup_cons]
    refine ⟨fun z => ?_, nodup_dups n _ ?_⟩
    · rw [List.mem_eraseDups] at z
      simp at z
    · have := List.length_filter_le (fun b => !b == a) l
      simp only [List.length_cons] at h
      omega
theorem mem_subsets {x : List (List Nat)} : ∀ {l : List (List Nat)}, x ∈ Mu10.subsets l ↔ x.Sublist l
  | [] => by simp [Mu10.subsets]
  | a :: l => by
    rw [Mu10.subsets, List.mem_flatMap]
    constructor
    · rintro ⟨y, hy, hx⟩
      have hy' := (mem_subsets (l := l)).mp hy
      simp only [List.mem_cons, List.not_mem_nil, or_false] at hx
      rcases hx with rfl | rfl
      · exact hy'.cons _
      · exact hy'.cons_cons _
    · intro h
      cases h with
      | cons _ h' => exact ⟨x, (mem_subsets (l := l)).mpr h', by simp⟩
      | cons_cons _ h' => exact ⟨_, (mem_subsets (l := l)).mpr h', by simp⟩

/-! ### each has its own -/
inductive Pick : List (List Nat) → List Nat → Prop
  | nil : Pick [] []
  | cons {r : List Nat} {rs : List (List Nat)} {t : Nat} {ts : List Nat} : t ∈ r → Pick rs ts → Pick (r :: rs) (t :: ts)
theorem Pick.sub {x : List (List Nat)} : ∀ {l : List (List Nat)} {ts : List Nat}, Pick l ts → x.Sublist l → ∃ us, Pick x us ∧ us.Sublist ts
  | _, _, .nil, h => by cases h; exact ⟨[], .nil, .slnil⟩
  | _, _, .cons m p, h => by
    cases h with
    | cons _ h' =>
      obtain ⟨us, a, b⟩ := p.sub h'
      exact ⟨us, a, b.cons _⟩
    | cons_cons _ h' =>
      obtain ⟨us, a, b⟩ := p.sub h'
      exact ⟨_, .cons m a, b.cons_cons _⟩
theorem Pick.len {l : List (List Nat)} {ts : List Nat} (h : Pick l ts) : ts.length = l.length := by
  induction h with
  | nil => rfl
  | cons _ _ ih => simp [ih]
theorem Pick.mem {l : List (List Nat)} {ts : List Nat} (h : Pick l ts) : ∀ t ∈ ts, t ∈ l.flatten := by
  induction h with
  | nil => simp
  | cons m _ ih =>
    intro t ht
    simp only [List.flatten_cons, List.mem_append]
    rcases List.mem_cons.mp ht with rfl | z
    · exact .inl m
    · exact .inr (ih t z)
theorem Pick.append {a b : List (List Nat)} {ts us : List Nat} (h : Pick a ts) (k : Pick b us) : Pick (a ++ b) (ts ++ us) := by
  induction h with
  | nil => exact k
  | cons m _ ih => exact .cons m ih
theorem Pick.split : ∀ {a b : List (List Nat)} {ts : List Nat}, Pick (a ++ b) ts → ∃ us vs, ts = us ++ vs ∧ Pick a us ∧ Pick b vs
  | [], b, ts, h => ⟨[], ts, rfl, .nil, h⟩
  | r :: a, b, _, .cons m p => by
    obtain ⟨us, vs, e, h1, h2⟩ := Pick.split p
    exact ⟨_ :: us, vs, by rw [e]; rfl, .cons m h1, h2⟩
theorem fits_of_pick {l : List (List Nat)} {ts : List Nat} (h : Pick l ts) (hn : ts.Nodup) : Mu10.fits l = true := by
  unfold Mu10.fits
  rw [List.all_eq_true]
  intro x hx
  obtain ⟨us, h1, h2⟩ := h.sub (mem_subsets.mp hx)
  rw [decide_eq_true_eq, ← h1.len]
  exact nodup_le (h2.nodup hn) fun t ht => mem_dups.mpr (h1.mem t ht)
theorem not_fits {l x : List (List Nat)} {T : List Nat} (hx : x.Sublist l) (hT : ∀ r ∈ x, ∀ t ∈ r, t ∈ T) (hl : T.length < x.length) : Mu10.fits l = false := by
  cases e : Mu10.fits l with
  | false => rfl
  | true =>
    unfold Mu10.fits at e
    rw [List.all_eq_true] at e
    have := e x (mem_subsets.mpr hx)
    rw [decide_eq_true_eq] at this
    have h2 : x.flatten.eraseDups.length ≤ T.length := nodup_le (nodup_dups _ _ (Nat.le_refl _)) fun t ht => by
      obtain ⟨r, hr, htr⟩ := List.mem_flatten.mp (mem_dups.mp ht)
      exact hT r hr t htr
    omega

/-! ### the search -/
/-- d[k] = v -/
def put : List (Nat × Nat) → Nat → Nat → List (Nat × Nat)
  | [], k, v => [(k, v)]
  | (a, b) :: l, k, v => if a = k then (a, v) :: l else (a, b) :: put l k v
/-- the loop of with_one_more over a row; rec: the search for the claim that a ticket is given to -/
def womLoop (again : Nat → List Nat → Option (List (Nat × Nat)) × List Nat) (given : List (Nat × Nat)) (claim : Nat) : List Nat → List Nat → Option (List (Nat × Nat)) × List Nat
  | [], tried => (none, tried)
  | t :: ts, tried => if t ∈ tried then womLoop again given claim ts tried else
    match given.lookup t with
    | none => (some (put given t claim), tried ++ [t])
    | some c => match again c (tried ++ [t]) with
      | (some f, tr) => (some (put f t claim), tr)
      | (none, tr) => womLoop again given claim ts tr
def wom (rows : List (List Nat)) (given : List (Nat × Nat)) : Nat → Nat → List Nat → Option (List (Nat × Nat)) × List Nat
  | 0, _, tried => (none, tried)
  | n + 1, claim, tried => womLoop (wom rows given n) given claim (rows.getD claim []) tried
/-- can_all_have from a claim on -/
def cahFrom (rows : List (List Nat)) : Nat → Nat → List (Nat × Nat) → Option (List (Nat × Nat))
  | 0, _, given => some given
  | k + 1, c, given => match (wom rows given (rows.length + 1) c []).1 with
    | none => none
    | some g => cahFrom rows k (c + 1) g
def canAll (rows : List (List Nat)) : Bool := (cahFrom rows rows.length 0 []).isSome

/-! ### what is found -/
theorem put_keys {k v : Nat} : ∀ {l : List (Nat × Nat)}, (put l k v).map (·.1) = if k ∈ l.map (·.1) then l.map (·.1) else l.map (·.1) ++ [k]
  | [] => by simp [put]
  | (a, b) :: l => by
    have ih := put_keys (k := k) (v := v) (l := l)
    unfold put
    by_cases e : a = k
    · subst e; simp
    · have e2 : ¬ k = a := fun z => e z.symm
      simp only [e, if_false, List.map_cons, ih, List.mem_cons, e2, false_or]
      split <;> simp
theorem put_nodup {k v : Nat} {l : List (Nat × Nat)} (h : (l.map (·.1)).Nodup) : ((put l k v).map (·.1)).Nodup := by
  rw [put_keys]
  split
  · exact h
  · rename_i hk
    rw [List.nodup_append]
    exact ⟨h, by simp, by intro a ha b hb; simp at hb; subst hb; intro z; exact hk (z ▸ ha)⟩
theorem put_mem {k v : Nat} : ∀ {l : List (Nat × Nat)} {p : Nat × Nat}, p ∈ put l k v → p = (k, v) ∨ p ∈ l
  | [], p, h => by simp [put] at h; exact .inl h
  | (a, b) :: l, p, h => by
    unfold put at h
    by_cases e : a = k
    · rw [if_pos e] at h
      rcases List.mem_cons.mp h with z | z
      · left; rw [z, e]
      · exact .inr (List.mem_cons_of_mem _ z)
    · rw [if_neg e] at h
      rcases List.mem_cons.mp h with z | z
      · right; rw [z]; exact List.mem_cons_self ..
      · rcases put_mem z with y | y
        · exact .inl y
        · exact .inr (List.mem_cons_of_mem _ y)
theorem put_lookup_ne {k v x : Nat} (hx : x ≠ k) : ∀ {l : List (Nat × Nat)}, (put l k v).lookup x = l.lookup x
  | [] => by
    have e : (x == k) = false := by simpa using hx
    simp [put, List.lookup, e]
  | (a, b) :: l => by
    unfold put
    by_cases e : a = k
    · subst e
      have e' : (x == a) = false := by simpa using hx
      simp [List.lookup, e']
    · rw [if_neg e]
      by_cases e2 : x = a
      · subst e2; simp [List.lookup]
      · have e' : (x == a) = false := by simpa using e2
        simp only [List.lookup, e']
        exact put_lookup_ne hx
theorem put_vals_new {k v : Nat} : ∀ {l : List (Nat × Nat)}, l.lookup k = none → ((put l k v).map (·.2)).Perm (v :: l.map (·.2))
  | [], _ => by simp [put]
  | (a, b) :: l, h => by
    by_cases e : k = a
    · subst e; simp [List.lookup] at h
    · have e' : (k == a) = false := by simpa using e
      simp only [List.lookup, e'] at h
      have ih := put_vals_new (v := v) h
      unfold put
      rw [if_neg (fun z => e z.symm)]
      simp only [List.map_cons]
      exact (ih.cons b).trans (List.Perm.swap ..)
theorem put_vals_old {k v c : Nat} : ∀ {l : List (Nat × Nat)}, l.lookup k = some c → (c :: (put l k v).map (·.2)).Perm (v :: l.map (·.2))
  | [], h => by simp [List.lookup] at h
  | (a, b) :: l, h => by
    by_cases e : k = a
    · subst e
      simp [List.lookup] at h
      subst h
      unfold put
      rw [if_pos rfl]
      exact List.Perm.swap ..
    · have e' : (k == a) = false := by simpa using e
      simp only [List.lookup, e'] at h
      have ih := put_vals_old (v := v) h
      unfold put
      rw [if_neg (fun z => e z.symm)]
      simp only [List.map_cons]
      exact (List.Perm.swap ..).trans ((ih.cons b).trans (List.Perm.swap ..))

/-- tickets given to claims whose rows have them -/
structure Good (rows : List (List Nat)) (g : List (Nat × Nat)) : Prop where
  nd : (g.map (·.1)).Nodup
  ed : ∀ p ∈ g, p.1 ∈ rows.getD p.2 []

/-- what a search that comes through leaves -/
structure Found (rows : List (List Nat)) (given f : List (Nat × Nat)) (claim : Nat) (tried : List Nat) : Prop where
  good : Good rows f
  vals : (f.map (·.2)).Perm (claim :: given.map (·.2))
  old : ∀ t ∈ tried, f.lookup t = given.lookup t
theorem Found.more {rows : List (List Nat)} {given f : List (Nat × Nat)} {c claim t : Nat} {tried : List Nat} (F : Found rows given f c (tried ++ [t])) (hg : given.lookup t = some c) (ht : t ∈ rows.getD claim []) (hn : t ∉ tried) : Found rows given (put f t claim) claim tried := by
  refine ⟨⟨put_nodup F.good.nd, fun p hp => ?_⟩, ?_, fun x hx => ?_⟩
  · rcases put_mem hp with z | z
    · rw [z]; exact ht
    · exact F.good.ed p z
  · have h1 : f.lookup t = some c := (F.old t (by simp)).trans hg
    have h2 := put_vals_old (v := claim) h1
    have h3 : (claim :: f.map (·.2)).Perm (claim :: c :: given.map (·.2)) := F.vals.cons claim
    have h4 := (h2.trans h3).trans (List.Perm.swap ..)
    exact h4.cons_inv
  · rw [put_lookup_ne (fun (z : x = t) => hn (by rw [← z]; exact hx))]
    exact F.old x (by simp [hx])
theorem loop_found {rows : List (List Nat)} {again : Nat → List Nat → Option (List (Nat × Nat)) × List Nat} {given : List (Nat × Nat)} {claim : Nat} (G : Good rows given)
    (ih : ∀ c tr f tr', again c tr = (some f, tr') → Found rows given f c tr ∧ ∀ t ∈ tr, t ∈ tr') (ihn : ∀ c tr tr', again c tr = (none, tr') → ∀ t ∈ tr, t ∈ tr') :
    ∀ (ts tried : List Nat) (f : List (Nat × Nat)) (tr' : List Nat), (∀ t ∈ ts, t ∈ rows.getD claim []) → womLoop again given claim ts tried = (some f, tr') → Found rows given f claim tried ∧ ∀ t ∈ tried, t ∈ tr'
  | [], tried, f, tr', _, h => by simp [womLoop] at h
  | t :: ts, tried, f, tr', hs, h => by
    unfold womLoop at h
    have hs' : ∀ x ∈ ts, x ∈ rows.getD claim [] := fun x hx => hs x (List.mem_cons_of_mem _ hx)
    by_cases c : t ∈ tried
    · rw [if_pos c] at h
      exact loop_found G ih ihn ts tried f tr' hs' h
    · rw [if_neg c] at h
      have ht := hs t (List.mem_cons_self ..)
      cases hg : given.lookup t with
      | none =>
        rw [hg] at h
        simp only [Prod.mk.injEq, Option.some.injEq] at h
        obtain ⟨rfl, rfl⟩ := h
        refine ⟨⟨⟨put_nodup G.nd, fun p hp => ?_⟩, put_vals_new hg, fun x hx => put_lookup_ne fun (z : x = t) => c (by rw [← z]; exact hx)⟩, fun x hx => by simp [hx]⟩
        rcases put_mem hp with z | z
        · rw [z]; exact ht
        · exact G.ed p z
      | some c' =>
        rw [hg] at h
        simp only at h
        cases ha : again c' (tried ++ [t]) with
        | mk o tr =>
          rw [ha] at h
          cases o with
          | none =>
            simp only at h
            obtain ⟨h1, h2⟩ := loop_found G ih ihn ts tr f tr' hs' h
            have hm := ihn c' _ _ ha
            refine ⟨⟨h1.good, h1.vals, fun x hx => h1.old x (hm x (by simp [hx]))⟩, fun x hx => h2 x (hm x (by simp [hx]))⟩
          | some f' =>
            simp only [Prod.mk.injEq, Option.some.injEq] at h
            obtain ⟨rfl, rfl⟩ := h
            obtain ⟨F, hm⟩ := ih c' _ _ _ ha
            exact ⟨F.more hg ht c, fun x hx => hm x (by simp [hx])⟩
theorem loop_mono {again : Nat → List Nat → Option (List (Nat × Nat)) × List Nat} {given : List (Nat × Nat)} {claim : Nat} (ihn : ∀ c tr tr', again c tr = (none, tr') → ∀ t ∈ tr, t ∈ tr') :
    ∀ (ts tried tr' : List Nat), womLoop again given claim ts tried = (none, tr') → ∀ t ∈ tried, t ∈ tr'
  | [], tried, tr', h => by simp [womLoop] at h; subst h; exact fun t ht => ht
  | t :: ts, tried, tr', h => by
    unfold womLoop at h
    by_cases c : t ∈ tried
    · rw [if_pos c] at h
      exact loop_mono ihn ts tried tr' h
    · rw [if_neg c] at h
      cases hg : given.lookup t with
      | none => rw [hg] at h; simp at h
      | some c' =>
        rw [hg] at h
        simp only at h
        cases ha : again c' (tried ++ [t]) with
        | mk o tr =>
          rw [ha] at h
          cases o with
          | some f' => simp at h
          | none =>
            simp only at h
            exact fun x hx => loop_mono ihn ts tr tr' h x (ihn c' _ _ ha x (by simp [hx]))
theorem wom_mono {rows : List (List Nat)} {given : List (Nat × Nat)} : ∀ (n claim : Nat) (tried tr' : List Nat), wom rows given n claim tried = (none, tr') → ∀ t ∈ tried, t ∈ tr'
  | 0, _, tried, tr', h => by simp [wom] at h; subst h; exact fun t ht => ht
  | n + 1, claim, tried, tr', h => loop_mono (wom_mono n) _ tried tr' h
theorem wom_found {rows : List (List Nat)} {given : List (Nat × Nat)} (G : Good rows given) : ∀ (n claim : Nat) (tried : List Nat) (f : List (Nat × Nat)) (tr' : List Nat), wom rows given n claim tried = (some f, tr') → Found rows given f claim tried ∧ ∀ t ∈ tried, t ∈ tr'
  | 0, _, tried, f, tr', h => by simp [wom] at h
  | n + 1, claim, tried, f, tr', h => loop_found G (wom_found G n) (wom_mono n) _ tried f tr' (fun _ h => h) h

/-! ### what is not found -/
/-- the tickets that are given and not tried yet -/
def left (given : List (Nat × Nat)) (tried : List Nat) : Nat := (given.filter fun p => decide (p.1 ∉ tried)).length
theorem filter_le_imp {α : Type} {p q : α → Bool} : ∀ {l : List α}, (∀ x ∈ l, p x = true → q x = true) → (l.filter p).length ≤ (l.filter q).length
  | [], _ => by simp
  | a :: l, h => by
    have ih := filter_le_imp (p := p) (q := q) (l := l) fun x hx => h x (List.mem_cons_of_mem _ hx)
    have h0 := h a (List.mem_cons_self ..)
    cases hp : p a <;> cases hq : q a <;> simp_all [List.filter_cons] <;> omega
theorem filter_lt_imp {α : Type} {p q : α → Bool} {b : α} : ∀ {l : List α}, b ∈ l → p b = false → q b = true → (∀ x ∈ l, p x = true → q x = true) → (l.filter p).length < (l.filter q).length
  | [], h, _, _, _ => by simp at h
  | a :: l, h, hp, hq, hi => by
    have hi' : ∀ x ∈ l, p x = true → q x = true := fun x hx => hi x (List.mem_cons_of_mem _ hx)
    have h0 := hi a (List.mem_cons_self ..)
    rcases List.mem_cons.mp h with e | m
    · subst e
      have := filter_le_imp hi'
      simp only [List.filter_cons, hp, hq, Bool.false_eq_true, if_false, if_true, List.length_cons]
      omega
    · have := filter_lt_imp m hp hq hi'
      cases hpa : p a <;> cases hqa : q a <;> simp_all [List.filter_cons] <;> omega
theorem left_mono {given : List (Nat × Nat)} {tr tr' : List Nat} (h : ∀ t ∈ tr, t ∈ tr') : left given tr' ≤ left given tr := by
  refine filter_le_imp fun x _ hx => ?_
  rw [decide_eq_true_eq] at hx ⊢
  exact fun z => hx (h _ z)
theorem left_less {given : List (Nat × Nat)} {tr : List Nat} {t c : Nat} (hg : given.lookup t = some c) (hn : t ∉ tr) : left given (tr ++ [t]) < left given tr := by
  refine filter_lt_imp (mem_of_lookup hg) ?_ ?_ fun x _ hx => ?_
  · simp
  · simpa using hn
  · rw [decide_eq_true_eq] at hx ⊢
    exact fun z => hx (by simp [z])
structure Fails (rows : List (List Nat)) (given : List (Nat × Nat)) (tried tr' : List Nat) : Prop where
  mono : ∀ t ∈ tried, t ∈ tr'
  new : ∀ t ∈ tr', t ∈ tried ∨ ∃ c, given.lookup t = some c ∧ ∀ x ∈ rows.getD c [], x ∈ tr'
  nd : tried.Nodup → tr'.Nodup
theorem Fails.trans {rows : List (List Nat)} {given : List (Nat × Nat)} {a b c : List Nat} (h : Fails rows given a b) (k : Fails rows given b c) : Fails rows given a c := by
  refine ⟨fun t ht => k.mono t (h.mono t ht), fun t ht => ?_, fun z => k.nd (h.nd z)⟩
  rcases k.new t ht with z | z
  · rcases h.new t z with y | ⟨d, y1, y2⟩
    · exact .inl y
    · exact .inr ⟨d, y1, fun x hx => k.mono x (y2 x hx)⟩
  · exact .inr z
theorem loop_fails {rows : List (List Nat)} {again : Nat → List Nat → Option (List (Nat × Nat)) × List Nat} {given : List (Nat × Nat)} {claim n : Nat}
    (ih : ∀ c tr tr', left given tr < n → again c tr = (none, tr') → Fails rows given tr tr' ∧ ∀ x ∈ rows.getD c [], x ∈ tr') :
    ∀ (ts tried tr' : List Nat), left given tried < n + 1 → womLoop again given claim ts tried = (none, tr') → Fails rows given tried tr' ∧ ∀ x ∈ ts, x ∈ tr'
  | [], tried, tr', _, h => by
    simp [womLoop] at h
    subst h
    exact ⟨⟨fun t ht => ht, fun t ht => .inl ht, fun z => z⟩, by simp⟩
  | t :: ts, tried, tr', hl, h => by
    unfold womLoop at h
    by_cases c : t ∈ tried
    · rw [if_pos c] at h
      obtain ⟨F, h2⟩ := loop_fails ih ts tried tr' hl h
      refine ⟨F, fun x hx => ?_⟩
      rcases List.mem_cons.mp hx with z | z
      · rw [z]; exact F.mono t c
      · exact h2 x z
    · rw [if_neg c] at h
      cases hg : given.lookup t with
      | none => rw [hg] at h; simp at h
      | some c' =>
        rw [hg] at h
        simp only at h
        cases ha : again c' (tried ++ [t]) with
        | mk o tr =>
          rw [ha] at h
          cases o with
          | some f' => simp at h
          | none =>
            simp only at h
            have hl1 := left_less hg c
            obtain ⟨F1, r1⟩ := ih c' (tried ++ [t]) tr (by omega) ha
            have hl2 := left_mono (given := given) F1.mono
            obtain ⟨F2, r2⟩ := loop_fails ih ts tr tr' (by omega) h
            have ht : t ∈ tr' := F2.mono t (F1.mono t (by simp))
            refine ⟨⟨fun x hx => F2.mono x (F1.mono x (by simp [hx])), fun x hx => ?_, fun z => F2.nd (F1.nd ?_)⟩, fun x hx => ?_⟩
            · rcases (F1.trans F2).new x hx with y | y
              · rcases List.mem_append.mp y with y | y
                · exact .inl y
                · simp at y
                  rw [y]
                  exact .inr ⟨c', hg, fun x hx => F2.mono x (r1 x hx)⟩
              · exact .inr y
            · rw [List.nodup_append]
              exact ⟨z, by simp, by intro a hma b hmb; simp at hmb; intro q; exact c (by rw [← hmb, ← q]; exact hma)⟩
            · rcases List.mem_cons.mp hx with z | z
              · rw [z]; exact ht
              · exact r2 x z
theorem wom_fails {rows : List (List Nat)} {given : List (Nat × Nat)} : ∀ (n claim : Nat) (tried tr' : List Nat), left given tried < n → wom rows given n claim tried = (none, tr') → Fails rows given tried tr' ∧ ∀ x ∈ rows.getD claim [], x ∈ tr'
  | 0, _, _, _, hl, _ => by omega
  | n + 1, claim, tried, tr', hl, h => loop_fails (wom_fails n) _ tried tr' hl h

/-! ### all of them -/
/-- rows at some places -/
def rowsAt (rows : List (List Nat)) (C : List Nat) (k : Nat) : List (List Nat) := ((List.range rows.length).filter fun i => decide (i ∈ C)).map fun i => rows.getD i []
theorem map_range_getD : ∀ (rows : List (List Nat)), (List.range rows.length).map (fun i => rows.getD i []) = rows := by
  intro rows
  apply List.ext_getElem
  · simp
  · intro i h1 h2
    simp at h1
    simp [List.getD, h1]
theorem rowsAt_sub (rows : List (List Nat)) (C : List Nat) (k : Nat) : (rowsAt rows C k).Sublist rows := by
  have := (List.filter_sublist (p := fun i => decide (i ∈ C)) (l := List.range rows.length)).map fun i => rows.getD i []
  rw [map_range_getD] at this
  exact this
theorem rowsAt_len {rows : List (List Nat)} {C : List Nat} {k : Nat} (hC : C.Nodup) (hb : ∀ c ∈ C, c < rows.length) : C.length ≤ (rowsAt rows C k).length := by
  unfold rowsAt
  rw [List.length_map]
  refine nodup_le hC fun c hc => ?_
  rw [List.mem_filter]
  exact ⟨List.mem_range.mpr (hb c hc), by simpa using hc⟩
theorem wom_none {rows : List (List Nat)} {given : List (Nat × Nat)} {c n : Nat} (G : Good rows given) (hv : (given.map (·.2)).Perm (List.range c)) (hc : c < rows.length) (hn : given.length < n) (h : (wom rows given n c []).1 = none) : Mu10.fits rows = false := by
  cases hw : wom rows given n c [] with
  | mk o T =>
    rw [hw] at h
    simp only at h
    subst h
    obtain ⟨F, hr⟩ := wom_fails n c [] T (Nat.lt_of_le_of_lt (List.length_filter_le _ _) hn) hw
    have hT : T.Nodup := F.nd (by simp)
    have hT2 : ∀ t ∈ T, ∃ d, given.lookup t = some d ∧ ∀ x ∈ rows.getD d [], x ∈ T := fun t ht => by
      rcases F.new t ht with z | z
      · simp at z
      · exact z
    have vn : (given.map (·.2)).Nodup := hv.nodup_iff.mpr List.nodup_range
    -- the claims that these tickets are given to
    let C := T.map fun t => (given.lookup t).getD 0
    have inj : ∀ {t u d : Nat}, given.lookup t = some d → given.lookup u = some d → t = u := fun {t u d} h1 h2 => by
      have m1 := mem_of_lookup h1
      have m2 := mem_of_lookup h2
      have key : ∀ {l : List (Nat × Nat)}, (l.map (·.2)).Nodup → (t, d) ∈ l → (u, d) ∈ l → t = u := by
        intro l
        induction l with
        | nil => intro _ h; simp at h
        | cons p l ih =>
          intro hn a b
          rw [List.map_cons, List.nodup_cons] at hn
          rcases List.mem_cons.mp a with e1 | e1 <;> rcases List.mem_cons.mp b with e2 | e2
          · exact congrArg Prod.fst (e1.trans e2.symm)
          · exact absurd (List.mem_map.mpr ⟨_, e2, by rw [← e1]⟩) hn.1
          · exact absurd (List.mem_map.mpr ⟨_, e1, by rw [← e2]⟩) hn.1
          · exact ih hn.2 e1 e2
      exact key vn m1 m2
    have lt : ∀ {t d : Nat}, given.lookup t = some d → d < c := fun {t d} h1 => by
      have : d ∈ given.map (·.2) := List.mem_map.mpr ⟨_, mem_of_lookup h1, rfl⟩
      exact List.mem_range.mp (hv.mem_iff.mp this)
    have key : ∀ {l : List Nat}, l.Nodup → (∀ t ∈ l, t ∈ T) → (l.map fun t => (given.lookup t).getD 0).Nodup := by
      intro l
      induction l with
      | nil => intros; simp
      | cons t l ih =>
        intro hn hs
        rw [List.nodup_cons] at hn
        rw [List.map_cons, List.nodup_cons]
        refine ⟨fun z => ?_, ih hn.2 fun x hx => hs x (List.mem_cons_of_mem _ hx)⟩
        obtain ⟨u, hu, e⟩ := List.mem_map.mp z
        obtain ⟨d1, q1, _⟩ := hT2 t (hs t (List.mem_cons_self ..))
        obtain ⟨d2, q2, _⟩ := hT2 u (hs u (List.mem_cons_of_mem _ hu))
        rw [q1, q2] at e
        simp at e
        subst e
        exact hn.1 (inj q1 q2 ▸ hu)
    have hC : C.Nodup := key hT fun _ h => h
    have hCc : c ∉ C := fun z => by
      obtain ⟨t, ht, e⟩ := List.mem_map.mp z
      obtain ⟨d, q, _⟩ := hT2 t ht
      rw [q] at e
      simp at e
      have := lt q
      omega
    have hb : ∀ d ∈ c :: C, d < rows.length := fun d hd => by
      rcases List.mem_cons.mp hd with z | z
      · rw [z]; exact hc
      · obtain ⟨t, ht, e⟩ := List.mem_map.mp z
        obtain ⟨d', q, _⟩ := hT2 t ht
        rw [q] at e
        simp at e
        have := lt q
        omega
    have hl := rowsAt_len (k := 0) (List.nodup_cons.mpr ⟨hCc, hC⟩) hb
    refine not_fits (rowsAt_sub rows (c :: C) 0) (T := T) (fun r hr' t ht => ?_) ?_
    · obtain ⟨d, hd, e⟩ := List.mem_map.mp hr'
      have hd2 := (List.mem_filter.mp hd).2
      simp only [decide_eq_true_eq] at hd2
      subst e
      rcases List.mem_cons.mp hd2 with z | z
      · rw [z] at ht; exact hr t ht
      · obtain ⟨u, hu, e⟩ := List.mem_map.mp z
        obtain ⟨d', q, q2⟩ := hT2 u hu
        rw [q] at e
        simp at e
        subst e
        exact q2 t ht
    · have : (c :: C).length = T.length + 1 := by simp [C]
      omega

/-- the tickets of a whole giving -/
theorem pick_of {rows : List (List Nat)} {g : List (Nat × Nat)} (G : Good rows g) (hv : (g.map (·.2)).Perm (List.range rows.length)) : ∃ ts, Pick rows ts ∧ ts.Nodup := by
  have ex : ∀ c, c < rows.length → ∃ t, (t, c) ∈ g := fun c hc => by
    have : c ∈ g.map (·.2) := hv.mem_iff.mpr (List.mem_range.mpr hc)
    obtain ⟨p, hp, e⟩ := List.mem_map.mp this
    exact ⟨p.1, by rw [← e]; exact hp⟩
  have vn : (g.map (·.1)).Nodup := G.nd
  have inj : ∀ {t c d : Nat}, (t, c) ∈ g → (t, d) ∈ g → c = d := fun {t c d} h1 h2 => by
    have e1 := lookup_of_mem vn h1
    have e2 := lookup_of_mem vn h2
    rw [e1] at e2
    exact Option.some.inj e2
  have key : ∀ (k : Nat) (c : Nat), c + k = rows.length → ∃ ts, Pick (rows.drop c) ts ∧ ts.Nodup ∧ ∀ t ∈ ts, ∃ d, c ≤ d ∧ (t, d) ∈ g := by
    intro k
    induction k with
    | zero =>
      intro c hc
      have : rows.drop c = [] := List.drop_eq_nil_of_le (by omega)
      rw [this]
      exact ⟨[], .nil, by simp, by simp⟩
    | succ k ih =>
      intro c hc
      obtain ⟨ts, h1, h2, h3⟩ := ih (c + 1) (by omega)
      have hlt : c < rows.length := by omega
      obtain ⟨t, ht⟩ := ex c hlt
      have hd : rows.drop c = rows[c] :: rows.drop (c + 1) := List.drop_eq_getElem_cons hlt
      have hm := G.ed _ ht
      simp only [List.getD, List.getElem?_eq_getElem hlt, Option.getD_some] at hm
      rw [hd]
      refine ⟨t :: ts, .cons hm h1, List.nodup_cons.mpr ⟨fun z => ?_, h2⟩, fun u hu => ?_⟩
      · obtain ⟨d, hd1, hd2⟩ := h3 t z
        have := inj ht hd2
        omega
      · rcases List.mem_cons.mp hu with z | z
        · rw [z]; exact ⟨c, Nat.le_refl _, ht⟩
        · obtain ⟨d, hd1, hd2⟩ := h3 u z
          exact ⟨d, by omega, hd2⟩
  obtain ⟨ts, h1, h2, _⟩ := key rows.length 0 (by omega)
  exact ⟨ts, by simpa using h1, h2⟩
theorem cah_is {rows : List (List Nat)} : ∀ (k c : Nat) (g : List (Nat × Nat)), c + k = rows.length → Good rows g → (g.map (·.2)).Perm (List.range c) →
    ((cahFrom rows k c g).isSome = true ∧ ∃ ts, Pick rows ts ∧ ts.Nodup) ∨ ((cahFrom rows k c g).isSome = false ∧ Mu10.fits rows = false)
  | 0, c, g, hc, G, hv => by
    left
    have e : c = rows.length := by omega
    subst e
    exact ⟨rfl, pick_of G hv⟩
  | k + 1, c, g, hc, G, hv => by
    have hl : g.length = c := by
      have := hv.length_eq
      simpa using this
    cases hw : wom rows g (rows.length + 1) c [] with
    | mk o tr =>
      cases o with
      | none =>
        right
        refine ⟨by simp [cahFrom, hw], wom_none G hv (by omega) (n := rows.length + 1) (by omega) (by rw [hw])⟩
      | some f =>
        obtain ⟨F, _⟩ := wom_found G _ _ _ _ _ hw
        have hv2 : (f.map (·.2)).Perm (List.range (c + 1)) := by
          refine F.vals.trans ((hv.cons c).trans ?_)
          rw [List.range_succ]
          exact (List.perm_append_comm (l₁ := [c]) (l₂ := List.range c))
        have := cah_is k (c + 1) f (by omega) F.good hv2
        simpa [cahFrom, hw] using this
theorem canAll_is (rows : List (List Nat)) : (canAll rows = true ∧ ∃ ts, Pick rows ts ∧ ts.Nodup) ∨ (canAll rows = false ∧ Mu10.fits rows = false) :=
  cah_is rows.length 0 [] (by omega) ⟨by simp, by simp⟩ (by simp)
/-- one more row that has a ticket of its own alone -/
theorem canAll_fits {A B : List (List Nat)} {t : Nat} (h : ∀ r ∈ A ++ B, t ∉ r) : canAll (A ++ B) = Mu10.fits (A ++ [t] :: B) := by
  rcases canAll_is (A ++ B) with ⟨e, ts, p, hn⟩ | ⟨e, f⟩
  · rw [e]
    obtain ⟨us, vs, rfl, p1, p2⟩ := p.split
    have nt : t ∉ us ++ vs := fun z => by
      obtain ⟨r, hr, hm⟩ := List.mem_flatten.mp (p.mem t z)
      exact h r hr hm
    refine (fits_of_pick (p1.append (.cons (List.mem_singleton.mpr rfl) p2)) ?_).symm
    have : (us ++ t :: vs).Perm (t :: (us ++ vs)) := List.perm_middle
    exact this.nodup_iff.mpr (List.nodup_cons.mpr ⟨nt, hn⟩)
  · rw [e]
    cases e2 : Mu10.fits (A ++ [t] :: B) with
    | false => rfl
    | true =>
      exfalso
      have sub : (A ++ B).Sublist (A ++ [t] :: B) := (List.Sublist.refl A).append ((List.Sublist.refl B).cons _)
      unfold Mu10.fits at e2 f
      rw [List.all_eq_true] at e2
      have : ((Mu10.subsets (A ++ B)).all fun x => decide (x.length ≤ x.flatten.eraseDups.length)) = true := List.all_eq_true.mpr fun x hx =>
        e2 x (mem_subsets.mpr ((mem_subsets.mp hx).trans sub))
      rw [this] at f
      cases f
end Ck
end
section
set_option linter.all false
/-! The racks: hooks row by row against coats by their spots. -/
namespace Ck
open Mu10 (State Coat Claim Rack Spot)

/-- a coat takes a hook -/
def occ (c : Coat) (r h : Nat) : Bool := match c.spot with
  | some p => p.rack == r && (decide (p.hook ≤ h) && decide (h < p.hook + c.wide))
  | none => false
theorem onHook_eq (s : State) (r h : Nat) : Mu10.onHook s r h = s.coats.findIdx? fun c => occ c r h := rfl
theorem occ_iff {c : Coat} {r h : Nat} : occ c r h = true ↔ ∃ p, c.spot = some p ∧ p.rack = r ∧ p.hook ≤ h ∧ h < p.hook + c.wide := by
  unfold occ
  cases e : c.spot with
  | none => simp
  | some p => simp

structure WF (s : State) : Prop where
  nr : s.racks.length ≤ 6
  rk : ∀ k ∈ s.racks, 1 ≤ k.hooks ∧ k.hooks ≤ 30 ∧ k.walk ≤ 100
  nc : s.coats.length ≤ 60
  co : ∀ (t : Nat) (c : Coat), s.coats[t]? = some c → 1 ≤ c.wide ∧ c.wide ≤ 3
  sp : ∀ (t : Nat) (c : Coat) (p : Spot), s.coats[t]? = some c → c.spot = some p → p.rack < s.racks.length ∧ p.hook + c.wide ≤ (Mu10.rackOf s p.rack).hooks
  one : ∀ (t u : Nat) (c d : Coat) (r h : Nat), s.coats[t]? = some c → s.coats[u]? = some d → occ c r h = true → occ d r h = true → t = u
  nk : s.claims.length ≤ 8

theorem hook_some {s : State} (W : WF s) {r h t : Nat} : Mu10.onHook s r h = some t ↔ ∃ c, s.coats[t]? = some c ∧ occ c r h = true := by
  rw [onHook_eq]
  constructor
  · intro e
    obtain ⟨h1, h2, _⟩ := List.findIdx?_eq_some_iff_getElem.mp e
    exact ⟨_, List.getElem?_eq_getElem h1, h2⟩
  · rintro ⟨c, h1, h2⟩
    cases e : s.coats.findIdx? fun c => occ c r h with
    | none =>
      have := List.findIdx?_eq_none_iff.mp e c (List.mem_of_getElem? h1)
      rw [h2] at this
      cases this
    | some u =>
      obtain ⟨k1, k2, _⟩ := List.findIdx?_eq_some_iff_getElem.mp e
      rw [W.one t u _ _ r h h1 (List.getElem?_eq_getElem k1) h2 k2]
theorem hook_none {s : State} {r h : Nat} : Mu10.onHook s r h = none ↔ ∀ (t : Nat) (c : Coat), s.coats[t]? = some c → occ c r h = false := by
  rw [onHook_eq, List.findIdx?_eq_none_iff]
  constructor
  · intro k t c e
    exact k c (List.mem_of_getElem? e)
  · intro k c hc
    obtain ⟨t, ht⟩ := List.getElem?_of_mem hc
    exact k t c ht

/-! ### the hooks, row by row -/
def cell (s : State) (r h : Nat) : Int := match Mu10.onHook s r h with
  | some t => (t : Int)
  | none => -1
def rowOf (s : State) (r : Nat) : List Int := (List.range (Mu10.rackOf s r).hooks).map (cell s r)
def hooksOf (s : State) : List (List Int) := (List.range s.racks.length).map (rowOf s)
theorem rowOf_len (s : State) (r : Nat) : (rowOf s r).length = (Mu10.rackOf s r).hooks := by simp [rowOf]
theorem hooksOf_len (s : State) : (hooksOf s).length = s.racks.length := by simp [hooksOf]
theorem hooksOf_at {s : State} {r : Nat} (h : r < s.racks.length) : (hooksOf s)[r]? = some (rowOf s r) := by
  simp [hooksOf, List.getElem?_range h]
theorem rowOf_at {s : State} {r h : Nat} (k : h < (Mu10.rackOf s r).hooks) : (rowOf s r)[h]? = some (cell s r h) := by
  simp [rowOf, List.getElem?_range k]

def takeOff (hk : List (List Int)) (t : Int) : List (List Int) := hk.map fun row => row.map fun x => if x = t then -1 else x
def hangRow (row : List Int) (t : Int) (h w : Nat) : List Int := row.take h ++ (List.replicate w t ++ row.drop (h + w))
def hangOn (hk : List (List Int)) (t : Int) (r h w : Nat) : List (List Int) := hk.set r (hangRow (hk.getD r []) t h w)

theorem hooks_hang {s s' : State} {t w : Nat} {q : Spot} (hr : s'.racks = s.racks) (h1 : q.rack < s.racks.length) (h2 : q.hook + w ≤ (Mu10.rackOf s q.rack).hooks)
    (hon : ∀ r h, Mu10.onHook s' r h = if q.rack = r ∧ q.hook ≤ h ∧ h < q.hook + w then some t else Mu10.onHook s r h) : hooksOf s' = hangOn (hooksOf s) t q.rack q.hook w := by
  have hR : ∀ r, Mu10.rackOf s' r = Mu10.rackOf s r := fun r => by unfold Mu10.rackOf; rw [hr]
  have hc : ∀ r h, cell s' r h = if q.rack = r ∧ q.hook ≤ h ∧ h < q.hook + w then (t : Int) else cell s r h := fun r h => by
    unfold cell
    rw [hon]
    by_cases z : q.rack = r ∧ q.hook ≤ h ∧ h < q.hook + w
    · rw [if_pos z, if_pos z]
    · rw [if_neg z, if_neg z]
  apply List.ext_getElem?
  intro r
  unfold hangOn
  rw [List.getElem?_set, hooksOf_len]
  by_cases e : q.rack = r
  · subst e
    rw [if_pos rfl, if_pos h1, hooksOf_at (by rw [hr]; exact h1)]
    refine congrArg some ?_
    have hg : (hooksOf s).getD q.rack [] = rowOf s q.rack := by rw [List.getD_eq_getElem?_getD, hooksOf_at h1]; rfl
    rw [hg]
    apply List.ext_getElem?
    intro h
    unfold hangRow
    rw [List.getElem?_append, List.getElem?_append, List.getElem?_take, List.getElem?_replicate, List.getElem?_drop, List.length_take, List.length_replicate, rowOf_len]
    by_cases hh : h < (Mu10.rackOf s q.rack).hooks
    · rw [rowOf_at (by rw [hR]; exact hh), hc]
      by_cases c1 : h < q.hook
      · rw [if_neg (by omega), if_pos (by omega), if_pos c1, rowOf_at hh]
      · by_cases c2 : h < q.hook + w
        · rw [if_pos ⟨rfl, by omega, c2⟩, if_neg (by omega), if_pos (by omega), if_pos (by omega)]
        · rw [if_neg (by omega), if_neg (by omega), if_neg (by omega)]
          have : q.hook + w + (h - min q.hook (Mu10.rackOf s q.rack).hooks - w) = h := by omega
          rw [this, rowOf_at hh]
    · have n1 : (rowOf s' q.rack)[h]? = none := List.getElem?_eq_none (by rw [rowOf_len, hR]; omega)
      rw [n1, if_neg (by omega), if_neg (by omega)]
      exact (List.getElem?_eq_none (by rw [rowOf_len]; omega)).symm
  · rw [if_neg e]
    by_cases hh : r < s.racks.length
    · rw [hooksOf_at hh, hooksOf_at (by rw [hr]; exact hh)]
      refine congrArg some ?_
      unfold rowOf
      rw [hR]
      refine List.map_congr_left fun h _ => ?_
      rw [hc, if_neg (fun z => e z.1)]
    · rw [List.getElem?_eq_none (by rw [hooksOf_len, hr]; omega), List.getElem?_eq_none (by rw [hooksOf_len]; omega)]
theorem hooks_off {s s' : State} {t : Nat} (hr : s'.racks = s.racks) (hon : ∀ r h, Mu10.onHook s' r h = if Mu10.onHook s r h = some t then none else Mu10.onHook s r h) : hooksOf s' = takeOff (hooksOf s) t := by
  unfold hooksOf takeOff
  rw [hr, List.map_map]
  refine List.map_congr_left fun r _ => ?_
  show rowOf s' r = (rowOf s r).map _
  unfold rowOf Mu10.rackOf
  rw [hr, List.map_map]
  refine List.map_congr_left fun h _ => ?_
  show cell s' r h = if cell s r h = (t : Int) then -1 else cell s r h
  unfold cell
  rw [hon]
  cases e : Mu10.onHook s r h with
  | none => simp
  | some u =>
    by_cases z : u = t
    · subst z; simp
    · have z2 : ¬ ((u : Int) = (t : Int)) := by omega
      simp [z, z2]

/-! ### coats moved -/
theorem coatAt_eq {s : State} {t : Nat} {c : Coat} (h : s.coats[t]? = some c) (p : Option Spot) : Mu10.coatAt s t p = { s with coats := s.coats.set t { c with spot := p } } := by
  unfold Mu10.coatAt Mu10.setCoat
  rw [h]
theorem set_at {s : State} {t u : Nat} {c d c' : Coat} (h : s.coats[t]? = some c) (e : (s.coats.set t d)[u]? = some c') : (u = t ∧ c' = d) ∨ (u ≠ t ∧ s.coats[u]? = some c') := by
  rw [List.getElem?_set] at e
  by_cases z : t = u
  · rw [if_pos z] at e
    split at e
    · left; exact ⟨z.symm, (Option.some.inj e).symm⟩
    · cases e
  · rw [if_neg z] at e
    exact .inr ⟨fun y => z y.symm, e⟩
theorem set_self {s : State} {t : Nat} {c d : Coat} (h : s.coats[t]? = some c) : (s.coats.set t d)[t]? = some d := by
  have := (List.getElem?_eq_some_iff.mp h).1
  rw [List.getElem?_set, if_pos rfl, if_pos this]
theorem set_other {s : State} {t u : Nat} {d : Coat} (h : u ≠ t) : (s.coats.set t d)[u]? = s.coats[u]? := by
  rw [List.getElem?_set, if_neg (fun z => h z.symm)]
theorem wf_gone {s : State} (W : WF s) {t : Nat} {c : Coat} (h : s.coats[t]? = some c) : WF (Mu10.coatAt s t none) := by
  rw [coatAt_eq h]
  refine ⟨W.nr, W.rk, by simpa using W.nc, fun u d e => ?_, fun u d p e1 e2 => ?_, fun u v d d' r g e1 e2 o1 o2 => ?_, W.nk⟩
  · rcases set_at h e with ⟨z1, z2⟩ | ⟨z1, z2⟩
    · rw [z2]; exact W.co t c h
    · exact W.co u d z2
  · rcases set_at h e1 with ⟨z1, z2⟩ | ⟨z1, z2⟩
    · rw [z2] at e2; cases e2
    · exact W.sp u d p z2 e2
  · rcases set_at h e1 with ⟨z1, z2⟩ | ⟨z1, z2⟩
    · rw [z2] at o1; simp [occ] at o1
    · rcases set_at h e2 with ⟨y1, y2⟩ | ⟨y1, y2⟩
      · rw [y2] at o2; simp [occ] at o2
      · exact W.one u v d d' r g z2 y2 o1 o2
theorem free_iff {s : State} {w : Nat} {q : Spot} : Mu10.isFree s w q = true ↔ ∀ h, q.hook ≤ h → h < q.hook + w → Mu10.onHook s q.rack h = none := by
  unfold Mu10.isFree
  rw [List.all_eq_true]
  constructor
  · intro k h h1 h2
    have := k (h - q.hook) (List.mem_range.mpr (by omega))
    rw [show q.hook + (h - q.hook) = h by omega] at this
    exact Option.isNone_iff_eq_none.mp this
  · intro k i hi
    have hi := List.mem_range.mp hi
    rw [k (q.hook + i) (by omega) (by omega)]
    rfl
/-- a coat put on a free place, whatever it was -/
theorem wf_put {s : State} (W : WF s) {t : Nat} {c : Coat} {q : Spot} (h : s.coats[t]? = some c) (h1 : q.rack < s.racks.length) (h2 : q.hook + c.wide ≤ (Mu10.rackOf s q.rack).hooks) (hf : Mu10.isFree (Mu10.coatAt s t none) c.wide q = true) : WF (Mu10.coatAt s t (some q)) := by
  have hf := free_iff.mp hf
  rw [coatAt_eq h] at hf ⊢
  have key : ∀ {u : Nat} {d : Coat} {r g : Nat}, u ≠ t → s.coats[u]? = some d → occ d r g = true → q.rack = r → q.hook ≤ g → g < q.hook + c.wide → False := fun {u d r g} hu e o z1 z2 z3 => by
    have := hook_none.mp (hf g z2 z3) u d ((set_other hu).trans e)
    rw [z1, o] at this
    cases this
  refine ⟨W.nr, W.rk, by simpa using W.nc, fun u d e => ?_, fun u d p e1 e2 => ?_, fun u v d d' r g e1 e2 o1 o2 => ?_, W.nk⟩
  · rcases set_at h e with ⟨z1, z2⟩ | ⟨z1, z2⟩
    · rw [z2]; exact W.co t c h
    · exact W.co u d z2
  · rcases set_at h e1 with ⟨z1, z2⟩ | ⟨z1, z2⟩
    · rw [z2] at e2 ⊢
      have e3 : q = p := Option.some.inj e2
      subst e3
      exact ⟨h1, h2⟩
    · exact W.sp u d p z2 e2
  · rcases set_at h e1 with ⟨z1, z2⟩ | ⟨z1, z2⟩
    · rcases set_at h e2 with ⟨y1, y2⟩ | ⟨y1, y2⟩
      · rw [z1, y1]
      · exfalso
        rw [z2] at o1
        obtain ⟨p, e3, a1, a2, a3⟩ := occ_iff.mp o1
        have e4 : q = p := Option.some.inj e3
        subst e4
        exact key y1 y2 o2 a1 a2 a3
    · rcases set_at h e2 with ⟨y1, y2⟩ | ⟨y1, y2⟩
      · exfalso
        rw [y2] at o2
        obtain ⟨p, e3, a1, a2, a3⟩ := occ_iff.mp o2
        have e4 : q = p := Option.some.inj e3
        subst e4
        exact key z1 z2 o1 a1 a2 a3
      · exact W.one u v d d' r g z2 y2 o1 o2
theorem hook_gone {s : State} (W : WF s) {t : Nat} {c : Coat} (h : s.coats[t]? = some c) (r g : Nat) : Mu10.onHook (Mu10.coatAt s t none) r g = if Mu10.onHook s r g = some t then none else Mu10.onHook s r g := by
  have W' := wf_gone W h
  cases e : Mu10.onHook s r g with
  | none =>
    rw [if_neg (by simp)]
    refine hook_none.mpr fun u d hu => ?_
    rw [coatAt_eq h] at hu
    rcases set_at h hu with ⟨z1, z2⟩ | ⟨z1, z2⟩
    · rw [z2]; rfl
    · exact hook_none.mp e u d z2
  | some v =>
    obtain ⟨d, h1, h2⟩ := (hook_some W).mp e
    by_cases z : v = t
    · subst z
      rw [if_pos rfl]
      refine hook_none.mpr fun u d' hu => ?_
      rw [coatAt_eq h] at hu
      rcases set_at h hu with ⟨z1, z2⟩ | ⟨z1, z2⟩
      · rw [z2]; rfl
      · cases o : occ d' r g with
        | false => rfl
        | true => exact absurd (W.one u v d' d r g z2 h1 o h2) z1
    · rw [if_neg (by simpa using z)]
      refine (hook_some W').mpr ⟨d, ?_, h2⟩
      rw [coatAt_eq h]
      exact (set_other z).trans h1
theorem hook_put {s : State} (W : WF s) {t : Nat} {c : Coat} {q : Spot} (h : s.coats[t]? = some c) (W' : WF (Mu10.coatAt s t (some q))) (r g : Nat) :
    Mu10.onHook (Mu10.coatAt s t (some q)) r g = if q.rack = r ∧ q.hook ≤ g ∧ g < q.hook + c.wide then some t else Mu10.onHook (Mu10.coatAt s t none) r g := by
  by_cases z : q.rack = r ∧ q.hook ≤ g ∧ g < q.hook + c.wide
  · rw [if_pos z]
    refine (hook_some W').mpr ⟨{ c with spot := some q }, ?_, ?_⟩
    · rw [coatAt_eq h]; exact set_self h
    · exact occ_iff.mpr ⟨q, rfl, z.1, z.2.1, z.2.2⟩
  · rw [if_neg z]
    cases e : Mu10.onHook (Mu10.coatAt s t none) r g with
    | none =>
      refine hook_none.mpr fun u d hu => ?_
      have k := hook_none.mp e
      rw [coatAt_eq h] at hu k
      rcases set_at h hu with ⟨z1, z2⟩ | ⟨z1, z2⟩
      · rw [z2]
        cases o : occ { c with spot := some q } r g with
        | false => rfl
        | true =>
          obtain ⟨p, e3, a1, a2, a3⟩ := occ_iff.mp o
          have e4 : q = p := Option.some.inj e3
          subst e4
          exact absurd ⟨a1, a2, a3⟩ z
      · exact k u d ((set_other z1).trans z2)
    | some v =>
      obtain ⟨d, h1, h2⟩ := (hook_some (wf_gone W h)).mp e
      rw [coatAt_eq h] at h1
      rcases set_at h h1 with ⟨z1, z2⟩ | ⟨z1, z2⟩
      · rw [z2] at h2; simp [occ] at h2
      · refine (hook_some W').mpr ⟨d, ?_, h2⟩
        rw [coatAt_eq h]
        exact (set_other z1).trans z2
theorem hooks_gone {s : State} (W : WF s) {t : Nat} {c : Coat} (h : s.coats[t]? = some c) : hooksOf (Mu10.coatAt s t none) = takeOff (hooksOf s) t :=
  hooks_off (by rw [coatAt_eq h]) (hook_gone W h)
theorem hooks_put {s : State} (W : WF s) {t : Nat} {c : Coat} {q : Spot} (h : s.coats[t]? = some c) (h1 : q.rack < s.racks.length) (h2 : q.hook + c.wide ≤ (Mu10.rackOf s q.rack).hooks) (hf : Mu10.isFree (Mu10.coatAt s t none) c.wide q = true) :
    hooksOf (Mu10.coatAt s t (some q)) = hangOn (takeOff (hooksOf s) t) t q.rack q.hook c.wide := by
  rw [← hooks_gone W h]
  refine hooks_hang (by rw [coatAt_eq h, coatAt_eq h]) (by rw [coatAt_eq h]; exact h1) (by rw [coatAt_eq h]; exact h2) (hook_put W h (wf_put W h h1 h2 hf))
theorem free_gone {s : State} (W : WF s) {t : Nat} {c : Coat} {w : Nat} {q : Spot} (h : s.coats[t]? = some c) (hf : Mu10.isFree s w q = true) : Mu10.isFree (Mu10.coatAt s t none) w q = true := by
  have hf := free_iff.mp hf
  refine free_iff.mpr fun g h1 h2 => ?_
  rw [hook_gone W h, hf g h1 h2]
  simp

/-! ### a coat handed in -/
def withCoat (s : State) (c : Coat) : State := { s with coats := s.coats ++ [c] }
theorem app_at {s : State} {c d : Coat} {u : Nat} (e : (s.coats ++ [c])[u]? = some d) : (u = s.coats.length ∧ d = c) ∨ (u < s.coats.length ∧ s.coats[u]? = some d) := by
  rw [List.getElem?_append] at e
  split at e
  · rename_i z; exact .inr ⟨z, e⟩
  · rename_i z
    left
    have : u - s.coats.length = 0 := by
      have := (List.getElem?_eq_some_iff.mp e).1
      simp at this
      omega
    rw [this] at e
    simp at e
    exact ⟨by omega, e.symm⟩
theorem wf_new {s : State} (W : WF s) {c : Coat} {q : Spot} (hc : s.coats.length < 60) (hw : 1 ≤ c.wide ∧ c.wide ≤ 3) (hq : c.spot = some q) (h1 : q.rack < s.racks.length) (h2 : q.hook + c.wide ≤ (Mu10.rackOf s q.rack).hooks) (hf : Mu10.isFree s c.wide q = true) : WF (withCoat s c) := by
  have hf := free_iff.mp hf
  have key : ∀ {u : Nat} {d : Coat} {r g : Nat}, s.coats[u]? = some d → occ d r g = true → occ c r g = true → False := fun {u d r g} e o z => by
    obtain ⟨p, e3, a1, a2, a3⟩ := occ_iff.mp z
    have e4 : q = p := Option.some.inj (hq.symm.trans e3)
    subst e4
    have := hook_none.mp (hf g a2 a3) u d e
    rw [a1, o] at this
    cases this
  refine ⟨W.nr, W.rk, by simp [withCoat]; omega, fun u d e => ?_, fun u d p e1 e2 => ?_, fun u v d d' r g e1 e2 o1 o2 => ?_, W.nk⟩
  · rcases app_at e with ⟨z1, z2⟩ | ⟨z1, z2⟩
    · rw [z2]; exact hw
    · exact W.co u d z2
  · rcases app_at e1 with ⟨z1, z2⟩ | ⟨z1, z2⟩
    · rw [z2] at e2 ⊢
      have e4 : q = p := Option.some.inj (hq.symm.trans e2)
      subst e4
      exact ⟨h1, h2⟩
    · exact W.sp u d p z2 e2
  · rcases app_at e1 with ⟨z1, z2⟩ | ⟨z1, z2⟩ <;> rcases app_at e2 with ⟨y1, y2⟩ | ⟨y1, y2⟩
    · rw [z1, y1]
    · exact (key y2 o2 (by rw [← z2]; exact o1)).elim
    · exact (key z2 o1 (by rw [← y2]; exact o2)).elim
    · exact W.one u v d d' r g z2 y2 o1 o2
theorem hooks_new {s : State} (W : WF s) {c : Coat} {q : Spot} (hc : s.coats.length < 60) (hw : 1 ≤ c.wide ∧ c.wide ≤ 3) (hq : c.spot = some q) (h1 : q.rack < s.racks.length) (h2 : q.hook + c.wide ≤ (Mu10.rackOf s q.rack).hooks) (hf : Mu10.isFree s c.wide q = true) :
    hooksOf (withCoat s c) = hangOn (hooksOf s) s.coats.length q.rack q.hook c.wide := by
  have W' := wf_new W hc hw hq h1 h2 hf
  refine hooks_hang rfl h1 h2 fun r g => ?_
  by_cases z : q.rack = r ∧ q.hook ≤ g ∧ g < q.hook + c.wide
  · rw [if_pos z]
    exact (hook_some W').mpr ⟨c, by simp [withCoat], occ_iff.mpr ⟨q, hq, z.1, z.2.1, z.2.2⟩⟩
  · rw [if_neg z]
    cases e : Mu10.onHook s r g with
    | none =>
      refine hook_none.mpr fun u d hu => ?_
      rcases app_at hu with ⟨z1, z2⟩ | ⟨z1, z2⟩
      · rw [z2]
        cases o : occ c r g with
        | false => rfl
        | true =>
          obtain ⟨p, e3, a1, a2, a3⟩ := occ_iff.mp o
          have e4 : q = p := Option.some.inj (hq.symm.trans e3)
          subst e4
          exact absurd ⟨a1, a2, a3⟩ z
      · exact hook_none.mp e u d z2
    | some v =>
      obtain ⟨d, k1, k2⟩ := (hook_some W).mp e
      refine (hook_some W').mpr ⟨d, ?_, k2⟩
      show (s.coats ++ [c])[v]? = some d
      have := (List.getElem?_eq_some_iff.mp k1).1
      rw [List.getElem?_append, if_pos this]
      exact k1

/-! ### coats on a place -/
/-- coats_at's loop -/
def seeAll (l : List Int) (acc : List Int) : List Int := l.foldl (fun a x => if x ≠ -1 ∧ x ∉ a then a ++ [x] else a) acc
theorem see_dups : ∀ (n : Nat) (l acc : List Nat), l.length ≤ n → l.foldl (fun a x => if x ∉ a then a ++ [x] else a) acc = acc ++ (l.filter fun x => decide (x ∉ acc)).eraseDups
  | _, [], acc, _ => by simp
  | 0, _ :: _, _, h => by simp at h
  | n + 1, x :: l, acc, h => by
    rw [List.foldl_cons]
    by_cases z : x ∈ acc
    · rw [if_neg (by simpa using z), see_dups n l acc (by simpa using h), List.filter_cons_of_neg (by simpa using z)]
    · rw [if_pos z, see_dups n l _ (by simpa using h), List.filter_cons_of_pos (by simpa using z), List.eraseDups_cons, List.filter_filter, List.append_assoc]
      refine congrArg (acc ++ ·) ?_
      rw [List.singleton_append]
      refine congrArg (fun l => x :: List.eraseDups l) ?_
      refine List.filter_congr fun y _ => ?_
      by_cases e1 : y = x <;> by_cases e2 : y ∈ acc <;> simp [e1, e2]
theorem see_nat (o : List (Option Nat)) : ∀ (acc : List Nat), seeAll (o.map fun x => match x with | some t => (t : Int) | none => -1) (acc.map fun (n : Nat) => (n : Int)) = ((o.filterMap id).foldl (fun a x => if x ∉ a then a ++ [x] else a) acc).map fun (n : Nat) => (n : Int) := by
  induction o with
  | nil => intro acc; rfl
  | cons x o ih =>
    intro acc
    unfold seeAll at ih ⊢
    rw [List.map_cons, List.foldl_cons]
    cases x with
    | none =>
      rw [if_neg (by simp)]
      exact ih acc
    | some t =>
      rw [show (some t :: o).filterMap id = t :: o.filterMap id from rfl, List.foldl_cons]
      have hm : ((t : Int) ∈ acc.map fun (n : Nat) => (n : Int)) ↔ t ∈ acc := by
        rw [List.mem_map]
        constructor
        · rintro ⟨u, hu, e⟩
          have : u = t := by omega
          rw [← this]; exact hu
        · intro h
          exact ⟨t, h, rfl⟩
      by_cases z : t ∈ acc
      · rw [if_neg (fun q => q.2 (hm.mpr z)), if_neg (by simpa using z)]
        exact ih acc
      · rw [if_pos ⟨by simp only; omega, fun q => z (hm.mp q)⟩, if_pos z]
        have := ih (acc ++ [t])
        rw [List.map_append] at this
        exact this
theorem cut_row {s : State} {r h w : Nat} (k : h + w ≤ (Mu10.rackOf s r).hooks) : ((rowOf s r).drop h).take w = (List.range w).map fun i => cell s r (h + i) := by
  apply List.ext_getElem?
  intro i
  rw [List.getElem?_take, List.getElem?_drop, List.getElem?_map]
  by_cases z : i < w
  · rw [if_pos z, rowOf_at (by omega), List.getElem?_range z]
    rfl
  · rw [if_neg z, List.getElem?_eq_none (by simp; omega)]
    rfl
theorem see_is {s : State} {r h w : Nat} (k : h + w ≤ (Mu10.rackOf s r).hooks) : seeAll (((rowOf s r).drop h).take w) [] = (Mu10.hanging s w ⟨r, h⟩).map fun (n : Nat) => (n : Int) := by
  rw [cut_row k]
  have e := see_nat ((List.range w).map fun i => Mu10.onHook s r (h + i)) []
  rw [List.map_map] at e
  have e2 : seeAll ((List.range w).map fun i => cell s r (h + i)) [] = _ := e
  rw [e2, see_dups _ _ [] (Nat.le_refl _), List.nil_append, List.filterMap_map]
  unfold Mu10.hanging
  refine congrArg (fun l : List Nat => List.map (fun (n : Nat) => (n : Int)) l.eraseDups) ?_
  rw [List.filter_eq_self.mpr (fun _ _ => by simp)]
  rfl
theorem dups_nil : ∀ {l : List Nat}, l.eraseDups = [] ↔ l = []
  | [] => by simp
  | a :: l => by simp [List.eraseDups_cons]
theorem hanging_nil {s : State} {w : Nat} {q : Spot} : (Mu10.hanging s w q = []) ↔ Mu10.isFree s w q = true := by
  unfold Mu10.hanging Mu10.isFree
  rw [dups_nil, List.filterMap_eq_nil_iff, List.all_eq_true]
  constructor
  · intro k i hi
    rw [k i hi]; rfl
  · intro k i hi
    exact Option.isNone_iff_eq_none.mp (k i hi)
theorem mem_hanging {s : State} (W : WF s) {w t : Nat} {q : Spot} (h : t ∈ Mu10.hanging s w q) : ∃ c, s.coats[t]? = some c := by
  unfold Mu10.hanging at h
  rw [List.mem_eraseDups, List.mem_filterMap] at h
  obtain ⟨i, _, e⟩ := h
  obtain ⟨c, hc, _⟩ := (hook_some W).mp e
  exact ⟨c, hc⟩
theorem hanging_len {s : State} {w : Nat} {q : Spot} : (Mu10.hanging s w q).length ≤ w := by
  unfold Mu10.hanging
  have h1 : ∀ (n : Nat) (l : List Nat), l.length ≤ n → l.eraseDups.length ≤ l.length := by
    intro n
    induction n with
    | zero => intro l h; have : l = [] := List.length_eq_zero_iff.mp (by omega); subst this; simp
    | succ n ih =>
      intro l h
      cases l with
      | nil => simp
      | cons a l =>
        rw [List.eraseDups_cons, List.length_cons, List.length_cons]
        have := List.length_filter_le (fun b => !b == a) l
        have := ih (l.filter fun b => !b == a) (by simp at h; omega)
        omega
  refine Nat.le_trans (h1 _ _ (Nat.le_refl _)) (Nat.le_trans (List.length_filterMap_le _ _) (by simp))

/-! ### places -/
def placesRaw (s : State) (w : Nat) : List Spot := (List.range s.racks.length).flatMap fun (r : Nat) => (List.range ((Mu10.rackOf s r).hooks + 1 - w)).map fun (h : Nat) => (⟨r, h⟩ : Spot)
def trip (s : State) (p : Spot) : Int × Int × Int := ((Mu10.steps s p : Int), (p.rack : Int), (p.hook : Int))
def le3 (x y : Int × Int × Int) : Prop := ¬ (y.1 < x.1 ∨ (y.1 = x.1 ∧ (y.2.1 < x.2.1 ∨ (y.2.1 = x.2.1 ∧ y.2.2 < x.2.2))))
theorem trip_inj {s : State} {p q : Spot} (h : trip s p = trip s q) : p = q := by
  unfold trip at h
  simp only [Prod.mk.injEq] at h
  obtain ⟨_, h1, h2⟩ := h
  cases p; cases q
  simp only [Spot.mk.injEq]
  simp only at h1 h2
  omega
theorem places_le (s : State) (w : Nat) : ((Mu10.places s w).map (trip s)).Pairwise le3 := by
  rw [List.pairwise_map]
  have := List.pairwise_mergeSort (le := fun (p q : Spot) => decide (Mu10.steps s p < Mu10.steps s q ∨ (Mu10.steps s p = Mu10.steps s q ∧ p.rack ≤ q.rack)))
    (fun a b c h1 h2 => by simp only [decide_eq_true_eq] at *; omega) (fun a b => by simp only [Bool.or_eq_true, decide_eq_true_eq]; omega) (placesRaw s w)
  refine List.Pairwise.imp (fun {p q} h => ?_) this
  simp only [decide_eq_true_eq] at h
  unfold le3 trip
  simp only
  intro z
  have hs : p.rack = q.rack → (Mu10.steps s p = Mu10.steps s q → p.hook = q.hook) := fun e e2 => by
    unfold Mu10.steps at e2
    rw [e] at e2
    omega
  omega
theorem places_perm (s : State) (w : Nat) : (Mu10.places s w).Perm (placesRaw s w) := List.mergeSort_perm _ _
theorem sorted_places {s : State} {w : Nat} {l : List (Int × Int × Int)} (hp : l.Perm ((placesRaw s w).map (trip s))) (hl : l.Pairwise le3) : l = (Mu10.places s w).map (trip s) := by
  refine List.Perm.eq_of_pairwise (fun a b _ _ h1 h2 => ?_) hl (places_le s w) (hp.trans ((places_perm s w).map _).symm)
  unfold le3 at h1 h2
  obtain ⟨a1, a2, a3⟩ := a
  obtain ⟨b1, b2, b3⟩ := b
  simp only [Prod.mk.injEq] at *
  omega
theorem mem_places {s : State} {w : Nat} {p : Spot} (hw : 1 ≤ w) : p ∈ Mu10.places s w ↔ p.rack < s.racks.length ∧ p.hook + w ≤ (Mu10.rackOf s p.rack).hooks := by
  rw [(places_perm s w).mem_iff]
  unfold placesRaw
  rw [List.mem_flatMap]
  constructor
  · rintro ⟨r, hr, h⟩
    obtain ⟨g, hg, e⟩ := List.mem_map.mp h
    subst e
    have := List.mem_range.mp hg
    exact ⟨List.mem_range.mp hr, by simp only; omega⟩
  · rintro ⟨h1, h2⟩
    exact ⟨p.rack, List.mem_range.mpr h1, List.mem_map.mpr ⟨p.hook, List.mem_range.mpr (by omega), rfl⟩⟩

/-! ### moves, as far as they go -/
theorem coatAt_racks (s : State) (t : Nat) (p : Option Spot) : (Mu10.coatAt s t p).racks = s.racks := by
  unfold Mu10.coatAt Mu10.setCoat
  split <;> rfl
theorem coatAt_wides (s : State) (t : Nat) (p : Option Spot) : (Mu10.coatAt s t p).coats.map (·.wide) = s.coats.map (·.wide) := by
  cases e : s.coats[t]? with
  | none => unfold Mu10.coatAt; rw [e]
  | some c =>
    rw [coatAt_eq e]
    show (s.coats.set t { c with spot := p }).map (·.wide) = _
    rw [List.map_set]
    apply List.ext_getElem?
    intro i
    rw [List.getElem?_set]
    by_cases z : t = i
    · subst z
      have := (List.getElem?_eq_some_iff.mp e).1
      rw [if_pos rfl, if_pos (by simpa using this), List.getElem?_map, e]
      rfl
    · rw [if_neg z]
theorem find_wf {s : State} (W : WF s) {t : Nat} {c : Coat} {f : Spot → Bool} {q : Spot} (h : s.coats[t]? = some c) (hq : (Mu10.places s c.wide).find? (fun q => Mu10.isFree s c.wide q && f q) = some q) :
    q.rack < s.racks.length ∧ q.hook + c.wide ≤ (Mu10.rackOf s q.rack).hooks ∧ Mu10.isFree s c.wide q = true := by
  have h1 := (mem_places (W.co t c h).1).mp (List.mem_of_find?_eq_some hq)
  have h2 := List.find?_some hq
  simp only [Bool.and_eq_true] at h2
  exact ⟨h1.1, h1.2, h2.1⟩
end Ck
end
section
set_option linter.all false
/-! Claims; the calls' list. -/
namespace Ck
open Mu10 (State Coat Claim Rack Spot)

theorem cong2 {α β γ : Type} (f : α → β → γ) {a a' : α} {b b' : β} (h : a = a') (k : b = b') : f a b = f a' b' := by rw [h, k]
/-! ### claims -/
def oI : Option Nat → Int
  | none => -1
  | some x => (x : Int)
def suitsP (k : Claim) (c : Coat) : Bool := if c.spot = none ∨ (c.since : Int) < (k.lo : Int) ∨ (k.hi : Int) < (c.since : Int) then false else (oI k.kind == -1 || oI k.kind == (c.kind : Int)) && (oI k.colour == -1 || oI k.colour == (c.colour : Int))
theorem oI_test (o : Option Nat) (x : Nat) : (oI o == -1 || oI o == (x : Int)) = (match o with | some y => y == x | none => true) := by
  cases o with
  | none => simp [oI]
  | some y =>
    have h1 : ((y : Int) == -1) = false := by simp only [beq_eq_false_iff_ne]; omega
    simp only [oI, h1, Bool.false_or]
    by_cases e : y = x
    · subst e; simp
    · have h2 : ((y : Int) == (x : Int)) = false := by simp only [beq_eq_false_iff_ne]; omega
      have h3 : (y == x) = false := by simpa using e
      rw [h2, h3]
theorem suits_is (k : Claim) (c : Coat) : suitsP k c = Mu10.suits k c := by
  unfold suitsP Mu10.suits
  rw [oI_test, oI_test]
  cases hs : c.spot with
  | none => simp
  | some p =>
    by_cases h1 : (c.since : Int) < (k.lo : Int)
    · have : decide (k.lo ≤ c.since) = false := by simp only [decide_eq_false_iff_not]; omega
      simp [h1, this]
    · by_cases h2 : (k.hi : Int) < (c.since : Int)
      · have : decide (c.since ≤ k.hi) = false := by simp only [decide_eq_false_iff_not]; omega
        simp [h2, this]
      · have e1 : decide (k.lo ≤ c.since) = true := by simp only [decide_eq_true_eq]; omega
        have e2 : decide (c.since ≤ k.hi) = true := by simp only [decide_eq_true_eq]; omega
        rw [if_neg (by simp; omega), e1, e2]
        simp only [Option.isSome_some, Bool.true_and, Bool.and_true]
        rfl
/-- the candidates among the first n coats -/
def candTo (s : State) (k : Claim) (n : Nat) : List Nat := (List.range n).filter fun (t : Nat) => (s.coats[t]?).any (Mu10.suits k)
theorem cand_all (s : State) (k : Claim) : candTo s k s.coats.length = Mu10.candidates s k := rfl
theorem cand_more {s : State} {k : Claim} {n : Nat} {c : Coat} (h : s.coats[n]? = some c) : candTo s k (n + 1) = if Mu10.suits k c = true then candTo s k n ++ [n] else candTo s k n := by
  unfold candTo
  rw [List.range_succ, List.filter_append]
  by_cases z : Mu10.suits k c = true
  · rw [if_pos z, List.filter_cons_of_pos (by rw [h]; exact z)]; rfl
  · rw [if_neg z, List.filter_cons_of_neg (by rw [h]; exact z)]; simp
theorem cand_lt {s : State} {k : Claim} {n t : Nat} (h : t ∈ candTo s k n) : t < n := List.mem_range.mp (List.mem_filter.mp h).1
theorem cand_len (s : State) (k : Claim) (n : Nat) : (candTo s k n).length ≤ n := Nat.le_trans (List.length_filter_le _ _) (by simp)
theorem cand_hangs {s : State} {k : Claim} {t : Nat} (h : t ∈ Mu10.candidates s k) : ∃ c p, s.coats[t]? = some c ∧ c.spot = some p := by
  have h2 := (List.mem_filter.mp h).2
  cases e : s.coats[t]? with
  | none => rw [e] at h2; cases h2
  | some c =>
    rw [e] at h2
    have h3 : Mu10.suits k c = true := h2
    unfold Mu10.suits at h3
    rw [Bool.and_eq_true] at h3
    cases e2 : c.spot with
    | none => rw [e2] at h3; cases h3.1
    | some p => exact ⟨c, p, rfl, e2⟩
def isOpen (s : State) (i : Nat) : Bool := (s.claims[i]?).any fun (k : Claim) => k.coat.isNone
def candOf (s : State) (i : Nat) : List Nat := match s.claims[i]? with
  | some k => Mu10.candidates s k
  | none => []
/-- the rows of the other open claims among the first n -/
def othersTo (s : State) (i n : Nat) : List (List Nat) := ((List.range n).filter fun j => isOpen s j && j != i).map (candOf s)
theorem others_more {s : State} {i n : Nat} {k : Claim} (h : s.claims[n]? = some k) : othersTo s i (n + 1) = if n ≠ i ∧ k.coat = none then othersTo s i n ++ [Mu10.candidates s k] else othersTo s i n := by
  unfold othersTo
  rw [List.range_succ, List.filter_append, List.map_append]
  by_cases z : n ≠ i ∧ k.coat = none
  · rw [if_pos z, List.filter_cons_of_pos (by simp [isOpen, h, z.1, z.2])]
    simp [candOf, h]
  · rw [if_neg z, List.filter_cons_of_neg (by
      simp only [isOpen, h, Option.any_some, Bool.and_eq_true, Option.isNone_iff_eq_none, bne_iff_ne]
      exact fun q => z ⟨q.2, q.1⟩)]
    simp
theorem range_split {i n : Nat} (h : i < n) : List.range n = List.range i ++ i :: (List.range (n - i - 1)).map fun j => i + 1 + j := by
  have e : n = i + ((n - i - 1) + 1) := by omega
  have e2 := List.range_add (n := i) (m := (n - i - 1) + 1)
  rw [← e] at e2
  rw [e2, List.range_succ_eq_map, List.map_cons, List.map_map]
  refine congrArg (List.range i ++ ·) ?_
  refine cong2 List.cons (Nat.add_zero i) (List.map_congr_left fun j _ => ?_)
  show i + (j + 1) = i + 1 + j
  omega
theorem possible_is {s : State} {i : Nat} {k : Claim} (h : s.claims[i]? = some k) (ho : k.coat = none) :
    Mu10.possible s i = (Mu10.candidates s k).filter fun t => canAll ((othersTo s i s.claims.length).map fun row => row.filter fun c => c != t) := by
  have hi : i < s.claims.length := (List.getElem?_eq_some_iff.mp h).1
  have hop : isOpen s i = true := by simp [isOpen, h, ho]
  have eO : Mu10.openClaims s = (List.range i).filter (isOpen s) ++ i :: ((List.range (s.claims.length - i - 1)).map fun j => i + 1 + j).filter (isOpen s) := by
    show (List.range s.claims.length).filter (isOpen s) = _
    rw [range_split hi, List.filter_append, List.filter_cons_of_pos hop]
  have eo : othersTo s i s.claims.length = ((List.range i).filter (isOpen s)).map (candOf s) ++ (((List.range (s.claims.length - i - 1)).map fun j => i + 1 + j).filter (isOpen s)).map (candOf s) := by
    unfold othersTo
    rw [range_split hi, List.filter_append, List.filter_cons_of_neg (by simp), List.map_append]
    refine cong2 (fun a b => List.map (candOf s) a ++ List.map (candOf s) b) (List.filter_congr fun j hj => ?_) (List.filter_congr fun j hj => ?_)
    · have := List.mem_range.mp hj
      have : (j != i) = true := by simp; omega
      rw [this, Bool.and_true]
    · obtain ⟨z, _, e⟩ := List.mem_map.mp hj
      have : (j != i) = true := by simp; omega
      rw [this, Bool.and_true]
  have eL : Mu10.lists s = ((List.range i).filter (isOpen s)).map (fun j => (j, candOf s j)) ++ (i, candOf s i) :: (((List.range (s.claims.length - i - 1)).map fun j => i + 1 + j).filter (isOpen s)).map (fun j => (j, candOf s j)) := by
    unfold Mu10.lists
    rw [eO, List.map_append, List.map_cons]
    rfl
  have ec : candOf s i = Mu10.candidates s k := by simp [candOf, h]
  have ef : (Mu10.lists s).find? (fun (x : Nat × List Nat) => x.1 == i) = some (i, candOf s i) := by
    rw [eL, List.find?_append]
    have : (((List.range i).filter (isOpen s)).map (fun j => (j, candOf s j))).find? (fun (x : Nat × List Nat) => x.1 == i) = none := by
      rw [List.find?_eq_none]
      intro x hx
      obtain ⟨j, hj, e⟩ := List.mem_map.mp hx
      have := List.mem_range.mp (List.mem_filter.mp hj).1
      subst e
      simp
      omega
    rw [this]
    simp
  unfold Mu10.possible
  rw [ef]
  simp only
  rw [ec]
  refine List.filter_congr fun t ht => ?_
  have eg : Mu10.given i t (Mu10.lists s) = (((List.range i).filter (isOpen s)).map (candOf s)).map (fun row => row.filter fun c => c != t) ++ [t] :: ((((List.range (s.claims.length - i - 1)).map fun j => i + 1 + j).filter (isOpen s)).map (candOf s)).map (fun row => row.filter fun c => c != t) := by
    unfold Mu10.given
    rw [eL, List.map_append, List.map_cons, List.map_map, List.map_map, List.map_map, List.map_map]
    refine cong2 (fun a b => a ++ b) (List.map_congr_left fun j hj => ?_) (cong2 List.cons (if_pos rfl) (List.map_congr_left fun j hj => ?_))
    · have := List.mem_range.mp (List.mem_filter.mp hj).1
      exact if_neg (show ¬ j = i by omega)
    · obtain ⟨z, _, e⟩ := List.mem_map.mp (List.mem_filter.mp hj).1
      exact if_neg (show ¬ j = i by omega)
  rw [eg, eo, List.map_append]
  refine (canAll_fits fun r hr => ?_).symm
  rw [← List.map_append] at hr
  obtain ⟨row, _, e⟩ := List.mem_map.mp hr
  subst e
  simp
theorem others_len (s : State) (i n : Nat) : (othersTo s i n).length ≤ n := by
  unfold othersTo
  rw [List.length_map]
  exact Nat.le_trans (List.length_filter_le _ _) (by simp)
theorem others_rows {s : State} {i n : Nat} {r : List Nat} (h : r ∈ othersTo s i n) : r.length ≤ s.coats.length := by
  unfold othersTo at h
  obtain ⟨j, _, e⟩ := List.mem_map.mp h
  subst e
  unfold candOf
  split
  · exact cand_len s _ _
  · simp
theorem possible_mem {s : State} {i t : Nat} {k : Claim} (h : s.claims[i]? = some k) (ho : k.coat = none) (ht : t ∈ Mu10.possible s i) : ∃ c p, s.coats[t]? = some c ∧ c.spot = some p := by
  rw [possible_is h ho] at ht
  exact cand_hangs (List.mem_filter.mp ht).1
theorem possible_len {s : State} {i : Nat} {k : Claim} (h : s.claims[i]? = some k) (ho : k.coat = none) : (Mu10.possible s i).length ≤ s.coats.length := by
  rw [possible_is h ho]
  exact Nat.le_trans (List.length_filter_le _ _) (cand_len s k _)
end Ck
end
section
set_option linter.all false
/-! The list of calls, call by call. -/
namespace Ck
open Mu10 (State Coat Claim Rack Spot)
theorem whole_is (c : List (List Int)) : PyMu10.whole c = c := by
  unfold PyMu10.whole
  split <;> rfl
/-- how many numbers a call has: NUMBERS -/
def numbers : List Int := [0, 3, 1, 1, 3, 4, 1, 1, 1, 1, 1, 0]
theorem shape_some {p : Int} {n k : Nat} (h : PyMu10.shape p = some (n, k)) : (p = 0 ∧ n = 0 ∧ k = 1) ∨ (k = 0 ∧ ∃ j : Nat, p = (j : Int) ∧ 1 ≤ j ∧ j ≤ 11 ∧ numbers[j]? = some (n : Int)) := by
  unfold PyMu10.shape at h
  by_cases h0 : p = 0
  · subst h0; simp at h; exact .inl ⟨rfl, h.1.symm, h.2.symm⟩
  right
  rw [if_neg h0] at h
  by_cases h1 : p = 1
  · subst h1; simp at h; exact ⟨h.2.symm, 1, rfl, by omega, by omega, by rw [← h.1]; rfl⟩
  rw [if_neg h1] at h
  by_cases h2 : p = 2
  · subst h2; simp at h; exact ⟨h.2.symm, 2, rfl, by omega, by omega, by rw [← h.1]; rfl⟩
  rw [if_neg h2] at h
  by_cases h3 : p = 3
  · subst h3; simp at h; exact ⟨h.2.symm, 3, rfl, by omega, by omega, by rw [← h.1]; rfl⟩
  rw [if_neg h3] at h
  by_cases h4 : p = 4
  · subst h4; simp at h; exact ⟨h.2.symm, 4, rfl, by omega, by omega, by rw [← h.1]; rfl⟩
  rw [if_neg h4] at h
  by_cases h5 : p = 5
  · subst h5; simp at h; exact ⟨h.2.symm, 5, rfl, by omega, by omega, by rw [← h.1]; rfl⟩
  rw [if_neg h5] at h
  by_cases h6 : p = 6
  · subst h6; simp at h; exact ⟨h.2.symm, 6, rfl, by omega, by omega, by rw [← h.1]; rfl⟩
  rw [if_neg h6] at h
  by_cases h7 : p = 7
  · subst h7; simp at h; exact ⟨h.2.symm, 7, rfl, by omega, by omega, by rw [← h.1]; rfl⟩
  rw [if_neg h7] at h
  by_cases h8 : p = 8
  · subst h8; simp at h; exact ⟨h.2.symm, 8, rfl, by omega, by omega, by rw [← h.1]; rfl⟩
  rw [if_neg h8] at h
  by_cases h9 : p = 9
  · subst h9; simp at h; exact ⟨h.2.symm, 9, rfl, by omega, by omega, by rw [← h.1]; rfl⟩
  rw [if_neg h9] at h
  by_cases h10 : p = 10
  · subst h10; simp at h; exact ⟨h.2.symm, 10, rfl, by omega, by omega, by rw [← h.1]; rfl⟩
  rw [if_neg h10] at h
  by_cases h11 : p = 11
  · subst h11; simp at h; exact ⟨h.2.symm, 11, rfl, by omega, by omega, by rw [← h.1]; rfl⟩
  rw [if_neg h11] at h
  cases h
/-- a list that begins with a call -/
theorem next_call {f : Nat} {p : Int} {r : List Int} {cs : List (List (List Int))} (h : PyFlat.calls PyMu10.shape f (p :: r) = some cs) :
    ∃ c cs' f', cs = c :: cs' ∧ ((p = 0 ∧ ∃ (m : Nat) (x : List Int), r = (m : Int) :: x ∧ m ≤ x.length ∧ c = [[0], x.take m] ∧ PyFlat.calls PyMu10.shape f' (x.drop m) = some cs') ∨
      (∃ (j n : Nat), p = (j : Int) ∧ 1 ≤ j ∧ j ≤ 11 ∧ numbers[j]? = some (n : Int) ∧ n ≤ r.length ∧ c = [p :: r.take n] ∧ PyFlat.calls PyMu10.shape f' (r.drop n) = some cs')) := by
  cases f with
  | zero => simp [PyFlat.calls] at h
  | succ f =>
    unfold PyFlat.calls at h
    cases hc : PyFlat.call PyMu10.shape (p :: r) with
    | none => rw [hc] at h; cases h
    | some ct =>
      obtain ⟨c, t⟩ := ct
      rw [hc] at h
      simp only at h
      cases hr : PyFlat.calls PyMu10.shape f t with
      | none => rw [hr] at h; cases h
      | some cs' =>
        rw [hr] at h
        simp only [Option.some.injEq] at h
        refine ⟨c, cs', f, h.symm, ?_⟩
        unfold PyFlat.call at hc
        dsimp only at hc
        cases hs : PyMu10.shape p with
        | none => rw [hs] at hc; cases hc
        | some nk =>
          obtain ⟨n, k⟩ := nk
          rw [hs] at hc
          simp only at hc
          by_cases hl : r.length < n
          · rw [if_pos hl] at hc; cases hc
          rw [if_neg hl] at hc
          rcases shape_some hs with ⟨e1, e2, e3⟩ | ⟨e3, j, e1, e4, e5, e6⟩
          · subst e2 e3
            left
            refine ⟨e1, ?_⟩
            rw [List.drop_zero] at hc
            unfold PyFlat.rows at hc
            dsimp only at hc
            cases r with
            | nil => simp [PyFlat.row] at hc
            | cons m x =>
              unfold PyFlat.row at hc
              dsimp only at hc
              by_cases hm : 0 ≤ m ∧ m.toNat ≤ x.length
              · rw [if_pos hm] at hc
                simp [PyFlat.rows] at hc
                refine ⟨m.toNat, x, by rw [Int.toNat_of_nonneg hm.1], hm.2, ?_, ?_⟩
                · rw [← hc.1, e1]
                · rw [hc.2]; exact hr
              · rw [if_neg hm] at hc
                cases hc
          · subst e3
            right
            simp [PyFlat.rows] at hc
            refine ⟨j, n, e1, e4, e5, e6, by omega, hc.1.symm, ?_⟩
            rw [hc.2]; exact hr
theorem within_nat {z : Int} {hi : Nat} (h : NeutralIO.within z 0 (hi : Int) = true) : ∃ n : Nat, z = (n : Int) ∧ n ≤ hi := by
  unfold NeutralIO.within at h
  rw [Bool.and_eq_true, decide_eq_true_eq, decide_eq_true_eq] at h
  exact ⟨z.toNat, (Int.toNat_of_nonneg h.1).symm, by omega⟩
theorem within_lo {z : Int} (h : NeutralIO.within z (-5) 20 = true) : -5 ≤ z ∧ z ≤ 20 := by
  unfold NeutralIO.within at h
  rwa [Bool.and_eq_true, decide_eq_true_eq, decide_eq_true_eq] at h
theorem twenty_nat {z : Int} (h : Mu10Neutral.twenty z = true) : ∃ n : Nat, z = (n : Int) ∧ n ≤ 20 := within_nat (hi := 20) h
theorem place_nat {z : Int} (h : Mu10Neutral.place z = true) : ∃ n : Nat, z = (n : Int) ∧ n ≤ 99 := within_nat (hi := 99) h
inductive Asked : Int → List Int → Mu10.Call → Prop
  | hang (w k f : Nat) : Asked 1 [(w : Int), (k : Int), (f : Int)] (.hang w k f)
  | fetch (t : Nat) : Asked 2 [(t : Int)] (.fetch t)
  | make (w : Nat) : Asked 3 [(w : Int)] (.make w)
  | move (t r h : Nat) : Asked 4 [(t : Int), (r : Int), (h : Int)] (.move t r h)
  | claim (k f : Int) (lo hi : Nat) : Asked 5 [k, f, (lo : Int), (hi : Int)] (.claim k f lo hi)
  | whose (i : Nat) : Asked 6 [(i : Int)] (.whose i)
  | settle (i : Nat) : Asked 7 [(i : Int)] (.settle i)
  | drop (i : Nat) : Asked 8 [(i : Int)] (.drop i)
  | rack (r : Nat) : Asked 9 [(r : Int)] (.rack r)
  | look (t : Nat) : Asked 10 [(t : Int)] (.look t)
  | counts : Asked 11 [] .counts
theorem asked_one {p : Int} {xs : List Int} (h : Mu10Neutral.asked1 [p :: xs] = true) : ∃ c, Asked p xs c ∧ ∀ s, Mu10Neutral.step s [p :: xs] = Mu10.step s c := by
  unfold Mu10Neutral.asked1 at h
  split at h
  · rename_i e; simp at e
  · rename_i w k f e
    simp only [List.cons.injEq, and_true] at e
    obtain ⟨rfl, rfl⟩ := e
    simp only [Bool.and_eq_true] at h
    obtain ⟨h1, h2, h3⟩ := h
    obtain ⟨w, rfl, _⟩ := twenty_nat h1
    obtain ⟨k, rfl, _⟩ := twenty_nat h2
    obtain ⟨f, rfl, _⟩ := twenty_nat h3
    exact ⟨_, .hang w k f, fun s => rfl⟩
  · rename_i t e
    simp only [List.cons.injEq, and_true] at e
    obtain ⟨rfl, rfl⟩ := e
    obtain ⟨t, rfl, _⟩ := place_nat h
    exact ⟨_, .fetch t, fun s => rfl⟩
  · rename_i t e
    simp only [List.cons.injEq, and_true] at e
    obtain ⟨rfl, rfl⟩ := e
    obtain ⟨t, rfl, _⟩ := twenty_nat h
    exact ⟨_, .make t, fun s => rfl⟩
  · rename_i w k f e
    simp only [List.cons.injEq, and_true] at e
    obtain ⟨rfl, rfl⟩ := e
    simp only [Bool.and_eq_true] at h
    obtain ⟨h1, h2, h3⟩ := h
    obtain ⟨w, rfl, _⟩ := place_nat h1
    obtain ⟨k, rfl, _⟩ := place_nat h2
    obtain ⟨f, rfl, _⟩ := place_nat h3
    exact ⟨_, .move w k f, fun s => rfl⟩
  · rename_i k f lo hi e
    simp only [List.cons.injEq, and_true] at e
    obtain ⟨rfl, rfl⟩ := e
    simp only [Bool.and_eq_true] at h
    obtain ⟨h1, h2, h3, h4⟩ := h
    obtain ⟨lo, rfl, _⟩ := within_nat (hi := 200) h3
    obtain ⟨hi, rfl, _⟩ := within_nat (hi := 200) h4
    exact ⟨_, .claim k f lo hi, fun s => rfl⟩
  · rename_i t e
    simp only [List.cons.injEq, and_true] at e
    obtain ⟨rfl, rfl⟩ := e
    obtain ⟨t, rfl, _⟩ := twenty_nat h
    exact ⟨_, .whose t, fun s => rfl⟩
  · rename_i t e
    simp only [List.cons.injEq, and_true] at e
    obtain ⟨rfl, rfl⟩ := e
    obtain ⟨t, rfl, _⟩ := twenty_nat h
    exact ⟨_, .settle t, fun s => rfl⟩
  · rename_i t e
    simp only [List.cons.injEq, and_true] at e
    obtain ⟨rfl, rfl⟩ := e
    obtain ⟨t, rfl, _⟩ := twenty_nat h
    exact ⟨_, .drop t, fun s => rfl⟩
  · rename_i t e
    simp only [List.cons.injEq, and_true] at e
    obtain ⟨rfl, rfl⟩ := e
    obtain ⟨t, rfl, _⟩ := twenty_nat h
    exact ⟨_, .rack t, fun s => rfl⟩
  · rename_i t e
    simp only [List.cons.injEq, and_true] at e
    obtain ⟨rfl, rfl⟩ := e
    obtain ⟨t, rfl, _⟩ := place_nat h
    exact ⟨_, .look t, fun s => rfl⟩
  · rename_i e
    simp only [List.cons.injEq, and_true] at e
    obtain ⟨rfl, rfl⟩ := e
    exact ⟨_, .counts, fun s => rfl⟩
  · cases h
theorem asked_begin {x : List Int} (h : Mu10Neutral.asked1 [[0], x] = true) : x.length ≤ 20 ∧ x.length % 2 = 0 ∧ ∃ ns : List Nat, x = ns.map (fun (n : Nat) => (n : Int)) ∧ ∀ s, Mu10Neutral.step s [[0], x] = Mu10.step s (.begin_ (Mu10Neutral.pairs ns)) := by
  have h' : (decide (x.length ≤ 20) && (x.length % 2 == 0 && x.all fun (z : Int) => NeutralIO.within z 0 200)) = true := h
  simp only [Bool.and_eq_true, decide_eq_true_eq, beq_iff_eq, List.all_eq_true] at h'
  obtain ⟨h1, h2, h3⟩ := h'
  have e : x = (x.map Int.toNat).map (fun (n : Nat) => (n : Int)) := by
    rw [List.map_map]
    refine (List.map_id x).symm.trans (List.map_congr_left fun z hz => ?_)
    obtain ⟨n, e, _⟩ := within_nat (hi := 200) (h3 z hz)
    rw [e]; rfl
  exact ⟨h1, h2, x.map Int.toNat, e, fun s => rfl⟩
/-- what is to be answered from a state on -/
def due (s : State) (cs : List (List (List Int))) : List Int := PyFlat.told (PyFlat.played Mu10Neutral.step s cs)
theorem due_cons (s : State) (c : List (List Int)) (cs : List (List (List Int))) : due s (c :: cs) = ((Mu10Neutral.step s c).2.length : Int) :: (Mu10Neutral.step s c).2 ++ due (Mu10Neutral.step s c).1 cs := by
  unfold due PyFlat.told
  rw [PyFlat.played, List.flatMap_cons]
theorem asked_all {l : List Int} (h : PyMu10.answers_asked l = true) : ∃ cs, PyFlat.calls PyMu10.shape l.length l = some cs ∧ (∀ c ∈ cs, Mu10Neutral.asked1 c = true) ∧ (due Mu10.none_ cs).length ≤ 10000000 ∧ PyMu10.answers l = due Mu10.none_ cs := by
  unfold PyMu10.answers_asked at h
  cases e : PyFlat.calls PyMu10.shape l.length l with
  | none => rw [e] at h; cases h
  | some raw =>
    rw [e] at h
    simp only [Bool.and_eq_true] at h
    obtain ⟨⟨⟨⟨_, _⟩, _⟩, h4⟩, h5⟩ := h
    have em : raw.map PyMu10.whole = raw := (List.map_congr_left fun c _ => whole_is c).trans (List.map_id raw)
    rw [em] at h4
    unfold Mu10Neutral.asked at h4
    simp only [Bool.and_eq_true, List.all_eq_true] at h4
    have ea : PyMu10.answers l = due Mu10.none_ raw := by
      unfold PyMu10.answers PyMu10.calls
      rw [e]
      simp only
      rw [em]
      rfl
    refine ⟨raw, rfl, h4.2.2, ?_, ea⟩
    rw [← ea]
    unfold PyFlat.short at h5
    exact of_decide_eq_true h5
end Ck
end
section
set_option Elab.async false
set_option linter.all false
set_option maxRecDepth 100000
set_option maxHeartbeats 2000000
/-! sorted of tuples of three ints, any number of them -/
namespace SrtO
open PySem PySem.Spec PyProof.Rows PySem.W
def lex3 (p q : Int × Int × Int) : Bool := if p.1 = q.1 then (if p.2.1 = q.2.1 then decide (p.2.2 < q.2.2) else decide (p.2.1 < q.2.1)) else decide (p.1 < q.1)
theorem lex3_iff {p q : Int × Int × Int} : lex3 p q = true ↔ p.1 < q.1 ∨ (p.1 = q.1 ∧ (p.2.1 < q.2.1 ∨ (p.2.1 = q.2.1 ∧ p.2.2 < q.2.2))) := by
  unfold lex3
  by_cases e : p.1 = q.1
  · rw [if_pos e]
    by_cases e2 : p.2.1 = q.2.1
    · rw [if_pos e2, decide_eq_true_eq]; omega
    · rw [if_neg e2, decide_eq_true_eq]; omega
  · rw [if_neg e, decide_eq_true_eq]; omega
theorem lex3_no {p q : Int × Int × Int} : lex3 p q = false ↔ ¬ (p.1 < q.1 ∨ (p.1 = q.1 ∧ (p.2.1 < q.2.1 ∨ (p.2.1 = q.2.1 ∧ p.2.2 < q.2.2)))) := by
  rw [← lex3_iff]
  cases lex3 p q <;> simp
theorem swo_lex3 {α : Type} (k : α → Int × Int × Int) : Swo fun v u => lex3 (k v) (k u) := by
  refine ⟨fun x y h => ?_, fun x y z h1 h2 => ?_⟩
  · have a := lex3_iff.mp h
    refine lex3_no.mpr ?_
    omega
  · have a := lex3_no.mp h1
    have b := lex3_no.mp h2
    refine lex3_no.mpr ?_
    omega
section
variable {prog : Program} {w : World} {A : Around} {s : Shared} {E : Value → Shared → Prop}
def IsTrip (h : Heap) (v : Value) (x y z : Int) : Prop := ∃ a o t u r n, v = .ref a ∧ h.get? a = some o ∧ o.cls = .type "tuple" ∧ o.data = .seq #[.int x t, .int y u, .int z r] n
theorem IsTrip.keeps {h h' : Heap} {v : Value} {x y z : Int} (p : IsTrip h v x y z) (k : ∀ b o, h.get? b = some o → o.cls = .type "tuple" → h'.get? b = some o) : IsTrip h' v x y z := by
  obtain ⟨a, o, t, u, r, n, e, ho, hc, hd⟩ := p
  exact ⟨a, o, t, u, r, n, e, k _ _ ho hc, hc, hd⟩
/-- the first items of such tuples -/
theorem trip_heads {h : Heap} (us : List Value) (ok : ∀ u ∈ us, ∃ i j k, IsTrip h u i j k) : ∃ hs : List Value, KatTups h us hs ∧ hs.length = us.length ∧ ∀ f ∈ hs, ∃ i c, f = Value.int i c := by
  induction us with
  | nil => exact ⟨[], .nil, rfl, by simp⟩
  | cons u us ih =>
    obtain ⟨hs, kt, hl, hi⟩ := ih fun u' m => ok u' (.tail _ m)
    obtain ⟨i, j, k, a, ob, c1, c2, c3, n, rfl, got, isT, dat⟩ := ok u (.head _)
    refine ⟨.int i c1 :: hs, .cons got isT dat rfl kt, congrArg (· + 1) hl, ?_⟩
    intro f m
    cases m with
    | head => exact ⟨i, c1, rfl⟩
    | tail _ m => exact hi f m
/-- rows of ints, first difference first -/
def lexL : List (Int × Int) → Bool
  | [] => false
  | (i, j) :: r => if i = j then lexL r else decide (i < j)
/-- the comparison of two tuples of ints of one length, item by item -/
theorem lex_run {b : Bool} {Q : Bool → Shared → Prop} : ∀ (l : List ((Int × Tok) × (Int × Tok))) (n : Nat), Q (lexL (l.map fun e => (e.1.1, e.2.1))) s → KatLex prog w A b false Q (l.map fun e => (Value.int e.1.1 e.1.2, Value.int e.2.1 e.2.2)) n s
  | [], n, q => q
  | ((i, c), (j, d)) :: l, n, q => by
    have q' : Q (if i = j then lexL (l.map fun e => (e.1.1, e.2.1)) else decide (i < j)) s := q
    refine kat_cons (SeqAt.EqAt.int_int i c j d prog w _ _ (kat_go (fun same => kat_yes (lex_run l (n + 1) ?_)) fun other => kat_no (TS.oneLt_ints _ ?_)))
    · rwa [if_pos (by simpa using same)] at q'
    · rwa [if_neg (by simpa using other)] at q'
theorem lexL_three (p q : Int × Int × Int) : lexL [(p.1, q.1), (p.2.1, q.2.1), (p.2.2, q.2.2)] = lex3 p q := by
  simp only [lexL, lex3]
  by_cases z : p.2.2 = q.2.2 <;> simp [z]
theorem trip_cmp {vs : List Value} {k : Value → Int × Int × Int} (hp : ∀ v ∈ vs, IsTrip s.heap v (k v).1 (k v).2.1 (k v).2.2) : Cmp prog w A s (tuples' true) (fun p => p.1 ∈ vs) (lt2 fun v u => lex3 (k v) (k u)) := by
  intro p q mp mq
  obtain ⟨a, ob, c1, c2, c3, n, e1, g1, _, d1⟩ := hp _ mp
  obtain ⟨a', ob', b1, b2, b3, n', e2, g2, _, d2⟩ := hp _ mq
  show wpAny (model prog w) A (keyLt' (tuples' true) p.1 q.1) (fun r s' => s' = s ∧ r = lex3 (k p.1) (k q.1)) (fun _ _ => False) s
  rw [show p.1 = Value.ref a from e1, show q.1 = Value.ref a' from e2] at *
  exact kat_lt g1 d1 g2 d2 (lex_run [((_, c1), (_, b1)), ((_, c2), (_, b2)), ((_, c3), (_, b3))] 0 ⟨rfl, lexL_three _ _⟩)
theorem trips_sortable {a : Addr} {vs : List Value} {k : Value → Int × Int × Int} (some_ : vs ≠ []) (hp : ∀ v ∈ vs, IsTrip s.heap v (k v).1 (k v).2.1 (k v).2.2) (ha : ∀ o, s.heap.get? a = some o → o.cls ≠ .type "tuple") : SortableO prog w A s a vs fun v u => lex3 (k v) (k u) := by
  intro h' old
  have there : ∀ v ∈ vs, IsTrip h' v (k v).1 (k v).2.1 (k v).2.2 := fun v m => (hp v m).keeps fun b o got isT => old b o (fun z => ha o (z ▸ got) isT) got
  obtain ⟨hs, kt, hl, hi⟩ := trip_heads vs fun v m => ⟨_, _, _, there v m⟩
  have pos : 0 < hs.length := by rw [hl]; exact List.length_pos_iff.mpr some_
  refine ⟨tuples' true, fun Q E go => kat_kind (T := .type "int") kt pos (fun f m => ?_) rfl go, trip_cmp there⟩
  obtain ⟨i, c, rfl⟩ := hi f m
  exact Looks.now
theorem sorted_trips {l : Addr} {vs : List Value} {k : Value → Int × Int × Int} {Q : Value → Shared → Prop} (hl : s.heap.IsList l vs.toArray) (hz : vs.length ≤ sizeLine) (hp : ∀ v ∈ vs, IsTrip s.heap v (k v).1 (k v).2.1 (k v).2.2)
    (h : ∀ (h' : Heap) (d : Addr) (out : List Value), Srtd (fun v u => lex3 (k v) (k u)) out → Stb (fun v u => lex3 (k v) (k u)) out vs → (∀ b o, s.heap.get? b = some o → h'.get? b = some o) → s.heap.objs.size ≤ d → (∃ n, h'.get? d = some (seqObj "list" out.toArray n)) → Q (.ref d) { s with heap := h' }) :
    wpAny (model prog w) A (call (.builtin "sorted") [.ref l]) Q E s := by
  refine sorted_ord (swo_lex3 k) hl hz (fun two h₁ a got up => ?_) fun out h1 h2 => h _ _ out h1 h2 (fun _ _ => sortedAll_old) (Nat.le_succ _) (sortedAll_at ..)
  refine trips_sortable (s := { s with heap := h₁ }) (fun z => ?_) (fun v m => (hp v m).keeps fun b o g _ => (up b o g).2) fun o g isT => ?_
  · rw [z] at two; simp at two
  · cases g.symm.trans got
    have z := Value.type.inj isT
    revert z
    decide
end
end SrtO
namespace L2
open PySem PySem.Spec PyProof.Rows
abbrev lt3 (k : V → Int × Int × Int) (x y : V) : Bool := SrtO.lex3 (k x) (k y)
/-- sorted(xs), xs tuples of three ints (k says which) -/
def rSorted3 (K : PySem.W.Frag) : List V → Hp → VK → Prop := fun vs H Q => ∃ (a : Addr) (xs : List V) (k : V → Int × Int × Int), vs = [V.ref a] ∧ SqL K H a xs ∧ (∀ x ∈ xs, ∃ t, x = V.ref t ∧ H t = some (.tup [.int (k x).1, .int (k x).2.1, .int (k x).2.2])) ∧
  ∀ ys p, ys.Perm xs → ys.Pairwise (fun x y => lt3 k y x = false) → H p = none → Q (.ref p) (upd H p (.lst ys))
theorem vals3 {x y z : V} {us : List Value} (r : Vals [x, y, z] us) : ∃ u v w, us = [u, v, w] ∧ RelV x u ∧ RelV y v ∧ RelV z w := by
  cases r with
  | cons r1 r =>
    cases r with
    | cons r2 r =>
      cases r with
      | cons r3 r =>
        cases r
        exact ⟨_, _, _, rfl, r1, r2, r3⟩
section
variable {X : Cx}
theorem cr_sorted3 : CallR X (.builtin "sorted") (rSorted3 X.K) := by
  intro pins s σ H vs us Q I args ask
  obtain ⟨a, xs, k, rfl, isL, trip, go⟩ := ask
  obtain ⟨its, rel, lst, few⟩ := I.list isL
  obtain ⟨u, rfl, ru⟩ := vals1 args
  cases ru
  obtain ⟨back, refs⟩ := refs_back rel fun x m => (trip x m).imp fun t e => e.1
  have few' : its.length ≤ sizeLine := rel.length ▸ few
  refine SrtO.sorted_trips (k := fun u => k (backV u)) lst.isList few' (fun v m => ?_) fun h' d out ord stb old new ⟨n, at_d⟩ => ?_
  · obtain ⟨t, rfl⟩ := refs v m
    obtain ⟨t', e, tup⟩ := trip (V.ref t) (back ▸ List.mem_map_of_mem (f := backV) m)
    cases e
    obtain ⟨_, parts, rp, ob, got, isT, n, dat⟩ := I.hok _ _ tup
    obtain ⟨_, _, _, rfl, ⟨c1, rfl⟩, ⟨c2, rfl⟩, ⟨c3, rfl⟩⟩ := vals3 rp
    exact ⟨t, ob, c1, c2, c3, n, rfl, got, isT, dat⟩
  · have sb : SrtO.Stb (lt3 k) (out.map backV) xs := by
      rw [back]
      exact stb.map (SrtO.swo_lex3 k) backV
    have rel' := vals_back fun u m => refs u (stb.perm.mem_iff.mp m)
    refine ⟨.ref d, upd H d (.lst (out.map backV)), I.laid (t' := s.toks) old new ⟨?_, out, n, rel', at_d⟩, rfl, go _ d sb.perm (SrtO.srtd_map ord) (I.hok.fresh new)⟩
    rw [sb.len]
    exact few
end
end L2
end
section
set_option Elab.async false
set_option linter.all false
set_option maxRecDepth 100000
set_option maxHeartbeats 4000000
/-! The text by places, the names by slots (printed by gen2.py). -/
namespace Ck
open PySem PySem.Spec PyProof.Rows L2
def topS (i : Nat) : Stmt := PySem.Challenge.pw_coatracks_s01_answers.main.body.getD i (.Pass ⟨0, 0, 0, 0⟩)
abbrev s_Coat_init : Stmt := inClass (topS 2) 0
abbrev s_Coat_hang_at : Stmt := inClass (topS 2) 1
abbrev s_Claim_init : Stmt := inClass (topS 3) 0
abbrev s_Claim_settle_by : Stmt := inClass (topS 3) 1
abbrev s_Claim_suits : Stmt := inClass (topS 3) 2
abbrev s_suiting : Stmt := topS 4
abbrev s_with_one_more : Stmt := topS 5
abbrev s_can_all_have : Stmt := topS 6
abbrev s_possible : Stmt := topS 7
abbrev s_Racks_init : Stmt := inClass (topS 10) 0
abbrev s_Racks_copied : Stmt := inClass (topS 10) 1
abbrev s_Racks_has_place : Stmt := inClass (topS 10) 2
abbrev s_Racks_place_at : Stmt := inClass (topS 10) 3
abbrev s_Racks_places_of : Stmt := inClass (topS 10) 4
abbrev s_Racks_coats_at : Stmt := inClass (topS 10) 5
abbrev s_Racks_first_free : Stmt := inClass (topS 10) 6
abbrev s_Racks_hang_on : Stmt := inClass (topS 10) 7
abbrev s_Racks_take_off : Stmt := inClass (topS 10) 8
abbrev s_have_common : Stmt := topS 11
abbrev s_are_racks : Stmt := topS 12
abbrev s_moves_for : Stmt := topS 13
abbrev s_fewest_moves : Stmt := topS 14
abbrev s_Refused_init : Stmt := inClass (topS 30) 0
abbrev s_want : Stmt := topS 31
abbrev s_Cloakroom_init : Stmt := inClass (topS 32) 0
abbrev s_Cloakroom_coat_of : Stmt := inClass (topS 32) 1
abbrev s_Cloakroom_hanging : Stmt := inClass (topS 32) 2
abbrev s_Cloakroom_claim_of : Stmt := inClass (topS 32) 3
abbrev s_Cloakroom_open_claim : Stmt := inClass (topS 32) 4
abbrev s_Cloakroom_walk_for : Stmt := inClass (topS 32) 5
abbrev s_Cloakroom_hand_out : Stmt := inClass (topS 32) 6
abbrev s_Cloakroom_hang : Stmt := inClass (topS 32) 7
abbrev s_Cloakroom_fetch : Stmt := inClass (topS 32) 8
abbrev s_Cloakroom_make : Stmt := inClass (topS 32) 9
abbrev s_Cloakroom_move : Stmt := inClass (topS 32) 10
abbrev s_Cloakroom_claim : Stmt := inClass (topS 32) 11
abbrev s_Cloakroom_whose : Stmt := inClass (topS 32) 12
abbrev s_Cloakroom_settle : Stmt := inClass (topS 32) 13
abbrev s_Cloakroom_drop : Stmt := inClass (topS 32) 14
abbrev s_Cloakroom_rack_told : Stmt := inClass (topS 32) 15
abbrev s_Cloakroom_look : Stmt := inClass (topS 32) 16
abbrev s_Cloakroom_counts : Stmt := inClass (topS 32) 17
abbrev s_Cloakroom_about_coats : Stmt := inClass (topS 32) 18
abbrev s_Cloakroom_called : Stmt := inClass (topS 32) 19
abbrev s_Cloakroom_answer : Stmt := inClass (topS 32) 20
abbrev s_answers : Stmt := topS 33
theorem sc_Coat_init : FnScope ["self", "wide", "kind", "colour", "time", "place"] ["self", "wide", "kind", "colour", "time", "place"] (defScope s_Coat_init) := ⟨rfl, rfl, rfl, by decide +kernel, rfl, by decide +kernel, by decide +kernel⟩
theorem sc_Coat_hang_at : FnScope ["self", "place"] ["self", "place"] (defScope s_Coat_hang_at) := ⟨rfl, rfl, rfl, by decide +kernel, rfl, by decide +kernel, by decide +kernel⟩
theorem sc_Claim_init : FnScope ["self", "kind", "colour", "low", "high"] ["self", "kind", "colour", "low", "high"] (defScope s_Claim_init) := ⟨rfl, rfl, rfl, by decide +kernel, rfl, by decide +kernel, by decide +kernel⟩
theorem sc_Claim_settle_by : FnScope ["self", "ticket"] ["self", "ticket"] (defScope s_Claim_settle_by) := ⟨rfl, rfl, rfl, by decide +kernel, rfl, by decide +kernel, by decide +kernel⟩
theorem sc_Claim_suits : FnScope ["self", "coat"] ["self", "coat"] (defScope s_Claim_suits) := ⟨rfl, rfl, rfl, by decide +kernel, rfl, by decide +kernel, by decide +kernel⟩
theorem sc_suiting : FnScope ["claim", "coats", "ticket", "coat"] ["claim", "coats"] (defScope s_suiting) := ⟨rfl, rfl, rfl, by decide +kernel, rfl, by decide +kernel, by decide +kernel⟩
theorem sc_with_one_more : FnScope ["given", "rows", "claim", "tried", "ticket", "found", "more"] ["given", "rows", "claim", "tried"] (defScope s_with_one_more) := ⟨rfl, rfl, rfl, by decide +kernel, rfl, by decide +kernel, by decide +kernel⟩
theorem sc_can_all_have : FnScope ["rows", "given", "claim"] ["rows"] (defScope s_can_all_have) := ⟨rfl, rfl, rfl, by decide +kernel, rfl, by decide +kernel, by decide +kernel⟩
theorem sc_possible : FnScope ["claims", "number", "coats", "others", "at", "claim", "found", "ticket", "rows", "one", "row"] ["claims", "number", "coats"] (defScope s_possible) := ⟨rfl, rfl, rfl, by decide +kernel, rfl, by decide +kernel, by decide +kernel⟩
theorem sc_Racks_init : FnScope ["self", "racks", "many", "first"] ["self", "racks"] (defScope s_Racks_init) := ⟨rfl, rfl, rfl, by decide +kernel, rfl, by decide +kernel, by decide +kernel⟩
theorem sc_Racks_copied : FnScope ["self", "found", "row"] ["self"] (defScope s_Racks_copied) := ⟨rfl, rfl, rfl, by decide +kernel, rfl, by decide +kernel, by decide +kernel⟩
theorem sc_Racks_has_place : FnScope ["self", "rack", "hook", "wide"] ["self", "rack", "hook", "wide"] (defScope s_Racks_has_place) := ⟨rfl, rfl, rfl, by decide +kernel, rfl, by decide +kernel, by decide +kernel⟩
theorem sc_Racks_place_at : FnScope ["self", "rack", "hook"] ["self", "rack", "hook"] (defScope s_Racks_place_at) := ⟨rfl, rfl, rfl, by decide +kernel, rfl, by decide +kernel, by decide +kernel⟩
theorem sc_Racks_places_of : FnScope ["self", "wide", "found", "rack", "many", "first", "hook"] ["self", "wide"] (defScope s_Racks_places_of) := ⟨rfl, rfl, rfl, by decide +kernel, rfl, by decide +kernel, by decide +kernel⟩
theorem sc_Racks_coats_at : FnScope ["self", "place", "wide", "steps", "rack", "hook", "found", "ticket"] ["self", "place", "wide"] (defScope s_Racks_coats_at) := ⟨rfl, rfl, rfl, by decide +kernel, rfl, by decide +kernel, by decide +kernel⟩
theorem sc_Racks_first_free : FnScope ["self", "wide", "kept", "place"] ["self", "wide", "kept"] (defScope s_Racks_first_free) := ⟨rfl, rfl, rfl, by decide +kernel, rfl, by decide +kernel, by decide +kernel⟩
theorem sc_Racks_hang_on : FnScope ["self", "ticket", "place", "wide", "steps", "rack", "hook", "row"] ["self", "ticket", "place", "wide"] (defScope s_Racks_hang_on) := ⟨rfl, rfl, rfl, by decide +kernel, rfl, by decide +kernel, by decide +kernel⟩
theorem sc_Racks_take_off : FnScope ["self", "ticket", "one", "row"] ["self", "ticket"] (defScope s_Racks_take_off) := ⟨rfl, rfl, rfl, by decide +kernel, rfl, by decide +kernel, by decide +kernel⟩
theorem sc_have_common : FnScope ["place", "wide", "kept", "steps", "rack", "hook", "own", "begin", "many"] ["place", "wide", "kept"] (defScope s_have_common) := ⟨rfl, rfl, rfl, by decide +kernel, rfl, by decide +kernel, by decide +kernel⟩
theorem sc_are_racks : FnScope ["row", "hooks", "steps", "k", "many", "first"] ["row"] (defScope s_are_racks) := ⟨rfl, rfl, rfl, by decide +kernel, rfl, by decide +kernel, by decide +kernel⟩
theorem sc_moves_for : FnScope ["racks", "widths", "place", "wide", "steps", "rack", "hook", "moved", "found", "ticket", "own", "there"] ["racks", "widths", "place", "wide"] (defScope s_moves_for) := ⟨rfl, rfl, rfl, by decide +kernel, rfl, by decide +kernel, by decide +kernel⟩
theorem sc_fewest_moves : FnScope ["racks", "widths", "wide", "found", "place", "moves"] ["racks", "widths", "wide"] (defScope s_fewest_moves) := ⟨rfl, rfl, rfl, by decide +kernel, rfl, by decide +kernel, by decide +kernel⟩
theorem sc_Refused_init : FnScope ["self", "code"] ["self", "code"] (defScope s_Refused_init) := ⟨rfl, rfl, rfl, by decide +kernel, rfl, by decide +kernel, by decide +kernel⟩
theorem sc_want : FnScope ["truth", "code"] ["truth", "code"] (defScope s_want) := ⟨rfl, rfl, rfl, by decide +kernel, rfl, by decide +kernel, by decide +kernel⟩
theorem sc_Cloakroom_init : FnScope ["self", "racks"] ["self", "racks"] (defScope s_Cloakroom_init) := ⟨rfl, rfl, rfl, by decide +kernel, rfl, by decide +kernel, by decide +kernel⟩
theorem sc_Cloakroom_coat_of : FnScope ["self", "ticket"] ["self", "ticket"] (defScope s_Cloakroom_coat_of) := ⟨rfl, rfl, rfl, by decide +kernel, rfl, by decide +kernel, by decide +kernel⟩
theorem sc_Cloakroom_hanging : FnScope ["self", "ticket", "coat"] ["self", "ticket"] (defScope s_Cloakroom_hanging) := ⟨rfl, rfl, rfl, by decide +kernel, rfl, by decide +kernel, by decide +kernel⟩
theorem sc_Cloakroom_claim_of : FnScope ["self", "number"] ["self", "number"] (defScope s_Cloakroom_claim_of) := ⟨rfl, rfl, rfl, by decide +kernel, rfl, by decide +kernel, by decide +kernel⟩
theorem sc_Cloakroom_open_claim : FnScope ["self", "number", "claim"] ["self", "number"] (defScope s_Cloakroom_open_claim) := ⟨rfl, rfl, rfl, by decide +kernel, rfl, by decide +kernel, by decide +kernel⟩
theorem sc_Cloakroom_walk_for : FnScope ["self", "place"] ["self", "place"] (defScope s_Cloakroom_walk_for) := ⟨rfl, rfl, rfl, by decide +kernel, rfl, by decide +kernel, by decide +kernel⟩
theorem sc_Cloakroom_hand_out : FnScope ["self", "ticket", "coat", "many"] ["self", "ticket"] (defScope s_Cloakroom_hand_out) := ⟨rfl, rfl, rfl, by decide +kernel, rfl, by decide +kernel, by decide +kernel⟩
theorem sc_Cloakroom_hang : FnScope ["self", "wide", "kind", "colour", "place", "ticket"] ["self", "wide", "kind", "colour"] (defScope s_Cloakroom_hang) := ⟨rfl, rfl, rfl, by decide +kernel, rfl, by decide +kernel, by decide +kernel⟩
theorem sc_Cloakroom_fetch : FnScope ["self", "ticket"] ["self", "ticket"] (defScope s_Cloakroom_fetch) := ⟨rfl, rfl, rfl, by decide +kernel, rfl, by decide +kernel, by decide +kernel⟩
theorem sc_Cloakroom_make : FnScope ["self", "wide", "best", "place", "moves", "found", "ticket", "there", "coat"] ["self", "wide"] (defScope s_Cloakroom_make) := ⟨rfl, rfl, rfl, by decide +kernel, rfl, by decide +kernel, by decide +kernel⟩
theorem sc_Cloakroom_move : FnScope ["self", "ticket", "rack", "hook", "coat", "place", "one"] ["self", "ticket", "rack", "hook"] (defScope s_Cloakroom_move) := ⟨rfl, rfl, rfl, by decide +kernel, rfl, by decide +kernel, by decide +kernel⟩
theorem sc_Cloakroom_claim : FnScope ["self", "kind", "colour", "low", "high", "are_right", "one"] ["self", "kind", "colour", "low", "high"] (defScope s_Cloakroom_claim) := ⟨rfl, rfl, rfl, by decide +kernel, rfl, by decide +kernel, by decide +kernel⟩
theorem sc_Cloakroom_whose : FnScope ["self", "number", "one", "tickets"] ["self", "number"] (defScope s_Cloakroom_whose) := ⟨rfl, rfl, rfl, by decide +kernel, rfl, by decide +kernel, by decide +kernel⟩
theorem sc_Cloakroom_settle : FnScope ["self", "number", "one", "tickets"] ["self", "number"] (defScope s_Cloakroom_settle) := ⟨rfl, rfl, rfl, by decide +kernel, rfl, by decide +kernel, by decide +kernel⟩
theorem sc_Cloakroom_drop : FnScope ["self", "number"] ["self", "number"] (defScope s_Cloakroom_drop) := ⟨rfl, rfl, rfl, by decide +kernel, rfl, by decide +kernel, by decide +kernel⟩
theorem sc_Cloakroom_rack_told : FnScope ["self", "rack"] ["self", "rack"] (defScope s_Cloakroom_rack_told) := ⟨rfl, rfl, rfl, by decide +kernel, rfl, by decide +kernel, by decide +kernel⟩
theorem sc_Cloakroom_look : FnScope ["self", "ticket", "coat", "found"] ["self", "ticket"] (defScope s_Cloakroom_look) := ⟨rfl, rfl, rfl, by decide +kernel, rfl, by decide +kernel, by decide +kernel⟩
theorem sc_Cloakroom_counts : FnScope ["self", "hanging", "found", "coat"] ["self"] (defScope s_Cloakroom_counts) := ⟨rfl, rfl, rfl, by decide +kernel, rfl, by decide +kernel, by decide +kernel⟩
theorem sc_Cloakroom_about_coats : FnScope ["self", "call", "n"] ["self", "call", "n"] (defScope s_Cloakroom_about_coats) := ⟨rfl, rfl, rfl, by decide +kernel, rfl, by decide +kernel, by decide +kernel⟩
theorem sc_Cloakroom_called : FnScope ["self", "call", "n"] ["self", "call", "n"] (defScope s_Cloakroom_called) := ⟨rfl, rfl, rfl, by decide +kernel, rfl, by decide +kernel, by decide +kernel⟩
theorem sc_Cloakroom_answer : FnScope ["self", "call", "n", "found", "e"] ["self", "call", "n"] (defScope s_Cloakroom_answer) := ⟨rfl, rfl, rfl, by decide +kernel, rfl, by decide +kernel, by decide +kernel⟩
theorem sc_answers : FnScope ["calls", "room", "found", "at", "call", "begin", "numbers", "row", "k"] ["calls"] (defScope s_answers) := ⟨rfl, rfl, rfl, by decide +kernel, rfl, by decide +kernel, by decide +kernel⟩
/-- where the classes and defs stand -/
structure Ads where
  c_Coat : Addr
  c_Claim : Addr
  c_Racks : Addr
  c_Refused : Addr
  c_Cloakroom : Addr
  a_NUMBERS : Addr
  f_Coat_init : Addr
  d_Coat_init : FuncData
  f_Coat_hang_at : Addr
  d_Coat_hang_at : FuncData
  f_Claim_init : Addr
  d_Claim_init : FuncData
  f_Claim_settle_by : Addr
  d_Claim_settle_by : FuncData
  f_Claim_suits : Addr
  d_Claim_suits : FuncData
  f_suiting : Addr
  d_suiting : FuncData
  f_with_one_more : Addr
  d_with_one_more : FuncData
  f_can_all_have : Addr
  d_can_all_have : FuncData
  f_possible : Addr
  d_possible : FuncData
  f_Racks_init : Addr
  d_Racks_init : FuncData
  f_Racks_copied : Addr
  d_Racks_copied : FuncData
  f_Racks_has_place : Addr
  d_Racks_has_place : FuncData
  f_Racks_place_at : Addr
  d_Racks_place_at : FuncData
  f_Racks_places_of : Addr
  d_Racks_places_of : FuncData
  f_Racks_coats_at : Addr
  d_Racks_coats_at : FuncData
  f_Racks_first_free : Addr
  d_Racks_first_free : FuncData
  f_Racks_hang_on : Addr
  d_Racks_hang_on : FuncData
  f_Racks_take_off : Addr
  d_Racks_take_off : FuncData
  f_have_common : Addr
  d_have_common : FuncData
  f_are_racks : Addr
  d_are_racks : FuncData
  f_moves_for : Addr
  d_moves_for : FuncData
  f_fewest_moves : Addr
  d_fewest_moves : FuncData
  f_Refused_init : Addr
  d_Refused_init : FuncData
  f_want : Addr
  d_want : FuncData
  f_Cloakroom_init : Addr
  d_Cloakroom_init : FuncData
  f_Cloakroom_coat_of : Addr
  d_Cloakroom_coat_of : FuncData
  f_Cloakroom_hanging : Addr
  d_Cloakroom_hanging : FuncData
  f_Cloakroom_claim_of : Addr
  d_Cloakroom_claim_of : FuncData
  f_Cloakroom_open_claim : Addr
  d_Cloakroom_open_claim : FuncData
  f_Cloakroom_walk_for : Addr
  d_Cloakroom_walk_for : FuncData
  f_Cloakroom_hand_out : Addr
  d_Cloakroom_hand_out : FuncData
  f_Cloakroom_hang : Addr
  d_Cloakroom_hang : FuncData
  f_Cloakroom_fetch : Addr
  d_Cloakroom_fetch : FuncData
  f_Cloakroom_make : Addr
  d_Cloakroom_make : FuncData
  f_Cloakroom_move : Addr
  d_Cloakroom_move : FuncData
  f_Cloakroom_claim : Addr
  d_Cloakroom_claim : FuncData
  f_Cloakroom_whose : Addr
  d_Cloakroom_whose : FuncData
  f_Cloakroom_settle : Addr
  d_Cloakroom_settle : FuncData
  f_Cloakroom_drop : Addr
  d_Cloakroom_drop : FuncData
  f_Cloakroom_rack_told : Addr
  d_Cloakroom_rack_told : FuncData
  f_Cloakroom_look : Addr
  d_Cloakroom_look : FuncData
  f_Cloakroom_counts : Addr
  d_Cloakroom_counts : FuncData
  f_Cloakroom_about_coats : Addr
  d_Cloakroom_about_coats : FuncData
  f_Cloakroom_called : Addr
  d_Cloakroom_called : FuncData
  f_Cloakroom_answer : Addr
  d_Cloakroom_answer : FuncData
  f_answers : Addr
  d_answers : FuncData
/-- what the top has written -/
structure Txt (K : PySem.W.Frag) (mg : Str → Option Value) (D : Ads) : Prop where
  F_Coat_init : Fun K "__init__" "Coat.__init__" s_Coat_init D.f_Coat_init D.d_Coat_init
  b_Coat_init : Binds K D.d_Coat_init ["self", "wide", "kind", "colour", "time", "place"] []
  F_Coat_hang_at : Fun K "hang_at" "Coat.hang_at" s_Coat_hang_at D.f_Coat_hang_at D.d_Coat_hang_at
  b_Coat_hang_at : Binds K D.d_Coat_hang_at ["self", "place"] []
  m_Coat_hang_at : Meth K D.c_Coat "hang_at" D.f_Coat_hang_at
  F_Claim_init : Fun K "__init__" "Claim.__init__" s_Claim_init D.f_Claim_init D.d_Claim_init
  b_Claim_init : Binds K D.d_Claim_init ["self", "kind", "colour", "low", "high"] []
  F_Claim_settle_by : Fun K "settle_by" "Claim.settle_by" s_Claim_settle_by D.f_Claim_settle_by D.d_Claim_settle_by
  b_Claim_settle_by : Binds K D.d_Claim_settle_by ["self", "ticket"] []
  m_Claim_settle_by : Meth K D.c_Claim "settle_by" D.f_Claim_settle_by
  F_Claim_suits : Fun K "suits" "Claim.suits" s_Claim_suits D.f_Claim_suits D.d_Claim_suits
  b_Claim_suits : Binds K D.d_Claim_suits ["self", "coat"] []
  m_Claim_suits : Meth K D.c_Claim "suits" D.f_Claim_suits
  F_suiting : Fun K "suiting" "suiting" s_suiting D.f_suiting D.d_suiting
  b_suiting : Binds K D.d_suiting ["claim", "coats"] []
  g_suiting : mg "suiting" = some (.ref D.f_suiting)
  F_with_one_more : Fun K "with_one_more" "with_one_more" s_with_one_more D.f_with_one_more D.d_with_one_more
  b_with_one_more : Binds K D.d_with_one_more ["given", "rows", "claim", "tried"] []
  g_with_one_more : mg "with_one_more" = some (.ref D.f_with_one_more)
  F_can_all_have : Fun K "can_all_have" "can_all_have" s_can_all_have D.f_can_all_have D.d_can_all_have
  b_can_all_have : Binds K D.d_can_all_have ["rows"] []
  g_can_all_have : mg "can_all_have" = some (.ref D.f_can_all_have)
  F_possible : Fun K "possible" "possible" s_possible D.f_possible D.d_possible
  b_possible : Binds K D.d_possible ["claims", "number", "coats"] []
  g_possible : mg "possible" = some (.ref D.f_possible)
  F_Racks_init : Fun K "__init__" "Racks.__init__" s_Racks_init D.f_Racks_init D.d_Racks_init
  b_Racks_init : Binds K D.d_Racks_init ["self", "racks"] []
  F_Racks_copied : Fun K "copied" "Racks.copied" s_Racks_copied D.f_Racks_copied D.d_Racks_copied
  b_Racks_copied : Binds K D.d_Racks_copied ["self"] []
  m_Racks_copied : Meth K D.c_Racks "copied" D.f_Racks_copied
  F_Racks_has_place : Fun K "has_place" "Racks.has_place" s_Racks_has_place D.f_Racks_has_place D.d_Racks_has_place
  b_Racks_has_place : Binds K D.d_Racks_has_place ["self", "rack", "hook", "wide"] []
  m_Racks_has_place : Meth K D.c_Racks "has_place" D.f_Racks_has_place
  F_Racks_place_at : Fun K "place_at" "Racks.place_at" s_Racks_place_at D.f_Racks_place_at D.d_Racks_place_at
  b_Racks_place_at : Binds K D.d_Racks_place_at ["self", "rack", "hook"] []
  m_Racks_place_at : Meth K D.c_Racks "place_at" D.f_Racks_place_at
  F_Racks_places_of : Fun K "places_of" "Racks.places_of" s_Racks_places_of D.f_Racks_places_of D.d_Racks_places_of
  b_Racks_places_of : Binds K D.d_Racks_places_of ["self", "wide"] []
  m_Racks_places_of : Meth K D.c_Racks "places_of" D.f_Racks_places_of
  F_Racks_coats_at : Fun K "coats_at" "Racks.coats_at" s_Racks_coats_at D.f_Racks_coats_at D.d_Racks_coats_at
  b_Racks_coats_at : Binds K D.d_Racks_coats_at ["self", "place", "wide"] []
  m_Racks_coats_at : Meth K D.c_Racks "coats_at" D.f_Racks_coats_at
  F_Racks_first_free : Fun K "first_free" "Racks.first_free" s_Racks_first_free D.f_Racks_first_free D.d_Racks_first_free
  b_Racks_first_free : Binds K D.d_Racks_first_free ["self", "wide", "kept"] []
  m_Racks_first_free : Meth K D.c_Racks "first_free" D.f_Racks_first_free
  F_Racks_hang_on : Fun K "hang_on" "Racks.hang_on" s_Racks_hang_on D.f_Racks_hang_on D.d_Racks_hang_on
  b_Racks_hang_on : Binds K D.d_Racks_hang_on ["self", "ticket", "place", "wide"] []
  m_Racks_hang_on : Meth K D.c_Racks "hang_on" D.f_Racks_hang_on
  F_Racks_take_off : Fun K "take_off" "Racks.take_off" s_Racks_take_off D.f_Racks_take_off D.d_Racks_take_off
  b_Racks_take_off : Binds K D.d_Racks_take_off ["self", "ticket"] []
  m_Racks_take_off : Meth K D.c_Racks "take_off" D.f_Racks_take_off
  F_have_common : Fun K "have_common" "have_common" s_have_common D.f_have_common D.d_have_common
  b_have_common : Binds K D.d_have_common ["place", "wide", "kept"] []
  g_have_common : mg "have_common" = some (.ref D.f_have_common)
  F_are_racks : Fun K "are_racks" "are_racks" s_are_racks D.f_are_racks D.d_are_racks
  b_are_racks : Binds K D.d_are_racks ["row"] []
  g_are_racks : mg "are_racks" = some (.ref D.f_are_racks)
  F_moves_for : Fun K "moves_for" "moves_for" s_moves_for D.f_moves_for D.d_moves_for
  b_moves_for : Binds K D.d_moves_for ["racks", "widths", "place", "wide"] []
  g_moves_for : mg "moves_for" = some (.ref D.f_moves_for)
  F_fewest_moves : Fun K "fewest_moves" "fewest_moves" s_fewest_moves D.f_fewest_moves D.d_fewest_moves
  b_fewest_moves : Binds K D.d_fewest_moves ["racks", "widths", "wide"] []
  g_fewest_moves : mg "fewest_moves" = some (.ref D.f_fewest_moves)
  F_Refused_init : Fun K "__init__" "Refused.__init__" s_Refused_init D.f_Refused_init D.d_Refused_init
  b_Refused_init : Binds K D.d_Refused_init ["self", "code"] []
  F_want : Fun K "want" "want" s_want D.f_want D.d_want
  b_want : Binds K D.d_want ["truth", "code"] []
  g_want : mg "want" = some (.ref D.f_want)
  F_Cloakroom_init : Fun K "__init__" "Cloakroom.__init__" s_Cloakroom_init D.f_Cloakroom_init D.d_Cloakroom_init
  b_Cloakroom_init : Binds K D.d_Cloakroom_init ["self", "racks"] []
  F_Cloakroom_coat_of : Fun K "coat_of" "Cloakroom.coat_of" s_Cloakroom_coat_of D.f_Cloakroom_coat_of D.d_Cloakroom_coat_of
  b_Cloakroom_coat_of : Binds K D.d_Cloakroom_coat_of ["self", "ticket"] []
  m_Cloakroom_coat_of : Meth K D.c_Cloakroom "coat_of" D.f_Cloakroom_coat_of
  F_Cloakroom_hanging : Fun K "hanging" "Cloakroom.hanging" s_Cloakroom_hanging D.f_Cloakroom_hanging D.d_Cloakroom_hanging
  b_Cloakroom_hanging : Binds K D.d_Cloakroom_hanging ["self", "ticket"] []
  m_Cloakroom_hanging : Meth K D.c_Cloakroom "hanging" D.f_Cloakroom_hanging
  F_Cloakroom_claim_of : Fun K "claim_of" "Cloakroom.claim_of" s_Cloakroom_claim_of D.f_Cloakroom_claim_of D.d_Cloakroom_claim_of
  b_Cloakroom_claim_of : Binds K D.d_Cloakroom_claim_of ["self", "number"] []
  m_Cloakroom_claim_of : Meth K D.c_Cloakroom "claim_of" D.f_Cloakroom_claim_of
  F_Cloakroom_open_claim : Fun K "open_claim" "Cloakroom.open_claim" s_Cloakroom_open_claim D.f_Cloakroom_open_claim D.d_Cloakroom_open_claim
  b_Cloakroom_open_claim : Binds K D.d_Cloakroom_open_claim ["self", "number"] []
  m_Cloakroom_open_claim : Meth K D.c_Cloakroom "open_claim" D.f_Cloakroom_open_claim
  F_Cloakroom_walk_for : Fun K "walk_for" "Cloakroom.walk_for" s_Cloakroom_walk_for D.f_Cloakroom_walk_for D.d_Cloakroom_walk_for
  b_Cloakroom_walk_for : Binds K D.d_Cloakroom_walk_for ["self", "place"] []
  m_Cloakroom_walk_for : Meth K D.c_Cloakroom "walk_for" D.f_Cloakroom_walk_for
  F_Cloakroom_hand_out : Fun K "hand_out" "Cloakroom.hand_out" s_Cloakroom_hand_out D.f_Cloakroom_hand_out D.d_Cloakroom_hand_out
  b_Cloakroom_hand_out : Binds K D.d_Cloakroom_hand_out ["self", "ticket"] []
  m_Cloakroom_hand_out : Meth K D.c_Cloakroom "hand_out" D.f_Cloakroom_hand_out
  F_Cloakroom_hang : Fun K "hang" "Cloakroom.hang" s_Cloakroom_hang D.f_Cloakroom_hang D.d_Cloakroom_hang
  b_Cloakroom_hang : Binds K D.d_Cloakroom_hang ["self", "wide", "kind", "colour"] []
  m_Cloakroom_hang : Meth K D.c_Cloakroom "hang" D.f_Cloakroom_hang
  F_Cloakroom_fetch : Fun K "fetch" "Cloakroom.fetch" s_Cloakroom_fetch D.f_Cloakroom_fetch D.d_Cloakroom_fetch
  b_Cloakroom_fetch : Binds K D.d_Cloakroom_fetch ["self", "ticket"] []
  m_Cloakroom_fetch : Meth K D.c_Cloakroom "fetch" D.f_Cloakroom_fetch
  F_Cloakroom_make : Fun K "make" "Cloakroom.make" s_Cloakroom_make D.f_Cloakroom_make D.d_Cloakroom_make
  b_Cloakroom_make : Binds K D.d_Cloakroom_make ["self", "wide"] []
  m_Cloakroom_make : Meth K D.c_Cloakroom "make" D.f_Cloakroom_make
  F_Cloakroom_move : Fun K "move" "Cloakroom.move" s_Cloakroom_move D.f_Cloakroom_move D.d_Cloakroom_move
  b_Cloakroom_move : Binds K D.d_Cloakroom_move ["self", "ticket", "rack", "hook"] []
  m_Cloakroom_move : Meth K D.c_Cloakroom "move" D.f_Cloakroom_move
  F_Cloakroom_claim : Fun K "claim" "Cloakroom.claim" s_Cloakroom_claim D.f_Cloakroom_claim D.d_Cloakroom_claim
  b_Cloakroom_claim : Binds K D.d_Cloakroom_claim ["self", "kind", "colour", "low", "high"] []
  m_Cloakroom_claim : Meth K D.c_Cloakroom "claim" D.f_Cloakroom_claim
  F_Cloakroom_whose : Fun K "whose" "Cloakroom.whose" s_Cloakroom_whose D.f_Cloakroom_whose D.d_Cloakroom_whose
  b_Cloakroom_whose : Binds K D.d_Cloakroom_whose ["self", "number"] []
  m_Cloakroom_whose : Meth K D.c_Cloakroom "whose" D.f_Cloakroom_whose
  F_Cloakroom_settle : Fun K "settle" "Cloakroom.settle" s_Cloakroom_settle D.f_Cloakroom_settle D.d_Cloakroom_settle
  b_Cloakroom_settle : Binds K D.d_Cloakroom_settle ["self", "number"] []
  m_Cloakroom_settle : Meth K D.c_Cloakroom "settle" D.f_Cloakroom_settle
  F_Cloakroom_drop : Fun K "drop" "Cloakroom.drop" s_Cloakroom_drop D.f_Cloakroom_drop D.d_Cloakroom_drop
  b_Cloakroom_drop : Binds K D.d_Cloakroom_drop ["self", "number"] []
  m_Cloakroom_drop : Meth K D.c_Cloakroom "drop" D.f_Cloakroom_drop
  F_Cloakroom_rack_told : Fun K "rack_told" "Cloakroom.rack_told" s_Cloakroom_rack_told D.f_Cloakroom_rack_told D.d_Cloakroom_rack_told
  b_Cloakroom_rack_told : Binds K D.d_Cloakroom_rack_told ["self", "rack"] []
  m_Cloakroom_rack_told : Meth K D.c_Cloakroom "rack_told" D.f_Cloakroom_rack_told
  F_Cloakroom_look : Fun K "look" "Cloakroom.look" s_Cloakroom_look D.f_Cloakroom_look D.d_Cloakroom_look
  b_Cloakroom_look : Binds K D.d_Cloakroom_look ["self", "ticket"] []
  m_Cloakroom_look : Meth K D.c_Cloakroom "look" D.f_Cloakroom_look
  F_Cloakroom_counts : Fun K "counts" "Cloakroom.counts" s_Cloakroom_counts D.f_Cloakroom_counts D.d_Cloakroom_counts
  b_Cloakroom_counts : Binds K D.d_Cloakroom_counts ["self"] []
  m_Cloakroom_counts : Meth K D.c_Cloakroom "counts" D.f_Cloakroom_counts
  F_Cloakroom_about_coats : Fun K "about_coats" "Cloakroom.about_coats" s_Cloakroom_about_coats D.f_Cloakroom_about_coats D.d_Cloakroom_about_coats
  b_Cloakroom_about_coats : Binds K D.d_Cloakroom_about_coats ["self", "call", "n"] []
  m_Cloakroom_about_coats : Meth K D.c_Cloakroom "about_coats" D.f_Cloakroom_about_coats
  F_Cloakroom_called : Fun K "called" "Cloakroom.called" s_Cloakroom_called D.f_Cloakroom_called D.d_Cloakroom_called
  b_Cloakroom_called : Binds K D.d_Cloakroom_called ["self", "call", "n"] []
  m_Cloakroom_called : Meth K D.c_Cloakroom "called" D.f_Cloakroom_called
  F_Cloakroom_answer : Fun K "answer" "Cloakroom.answer" s_Cloakroom_answer D.f_Cloakroom_answer D.d_Cloakroom_answer
  b_Cloakroom_answer : Binds K D.d_Cloakroom_answer ["self", "call", "n"] []
  m_Cloakroom_answer : Meth K D.c_Cloakroom "answer" D.f_Cloakroom_answer
  F_answers : Fun K "answers" "answers" s_answers D.f_answers D.d_answers
  b_answers : Binds K D.d_answers ["calls"] []
  g_answers : mg "answers" = some (.ref D.f_answers)
  g_Coat : mg "Coat" = some (.ref D.c_Coat)
  cl_Coat : Cls K D.c_Coat
  mk_Coat : Mk K D.c_Coat D.f_Coat_init
  n_Coat_wide : NoAttr K D.c_Coat "wide"
  n_Coat_kind : NoAttr K D.c_Coat "kind"
  n_Coat_colour : NoAttr K D.c_Coat "colour"
  n_Coat_time : NoAttr K D.c_Coat "time"
  n_Coat_place : NoAttr K D.c_Coat "place"
  g_Claim : mg "Claim" = some (.ref D.c_Claim)
  cl_Claim : Cls K D.c_Claim
  mk_Claim : Mk K D.c_Claim D.f_Claim_init
  n_Claim_kind : NoAttr K D.c_Claim "kind"
  n_Claim_colour : NoAttr K D.c_Claim "colour"
  n_Claim_low : NoAttr K D.c_Claim "low"
  n_Claim_high : NoAttr K D.c_Claim "high"
  n_Claim_ticket : NoAttr K D.c_Claim "ticket"
  g_Racks : mg "Racks" = some (.ref D.c_Racks)
  cl_Racks : Cls K D.c_Racks
  mk_Racks : Mk K D.c_Racks D.f_Racks_init
  n_Racks_racks : NoAttr K D.c_Racks "racks"
  n_Racks_hooks : NoAttr K D.c_Racks "hooks"
  g_Refused : mg "Refused" = some (.ref D.c_Refused)
  g_Cloakroom : mg "Cloakroom" = some (.ref D.c_Cloakroom)
  cl_Cloakroom : Cls K D.c_Cloakroom
  mk_Cloakroom : Mk K D.c_Cloakroom D.f_Cloakroom_init
  n_Cloakroom_racks : NoAttr K D.c_Cloakroom "racks"
  n_Cloakroom_coats : NoAttr K D.c_Cloakroom "coats"
  n_Cloakroom_claims : NoAttr K D.c_Cloakroom "claims"
  n_Cloakroom_time : NoAttr K D.c_Cloakroom "time"
  n_Cloakroom_walked : NoAttr K D.c_Cloakroom "walked"
  ne_Claim_Coat : D.c_Claim ≠ D.c_Coat
  ne_Racks_Coat : D.c_Racks ≠ D.c_Coat
  ne_Racks_Claim : D.c_Racks ≠ D.c_Claim
  ne_Cloakroom_Coat : D.c_Cloakroom ≠ D.c_Coat
  ne_Cloakroom_Claim : D.c_Cloakroom ≠ D.c_Claim
  ne_Cloakroom_Racks : D.c_Cloakroom ≠ D.c_Racks
  oex : OexC K D.c_Refused
  iC : PySem.W.findIn K (.ref D.c_Refused) "__init__" = some (some (.ref D.f_Refused_init))
  tI : PySem.W.typeIn K (.ref D.f_Refused_init) = some (.type "function")
  nCode : PySem.W.findIn K (.ref D.c_Refused) "code" = some none
  vV : PySem.W.findCls K (.type "ValueError") (.type "type") "__init__" = some (.val (.builtin "ValueError.__init__"))
  te : PySem.W.exmOne K (.ref D.c_Refused) (.ref D.c_Refused) = some true
  xf : XfC K D.c_Refused
  k_UNKNOWN : ∃ t, mg "UNKNOWN" = some (.int (-1) t)
  k_FREE : ∃ t, mg "FREE" = some (.int (-1) t)
  k_WRONG : ∃ t, mg "WRONG" = some (.int (-1) t)
  k_NO_SUCH : ∃ t, mg "NO_SUCH" = some (.int (-2) t)
  k_NO_ROOM : ∃ t, mg "NO_ROOM" = some (.int (-3) t)
  k_OVER : ∃ t, mg "OVER" = some (.int (-4) t)
  k_TOO_MANY : ∃ t, mg "TOO_MANY" = some (.int (-5) t)
  k_NONE_POSSIBLE : ∃ t, mg "NONE_POSSIBLE" = some (.int (-6) t)
  k_SEVERAL : ∃ t, mg "SEVERAL" = some (.int (-7) t)
  k_GONE : ∃ t, mg "GONE" = some (.int (-1) t)
  k_MOST_WIDE : ∃ t, mg "MOST_WIDE" = some (.int 3 t)
  k_MOST_NUMBER : ∃ t, mg "MOST_NUMBER" = some (.int 9 t)
  k_MOST_COATS : ∃ t, mg "MOST_COATS" = some (.int 60 t)
  k_MOST_CLAIMS : ∃ t, mg "MOST_CLAIMS" = some (.int 8 t)
  k_BEGIN : ∃ t, mg "BEGIN" = some (.int 0 t)
  g_NUMBERS : mg "NUMBERS" = some (.ref D.a_NUMBERS)
  t_NUMBERS : ∃ (o : Obj) (its : Array Value) (n : Nat), K.lookup D.a_NUMBERS = some o ∧ o.cls = .type "tuple" ∧ o.data = .seq its n ∧ its.size ≤ sizeLine ∧ Vals (numbers.map V.int) its.toList
  w_len : mg "len" = none
  w_enumerate : mg "enumerate" = none
  w_range : mg "range" = none
  w_dict : mg "dict" = none
  w_sorted : mg "sorted" = none
  w_all : mg "all" = none
  w_list : mg "list" = none
  w_ValueError : mg "ValueError" = none
end Ck
end
section
set_option Elab.async false
set_option linter.all false
set_option maxRecDepth 100000
set_option maxHeartbeats 4000000
/-! The heap: how the racks, the coats, the claims and the room lie in it. -/
namespace Ck
open PySem PySem.Spec PyProof.Rows L2
open Mu10 (State Coat Rack Spot)
/-! ### short words -/
theorem if_true_of {c : Bool} {A B : Prop} (hc : c = true) (h : A) : if c = true then A else B := by
  rw [if_pos hc]
  exact h
theorem if_false_of {c : Bool} {A B : Prop} (hc : c = false) (h : B) : if c = true then A else B := by
  rw [hc, if_neg Bool.false_ne_true]
  exact h
theorem lk_here {k : Str} {v : V} {r : List (Str × V)} : List.lookup k ((k, v) :: r) = some v := by
  have e : (k == k) = true := beq_self_eq_true k
  simp only [List.lookup, e]
theorem lk_past {k g : Str} {v : V} {r : List (Str × V)} (h : (k == g) = false) : List.lookup k ((g, v) :: r) = List.lookup k r := by
  simp only [List.lookup, h]
theorem put_here {f : Str} {v x : V} {r : List (Str × V)} : putF f v ((f, x) :: r) = (f, v) :: r := if_pos rfl
theorem put_past {f g : Str} {v x : V} {r : List (Str × V)} (h : ¬ g = f) : putF f v ((g, x) :: r) = (g, x) :: putF f v r := if_neg h
/-- a whole number of the module's top -/
theorem pe_num {X : Cx} {x : Str} {i : Int} {pos : Pos} (hm : ∃ t, X.mg x = some (.int i t)) (hg : Gl X x := by rfl) (hd : (x == ("__debug__" : Str)) = false := by decide) : PE X (.Name x pos) (tC (.int i)) := by
  obtain ⟨t, e⟩ := hm
  exact pe_glob hg e ⟨t, rfl⟩ hd
/-- the fields of a Coat -/
def F_Coat (v0 v1 v2 v3 v4 : V) : List (Str × V) := [("wide", v0), ("kind", v1), ("colour", v2), ("time", v3), ("place", v4)]
section
variable {v0 v1 v2 v3 v4 y : V}
theorem lk_Coat_wide : (F_Coat v0 v1 v2 v3 v4).lookup ("wide" : Str) = some v0 := lk_here
theorem pf_Coat_wide : putF "wide" y (F_Coat v0 v1 v2 v3 v4) = F_Coat y v1 v2 v3 v4 := put_here
theorem lk_Coat_kind : (F_Coat v0 v1 v2 v3 v4).lookup ("kind" : Str) = some v1 := (lk_past (by decide +kernel)).trans (lk_here)
theorem pf_Coat_kind : putF "kind" y (F_Coat v0 v1 v2 v3 v4) = F_Coat v0 y v2 v3 v4 := (put_past (by decide +kernel)).trans (congrArg _ (put_here))
theorem lk_Coat_colour : (F_Coat v0 v1 v2 v3 v4).lookup ("colour" : Str) = some v2 := (lk_past (by decide +kernel)).trans ((lk_past (by decide +kernel)).trans (lk_here))
theorem pf_Coat_colour : putF "colour" y (F_Coat v0 v1 v2 v3 v4) = F_Coat v0 v1 y v3 v4 := (put_past (by decide +kernel)).trans (congrArg _ ((put_past (by decide +kernel)).trans (congrArg _ (put_here))))
theorem lk_Coat_time : (F_Coat v0 v1 v2 v3 v4).lookup ("time" : Str) = some v3 := (lk_past (by decide +kernel)).trans ((lk_past (by decide +kernel)).trans ((lk_past (by decide +kernel)).trans (lk_here)))
theorem pf_Coat_time : putF "time" y (F_Coat v0 v1 v2 v3 v4) = F_Coat v0 v1 v2 y v4 := (put_past (by decide +kernel)).trans (congrArg _ ((put_past (by decide +kernel)).trans (congrArg _ ((put_past (by decide +kernel)).trans (congrArg _ (put_here))))))
theorem lk_Coat_place : (F_Coat v0 v1 v2 v3 v4).lookup ("place" : Str) = some v4 := (lk_past (by decide +kernel)).trans ((lk_past (by decide +kernel)).trans ((lk_past (by decide +kernel)).trans ((lk_past (by decide +kernel)).trans (lk_here))))
theorem pf_Coat_place : putF "place" y (F_Coat v0 v1 v2 v3 v4) = F_Coat v0 v1 v2 v3 y := (put_past (by decide +kernel)).trans (congrArg _ ((put_past (by decide +kernel)).trans (congrArg _ ((put_past (by decide +kernel)).trans (congrArg _ ((put_past (by decide +kernel)).trans (congrArg _ (put_here))))))))
theorem lm_Coat_hang_at : (F_Coat v0 v1 v2 v3 v4).lookup ("hang_at" : Str) = none := (lk_past (by decide +kernel)).trans ((lk_past (by decide +kernel)).trans ((lk_past (by decide +kernel)).trans ((lk_past (by decide +kernel)).trans ((lk_past (by decide +kernel)).trans (rfl)))))
theorem nw_Coat_0 : putF "wide" v0 ([] : List (Str × V)) = ([("wide", v0)] : List (Str × V)) := rfl
theorem nw_Coat_1 : putF "kind" v1 ([("wide", v0)] : List (Str × V)) = ([("wide", v0), ("kind", v1)] : List (Str × V)) := (put_past (by decide +kernel)).trans (congrArg _ (rfl))
theorem nw_Coat_2 : putF "colour" v2 ([("wide", v0), ("kind", v1)] : List (Str × V)) = ([("wide", v0), ("kind", v1), ("colour", v2)] : List (Str × V)) := (put_past (by decide +kernel)).trans (congrArg _ ((put_past (by decide +kernel)).trans (congrArg _ (rfl))))
theorem nw_Coat_3 : putF "time" v3 ([("wide", v0), ("kind", v1), ("colour", v2)] : List (Str × V)) = ([("wide", v0), ("kind", v1), ("colour", v2), ("time", v3)] : List (Str × V)) := (put_past (by decide +kernel)).trans (congrArg _ ((put_past (by decide +kernel)).trans (congrArg _ ((put_past (by decide +kernel)).trans (congrArg _ (rfl))))))
theorem nw_Coat_4 : putF "place" v4 ([("wide", v0), ("kind", v1), ("colour", v2), ("time", v3)] : List (Str × V)) = ([("wide", v0), ("kind", v1), ("colour", v2), ("time", v3), ("place", v4)] : List (Str × V)) := (put_past (by decide +kernel)).trans (congrArg _ ((put_past (by decide +kernel)).trans (congrArg _ ((put_past (by decide +kernel)).trans (congrArg _ ((put_past (by decide +kernel)).trans (congrArg _ (rfl))))))))
end
/-- the fields of a Claim -/
def F_Claim (v0 v1 v2 v3 v4 : V) : List (Str × V) := [("kind", v0), ("colour", v1), ("low", v2), ("high", v3), ("ticket", v4)]
section
variable {v0 v1 v2 v3 v4 y : V}
theorem lk_Claim_kind : (F_Claim v0 v1 v2 v3 v4).lookup ("kind" : Str) = some v0 := lk_here
theorem pf_Claim_kind : putF "kind" y (F_Claim v0 v1 v2 v3 v4) = F_Claim y v1 v2 v3 v4 := put_here
theorem lk_Claim_colour : (F_Claim v0 v1 v2 v3 v4).lookup ("colour" : Str) = some v1 := (lk_past (by decide +kernel)).trans (lk_here)
theorem pf_Claim_colour : putF "colour" y (F_Claim v0 v1 v2 v3 v4) = F_Claim v0 y v2 v3 v4 := (put_past (by decide +kernel)).trans (congrArg _ (put_here))
theorem lk_Claim_low : (F_Claim v0 v1 v2 v3 v4).lookup ("low" : Str) = some v2 := (lk_past (by decide +kernel)).trans ((lk_past (by decide +kernel)).trans (lk_here))
theorem pf_Claim_low : putF "low" y (F_Claim v0 v1 v2 v3 v4) = F_Claim v0 v1 y v3 v4 := (put_past (by decide +kernel)).trans (congrArg _ ((put_past (by decide +kernel)).trans (congrArg _ (put_here))))
theorem lk_Claim_high : (F_Claim v0 v1 v2 v3 v4).lookup ("high" : Str) = some v3 := (lk_past (by decide +kernel)).trans ((lk_past (by decide +kernel)).trans ((lk_past (by decide +kernel)).trans (lk_here)))
theorem pf_Claim_high : putF "high" y (F_Claim v0 v1 v2 v3 v4) = F_Claim v0 v1 v2 y v4 := (put_past (by decide +kernel)).trans (congrArg _ ((put_past (by decide +kernel)).trans (congrArg _ ((put_past (by decide +kernel)).trans (congrArg _ (put_here))))))
theorem lk_Claim_ticket : (F_Claim v0 v1 v2 v3 v4).lookup ("ticket" : Str) = some v4 := (lk_past (by decide +kernel)).trans ((lk_past (by decide +kernel)).trans ((lk_past (by decide +kernel)).trans ((lk_past (by decide +kernel)).trans (lk_here))))
theorem pf_Claim_ticket : putF "ticket" y (F_Claim v0 v1 v2 v3 v4) = F_Claim v0 v1 v2 v3 y := (put_past (by decide +kernel)).trans (congrArg _ ((put_past (by decide +kernel)).trans (congrArg _ ((put_past (by decide +kernel)).trans (congrArg _ ((put_past (by decide +kernel)).trans (congrArg _ (put_here))))))))
theorem lm_Claim_settle_by : (F_Claim v0 v1 v2 v3 v4).lookup ("settle_by" : Str) = none := (lk_past (by decide +kernel)).trans ((lk_past (by decide +kernel)).trans ((lk_past (by decide +kernel)).trans ((lk_past (by decide +kernel)).trans ((lk_past (by decide +kernel)).trans (rfl)))))
theorem lm_Claim_suits : (F_Claim v0 v1 v2 v3 v4).lookup ("suits" : Str) = none := (lk_past (by decide +kernel)).trans ((lk_past (by decide +kernel)).trans ((lk_past (by decide +kernel)).trans ((lk_past (by decide +kernel)).trans ((lk_past (by decide +kernel)).trans (rfl)))))
theorem nw_Claim_0 : putF "kind" v0 ([] : List (Str × V)) = ([("kind", v0)] : List (Str × V)) := rfl
theorem nw_Claim_1 : putF "colour" v1 ([("kind", v0)] : List (Str × V)) = ([("kind", v0), ("colour", v1)] : List (Str × V)) := (put_past (by decide +kernel)).trans (congrArg _ (rfl))
theorem nw_Claim_2 : putF "low" v2 ([("kind", v0), ("colour", v1)] : List (Str × V)) = ([("kind", v0), ("colour", v1), ("low", v2)] : List (Str × V)) := (put_past (by decide +kernel)).trans (congrArg _ ((put_past (by decide +kernel)).trans (congrArg _ (rfl))))
theorem nw_Claim_3 : putF "high" v3 ([("kind", v0), ("colour", v1), ("low", v2)] : List (Str × V)) = ([("kind", v0), ("colour", v1), ("low", v2), ("high", v3)] : List (Str × V)) := (put_past (by decide +kernel)).trans (congrArg _ ((put_past (by decide +kernel)).trans (congrArg _ ((put_past (by decide +kernel)).trans (congrArg _ (rfl))))))
theorem nw_Claim_4 : putF "ticket" v4 ([("kind", v0), ("colour", v1), ("low", v2), ("high", v3)] : List (Str × V)) = ([("kind", v0), ("colour", v1), ("low", v2), ("high", v3), ("ticket", v4)] : List (Str × V)) := (put_past (by decide +kernel)).trans (congrArg _ ((put_past (by decide +kernel)).trans (congrArg _ ((put_past (by decide +kernel)).trans (congrArg _ ((put_past (by decide +kernel)).trans (congrArg _ (rfl))))))))
end
/-- the fields of a Racks -/
def F_Racks (v0 v1 : V) : List (Str × V) := [("racks", v0), ("hooks", v1)]
section
variable {v0 v1 y : V}
theorem lk_Racks_racks : (F_Racks v0 v1).lookup ("racks" : Str) = some v0 := lk_here
theorem pf_Racks_racks : putF "racks" y (F_Racks v0 v1) = F_Racks y v1 := put_here
theorem lk_Racks_hooks : (F_Racks v0 v1).lookup ("hooks" : Str) = some v1 := (lk_past (by decide +kernel)).trans (lk_here)
theorem pf_Racks_hooks : putF "hooks" y (F_Racks v0 v1) = F_Racks v0 y := (put_past (by decide +kernel)).trans (congrArg _ (put_here))
theorem lm_Racks_copied : (F_Racks v0 v1).lookup ("copied" : Str) = none := (lk_past (by decide +kernel)).trans ((lk_past (by decide +kernel)).trans (rfl))
theorem lm_Racks_has_place : (F_Racks v0 v1).lookup ("has_place" : Str) = none := (lk_past (by decide +kernel)).trans ((lk_past (by decide +kernel)).trans (rfl))
theorem lm_Racks_place_at : (F_Racks v0 v1).lookup ("place_at" : Str) = none := (lk_past (by decide +kernel)).trans ((lk_past (by decide +kernel)).trans (rfl))
theorem lm_Racks_places_of : (F_Racks v0 v1).lookup ("places_of" : Str) = none := (lk_past (by decide +kernel)).trans ((lk_past (by decide +kernel)).trans (rfl))
theorem lm_Racks_coats_at : (F_Racks v0 v1).lookup ("coats_at" : Str) = none := (lk_past (by decide +kernel)).trans ((lk_past (by decide +kernel)).trans (rfl))
theorem lm_Racks_first_free : (F_Racks v0 v1).lookup ("first_free" : Str) = none := (lk_past (by decide +kernel)).trans ((lk_past (by decide +kernel)).trans (rfl))
theorem lm_Racks_hang_on : (F_Racks v0 v1).lookup ("hang_on" : Str) = none := (lk_past (by decide +kernel)).trans ((lk_past (by decide +kernel)).trans (rfl))
theorem lm_Racks_take_off : (F_Racks v0 v1).lookup ("take_off" : Str) = none := (lk_past (by decide +kernel)).trans ((lk_past (by decide +kernel)).trans (rfl))
theorem nw_Racks_0 : putF "racks" v0 ([] : List (Str × V)) = ([("racks", v0)] : List (Str × V)) := rfl
theorem nw_Racks_1 : putF "hooks" v1 ([("racks", v0)] : List (Str × V)) = ([("racks", v0), ("hooks", v1)] : List (Str × V)) := (put_past (by decide +kernel)).trans (congrArg _ (rfl))
end
/-- the fields of a Cloakroom -/
def F_Cloakroom (v0 v1 v2 v3 v4 : V) : List (Str × V) := [("racks", v0), ("coats", v1), ("claims", v2), ("time", v3), ("walked", v4)]
section
variable {v0 v1 v2 v3 v4 y : V}
theorem lk_Cloakroom_racks : (F_Cloakroom v0 v1 v2 v3 v4).lookup ("racks" : Str) = some v0 := lk_here
theorem pf_Cloakroom_racks : putF "racks" y (F_Cloakroom v0 v1 v2 v3 v4) = F_Cloakroom y v1 v2 v3 v4 := put_here
theorem lk_Cloakroom_coats : (F_Cloakroom v0 v1 v2 v3 v4).lookup ("coats" : Str) = some v1 := (lk_past (by decide +kernel)).trans (lk_here)
theorem pf_Cloakroom_coats : putF "coats" y (F_Cloakroom v0 v1 v2 v3 v4) = F_Cloakroom v0 y v2 v3 v4 := (put_past (by decide +kernel)).trans (congrArg _ (put_here))
theorem lk_Cloakroom_claims : (F_Cloakroom v0 v1 v2 v3 v4).lookup ("claims" : Str) = some v2 := (lk_past (by decide +kernel)).trans ((lk_past (by decide +kernel)).trans (lk_here))
theorem pf_Cloakroom_claims : putF "claims" y (F_Cloakroom v0 v1 v2 v3 v4) = F_Cloakroom v0 v1 y v3 v4 := (put_past (by decide +kernel)).trans (congrArg _ ((put_past (by decide +kernel)).trans (congrArg _ (put_here))))
theorem lk_Cloakroom_time : (F_Cloakroom v0 v1 v2 v3 v4).lookup ("time" : Str) = some v3 := (lk_past (by decide +kernel)).trans ((lk_past (by decide +kernel)).trans ((lk_past (by decide +kernel)).trans (lk_here)))
theorem pf_Cloakroom_time : putF "time" y (F_Cloakroom v0 v1 v2 v3 v4) = F_Cloakroom v0 v1 v2 y v4 := (put_past (by decide +kernel)).trans (congrArg _ ((put_past (by decide +kernel)).trans (congrArg _ ((put_past (by decide +kernel)).trans (congrArg _ (put_here))))))
theorem lk_Cloakroom_walked : (F_Cloakroom v0 v1 v2 v3 v4).lookup ("walked" : Str) = some v4 := (lk_past (by decide +kernel)).trans ((lk_past (by decide +kernel)).trans ((lk_past (by decide +kernel)).trans ((lk_past (by decide +kernel)).trans (lk_here))))
theorem pf_Cloakroom_walked : putF "walked" y (F_Cloakroom v0 v1 v2 v3 v4) = F_Cloakroom v0 v1 v2 v3 y := (put_past (by decide +kernel)).trans (congrArg _ ((put_past (by decide +kernel)).trans (congrArg _ ((put_past (by decide +kernel)).trans (congrArg _ ((put_past (by decide +kernel)).trans (congrArg _ (put_here))))))))
theorem lm_Cloakroom_coat_of : (F_Cloakroom v0 v1 v2 v3 v4).lookup ("coat_of" : Str) = none := (lk_past (by decide +kernel)).trans ((lk_past (by decide +kernel)).trans ((lk_past (by decide +kernel)).trans ((lk_past (by decide +kernel)).trans ((lk_past (by decide +kernel)).trans (rfl)))))
theorem lm_Cloakroom_hanging : (F_Cloakroom v0 v1 v2 v3 v4).lookup ("hanging" : Str) = none := (lk_past (by decide +kernel)).trans ((lk_past (by decide +kernel)).trans ((lk_past (by decide +kernel)).trans ((lk_past (by decide +kernel)).trans ((lk_past (by decide +kernel)).trans (rfl)))))
theorem lm_Cloakroom_claim_of : (F_Cloakroom v0 v1 v2 v3 v4).lookup ("claim_of" : Str) = none := (lk_past (by decide +kernel)).trans ((lk_past (by decide +kernel)).trans ((lk_past (by decide +kernel)).trans ((lk_past (by decide +kernel)).trans ((lk_past (by decide +kernel)).trans (rfl)))))
theorem lm_Cloakroom_open_claim : (F_Cloakroom v0 v1 v2 v3 v4).lookup ("open_claim" : Str) = none := (lk_past (by decide +kernel)).trans ((lk_past (by decide +kernel)).trans ((lk_past (by decide +kernel)).trans ((lk_past (by decide +kernel)).trans ((lk_past (by decide +kernel)).trans (rfl)))))
theorem lm_Cloakroom_walk_for : (F_Cloakroom v0 v1 v2 v3 v4).lookup ("walk_for" : Str) = none := (lk_past (by decide +kernel)).trans ((lk_past (by decide +kernel)).trans ((lk_past (by decide +kernel)).trans ((lk_past (by decide +kernel)).trans ((lk_past (by decide +kernel)).trans (rfl)))))
theorem lm_Cloakroom_hand_out : (F_Cloakroom v0 v1 v2 v3 v4).lookup ("hand_out" : Str) = none := (lk_past (by decide +kernel)).trans ((lk_past (by decide +kernel)).trans ((lk_past (by decide +kernel)).trans ((lk_past (by decide +kernel)).trans ((lk_past (by decide +kernel)).trans (rfl)))))
theorem lm_Cloakroom_hang : (F_Cloakroom v0 v1 v2 v3 v4).lookup ("hang" : Str) = none := (lk_past (by decide +kernel)).trans ((lk_past (by decide +kernel)).trans ((lk_past (by decide +kernel)).trans ((lk_past (by decide +kernel)).trans ((lk_past (by decide +kernel)).trans (rfl)))))
theorem lm_Cloakroom_fetch : (F_Cloakroom v0 v1 v2 v3 v4).lookup ("fetch" : Str) = none := (lk_past (by decide +kernel)).trans ((lk_past (by decide +kernel)).trans ((lk_past (by decide +kernel)).trans ((lk_past (by decide +kernel)).trans ((lk_past (by decide +kernel)).trans (rfl)))))
theorem lm_Cloakroom_make : (F_Cloakroom v0 v1 v2 v3 v4).lookup ("make" : Str) = none := (lk_past (by decide +kernel)).trans ((lk_past (by decide +kernel)).trans ((lk_past (by decide +kernel)).trans ((lk_past (by decide +kernel)).trans ((lk_past (by decide +kernel)).trans (rfl)))))
theorem lm_Cloakroom_move : (F_Cloakroom v0 v1 v2 v3 v4).lookup ("move" : Str) = none := (lk_past (by decide +kernel)).trans ((lk_past (by decide +kernel)).trans ((lk_past (by decide +kernel)).trans ((lk_past (by decide +kernel)).trans ((lk_past (by decide +kernel)).trans (rfl)))))
theorem lm_Cloakroom_claim : (F_Cloakroom v0 v1 v2 v3 v4).lookup ("claim" : Str) = none := (lk_past (by decide +kernel)).trans ((lk_past (by decide +kernel)).trans ((lk_past (by decide +kernel)).trans ((lk_past (by decide +kernel)).trans ((lk_past (by decide +kernel)).trans (rfl)))))
theorem lm_Cloakroom_whose : (F_Cloakroom v0 v1 v2 v3 v4).lookup ("whose" : Str) = none := (lk_past (by decide +kernel)).trans ((lk_past (by decide +kernel)).trans ((lk_past (by decide +kernel)).trans ((lk_past (by decide +kernel)).trans ((lk_past (by decide +kernel)).trans (rfl)))))
theorem lm_Cloakroom_settle : (F_Cloakroom v0 v1 v2 v3 v4).lookup ("settle" : Str) = none := (lk_past (by decide +kernel)).trans ((lk_past (by decide +kernel)).trans ((lk_past (by decide +kernel)).trans ((lk_past (by decide +kernel)).trans ((lk_past (by decide +kernel)).trans (rfl)))))
theorem lm_Cloakroom_drop : (F_Cloakroom v0 v1 v2 v3 v4).lookup ("drop" : Str) = none := (lk_past (by decide +kernel)).trans ((lk_past (by decide +kernel)).trans ((lk_past (by decide +kernel)).trans ((lk_past (by decide +kernel)).trans ((lk_past (by decide +kernel)).trans (rfl)))))
theorem lm_Cloakroom_rack_told : (F_Cloakroom v0 v1 v2 v3 v4).lookup ("rack_told" : Str) = none := (lk_past (by decide +kernel)).trans ((lk_past (by decide +kernel)).trans ((lk_past (by decide +kernel)).trans ((lk_past (by decide +kernel)).trans ((lk_past (by decide +kernel)).trans (rfl)))))
theorem lm_Cloakroom_look : (F_Cloakroom v0 v1 v2 v3 v4).lookup ("look" : Str) = none := (lk_past (by decide +kernel)).trans ((lk_past (by decide +kernel)).trans ((lk_past (by decide +kernel)).trans ((lk_past (by decide +kernel)).trans ((lk_past (by decide +kernel)).trans (rfl)))))
theorem lm_Cloakroom_counts : (F_Cloakroom v0 v1 v2 v3 v4).lookup ("counts" : Str) = none := (lk_past (by decide +kernel)).trans ((lk_past (by decide +kernel)).trans ((lk_past (by decide +kernel)).trans ((lk_past (by decide +kernel)).trans ((lk_past (by decide +kernel)).trans (rfl)))))
theorem lm_Cloakroom_about_coats : (F_Cloakroom v0 v1 v2 v3 v4).lookup ("about_coats" : Str) = none := (lk_past (by decide +kernel)).trans ((lk_past (by decide +kernel)).trans ((lk_past (by decide +kernel)).trans ((lk_past (by decide +kernel)).trans ((lk_past (by decide +kernel)).trans (rfl)))))
theorem lm_Cloakroom_called : (F_Cloakroom v0 v1 v2 v3 v4).lookup ("called" : Str) = none := (lk_past (by decide +kernel)).trans ((lk_past (by decide +kernel)).trans ((lk_past (by decide +kernel)).trans ((lk_past (by decide +kernel)).trans ((lk_past (by decide +kernel)).trans (rfl)))))
theorem lm_Cloakroom_answer : (F_Cloakroom v0 v1 v2 v3 v4).lookup ("answer" : Str) = none := (lk_past (by decide +kernel)).trans ((lk_past (by decide +kernel)).trans ((lk_past (by decide +kernel)).trans ((lk_past (by decide +kernel)).trans ((lk_past (by decide +kernel)).trans (rfl)))))
theorem nw_Cloakroom_0 : putF "racks" v0 ([] : List (Str × V)) = ([("racks", v0)] : List (Str × V)) := rfl
theorem nw_Cloakroom_1 : putF "coats" v1 ([("racks", v0)] : List (Str × V)) = ([("racks", v0), ("coats", v1)] : List (Str × V)) := (put_past (by decide +kernel)).trans (congrArg _ (rfl))
theorem nw_Cloakroom_2 : putF "claims" v2 ([("racks", v0), ("coats", v1)] : List (Str × V)) = ([("racks", v0), ("coats", v1), ("claims", v2)] : List (Str × V)) := (put_past (by decide +kernel)).trans (congrArg _ ((put_past (by decide +kernel)).trans (congrArg _ (rfl))))
theorem nw_Cloakroom_3 : putF "time" v3 ([("racks", v0), ("coats", v1), ("claims", v2)] : List (Str × V)) = ([("racks", v0), ("coats", v1), ("claims", v2), ("time", v3)] : List (Str × V)) := (put_past (by decide +kernel)).trans (congrArg _ ((put_past (by decide +kernel)).trans (congrArg _ ((put_past (by decide +kernel)).trans (congrArg _ (rfl))))))
theorem nw_Cloakroom_4 : putF "walked" v4 ([("racks", v0), ("coats", v1), ("claims", v2), ("time", v3)] : List (Str × V)) = ([("racks", v0), ("coats", v1), ("claims", v2), ("time", v3), ("walked", v4)] : List (Str × V)) := (put_past (by decide +kernel)).trans (congrArg _ ((put_past (by decide +kernel)).trans (congrArg _ ((put_past (by decide +kernel)).trans (congrArg _ ((put_past (by decide +kernel)).trans (congrArg _ (rfl))))))))
end
/-! ### what is kept -/
def Kp (X : Addr → Prop) (H H' : Hp) : Prop := ∀ b o, H b = some o → ¬ X b → H' b = some o
theorem Kp.same {H H' : Hp} (s : Same H H') {X : Addr → Prop} : Kp X H H' := fun b o e _ => s b o e
theorem Kp.mono {X Y : Addr → Prop} {H H' : Hp} (k : Kp X H H') (h : ∀ b, X b → Y b) : Kp Y H H' := fun b o e n => k b o e fun z => n (h b z)
theorem Kp.trans {X : Addr → Prop} {H H1 H2 : Hp} (a : Kp X H H1) (b : Kp X H1 H2) : Kp X H H2 := fun c o e n => b c o (a c o e n) n
theorem _root_.L2.Same.new {H : Hp} {p : Addr} {o : HO} (hp : H p = none) : Same H (upd H p o) := fun b u e => by rw [upd_ne (ne_of_none e hp)]; exact e
theorem _root_.L2.Same.more {H H1 : Hp} (s : Same H H1) {p : Addr} {o : HO} (hp : H1 p = none) : Same H (upd H1 p o) := s.trans (Same.new hp)
theorem kp_upd {H : Hp} {a : Addr} {o : HO} : Kp (fun b => b = a) H (upd H a o) := fun b u e n => by rw [upd_ne n]; exact e
/-- new with respect to what was there -/
theorem _root_.L2.Same.frees {H H' : Hp} (s : Same H H') {p : Addr} (h : H' p = none) : H p = none := s.free h

/-! ### lists of things and where they lie -/
def Al {α : Type} (R : α → Addr → Prop) (xs : List α) (as : List Addr) : Prop := as.length = xs.length ∧ ∀ (i : Nat) (x : α), xs[i]? = some x → ∃ a, as[i]? = some a ∧ R x a
section
variable {α : Type} {R R' : α → Addr → Prop} {xs : List α} {as : List Addr}
theorem Al.nil : Al R ([] : List α) [] := ⟨rfl, fun i x h => by simp at h⟩
theorem Al.back (h : Al R xs as) {i : Nat} {a : Addr} (e : as[i]? = some a) : ∃ x, xs[i]? = some x ∧ R x a := by
  have hi : i < as.length := (List.getElem?_eq_some_iff.mp e).1
  have hi2 : i < xs.length := by rw [← h.1]; exact hi
  obtain ⟨b, e2, r⟩ := h.2 i xs[i] (List.getElem?_eq_getElem hi2)
  rw [e] at e2
  cases e2
  exact ⟨_, List.getElem?_eq_getElem hi2, r⟩
theorem Al.mono (h : Al R xs as) (f : ∀ x a, x ∈ xs → a ∈ as → R x a → R' x a) : Al R' xs as := by
  refine ⟨h.1, fun i x e => ?_⟩
  obtain ⟨a, e2, r⟩ := h.2 i x e
  exact ⟨a, e2, f x a (List.mem_of_getElem? e) (List.mem_of_getElem? e2) r⟩
theorem Al.snoc (h : Al R xs as) {x : α} {a : Addr} (r : R x a) : Al R (xs ++ [x]) (as ++ [a]) := by
  refine ⟨by simp [h.1], fun i y e => ?_⟩
  rw [List.getElem?_append] at e
  split at e
  · rename_i hi
    obtain ⟨b, e2, r2⟩ := h.2 i y e
    exact ⟨b, by rw [List.getElem?_append, if_pos (by rw [h.1]; exact hi)]; exact e2, r2⟩
  · rename_i hi
    have h0 : i - xs.length = 0 := by
      have := (List.getElem?_eq_some_iff.mp e).1
      simp at this
      omega
    rw [h0] at e
    simp at e
    subst e
    exact ⟨a, by rw [List.getElem?_append, if_neg (by rw [h.1]; exact hi), h.1, h0]; rfl, r⟩
/-- one of them is another now -/
theorem Al.set (h : Al R xs as) {i : Nat} {y : α} {a : Addr} (ha : as[i]? = some a) (r : R' y a) (f : ∀ (j : Nat) x b, j ≠ i → xs[j]? = some x → as[j]? = some b → R x b → R' x b) : Al R' (xs.set i y) as := by
  refine ⟨by simp [h.1], fun j x e => ?_⟩
  rw [List.getElem?_set] at e
  by_cases z : i = j
  · subst z
    rw [if_pos rfl] at e
    split at e
    · cases e
      exact ⟨a, ha, r⟩
    · cases e
  · rw [if_neg z] at e
    obtain ⟨b, e2, r2⟩ := h.2 j x e
    exact ⟨b, e2, f j x b (fun y => z y.symm) e e2 r2⟩
/-- one of them lies elsewhere now -/
theorem Al.put (h : Al R xs as) {i : Nat} {y : α} {a : Addr} (hi : i < xs.length) (r : R y a) : Al R (xs.set i y) (as.set i a) := by
  refine ⟨by simp [h.1], fun j x e => ?_⟩
  rw [List.getElem?_set] at e ⊢
  by_cases z : i = j
  · subst z
    rw [if_pos rfl, if_pos hi] at e
    cases e
    exact ⟨a, by rw [if_pos rfl, if_pos (by rw [h.1]; exact hi)], r⟩
  · rw [if_neg z] at e ⊢
    exact h.2 j x e
theorem Al.erase (h : Al R xs as) (i : Nat) : Al R (xs.eraseIdx i) (as.eraseIdx i) := by
  refine ⟨by simp [List.length_eraseIdx, h.1], fun j x e => ?_⟩
  rw [List.getElem?_eraseIdx] at e ⊢
  split at e
  · rename_i z
    rw [if_pos z]
    exact h.2 j x e
  · rename_i z
    rw [if_neg z]
    exact h.2 (j + 1) x e
theorem Al.append {ys : List α} {bs : List Addr} (h : Al R xs as) (k : Al R ys bs) : Al R (xs ++ ys) (as ++ bs) := by
  refine ⟨by simp [h.1, k.1], fun i x e => ?_⟩
  rw [List.getElem?_append] at e ⊢
  split at e
  · rename_i hi
    rw [if_pos (by rw [h.1]; exact hi)]
    exact h.2 i x e
  · rename_i hi
    rw [if_neg (by rw [h.1]; exact hi), h.1]
    exact k.2 _ x e
theorem Al.map {β : Type} {f : β → α} {ys : List β} (h : Al (fun y a => R (f y) a) ys as) : Al R (ys.map f) as := by
  refine ⟨by simp [h.1], fun i x e => ?_⟩
  rw [List.getElem?_map] at e
  cases q : ys[i]? with
  | none => rw [q] at e; cases e
  | some y =>
    rw [q] at e
    cases e
    exact h.2 i y q
end
theorem nd_ne {as : List Addr} (h : as.Nodup) {i j : Nat} {a b : Addr} (ha : as[i]? = some a) (hb : as[j]? = some b) (z : i ≠ j) : b ≠ a := fun e => by
  subst e
  obtain ⟨h1, e1⟩ := List.getElem?_eq_some_iff.mp ha
  obtain ⟨h2, e2⟩ := List.getElem?_eq_some_iff.mp hb
  exact z ((List.getElem_inj h).mp (e1.trans e2.symm))

/-! ### racks -/
def stepsR (rs : List Rack) (p : Spot) : Nat := (rs.getD p.rack ⟨0, 0⟩).walk + p.hook
theorem stepsR_is (s : State) (p : Spot) : stepsR s.racks p = Mu10.steps s p := rfl
def placeV (rs : List Rack) (p : Spot) : List V := [.int (stepsR rs p), .int p.rack, .int p.hook]
def rackV (k : Rack) : List V := [.int k.hooks, .int k.walk]
structure RkA where
  dx : Addr
  ra : Addr
  hk : Addr
  ts : List Addr
  rows : List Addr
abbrev RowAt (H : Hp) (row : List Int) (r : Addr) : Prop := H r = some (.lst (row.map V.int))
abbrev TupAt (H : Hp) (k : Rack) (t : Addr) : Prop := H t = some (.tup (rackV k))
/-- at x: racks rs with these hooks -/
structure RkP (D : Ads) (H : Hp) (x : Addr) (rs : List Rack) (hooks : List (List Int)) (d : RkA) : Prop where
  ins : H x = some (.ins D.c_Racks d.dx (F_Racks (.ref d.ra) (.ref d.hk)))
  ra : H d.ra = some (.lst (d.ts.map V.ref))
  ts : Al (TupAt H) rs d.ts
  hk : H d.hk = some (.lst (d.rows.map V.ref))
  rows : Al (RowAt H) hooks d.rows
  ne : d.ra ≠ d.hk
  nr : ∀ r ∈ d.rows, r ≠ d.hk
theorem RkP.same {D : Ads} {H H' : Hp} {x : Addr} {rs : List Rack} {hooks : List (List Int)} {d : RkA} (h : RkP D H x rs hooks d) (s : Same H H') : RkP D H' x rs hooks d :=
  ⟨s _ _ h.ins, s _ _ h.ra, h.ts.mono fun _ _ _ _ r => s _ _ r, s _ _ h.hk, h.rows.mono fun _ _ _ _ r => s _ _ r, h.ne, h.nr⟩
theorem lst_ne_ins {H : Hp} {a b : Addr} {xs : List V} {C dx : Addr} {fs : List (Str × V)} (h : H a = some (.lst xs)) (k : H b = some (.ins C dx fs)) : a ≠ b := ne_of h k (by intro z; cases z)
theorem tup_ne_ins {H : Hp} {a b : Addr} {xs : List V} {C dx : Addr} {fs : List (Str × V)} (h : H a = some (.tup xs)) (k : H b = some (.ins C dx fs)) : a ≠ b := ne_of h k (by intro z; cases z)
theorem tup_ne_lst {H : Hp} {a b : Addr} {xs ys : List V} (h : H a = some (.tup xs)) (k : H b = some (.lst ys)) : a ≠ b := ne_of h k (by intro z; cases z)
/-- kept but for some lists that are none of its -/
theorem RkP.keep {D : Ads} {H H' : Hp} {x : Addr} {rs : List Rack} {hooks : List (List Int)} {d : RkA} {X : Addr → Prop} (h : RkP D H x rs hooks d) (k : Kp X H H') (h0 : ¬ X x) (h1 : ¬ X d.ra) (h2 : ¬ X d.hk) (h3 : ∀ r ∈ d.rows, ¬ X r)
    (h4 : ∀ t xs, H t = some (.tup xs) → ¬ X t) : RkP D H' x rs hooks d :=
  ⟨k _ _ h.ins h0, k _ _ h.ra h1, h.ts.mono fun _ _ _ _ r => k _ _ r (h4 _ _ r), k _ _ h.hk h2, h.rows.mono fun _ a _ m r => k _ _ r (h3 a m), h.ne, h.nr⟩

/-! ### coats and claims -/
def PlAt (H : Hp) (rs : List Rack) : Option Spot → V → Prop
  | none, v => v = .non
  | some p, v => ∃ t, v = .ref t ∧ H t = some (.tup (placeV rs p))
theorem PlAt.keep {H H' : Hp} {rs : List Rack} {o : Option Spot} {v : V} (h : PlAt H rs o v) (k : ∀ t xs, H t = some (.tup xs) → H' t = some (.tup xs)) : PlAt H' rs o v := by
  cases o with
  | none => exact h
  | some p =>
    obtain ⟨t, e, ht⟩ := h
    exact ⟨t, e, k _ _ ht⟩
def CoatAt (D : Ads) (rs : List Rack) (H : Hp) (c : Coat) (x : Addr) : Prop := ∃ dx pl, H x = some (.ins D.c_Coat dx (F_Coat (.int c.wide) (.int c.kind) (.int c.colour) (.int c.since) pl)) ∧ PlAt H rs c.spot pl
def tkV : Option Nat → V
  | none => .non
  | some t => .int t
def ClaimAt (D : Ads) (H : Hp) (k : Mu10.Claim) (x : Addr) : Prop := ∃ dx, H x = some (.ins D.c_Claim dx (F_Claim (.int (oI k.kind)) (.int (oI k.colour)) (.int k.lo) (.int k.hi) (tkV k.coat)))

/-! ### the room -/
structure RmA where
  dx : Addr
  rk : Addr
  cl : Addr
  km : Addr
  co : List Addr
  ks : List Addr
  r : RkA
/-- the lists of a room that are changed -/
def RmA.ls (d : RmA) : List Addr := d.r.hk :: d.cl :: d.km :: d.r.ra :: d.r.rows
structure MS where
  racks : List Rack
  hooks : List (List Int)
  coats : List Coat
  claims : List Mu10.Claim
  now : Nat
  walked : Nat
def ofS (s : State) : MS := ⟨s.racks, hooksOf s, s.coats, s.claims, s.now, s.walked⟩
structure RoomP (D : Ads) (H : Hp) (a : Addr) (m : MS) (d : RmA) : Prop where
  ins : H a = some (.ins D.c_Cloakroom d.dx (F_Cloakroom (.ref d.rk) (.ref d.cl) (.ref d.km) (.int m.now) (.int m.walked)))
  rk : RkP D H d.rk m.racks m.hooks d.r
  cl : H d.cl = some (.lst (d.co.map V.ref))
  co : Al (CoatAt D m.racks H) m.coats d.co
  coN : d.co.Nodup
  km : H d.km = some (.lst (d.ks.map V.ref))
  ks : Al (ClaimAt D H) m.claims d.ks
  ksN : d.ks.Nodup
  n1 : d.cl ≠ d.km
  n2 : d.cl ≠ d.r.hk ∧ d.km ≠ d.r.hk
  n3 : d.cl ≠ d.r.ra ∧ d.km ≠ d.r.ra
  n4 : ∀ r ∈ d.r.rows, r ≠ d.cl ∧ r ≠ d.km
section
variable {D : Ads} {K : PySem.W.Frag} {mg : Str → Option Value} {H H' : Hp} {a : Addr} {m : MS} {d : RmA}
theorem RoomP.same (h : RoomP D H a m d) (s : Same H H') : RoomP D H' a m d :=
  ⟨s _ _ h.ins, h.rk.same s, s _ _ h.cl, h.co.mono fun _ _ _ _ ⟨dx, pl, e, p⟩ => ⟨dx, pl, s _ _ e, p.keep fun _ _ z => s _ _ z⟩, h.coN, s _ _ h.km, h.ks.mono fun _ _ _ _ ⟨dx, e⟩ => ⟨dx, s _ _ e⟩, h.ksN, h.n1, h.n2, h.n3, h.n4⟩
theorem ins_ne {C C' dx dx' : Addr} {fs fs' : List (Str × V)} (h : C ≠ C') : HO.ins C dx fs ≠ HO.ins C' dx' fs' := fun z => h (HO.ins.inj z).1
theorem RoomP.ne_rk (T : Txt K mg D) (h : RoomP D H a m d) : d.rk ≠ a := ne_of h.rk.ins h.ins (ins_ne fun z => T.ne_Cloakroom_Racks z.symm)
theorem CoatAt.ne {c : Coat} {x b C dx : Addr} {fs : List (Str × V)} {rs : List Rack} (h : CoatAt D rs H c x) (hb : H b = some (.ins C dx fs)) (n : D.c_Coat ≠ C) : x ≠ b := by
  obtain ⟨_, _, e, _⟩ := h
  exact ne_of e hb (ins_ne n)
theorem ClaimAt.ne {c : Mu10.Claim} {x b C dx : Addr} {fs : List (Str × V)} (h : ClaimAt D H c x) (hb : H b = some (.ins C dx fs)) (n : D.c_Claim ≠ C) : x ≠ b := by
  obtain ⟨_, e⟩ := h
  exact ne_of e hb (ins_ne n)
/-- the time, what was walked -/
theorem RoomP.setTW (T : Txt K mg D) (h : RoomP D H a m d) (n w : Nat) : RoomP D (upd H a (.ins D.c_Cloakroom d.dx (F_Cloakroom (.ref d.rk) (.ref d.cl) (.ref d.km) (.int n) (.int w)))) a { m with now := n, walked := w } d := by
  have nl : ∀ {b : Addr} {xs : List V}, H b = some (.lst xs) → b ≠ a := fun e => lst_ne_ins e h.ins
  have nt : ∀ {b : Addr} {xs : List V}, H b = some (.tup xs) → b ≠ a := fun e => tup_ne_ins e h.ins
  refine ⟨upd_same, h.rk.keep (X := fun b => b = a) kp_upd (h.ne_rk T) (nl h.rk.ra) (nl h.rk.hk) (fun r m => ?_) (fun t xs e => nt e), ?_, h.co.mono fun c x _ _ r => ?_, h.coN, ?_, h.ks.mono fun c x _ _ r => ?_, h.ksN, h.n1, h.n2, h.n3, h.n4⟩
  · obtain ⟨i, hi⟩ := List.getElem?_of_mem m
    obtain ⟨_, _, e⟩ := h.rk.rows.back hi
    exact nl e
  · rw [upd_ne (nl h.cl)]; exact h.cl
  · have nx := r.ne h.ins (fun z => T.ne_Cloakroom_Coat z.symm)
    obtain ⟨dx, pl, e, p⟩ := r
    exact ⟨dx, pl, by rw [upd_ne nx]; exact e, p.keep fun t xs z => by rw [upd_ne (nt z)]; exact z⟩
  · rw [upd_ne (nl h.km)]; exact h.km
  · have nx := r.ne h.ins (fun z => T.ne_Cloakroom_Claim z.symm)
    obtain ⟨dx, e⟩ := r
    exact ⟨dx, by rw [upd_ne nx]; exact e⟩
/-- the racks are others (their object, their hooks' list) -/
theorem RoomP.setRk (T : Txt K mg D) (h : RoomP D H a m d) {hooks : List (List Int)} {r : RkA} (k : Kp (fun b => b = d.rk ∨ b = d.r.hk) H H') (p : RkP D H' d.rk m.racks hooks r) (e1 : r.ra = d.r.ra) (e2 : r.hk = d.r.hk ∨ H r.hk = none)
    (e3 : ∀ x ∈ r.rows, x ∈ d.r.rows ∨ H x = none) : RoomP D H' a { m with hooks := hooks } { d with r := r } := by
  have nl : ∀ {b : Addr} {xs : List V}, H b = some (.lst xs) → b ≠ d.rk := fun e => lst_ne_ins e h.rk.ins
  have nt : ∀ {b : Addr} {xs : List V}, H b = some (.tup xs) → ¬ (b = d.rk ∨ b = d.r.hk) := fun e z => z.elim (tup_ne_ins e h.rk.ins) (tup_ne_lst e h.rk.hk)
  have ni : ∀ {b C dx : Addr} {fs : List (Str × V)}, H b = some (.ins C dx fs) → b ≠ d.r.hk := fun e z => lst_ne_ins h.rk.hk e z.symm
  have hcl : H' d.cl = some (.lst (d.co.map V.ref)) := k _ _ h.cl fun z => z.elim (nl h.cl) h.n2.1
  have hkm : H' d.km = some (.lst (d.ks.map V.ref)) := k _ _ h.km fun z => z.elim (nl h.km) h.n2.2
  refine ⟨k _ _ h.ins fun z => z.elim (fun y => h.ne_rk T y.symm) (ni h.ins), p, hcl, h.co.mono fun c x _ _ q => ?_, h.coN, hkm, h.ks.mono fun c x _ _ q => ?_, h.ksN, h.n1, ?_, ?_, fun x hx => ?_⟩
  · have n1 := q.ne h.rk.ins (fun z => T.ne_Racks_Coat z.symm)
    obtain ⟨dx, pl, e, p⟩ := q
    exact ⟨dx, pl, k _ _ e fun z => z.elim n1 (ni e), p.keep fun t xs z => k _ _ z (nt z)⟩
  · have n1 := q.ne h.rk.ins (fun z => T.ne_Racks_Claim z.symm)
    obtain ⟨dx, e⟩ := q
    exact ⟨dx, k _ _ e fun z => z.elim n1 (ni e)⟩
  · rcases e2 with e | e
    · exact ⟨by rw [e]; exact h.n2.1, by rw [e]; exact h.n2.2⟩
    · exact ⟨ne_of_none h.cl e, ne_of_none h.km e⟩
  · show d.cl ≠ r.ra ∧ d.km ≠ r.ra
    rw [e1]; exact h.n3
  · rcases e3 x hx with e | e
    · exact h.n4 x e
    · exact ⟨fun z => ne_of_none h.cl e z.symm, fun z => ne_of_none h.km e z.symm⟩
/-- one coat more -/
theorem RoomP.addCoat (h : RoomP D H a m d) {c : Coat} {x : Addr} (hc : CoatAt D m.racks H c x) (hx : x ∉ d.co) : RoomP D (upd H d.cl (.lst ((d.co ++ [x]).map V.ref))) a { m with coats := m.coats ++ [c] } { d with co := d.co ++ [x] } := by
  have ni : ∀ {b C dx : Addr} {fs : List (Str × V)}, H b = some (.ins C dx fs) → b ≠ d.cl := fun e z => lst_ne_ins h.cl e z.symm
  have nt : ∀ {b : Addr} {xs : List V}, H b = some (.tup xs) → b ≠ d.cl := fun e => tup_ne_lst e h.cl
  have ck : ∀ {e : Coat} {y : Addr}, CoatAt D m.racks H e y → CoatAt D m.racks (upd H d.cl (.lst ((d.co ++ [x]).map V.ref))) e y := fun {e y} ⟨dx, pl, q, p⟩ =>
    ⟨dx, pl, by rw [upd_ne (ni q)]; exact q, p.keep fun t xs z => by rw [upd_ne (nt z)]; exact z⟩
  refine ⟨?_, h.rk.keep (X := fun b => b = d.cl) kp_upd (ni h.rk.ins) (fun z => h.n3.1 z.symm) (fun z => h.n2.1 z.symm) (fun r m z => (h.n4 r m).1 z) (fun t xs e => nt e), upd_same, (h.co.mono fun _ _ _ _ q => ck q).snoc (ck hc), ?_, ?_, h.ks.mono fun k y _ _ ⟨dx, e⟩ => ⟨dx, ?_⟩, h.ksN, h.n1, h.n2, h.n3, h.n4⟩
  · rw [upd_ne (ni h.ins)]; exact h.ins
  · show (d.co ++ [x]).Nodup
    rw [List.nodup_append]
    exact ⟨h.coN, by simp, by intro p hp q hq; simp at hq; subst hq; intro z; exact hx (z ▸ hp)⟩
  · rw [upd_ne (fun z => h.n1 z.symm)]; exact h.km
  · rw [upd_ne (ni e)]; exact e
/-- a coat's place is another -/
theorem RoomP.setCoat (T : Txt K mg D) (h : RoomP D H a m d) {i : Nat} {c c' : Coat} {x dx : Addr} {pl : V} (hx : d.co[i]? = some x) (hc : m.coats[i]? = some c) (e : c'.wide = c.wide ∧ c'.kind = c.kind ∧ c'.colour = c.colour ∧ c'.since = c.since) (hp : PlAt H m.racks c'.spot pl) :
    RoomP D (upd H x (.ins D.c_Coat dx (F_Coat (.int c.wide) (.int c.kind) (.int c.colour) (.int c.since) pl))) a { m with coats := m.coats.set i c' } d := by
  obtain ⟨c0, hc0, hx0⟩ := h.co.back hx
  rw [hc] at hc0
  cases hc0
  obtain ⟨dx0, pl0, ex, _⟩ := id hx0
  have nl : ∀ {b : Addr} {xs : List V}, H b = some (.lst xs) → b ≠ x := fun e => lst_ne_ins e ex
  have nt : ∀ {b : Addr} {xs : List V}, H b = some (.tup xs) → b ≠ x := fun e => tup_ne_ins e ex
  refine ⟨?_, h.rk.keep (X := fun b => b = x) kp_upd (fun z => ?_) (nl h.rk.ra) (nl h.rk.hk) (fun r m => ?_) (fun t xs e => nt e), ?_, h.co.set hx ⟨dx, pl, ?_, hp.keep fun t xs z => by rw [upd_ne (nt z)]; exact z⟩ fun j y b hj hy hb q => ?_, h.coN, ?_, h.ks.mono fun k y _ _ q => ?_, h.ksN, h.n1, h.n2, h.n3, h.n4⟩
  · rw [upd_ne (fun z => hx0.ne h.ins (fun z => T.ne_Cloakroom_Coat z.symm) z.symm)]; exact h.ins
  · exact hx0.ne h.rk.ins (fun z => T.ne_Racks_Coat z.symm) z.symm
  · obtain ⟨j, hj⟩ := List.getElem?_of_mem m
    obtain ⟨_, _, q⟩ := h.rk.rows.back hj
    exact nl q
  · rw [upd_ne (nl h.cl)]; exact h.cl
  · obtain ⟨e1, e2, e3, e4⟩ := e
    rw [upd_same, e1, e2, e3, e4]
  · have nb : b ≠ x := nd_ne h.coN hx hb (fun z => hj z.symm)
    obtain ⟨dx1, pl1, q1, q2⟩ := q
    exact ⟨dx1, pl1, by rw [upd_ne nb]; exact q1, q2.keep fun t xs z => by rw [upd_ne (nt z)]; exact z⟩
  · rw [upd_ne (nl h.km)]; exact h.km
  · have ny := q.ne ex (fun z => T.ne_Claim_Coat z)
    obtain ⟨dx1, q1⟩ := q
    exact ⟨dx1, by rw [upd_ne ny]; exact q1⟩
/-- the claims' list is another -/
theorem RoomP.setClaims (h : RoomP D H a m d) {ks : List Addr} {cs : List Mu10.Claim} (hk : Al (ClaimAt D H) cs ks) (hn : ks.Nodup) : RoomP D (upd H d.km (.lst (ks.map V.ref))) a { m with claims := cs } { d with ks := ks } := by
  have ni : ∀ {b C dx : Addr} {fs : List (Str × V)}, H b = some (.ins C dx fs) → b ≠ d.km := fun e z => lst_ne_ins h.km e z.symm
  have nt : ∀ {b : Addr} {xs : List V}, H b = some (.tup xs) → b ≠ d.km := fun e => tup_ne_lst e h.km
  refine ⟨?_, h.rk.keep (X := fun b => b = d.km) kp_upd (ni h.rk.ins) (fun z => h.n3.2 z.symm) (fun z => h.n2.2 z.symm) (fun r m z => (h.n4 r m).2 z) (fun t xs e => nt e), ?_, h.co.mono fun c y _ _ ⟨dx, pl, q, p⟩ => ⟨dx, pl, ?_, p.keep fun t xs z => ?_⟩, h.coN, upd_same, hk.mono fun k y _ _ ⟨dx, e⟩ => ⟨dx, ?_⟩, hn, h.n1, h.n2, h.n3, h.n4⟩
  · rw [upd_ne (ni h.ins)]; exact h.ins
  · rw [upd_ne h.n1]; exact h.cl
  · rw [upd_ne (ni q)]; exact q
  · rw [upd_ne (nt z)]; exact z
  · rw [upd_ne (ni e)]; exact e
/-- a claim is settled -/
theorem RoomP.setClaim (T : Txt K mg D) (h : RoomP D H a m d) {i : Nat} {k : Mu10.Claim} {x dx : Addr} {t : Nat} (hx : d.ks[i]? = some x) (hc : m.claims[i]? = some k) :
    RoomP D (upd H x (.ins D.c_Claim dx (F_Claim (.int (oI k.kind)) (.int (oI k.colour)) (.int k.lo) (.int k.hi) (.int t)))) a { m with claims := m.claims.set i { k with coat := some t } } d := by
  obtain ⟨c0, hc0, hx0⟩ := h.ks.back hx
  rw [hc] at hc0
  cases hc0
  obtain ⟨dx0, ex⟩ := id hx0
  have nl : ∀ {b : Addr} {xs : List V}, H b = some (.lst xs) → b ≠ x := fun e => lst_ne_ins e ex
  have nt : ∀ {b : Addr} {xs : List V}, H b = some (.tup xs) → b ≠ x := fun e => tup_ne_ins e ex
  refine ⟨?_, h.rk.keep (X := fun b => b = x) kp_upd (fun z => ?_) (nl h.rk.ra) (nl h.rk.hk) (fun r m => ?_) (fun t xs e => nt e), ?_, h.co.mono fun c y _ _ q => ?_, h.coN, ?_, h.ks.set hx ⟨dx, upd_same⟩ fun j y b hj hy hb q => ?_, h.ksN, h.n1, h.n2, h.n3, h.n4⟩
  · rw [upd_ne (fun z => hx0.ne h.ins (fun z => T.ne_Cloakroom_Claim z.symm) z.symm)]; exact h.ins
  · exact hx0.ne h.rk.ins (fun z => T.ne_Racks_Claim z.symm) z.symm
  · obtain ⟨j, hj⟩ := List.getElem?_of_mem m
    obtain ⟨_, _, q⟩ := h.rk.rows.back hj
    exact nl q
  · rw [upd_ne (nl h.cl)]; exact h.cl
  · have ny := q.ne ex (fun z => T.ne_Claim_Coat z.symm)
    obtain ⟨dx1, pl1, q1, q2⟩ := q
    exact ⟨dx1, pl1, by rw [upd_ne ny]; exact q1, q2.keep fun t xs z => by rw [upd_ne (nt z)]; exact z⟩
  · rw [upd_ne (nl h.km)]; exact h.km
  · have nb : b ≠ x := nd_ne h.ksN hx hb (fun z => hj z.symm)
    obtain ⟨dx1, q1⟩ := q
    exact ⟨dx1, by rw [upd_ne nb]; exact q1⟩
end
end Ck
end
section
set_option Elab.async false
set_option linter.all false
set_option maxRecDepth 100000
set_option maxHeartbeats 4000000
/-! Coats and claims. -/
namespace Ck
open PySem PySem.Spec PyProof.Rows L2
open Mu10 (State Coat Rack Spot)
section
variable {P : Program} {w : World} {K : PySem.W.Frag} {mg : Str → Option Value} {base : Heap} {D : Ads}
theorem small {n : Nat} (h : n < 1000 := by decide) : n < 1000 := h
def sp_Coat_init (D : Ads) : Sp := fun vs H Q _ => ∃ (p dx : Addr) (v1 v2 v3 v4 v5 : V), vs = [.ref p, v1, v2, v3, v4, v5] ∧ H p = some (.ins D.c_Coat dx []) ∧ Q .non (upd H p (.ins D.c_Coat dx (F_Coat v1 v2 v3 v4 v5)))
theorem ok_Coat_init (T : Txt K mg D) : FnOk P w K mg base CX0 1 D.f_Coat_init D.d_Coat_init ["self", "wide", "kind", "colour", "time", "place"] (sp_Coat_init D) := by
  refine T.F_Coat_init.ok sc_Coat_init (fun vs H Q E h => ?_) (fun cdv A outer s H vs Q E hr h => ?_)
  · obtain ⟨p, dx, v1, v2, v3, v4, v5, rfl, _⟩ := h
    rfl
  · obtain ⟨p, dx, v1, v2, v3, v4, v5, rfl, hp, q⟩ := h
    refine ⟨_, pss_cons (ps_fld (pv 0) (pv 1) rfl) (pss_cons (ps_fld (pv 0) (pv 2) rfl) (pss_cons (ps_fld (pv 0) (pv 3) rfl) (pss_cons (ps_fld (pv 0) (pv 4) rfl) (pss_one (ps_fld (pv 0) (pv 5) rfl))))), ?_⟩
    refine ⟨_, rfl, _, rfl, p, D.c_Coat, dx, _, rfl, hp, T.cl_Coat, T.n_Coat_wide, by show 0 < 1000; decide, ?_⟩
    rw [nw_Coat_0]
    refine ⟨_, rfl, _, rfl, p, D.c_Coat, dx, _, rfl, upd_same, T.cl_Coat, T.n_Coat_kind, by show 1 < 1000; decide, ?_⟩
    rw [upd_upd, nw_Coat_1]
    refine ⟨_, rfl, _, rfl, p, D.c_Coat, dx, _, rfl, upd_same, T.cl_Coat, T.n_Coat_colour, by show 2 < 1000; decide, ?_⟩
    rw [upd_upd, nw_Coat_2]
    refine ⟨_, rfl, _, rfl, p, D.c_Coat, dx, _, rfl, upd_same, T.cl_Coat, T.n_Coat_time, by show 3 < 1000; decide, ?_⟩
    rw [upd_upd, nw_Coat_3]
    refine ⟨_, rfl, _, rfl, p, D.c_Coat, dx, _, rfl, upd_same, T.cl_Coat, T.n_Coat_place, by show 4 < 1000; decide, ?_⟩
    rw [upd_upd, nw_Coat_4]
    exact q
def sp_hang_at (D : Ads) : Sp := fun vs H Q _ => ∃ (x dx : Addr) (v1 v2 v3 v4 v5 v : V), vs = [.ref x, v] ∧ H x = some (.ins D.c_Coat dx (F_Coat v1 v2 v3 v4 v5)) ∧ Q .non (upd H x (.ins D.c_Coat dx (F_Coat v1 v2 v3 v4 v)))
theorem ok_hang_at (T : Txt K mg D) : FnOk P w K mg base CX0 1 D.f_Coat_hang_at D.d_Coat_hang_at ["self", "place"] (sp_hang_at D) := by
  refine T.F_Coat_hang_at.ok sc_Coat_hang_at (fun vs H Q E h => ?_) (fun cdv A outer s H vs Q E hr h => ?_)
  · obtain ⟨p, dx, v1, v2, v3, v4, v5, v, rfl, _⟩ := h
    rfl
  · obtain ⟨p, dx, v1, v2, v3, v4, v5, v, rfl, hp, q⟩ := h
    refine ⟨_, pss_one (ps_fld (pv 0) (pv 1) rfl), ?_⟩
    refine ⟨_, rfl, _, rfl, p, D.c_Coat, dx, _, rfl, hp, T.cl_Coat, T.n_Coat_place, by show 5 < 1000; decide, ?_⟩
    rw [pf_Coat_place]
    exact q
def sp_Claim_init (D : Ads) : Sp := fun vs H Q _ => ∃ (p dx : Addr) (v1 v2 v3 v4 : V), vs = [.ref p, v1, v2, v3, v4] ∧ H p = some (.ins D.c_Claim dx []) ∧ Q .non (upd H p (.ins D.c_Claim dx (F_Claim v1 v2 v3 v4 .non)))
theorem ok_Claim_init (T : Txt K mg D) : FnOk P w K mg base CX0 1 D.f_Claim_init D.d_Claim_init ["self", "kind", "colour", "low", "high"] (sp_Claim_init D) := by
  refine T.F_Claim_init.ok sc_Claim_init (fun vs H Q E h => ?_) (fun cdv A outer s H vs Q E hr h => ?_)
  · obtain ⟨p, dx, v1, v2, v3, v4, rfl, _⟩ := h
    rfl
  · obtain ⟨p, dx, v1, v2, v3, v4, rfl, hp, q⟩ := h
    refine ⟨_, pss_cons (ps_fld (pv 0) (pv 1) rfl) (pss_cons (ps_fld (pv 0) (pv 2) rfl) (pss_cons (ps_fld (pv 0) (pv 3) rfl) (pss_cons (ps_fld (pv 0) (pv 4) rfl) (pss_one (ps_fld (pv 0) pe_non rfl))))), ?_⟩
    refine ⟨_, rfl, _, rfl, p, D.c_Claim, dx, _, rfl, hp, T.cl_Claim, T.n_Claim_kind, by show 0 < 1000; decide, ?_⟩
    rw [nw_Claim_0]
    refine ⟨_, rfl, _, rfl, p, D.c_Claim, dx, _, rfl, upd_same, T.cl_Claim, T.n_Claim_colour, by show 1 < 1000; decide, ?_⟩
    rw [upd_upd, nw_Claim_1]
    refine ⟨_, rfl, _, rfl, p, D.c_Claim, dx, _, rfl, upd_same, T.cl_Claim, T.n_Claim_low, by show 2 < 1000; decide, ?_⟩
    rw [upd_upd, nw_Claim_2]
    refine ⟨_, rfl, _, rfl, p, D.c_Claim, dx, _, rfl, upd_same, T.cl_Claim, T.n_Claim_high, by show 3 < 1000; decide, ?_⟩
    rw [upd_upd, nw_Claim_3]
    refine ⟨_, rfl, p, D.c_Claim, dx, _, rfl, upd_same, T.cl_Claim, T.n_Claim_ticket, by show 4 < 1000; decide, ?_⟩
    rw [upd_upd, nw_Claim_4]
    exact q
def sp_settle_by (D : Ads) : Sp := fun vs H Q _ => ∃ (x dx : Addr) (v1 v2 v3 v4 v5 v : V), vs = [.ref x, v] ∧ H x = some (.ins D.c_Claim dx (F_Claim v1 v2 v3 v4 v5)) ∧ Q .non (upd H x (.ins D.c_Claim dx (F_Claim v1 v2 v3 v4 v)))
theorem ok_settle_by (T : Txt K mg D) : FnOk P w K mg base CX0 1 D.f_Claim_settle_by D.d_Claim_settle_by ["self", "ticket"] (sp_settle_by D) := by
  refine T.F_Claim_settle_by.ok sc_Claim_settle_by (fun vs H Q E h => ?_) (fun cdv A outer s H vs Q E hr h => ?_)
  · obtain ⟨p, dx, v1, v2, v3, v4, v5, v, rfl, _⟩ := h
    rfl
  · obtain ⟨p, dx, v1, v2, v3, v4, v5, v, rfl, hp, q⟩ := h
    refine ⟨_, pss_one (ps_fld (pv 0) (pv 1) rfl), ?_⟩
    refine ⟨_, rfl, _, rfl, p, D.c_Claim, dx, _, rfl, hp, T.cl_Claim, T.n_Claim_ticket, by show 5 < 1000; decide, ?_⟩
    rw [pf_Claim_ticket]
    exact q
/-! ### suits -/
theorem inV_two (i j k : Int) : inV (.int i) [.int j, .int k] = (i == j || i == k) := by
  have e : ∀ a b : Int, (a == b) = (b == a) := fun a b => by
    by_cases h : a = b
    · subst h; rfl
    · rw [beq_eq_false_iff_ne.mpr h, beq_eq_false_iff_ne.mpr (fun z => h z.symm)]
  show ((j == i) || ((k == i) || false)) = _
  rw [Bool.or_false, e j i, e k i]
def sp_suits (D : Ads) : Sp := fun vs H Q _ => ∃ (x y : Addr) (k : Mu10.Claim) (c : Coat) (rs : List Rack), vs = [.ref x, .ref y] ∧ ClaimAt D H k x ∧ CoatAt D rs H c y ∧ ∀ H', Same H H' → Q (.bl (Mu10.suits k c)) H'
theorem pl_non {H : Hp} {rs : List Rack} {o : Option Spot} {v : V} (h : PlAt H rs o v) : decide (v = V.non) = o.isNone := by
  cases o with
  | none => rw [show v = .non from h]; rfl
  | some p =>
    obtain ⟨t, rfl, _⟩ := h
    rfl
theorem ok_suits (T : Txt K mg D) : FnOk P w K mg base CX0 1 D.f_Claim_suits D.d_Claim_suits ["self", "coat"] (sp_suits D) := by
  refine T.F_Claim_suits.ok sc_Claim_suits (fun vs H Q E h => ?_) (fun cdv A outer s H vs Q E hr h => ?_)
  · obtain ⟨x, y, k, c, rs, rfl, _⟩ := h
    rfl
  · obtain ⟨x, y, k, c, rs, rfl, ⟨dk, hk⟩, ⟨dc, pl, hc, hpl⟩, q⟩ := h
    refine ⟨_, pss_cons (ps_if (PW.pt (pw_or (pt_cmpR op_isN (pe_fld (pv 1) rfl) pe_non (nomark _)) (pw_or (pt_cmpR op_lt (pe_fld (pv 1) rfl) (pe_fld (pv 0) rfl) (nomark _)) (pw_or1 (pt_cmpR op_gt (pe_fld (pv 1) rfl) (pe_fld (pv 0) rfl) (nomark _))))))
        (pss_one (ps_ret pe_bl)) pss_nil)
      (pss_one (ps_ret (pe_and (pe_cmpR op_in_seq (pe_fld (pv 0) rfl) (pe_tup (pa_cons (pe_num T.k_UNKNOWN) (pa_cons (pe_fld (pv 1) rfl) pa_nil))) (by rfl))
        (pe_one (pe_cmpR op_in_seq (pe_fld (pv 0) rfl) (pe_tup (pa_cons (pe_num T.k_UNKNOWN) (pa_cons (pe_fld (pv 1) rfl) pa_nil))) (by rfl)))))), ?_⟩
    rw [← suits_is] at q
    refine ⟨_, rfl, y, _, dc, _, _, rfl, hc, T.cl_Coat, T.n_Coat_place, lk_Coat_place, rfl, _, rfl, ?_⟩
    rw [pl_non hpl]
    by_cases h0 : c.spot = none
    · refine if_true_of (by rw [h0]; rfl) (iteT ?_)
      have e : suitsP k c = false := by unfold suitsP; rw [if_pos (.inl h0)]
      rw [e] at q
      exact q H (Same.refl H)
    · refine if_false_of (by rw [Option.isNone_eq_false_iff, Option.isSome_iff_ne_none]; exact h0) ?_
      refine ⟨_, rfl, y, _, dc, _, _, rfl, hc, T.cl_Coat, T.n_Coat_time, lk_Coat_time, _, rfl, x, _, dk, _, _, rfl, hk, T.cl_Claim, T.n_Claim_low, lk_Claim_low, _, _, rfl, rfl, _, rfl, ?_⟩
      by_cases h1 : (c.since : Int) < (k.lo : Int)
      · refine if_true_of (decide_eq_true h1) (iteT ?_)
        have e : suitsP k c = false := by unfold suitsP; rw [if_pos (.inr (.inl h1))]
        rw [e] at q
        exact q H (Same.refl H)
      · refine if_false_of (decide_eq_false h1) ?_
        refine ⟨_, rfl, y, _, dc, _, _, rfl, hc, T.cl_Coat, T.n_Coat_time, lk_Coat_time, _, rfl, x, _, dk, _, _, rfl, hk, T.cl_Claim, T.n_Claim_high, lk_Claim_high, _, _, rfl, rfl, _, rfl, ?_⟩
        by_cases h2 : (k.hi : Int) < (c.since : Int)
        · refine if_true_of (decide_eq_true h2) ?_
          have e : suitsP k c = false := by unfold suitsP; rw [if_pos (.inr (.inr h2))]
          rw [e] at q
          exact q H (Same.refl H)
        · refine if_false_of (decide_eq_false h2) ?_
          have e : suitsP k c = ((oI k.kind == -1 || oI k.kind == (c.kind : Int)) && (oI k.colour == -1 || oI k.colour == (c.colour : Int))) := by
            unfold suitsP
            rw [if_neg (fun z => z.elim h0 fun z => z.elim h1 h2)]
          rw [e] at q
          refine ⟨_, rfl, x, _, dk, _, _, rfl, hk, T.cl_Claim, T.n_Claim_kind, lk_Claim_kind, _, rfl, y, _, dc, _, _, rfl, hc, T.cl_Coat, T.n_Coat_kind, lk_Coat_kind, by show 2 ≤ sizeLine; decide, fun p hp => ?_⟩
          have s1 : Same H (upd H p (.tup [.int (-1), .int c.kind])) := Same.new hp
          refine ⟨p, _, rfl, .inr (SqT.of upd_same), rfl, rfl, _, rfl, ?_⟩
          rw [inV_two]
          cases h3 : (oI k.kind == -1 || oI k.kind == (c.kind : Int)) with
          | false =>
            rw [h3] at q
            exact iteF (q _ s1)
          | true =>
            rw [h3] at q
            refine iteT ?_
            refine ⟨_, rfl, x, _, dk, _, _, rfl, s1 _ _ hk, T.cl_Claim, T.n_Claim_colour, lk_Claim_colour, _, rfl, y, _, dc, _, _, rfl, s1 _ _ hc, T.cl_Coat, T.n_Coat_colour, lk_Coat_colour, by show 2 ≤ sizeLine; decide, fun p2 hp2 => ?_⟩
            refine ⟨p2, _, rfl, .inr (SqT.of upd_same), rfl, rfl, ?_⟩
            rw [inV_two]
            exact q _ (s1.more hp2)
end
end Ck
end
section
set_option Elab.async false
set_option linter.all false
set_option maxRecDepth 100000
set_option maxHeartbeats 4000000
/-! Which coats suit a claim; the search; which are possible. -/
namespace Ck
open PySem PySem.Spec PyProof.Rows L2
open Mu10 (State Coat Rack Spot)
/-- whole numbers that count -/
def nV (n : Nat) : V := .int n
theorem ClaimAt.same {D : Ads} {H H' : Hp} {k : Mu10.Claim} {x : Addr} (h : ClaimAt D H k x) (s : Same H H') : ClaimAt D H' k x := by
  obtain ⟨dx, e⟩ := h
  exact ⟨dx, s _ _ e⟩
theorem CoatAt.same {D : Ads} {rs : List Rack} {H H' : Hp} {c : Coat} {x : Addr} (h : CoatAt D rs H c x) (s : Same H H') : CoatAt D rs H' c x := by
  obtain ⟨dx, pl, e, p⟩ := h
  exact ⟨dx, pl, s _ _ e, p.keep fun _ _ z => s _ _ z⟩
theorem le_line {n : Nat} (h : n ≤ 10000000) : n ≤ sizeLine := Nat.le_trans h (by decide)
theorem lt_line {n : Nat} (h : n ≤ 10000000) : n < sizeLine := Nat.lt_of_le_of_lt h (by decide)
theorem map_at {α β : Type} {f : α → β} {l : List α} {i : Nat} {y : β} (h : (l.map f)[i]? = some y) : ∃ x, l[i]? = some x ∧ y = f x := by
  rw [List.getElem?_map] at h
  cases e : l[i]? with
  | none => rw [e] at h; cases h
  | some x => rw [e] at h; exact ⟨x, rfl, (Option.some.inj h).symm⟩
theorem at_map {α β : Type} {f : α → β} {l : List α} {i : Nat} {x : α} (h : l[i]? = some x) : (l.map f)[i]? = some (f x) := by rw [List.getElem?_map, h]; rfl
section
variable {P : Program} {w : World} {K : PySem.W.Frag} {mg : Str → Option Value} {base : Heap} {D : Ads}
def sp_suiting (D : Ads) : Sp := fun vs H Q _ => ∃ (x l : Addr) (k : Mu10.Claim) (s : State) (co : List Addr), vs = [.ref x, .ref l] ∧ ClaimAt D H k x ∧ H l = some (.lst (co.map V.ref)) ∧ Al (CoatAt D s.racks H) s.coats co ∧ s.coats.length ≤ 60 ∧
  ∀ H' p, Same H H' → H p = none → H' p = some (.lst ((Mu10.candidates s k).map nV)) → Q (.ref p) H'
theorem ok_suiting (T : Txt K mg D) : FnOk P w K mg base CX0 2 D.f_suiting D.d_suiting ["claim", "coats"] (sp_suiting D) := by
  refine T.F_suiting.ok sc_suiting (fun vs H Q E h => ?_) (fun cdv A outer s H vs Q E hr h => ?_)
  · obtain ⟨x, l, k, s, co, rfl, _⟩ := h
    rfl
  · obtain ⟨x, l, k, st, co, rfl, hk, hl, hco, hn, q⟩ := h
    refine ⟨_, pss_one (ps_ret (pe_lc (own := [("ticket", 2), ("coat", 3)]) (g := gTup K 2 (gCons (gName 2) (gCons (gName 3) gNil))) rfl sc_suiting.nd (pi_enum (by rfl) T.w_enumerate (pa_cons (pv 1) pa_nil)) (blkOk_by (N := ["claim", "coats", "ticket", "coat"]) (sc := defScope s_suiting) (by decide +kernel))
      (fun _ _ _ _ _ => by exact pg_tup rfl (pgs_cons (pg_name (i := 2) sc_suiting.nd rfl (Or.inl rfl)) (pgs_cons (pg_name (i := 3) sc_suiting.nd rfl (Or.inl rfl)) pgs_nil)))
      (fun _ _ _ _ _ => by exact pts_one (pt_val (pe_meth (pv 0) T.cl_Claim T.m_Claim_suits (ok_suits T) hr T.b_Claim_suits .nil pass0 (pa_cons (pv 3) pa_nil))))
      (fun _ _ _ _ _ => by exact pv 2))), ?_⟩
    refine ⟨_, rfl, l, _, rfl, SqL.of hl, fun d hd => ?_⟩
    refine lc_it walk_enum (fun i H' => Same H H' ∧ H' d = some (.lst ((candTo st k i).map nV))) ⟨Same.new hd, upd_same⟩ (fun i H' _ p => SqL.of (p.1 _ _ hl)) ?_ ?_
    · rintro i v H1 H2 hi ⟨s1, e1⟩ ⟨t, x1, y1, rfl, ht, rfl, ex, ey⟩
      cases ex
      obtain ⟨c, hc, rfl⟩ := map_at ey
      obtain ⟨cc, hcc, hca⟩ := hco.back hc
      have s2 := s1.more (o := .tup [.int (i : Nat), .ref c]) ht
      refine ⟨t, _, rfl, SqT.of upd_same, rfl, _, _, rfl, _, _, rfl, rfl, rfl, ?_⟩
      obtain ⟨dk, hk2⟩ := hk.same s2
      refine ⟨_, rfl, x, dk, _, rfl, hk2, lm_Claim_suits, _, rfl, x, c, k, cc, st.racks, rfl, ⟨dk, hk2⟩, hca.same s2, fun H3 s3 => ⟨_, rfl, ?_⟩⟩
      have e3 : H3 d = some (.lst ((candTo st k i).map nV)) := s3 _ _ (by rw [upd_ne (ne_of_none e1 ht)]; exact e1)
      have s4 := s2.trans s3
      have hlen : (candTo st k i).length ≤ i := cand_len st k i
      have hi2 : i < st.coats.length := (List.getElem?_eq_some_iff.mp hcc).1
      rw [cand_more hcc]
      cases hs : Mu10.suits k cc with
      | true =>
        refine iteT ⟨_, rfl, _, e3, ?_, ?_, ?_⟩
        · rw [List.length_map]; exact lt_line (by omega)
        · exact fun b o e => by rw [upd_ne (ne_of_none e hd)]; exact s4 b o e
        · rw [upd_same, if_pos rfl, List.map_append]; rfl
      | false =>
        refine iteF ⟨s4, ?_⟩
        rw [if_neg (by decide)]
        exact e3
    · rintro H' ⟨s1, e1⟩
      have e2 : (co.map V.ref).length = st.coats.length := by rw [List.length_map, hco.1]
      rw [e2, cand_all] at e1
      exact q H' d s1 hd e1
/-! ### the search -/
def dk (g : List (Nat × Nat)) : List (Key × V) := g.map fun p => (Sum.inl (p.1 : Int), nV p.2)
theorem dk_val (t : Nat) : ∀ g : List (Nat × Nat), valV (dk g) (Sum.inl (t : Int)) = (g.lookup t).map nV
  | [] => rfl
  | (a, b) :: g => by
    by_cases e : t = a
    · subst e
      show valV ((Sum.inl (t : Int), nV b) :: dk g) _ = _
      rw [valV_pos rfl]
      simp [List.lookup]
    · have e' : (t == a) = false := by simpa using e
      show valV ((Sum.inl (a : Int), nV b) :: dk g) _ = _
      rw [valV_neg (fun z => e (by have := Sum.inl.inj z; omega)), dk_val t g]
      simp only [List.lookup, e']
theorem dk_map_ne {k v : Nat} : ∀ {g : List (Nat × Nat)}, k ∉ g.map (·.1) → (dk g).map (fun kv => if kv.1 = Sum.inl (k : Int) then (kv.1, nV v) else kv) = dk g
  | [], _ => rfl
  | (a, b) :: g, h => by
    rw [List.map_cons, List.mem_cons] at h
    have h1 : ¬ ((Sum.inl (a : Int) : Key) = Sum.inl (k : Int)) := fun z => h (.inl (by have := Sum.inl.inj z; omega))
    show (if (Sum.inl (a : Int) : Key) = Sum.inl (k : Int) then _ else _) :: _ = (Sum.inl (a : Int), nV b) :: dk g
    rw [if_neg h1]
    exact congrArg _ (dk_map_ne fun z => h (.inr z))
theorem dk_any {k : Nat} : ∀ {g : List (Nat × Nat)}, ((dk g).any fun kv => decide (kv.1 = Sum.inl (k : Int))) = decide (k ∈ g.map (·.1))
  | [] => by simp [dk]
  | (a, b) :: g => by
    show (decide ((Sum.inl (a : Int) : Key) = Sum.inl (k : Int)) || (dk g).any _) = _
    rw [dk_any (g := g)]
    by_cases e : k = a
    · subst e; simp
    · have e2 : ¬ ((Sum.inl (a : Int) : Key) = Sum.inl (k : Int)) := fun z => e (by have := Sum.inl.inj z; omega)
      rw [decide_eq_false e2, Bool.false_or]
      simp [e]
theorem dk_put {k v : Nat} : ∀ {g : List (Nat × Nat)}, (g.map (·.1)).Nodup → putK (dk g) (Sum.inl (k : Int)) (nV v) = dk (put g k v)
  | [], _ => rfl
  | (a, b) :: g, h => by
    rw [List.map_cons, List.nodup_cons] at h
    have ih := dk_put (k := k) (v := v) h.2
    unfold putK at ih ⊢
    rw [dk_any] at ih ⊢
    unfold put
    by_cases e : a = k
    · subst e
      rw [if_pos (by simp), if_pos rfl]
      show (if (Sum.inl (a : Int) : Key) = Sum.inl (a : Int) then _ else _) :: _ = (Sum.inl (a : Int), nV v) :: dk g
      rw [if_pos rfl]
      exact congrArg _ (dk_map_ne h.1)
    · have e2 : ¬ ((Sum.inl (a : Int) : Key) = Sum.inl (k : Int)) := fun z => e (by have := Sum.inl.inj z; omega)
      have e3 : ¬ k = a := fun z => e z.symm
      rw [if_neg e]
      show _ = (Sum.inl (a : Int), nV b) :: dk (put g k v)
      rw [← ih]
      by_cases m : k ∈ g.map (·.1)
      · rw [if_pos (by simpa using Or.inr m), if_pos (by simpa using m)]
        show (if (Sum.inl (a : Int) : Key) = Sum.inl (k : Int) then _ else _) :: _ = _
        rw [if_neg e2]
        rfl
      · rw [if_neg (by simp only [List.map_cons, List.mem_cons, decide_eq_true_eq]; exact fun z => z.elim e3 m), if_neg (by simpa using m)]
        rfl
theorem inV_nat (t : Nat) : ∀ l : List Nat, inV (nV t) (l.map nV) = decide (t ∈ l)
  | [] => by simp [inV]
  | a :: l => by
    show (((a : Int) == (t : Int)) || inV (nV t) (l.map nV)) = _
    rw [inV_nat t l]
    by_cases e : t = a
    · subst e; simp
    · have e2 : ((a : Int) == (t : Int)) = false := by rw [beq_eq_false_iff_ne]; omega
      rw [e2, Bool.false_or]
      simp [e]
theorem flat_nats : ∀ l : List Nat, (l.map nV).all flatV = true
  | [] => rfl
  | a :: l => by
    show (flatV (nV a) && (l.map nV).all flatV) = true
    rw [flat_nats l]; rfl
abbrev RowN (H : Hp) (row : List Nat) (r : Addr) : Prop := H r = some (.lst (row.map nV))
/-- n: how deep it may go -/
def sp_wom (n : Nat) : Sp := fun vs H Q _ => ∃ (g r t : Addr) (c : Nat) (given : List (Nat × Nat)) (rows : List (List Nat)) (rs : List Addr) (tried : List Nat), vs = [.ref g, .ref r, nV c, .ref t] ∧ H g = some (.dK (dk given)) ∧ H r = some (.lst (rs.map V.ref)) ∧ Al (RowN H) rows rs ∧
  H t = some (.lst (tried.map nV)) ∧ t ≠ r ∧ t ∉ rs ∧ c < rows.length ∧ Good rows given ∧ given.length ≤ 60 ∧ (∀ row ∈ rows, ∀ x ∈ row, x < 60) ∧ (∀ p ∈ given, p.2 < rows.length) ∧ tried.Nodup ∧ (∀ x ∈ tried, x < 60) ∧ left given tried < n ∧
  ∀ H' o tr, wom rows given n c tried = (o, tr) → Kp (fun b => b = t) H H' → H' t = some (.lst (tr.map nV)) → (match o with
    | none => Q .non H'
    | some f => ∀ p, H p = none → H' p = some (.dK (dk f)) → Q (.ref p) H')
theorem kp_free {H H' : Hp} {t p : Addr} {o : HO} (k : Kp (fun b => b = t) H H') (e : H' t = some o) (hp : H' p = none) : H p = none := by
  cases q : H p with
  | none => rfl
  | some u =>
    by_cases z : p = t
    · rw [z, e] at hp; cases hp
    · rw [k p u q z] at hp; cases hp
theorem drop_at {α : Type} {l : List α} {i : Nat} {x : α} (h : l[i]? = some x) : l.drop i = x :: l.drop (i + 1) := by
  obtain ⟨h1, h2⟩ := List.getElem?_eq_some_iff.mp h
  rw [List.drop_eq_getElem_cons h1, h2]
theorem tried_len {l : List Nat} (h : l.Nodup) (k : ∀ x ∈ l, x < 60) : l.length ≤ 60 := by
  have := nodup_le h (m := List.range 60) fun x hx => List.mem_range.mpr (k x hx)
  simpa using this
theorem ok_wom (T : Txt K mg D) : ∀ n, FnOk P w K mg base CX0 (n + 1) D.f_with_one_more D.d_with_one_more ["given", "rows", "claim", "tried"] (sp_wom n)
  | 0 => by
    refine T.F_with_one_more.ok sc_with_one_more (fun vs H Q E h => ?_) (fun cdv A outer s H vs Q E hr h => ?_)
    · obtain ⟨g, r, t, c, given, rows, rs, tried, rfl, _⟩ := h
      rfl
    · obtain ⟨g, r, t, c, given, rows, rs, tried, rfl, _, _, _, _, _, _, _, _, _, _, _, _, _, hl, _⟩ := h
      exact absurd hl (Nat.not_lt_zero _)
  | n + 1 => by
    have ih : FnOk P w K mg base CX0 (n + 1) D.f_with_one_more D.d_with_one_more ["given", "rows", "claim", "tried"] (sp_wom n) := ok_wom T n
    refine T.F_with_one_more.ok sc_with_one_more (fun vs H Q E h => ?_) (fun cdv A outer s H vs Q E hr h => ?_)
    · obtain ⟨g, r, t, c, given, rows, rs, tried, rfl, _⟩ := h
      rfl
    · obtain ⟨g, r, t, c, given, rows, rs, tried, rfl, hg, hr1, hrs, ht, ntr, nts, hc, G, hgl, hb, hgv, hnd, htb, hleft, q⟩ := h
      have hu := hu_of hr
      refine ⟨_, pss_cons (ps_for PassesOwn.never rfl (pi_list (pe_ix ix_list (pv 1) (pv 2) (fun _ _ => rfl))) (pg_name (i := 4) sc_with_one_more.nd rfl (Or.inl rfl))
          (pss_one (ps_if (pt_cmpR op_notIn_seq (pv 4) (pv 3) (by rfl))
            (pss_cons (ps_expr (pe_bm PySem.F.plainAttrs_list PySem.F.slot_list_append PySem.F.type_list_append mt_append (pv 3) (pa_cons (pv 4) pa_nil)))
            (pss_cons (ps_set (i := 5) sc_with_one_more.nd rfl (Or.inl rfl) (pv 0))
            (pss_cons (ps_if (pt_cmp (pc_din hu (pv 4) (pv 0)))
              (pss_one (ps_set (i := 5) sc_with_one_more.nd rfl (Or.inl rfl) (pe_call ih hr rfl T.g_with_one_more T.F_with_one_more.kp T.b_with_one_more .nil pass0
                (pa_cons (pv 0) (pa_cons (pv 1) (pa_cons (pe_dget hu (pv 0) (pv 4) (fun _ _ => rfl)) (pa_cons (pv 3) pa_nil))))))) pss_nil)
            (pss_one (ps_if (pt_cmpR op_notN (pv 5) pe_non (nomark _))
              (pss_cons (ps_set (i := 6) sc_with_one_more.nd rfl (Or.inl rfl) (pe_callTy call_dictD (by rfl) T.w_dict (by decide +kernel) (pa_cons (pv 5) pa_nil)))
              (pss_cons (ps_dput hu (pv 6) (pv 4) (pv 2) rfl)
              (pss_one (ps_ret (pv 6))))) pss_nil))))) pss_nil)))
        (pss_one (ps_ret pe_non)), ?_⟩
      obtain ⟨row, hrow⟩ : ∃ row, rows[c]? = some row := ⟨_, List.getElem?_eq_getElem hc⟩
      obtain ⟨ra, hra, hrw⟩ := hrs.2 c row hrow
      have hgd : rows.getD c [] = row := by rw [List.getD_eq_getElem?_getD, hrow]; rfl
      obtain ⟨R, hR⟩ : ∃ R, womLoop (wom rows given n) given c row tried = R := ⟨_, rfl⟩
      have hq0 : wom rows given (n + 1) c tried = R := by rw [wom, hgd]; exact hR
      have nta : ra ≠ t := fun z => nts (by rw [← z]; exact List.mem_of_getElem? hra)
      have ngt : g ≠ t := ne_of hg ht (by intro z; cases z)
      have nrt : r ≠ t := fun z => ntr z.symm
      have hrow60 : ∀ x ∈ row, x < 60 := hb row (List.mem_of_getElem? hrow)
      have hkey60 : ∀ {x y : Nat}, given.lookup x = some y → x < 60 := fun {x y} e => by
        have m := G.ed _ (mem_of_lookup e)
        rw [List.getD_eq_getElem?_getD] at m
        cases hz : rows[y]? with
        | none => rw [hz] at m; simp at m
        | some rw' => rw [hz] at m; exact hb rw' (List.mem_of_getElem? hz) x m
      refine ⟨_, rfl, _, rfl, r, _, _, _, rfl, rfl, SqL.of hr1, atI_nat (at_map hra), ra, rfl, ⟨_, SqL.of hrw⟩, for_list (K := K) (a := ra) (xs := row.map nV) (fun i σ H' => ∃ (v4 v5 v6 : Option V) (tr : List Nat), σ = [some (.ref g), some (.ref r), some (nV c), some (.ref t), v4, v5, v6] ∧ Kp (fun b => b = t) H H' ∧ H' t = some (.lst (tr.map nV)) ∧ tr.Nodup ∧ (∀ x ∈ tr, x < 60) ∧ left given tr < n + 1 ∧
          womLoop (wom rows given n) given c (row.drop i) tr = R)
        ⟨none, none, none, tried, rfl, fun _ _ e _ => e, ht, hnd, htb, hleft, hR⟩ (fun i σ H' _ ⟨_, _, _, _, _, k, _⟩ => SqL.of (k _ _ hrw nta)) ?_ ?_⟩
      · rintro i y σ H' hi ⟨v4, v5, v6, tr, rfl, k, e, nd, tb, hl, eq⟩
        obtain ⟨tk, htk, rfl⟩ := map_at hi
        rw [drop_at htk] at eq
        unfold womLoop at eq
        refine ⟨_, rfl, _, rfl, t, _, rfl, .inl (SqL.of e), rfl, flat_nats tr, _, rfl, ?_⟩
        by_cases m : tk ∈ tr
        · refine if_false_of (by show (!inV (nV tk) (tr.map nV)) = false; rw [inV_nat, decide_eq_true m]; rfl) ?_
          rw [if_pos m] at eq
          exact ⟨some (nV tk), v5, v6, tr, rfl, k, e, nd, tb, hl, eq⟩
        · refine if_true_of (by show (!inV (nV tk) (tr.map nV)) = true; rw [inV_nat, decide_eq_false m]; rfl) ?_
          rw [if_neg m] at eq
          have tk60 : tk < 60 := hrow60 tk (List.mem_of_getElem? htk)
          have nd1 : (tr ++ [tk]).Nodup := by
            rw [List.nodup_append]
            exact ⟨nd, by simp, by intro p hp q hq; simp at hq; intro z; exact m (by rw [← hq, ← z]; exact hp)⟩
          have tb1 : ∀ x ∈ tr ++ [tk], x < 60 := fun x hx => by
            rcases List.mem_append.mp hx with z | z
            · exact tb x z
            · simp at z; omega
          refine ⟨_, rfl, .inl ⟨rfl, _, SqL.of e⟩, _, rfl, t, _, _, rfl, rfl, e, by rw [List.length_map]; exact lt_line (by have := tried_len nd tb; omega), ?_⟩
          have e1 : upd H' t (.lst (tr.map nV ++ [nV tk])) t = some (.lst ((tr ++ [tk]).map nV)) := by rw [upd_same, List.map_append]; rfl
          have k1 : Kp (fun b => b = t) H (upd H' t (.lst (tr.map nV ++ [nV tk]))) := fun b o q n => by rw [upd_ne n]; exact k b o q n
          generalize upd H' t (.lst (tr.map nV ++ [nV tk])) = H1 at e1 k1 ⊢
          have hg1 := k1 _ _ hg ngt
          refine ⟨_, rfl, ?_⟩
          refine ⟨_, rfl, _, rfl, g, _, rfl, DGet.k (k := Sum.inl (tk : Int)) hg1, _, rfl, ?_⟩
          rw [dk_val]
          cases hlk : given.lookup tk with
          | none =>
            rw [hlk] at eq
            refine iteF ?_
            refine ⟨_, rfl, rfl, _, rfl, if_true_of rfl ?_⟩
            refine ⟨_, rfl, g, _, rfl, Rd.of hg1, fun p hp => ?_⟩
            refine ⟨_, rfl, _, rfl, _, rfl, p, _, rfl, DPut.k (k := Sum.inl (tk : Int)) upd_same (by rw [dk, List.length_map]; exact lt_line (by omega)), ?_⟩
            refine ⟨_, rfl, ?_⟩
            have np : t ≠ p := ne_of_none e1 hp
            refine q _ (some (put given tk c)) (tr ++ [tk]) (hq0.trans eq.symm) (fun b o h n => ?_) ?_ p (kp_free k1 e1 hp) ?_
            · have nb : b ≠ p := ne_of_none (k1 b o h n) hp
              rw [upd_ne nb, upd_ne nb]; exact k1 b o h n
            · rw [upd_ne np, upd_ne np]; exact e1
            · rw [upd_same]
              exact congrArg (fun z => some (HO.dK z)) (dk_put G.nd)
          | some c' =>
            rw [hlk] at eq
            simp only at eq
            refine iteT ?_
            have hc' : c' < rows.length := hgv _ (mem_of_lookup hlk)
            have hdg : DGet H1 g (nV tk) (some (nV c')) := by
              have z := DGet.k (k := Sum.inl (tk : Int)) hg1
              rw [dk_val, hlk] at z
              exact z
            have hlt := left_less hlk m
            refine ⟨_, rfl, _, rfl, _, rfl, _, rfl, g, nV c', rfl, hdg, _, rfl, g, r, t, c', given, rows, rs, tr ++ [tk], rfl, hg1, k1 _ _ hr1 nrt, hrs.mono (fun rw' b _ mb h => k1 _ _ h fun z => nts (by rw [← z]; exact mb)), e1, ntr, nts, hc', G, hgl, hb, hgv, nd1, tb1, by omega, fun H2 o tr2 ew kw e2 => ?_⟩
            have k2 : Kp (fun b => b = t) H H2 := k1.trans kw
            rw [ew] at eq
            cases o with
            | none =>
              simp only at eq
              obtain ⟨F, _⟩ := wom_fails n c' (tr ++ [tk]) tr2 (by omega) ew
              refine ⟨_, rfl, rfl, _, rfl, if_false_of rfl ?_⟩
              refine ⟨some (nV tk), some .non, v6, tr2, rfl, k2, e2, F.nd nd1, fun x hx => ?_, ?_, eq⟩
              · rcases F.new x hx with z | ⟨d, z, _⟩
                · exact tb1 x z
                · exact hkey60 z
              · have := left_mono (given := given) F.mono
                omega
            | some f =>
              simp only at eq
              obtain ⟨Fd, _⟩ := wom_found G n c' (tr ++ [tk]) f tr2 ew
              have hfl : f.length = given.length + 1 := by
                have := Fd.vals.length_eq
                simpa using this
              intro p1 hp1 hf
              refine ⟨_, rfl, rfl, _, rfl, if_true_of rfl ?_⟩
              refine ⟨_, rfl, p1, _, rfl, Rd.of hf, fun p hp => ?_⟩
              refine ⟨_, rfl, _, rfl, _, rfl, p, _, rfl, DPut.k (k := Sum.inl (tk : Int)) upd_same (by rw [dk, List.length_map]; exact lt_line (by omega)), ?_⟩
              refine ⟨_, rfl, ?_⟩
              have np : t ≠ p := ne_of_none e2 hp
              refine q _ (some (put f tk c)) tr2 (hq0.trans eq.symm) (fun b o h n => ?_) ?_ p (kp_free k2 e2 hp) ?_
              · have nb : b ≠ p := ne_of_none (k2 b o h n) hp
                rw [upd_ne nb, upd_ne nb]; exact k2 b o h n
              · rw [upd_ne np, upd_ne np]; exact e2
              · rw [upd_same]
                exact congrArg (fun z => some (HO.dK z)) (dk_put Fd.good.nd)
      · rintro σ H' ⟨v4, v5, v6, tr, rfl, k, e, nd, tb, hl, eq⟩
        rw [List.length_map, List.drop_length] at eq
        exact q H' none tr (hq0.trans eq.symm) k e
end
end Ck
end
section
set_option Elab.async false
set_option linter.all false
set_option maxRecDepth 100000
set_option maxHeartbeats 4000000
/-! Whether all can have one; which coats are possible. -/
namespace Ck
open PySem PySem.Spec PyProof.Rows L2
open Mu10 (State Coat Rack Spot)
section
variable {P : Program} {w : World} {K : PySem.W.Frag} {mg : Str → Option Value} {base : Heap} {D : Ads}
def sp_cah : Sp := fun vs H Q _ => ∃ (r : Addr) (rows : List (List Nat)) (rs : List Addr), vs = [.ref r] ∧ H r = some (.lst (rs.map V.ref)) ∧ Al (RowN H) rows rs ∧ rows.length ≤ 8 ∧ (∀ row ∈ rows, ∀ x ∈ row, x < 60) ∧ ∀ H', Same H H' → Q (.bl (canAll rows)) H'
theorem ok_cah (T : Txt K mg D) : FnOk P w K mg base CX0 11 D.f_can_all_have D.d_can_all_have ["rows"] sp_cah := by
  refine T.F_can_all_have.ok sc_can_all_have (fun vs H Q E h => ?_) (fun cdv A outer s H vs Q E hr h => ?_)
  · obtain ⟨r, rows, rs, rfl, _⟩ := h
    rfl
  · obtain ⟨r, rows, rs, rfl, hr1, hrs, hlen, hb, q⟩ := h
    have GW : FnOk P w K mg base CX0 10 D.f_with_one_more D.d_with_one_more ["given", "rows", "claim", "tried"] (sp_wom (rows.length + 1)) := (ok_wom T (rows.length + 1)).mono (by omega)
    refine ⟨_, pss_cons (ps_set (i := 1) sc_can_all_have.nd rfl (Or.inl rfl) pe_dnewK)
      (pss_cons (ps_for PassesOwn.never rfl (pi_range1 rfl T.w_range (pa_cons (pe_callB call_len_seq (by rfl) T.w_len PySem.boot_len (pa_cons (pv 0) pa_nil)) pa_nil)) (pg_name (i := 2) sc_can_all_have.nd rfl (Or.inl rfl))
        (pss_cons (ps_set (i := 1) sc_can_all_have.nd rfl (Or.inl rfl) (pe_call GW hr rfl T.g_with_one_more T.F_with_one_more.kp T.b_with_one_more .nil pass0 (pa_cons (pv 1) (pa_cons (pv 0) (pa_cons (pv 2) (pa_cons (pe_lst pa_nil) pa_nil))))))
        (pss_one (ps_if (pt_cmpR op_isN (pv 1) pe_non (nomark _)) (pss_one (ps_ret pe_bl)) pss_nil))))
      (pss_one (ps_ret pe_bl))), ?_⟩
    intro g hg
    have hlr : (rs.map V.ref).length = rows.length := by rw [List.length_map, hrs.1]
    have s0 : Same H (upd H g (.dK [])) := Same.new hg
    refine ⟨_, rfl, r, _, rfl, .inl (SqL.of (s0 _ _ hr1)), ((rs.map V.ref).length : Int), rfl, by omega, by omega, ?_⟩
    rw [hlr, Int.toNat_natCast]
    refine for_range (n := rows.length) (fun i σ H' => ∃ (v2 : Option V) (g : Addr) (gv : List (Nat × Nat)), σ = [some (.ref r), some (.ref g), v2] ∧ Same H H' ∧ H' g = some (.dK (dk gv)) ∧ Good rows gv ∧ (gv.map (·.2)).Perm (List.range i) ∧ i ≤ rows.length ∧
        (cahFrom rows (rows.length - i) i gv).isSome = canAll rows)
      ⟨none, g, [], rfl, s0, upd_same, ⟨by simp, by simp⟩, by simp, Nat.zero_le _, rfl⟩ ?_ ?_
    · rintro i σ H' hi ⟨v2, g, gv, rfl, s1, e1, G, hv, _, hc⟩
      have hl : gv.length = i := by
        have := hv.length_eq
        simpa using this
      refine ⟨_, rfl, _, rfl, _, rfl, Nat.zero_le _, fun t ht => ?_⟩
      have s2 := s1.more (o := .lst []) ht
      have e2 : upd H' t (.lst []) g = some (.dK (dk gv)) := by rw [upd_ne (ne_of_none e1 ht)]; exact e1
      have hfree : H t = none := s1.frees ht
      have hvl : ∀ p ∈ gv, p.2 < rows.length := fun p hp => by
        have : p.2 ∈ gv.map (·.2) := List.mem_map.mpr ⟨p, hp, rfl⟩
        have := List.mem_range.mp (hv.mem_iff.mp this)
        omega
      have hcast : (0 : Int) + (i : Int) = ((i : Nat) : Int) := by omega
      refine ⟨g, r, t, i, gv, rows, rs, [], ?_, e2, s2 _ _ hr1, hrs.mono (fun _ _ _ _ h => s2 _ _ h), upd_same, fun z => ne_of_none hr1 hfree z.symm, fun z => ?_, hi, G, by omega, hb, hvl, List.nodup_nil, fun x hx => absurd hx (by simp), ?_, fun H2 o tr ew kw et => ?_⟩
      · show [V.ref g, V.ref r, V.int (0 + (i : Int)), V.ref t] ++ [] = _
        rw [hcast]
        rfl
      · obtain ⟨j, hj⟩ := List.getElem?_of_mem z
        obtain ⟨_, _, h⟩ := hrs.back hj
        exact ne_of_none h hfree rfl
      · exact Nat.lt_of_le_of_lt (List.length_filter_le _ _) (by omega)
      · have s3 : Same H H2 := fun b o h => kw b o (s2 b o h) (ne_of_none h hfree)
        have ec : rows.length - i = (rows.length - (i + 1)) + 1 := by omega
        rw [ec] at hc
        unfold cahFrom at hc
        rw [ew] at hc
        cases o with
        | none =>
          simp only [Option.isSome_none] at hc
          refine ⟨_, rfl, rfl, _, rfl, if_true_of rfl ?_⟩
          have := q H2 s3
          rw [← hc] at this
          exact this
        | some f =>
          simp only at hc
          obtain ⟨Fd, _⟩ := wom_found G _ _ _ _ _ ew
          intro p hp hf
          refine ⟨_, rfl, rfl, _, rfl, if_false_of rfl ?_⟩
          refine ⟨some (.int (0 + (i : Int))), p, f, rfl, s3, hf, Fd.good, ?_, by omega, hc⟩
          refine Fd.vals.trans ((hv.cons i).trans ?_)
          rw [List.range_succ]
          exact List.perm_append_comm (l₁ := [i]) (l₂ := List.range i)
    · rintro σ H' ⟨v2, g, gv, rfl, s1, e1, G, hv, _, hc⟩
      rw [Nat.sub_self] at hc
      have := q H' s1
      rw [← hc] at this
      exact this
/-! ### possible -/
def sp_possible (D : Ads) : Sp := fun vs H Q _ => ∃ (km cl : Addr) (i : Nat) (s : State) (ks co : List Addr) (k : Mu10.Claim), vs = [.ref km, nV i, .ref cl] ∧ H km = some (.lst (ks.map V.ref)) ∧ Al (ClaimAt D H) s.claims ks ∧ H cl = some (.lst (co.map V.ref)) ∧ Al (CoatAt D s.racks H) s.coats co ∧
  s.coats.length ≤ 60 ∧ s.claims.length ≤ 8 ∧ s.claims[i]? = some k ∧ k.coat = none ∧ ∀ H' p, Same H H' → H p = none → H' p = some (.lst ((Mu10.possible s i).map nV)) → Q (.ref p) H'
theorem tk_non (o : Option Nat) : decide (tkV o = V.non) = o.isNone := by
  cases o with
  | none => rfl
  | some t => rfl
theorem nV_ne (a b : Nat) : (!decide (nV a = nV b)) = (a != b) := by
  by_cases h : a = b
  · subst h; simp
  · have h2 : ¬ (nV a = nV b) := fun z => h (by have := V.int.inj z; omega)
    rw [decide_eq_false h2]
    have : (a != b) = true := by simpa using h
    rw [this]; rfl
theorem filter_take {α : Type} {p : α → Bool} {l : List α} {i : Nat} {x : α} (h : l[i]? = some x) : (l.take (i + 1)).filter p = if p x = true then (l.take i).filter p ++ [x] else (l.take i).filter p := by
  rw [List.take_succ, h, List.filter_append]
  show _ ++ [x].filter p = _
  by_cases z : p x = true
  · rw [if_pos z, List.filter_cons_of_pos z]; rfl
  · rw [if_neg z, List.filter_cons_of_neg z]; simp
theorem take_map_snoc {α β : Type} {f : α → β} {l : List α} {i : Nat} {x : α} (h : l[i]? = some x) : (l.take (i + 1)).map f = (l.take i).map f ++ [f x] := by
  rw [List.take_succ, h, List.map_append]; rfl
theorem others_mem {s : State} {i n : Nat} {r : List Nat} (h : r ∈ othersTo s i n) {x : Nat} (hx : x ∈ r) : x < s.coats.length := by
  unfold othersTo at h
  obtain ⟨j, _, e⟩ := List.mem_map.mp h
  subst e
  unfold candOf at hx
  split at hx
  · exact cand_lt hx
  · simp at hx
theorem Kp.sameF {H H3 H' : Hp} {f : Addr} (s : Same H H3) (k : Kp (fun b => b = f) H3 H') (hf : H f = none) : Same H H' := fun b o e => k b o (s b o e) (ne_of_none e hf)
theorem yes_of {σ : L2.St} {H : Hp} {A B : Hp → Prop} (h : A H) : tYes σ H fun b H3 => if b = true then A H3 else B H3 := iteT (A := A H) (B := B H) h
theorem ok_possible (T : Txt K mg D) : FnOk P w K mg base CX0 12 D.f_possible D.d_possible ["claims", "number", "coats"] (sp_possible D) := by
  refine T.F_possible.ok sc_possible (fun vs H Q E h => ?_) (fun cdv A outer s H vs Q E hr h => ?_)
  · obtain ⟨km, cl, i, st, ks, co, k, rfl, _⟩ := h
    rfl
  · obtain ⟨km, cl, i, st, ks, co, k, rfl, hkm, hks, hcl, hco, hn1, hn2, hk, hopen, q⟩ := h
    have hr2 : Room 2 _ := hr.mono (by decide)
    have GS : FnOk P w K mg base CX0 2 D.f_suiting D.d_suiting ["claim", "coats"] (sp_suiting D) := ok_suiting T
    have GC : FnOk P w K mg base CX0 11 D.f_can_all_have D.d_can_all_have ["rows"] sp_cah := ok_cah T
    refine ⟨_, pss_cons (ps_set (i := 3) sc_possible.nd rfl (Or.inl rfl) (pe_lst pa_nil))
      (pss_cons (ps_for PassesOwn.never rfl (pi_enum (by rfl) T.w_enumerate (pa_cons (pv 0) pa_nil)) (pg_tup rfl (pgs_cons (pg_name (i := 4) sc_possible.nd rfl (Or.inl rfl)) (pgs_cons (pg_name (i := 5) sc_possible.nd rfl (Or.inl rfl)) pgs_nil)))
        (pss_one (ps_if (PW.pt (pw_and (pt_cmpR op_ne (pv 4) (pv 1) (nomark _)) (pw_and1 (pt_cmpR op_isN (pe_fld (pv 5) rfl) pe_non (nomark _)))))
          (pss_one (ps_expr (pe_bm PySem.F.plainAttrs_list PySem.F.slot_list_append PySem.F.type_list_append mt_append (pv 3) (pa_cons (pe_call GS hr2 rfl T.g_suiting T.F_suiting.kp T.b_suiting .nil pass0 (pa_cons (pv 5) (pa_cons (pv 2) pa_nil))) pa_nil)))) pss_nil)))
      (pss_cons (ps_set (i := 6) sc_possible.nd rfl (Or.inl rfl) (pe_lst pa_nil))
      (pss_cons (ps_for PassesOwn.never rfl (pi_list (pe_call GS hr2 rfl T.g_suiting T.F_suiting.kp T.b_suiting .nil pass0 (pa_cons (pe_ix ix_list (pv 0) (pv 1) (fun _ _ => rfl)) (pa_cons (pv 2) pa_nil)))) (pg_name (i := 7) sc_possible.nd rfl (Or.inr rfl))
        (pss_cons (ps_setLc (i := 8) (own := [("row", 10)]) (g := gName 10) (tt := tYes) (te := tLc (iList K (tVar 10)) (gName 9) (tTest (tOp rNe (tVar 9) (tVar 7))) (tVar 9) [9]) rfl sc_possible.nd rfl rfl (sw_true rfl rfl rfl (by decide +kernel)) (pi_list (pv 3)) (blkOk_by (N := ["claims", "number", "coats", "others", "at", "claim", "found", "ticket", "rows", "one", "row"]) (sc := defScope s_possible) (by decide +kernel))
            (fun _ _ _ _ _ => pg_name (i := 10) sc_possible.nd rfl (Or.inl rfl)) (fun _ _ _ _ _ => pts_nil)
            (fun _ _ _ _ _ => pe_lc (own := [("one", 9)]) rfl sc_possible.nd (pi_list (pv 10)) (blkOk_by (N := ["claims", "number", "coats", "others", "at", "claim", "found", "ticket", "rows", "one", "row"]) (sc := { kind := .function, names := [(".0", .local), ("row", .local), ("ticket", .cell)], isGenerator := false, isCoroutine := false }) (by decide +kernel)) (fun _ _ _ _ _ => pg_name (i := 9) sc_possible.nd rfl (Or.inl rfl)) (fun _ _ _ _ _ => pts_one (pt_cmpR op_ne (pv 9) (pv 7) (nomark _))) (fun _ _ _ _ _ => pv 9)))
        (pss_one (ps_if (pt_val (pe_call GC hr rfl T.g_can_all_have T.F_can_all_have.kp T.b_can_all_have .nil pass0 (pa_cons (pv 8) pa_nil)))
          (pss_one (ps_expr (pe_bm PySem.F.plainAttrs_list PySem.F.slot_list_append PySem.F.type_list_append mt_append (pv 6) (pa_cons (pv 7) pa_nil)))) pss_nil))))
      (pss_one (ps_ret (pv 6)))))), ?_⟩
    refine ⟨Nat.zero_le _, fun o ho => ?_⟩
    have hkl : (ks.map V.ref).length = st.claims.length := by rw [List.length_map, hks.1]
    obtain ⟨xk, hxk, hxc⟩ := hks.2 i k hk
    have s0 : Same H (upd H o (.lst [])) := Same.new ho
    refine ⟨_, rfl, km, _, rfl, SqL.of (s0 _ _ hkm), for_it walk_enum (fun j σ H' => ∃ (v4 v5 : Option V) (os : List Addr), σ = [some (.ref km), some (nV i), some (.ref cl), some (.ref o), v4, v5, none, none, none, none, none] ∧ Same H H' ∧ H' o = some (.lst (os.map V.ref)) ∧ Al (RowN H') (othersTo st i j) os ∧ o ∉ os)
      ⟨none, none, [], rfl, s0, upd_same, Al.nil, by simp⟩ (fun j σ H' _ ⟨_, _, _, _, s1, _⟩ => SqL.of (s1 _ _ hkm)) ?_ ?_⟩
    · rintro j v σ H1 H2 hj ⟨v4, v5, os, rfl, s1, e1, al, no⟩ ⟨t, x1, y1, rfl, ht, rfl, ex, ey⟩
      cases ex
      obtain ⟨c, hc, rfl⟩ := map_at ey
      obtain ⟨kk, hkk, hka⟩ := hks.back hc
      have s2 := s1.more (o := .tup [.int (j : Nat), .ref c]) ht
      have e2 : upd H1 t (.tup [.int (j : Nat), .ref c]) o = some (.lst (os.map V.ref)) := by rw [upd_ne (ne_of_none e1 ht)]; exact e1
      have al2 : Al (RowN (upd H1 t (.tup [.int (j : Nat), .ref c]))) (othersTo st i j) os := al.mono fun _ _ _ _ h => by
        show upd H1 t _ _ = _
        rw [upd_ne (ne_of_none h ht)]; exact h
      have et : upd H1 t (.tup [.int (j : Nat), .ref c]) t = some (.tup [.int (j : Nat), .ref c]) := upd_same
      generalize upd H1 t (.tup [.int (j : Nat), .ref c]) = H2 at s2 e2 al2 et ⊢
      refine ⟨t, _, rfl, SqT.of et, rfl, _, _, rfl, _, _, rfl, rfl, ?_⟩
      refine ⟨_, rfl, _, rfl, rfl, _, rfl, ?_⟩
      have hne : (!decide (V.int (j : Nat) = nV i)) = (j != i) := nV_ne j i
      have om := others_more (i := i) hkk
      by_cases hji : j = i
      · refine if_false_of (by rw [hne, hji]; simp) (iteF ?_)
        rw [if_neg (fun z => z.1 hji)] at om
        exact ⟨some (.int (j : Nat)), some (.ref c), os, rfl, s2, e2, by rw [om]; exact al2, no⟩
      · refine if_true_of (by rw [hne]; simpa using hji) ?_
        obtain ⟨dk1, hk1⟩ := hka.same s2
        refine ⟨_, rfl, c, _, dk1, _, _, rfl, hk1, T.cl_Claim, T.n_Claim_ticket, lk_Claim_ticket, rfl, _, rfl, ?_⟩
        rw [tk_non]
        cases hcc : kk.coat with
        | some tt =>
          refine iteF ?_
          rw [if_neg (fun z => by rw [hcc] at z; cases z.2)] at om
          exact ⟨some (.int (j : Nat)), some (.ref c), os, rfl, s2, e2, by rw [om]; exact al2, no⟩
        | none =>
          refine iteT ?_
          rw [if_pos ⟨hji, hcc⟩] at om
          refine ⟨_, rfl, .inl ⟨rfl, _, SqL.of e2⟩, _, rfl, _, rfl, c, cl, kk, st, co, rfl, ⟨dk1, hk1⟩, s2 _ _ hcl, hco.mono (fun _ _ _ _ h => h.same s2), hn1, fun H3 p s3 hp e3 => ?_⟩
          have e4 := s3 _ _ e2
          have npo : p ≠ o := fun z => ne_of_none e2 hp z.symm
          have olen : os.length ≤ 8 := by
            rw [al2.1]
            have h1 := others_len st i j
            rw [hkl] at hj
            omega
          refine ⟨o, _, _, rfl, rfl, e4, by rw [List.length_map]; exact lt_line (by omega), ?_⟩
          refine ⟨some (.int (j : Nat)), some (.ref c), os ++ [p], rfl, fun b u h => ?_, ?_, ?_, ?_⟩
          · rw [upd_ne (ne_of_none h ho)]; exact s3 _ _ (s2 _ _ h)
          · rw [upd_same, List.map_append]; rfl
          · rw [om]
            refine Al.snoc (al2.mono fun row b _ mb h => ?_) ?_
            · show upd H3 o _ b = _
              rw [upd_ne (fun z => no (by rw [← z]; exact mb))]; exact s3 _ _ h
            · show upd H3 o _ p = _
              rw [upd_ne npo]; exact e3
          · intro z
            rcases List.mem_append.mp z with z | z
            · exact no z
            · simp at z; exact npo z.symm
    · rintro σ H1 ⟨v4, v5, os, rfl, s1, e1, al, no⟩
      rw [hkl] at al
      refine ⟨Nat.zero_le _, fun f hf => ?_⟩
      have s2 := s1.more (o := .lst []) hf
      have ef : upd H1 f (.lst []) f = some (.lst []) := upd_same
      have e2 : upd H1 f (.lst []) o = some (.lst (os.map V.ref)) := by rw [upd_ne (ne_of_none e1 hf)]; exact e1
      have al2 : Al (RowN (upd H1 f (.lst []))) (othersTo st i st.claims.length) os := al.mono fun _ _ _ _ h => by
        show upd H1 f _ _ = _
        rw [upd_ne (ne_of_none h hf)]; exact h
      have hof : o ≠ f := ne_of_none e1 hf
      have nof : ∀ b ∈ os, b ≠ f := fun b hb => by
        obtain ⟨jj, hjj⟩ := List.getElem?_of_mem hb
        obtain ⟨_, _, h⟩ := al.back hjj
        exact ne_of_none h hf
      have hfH : H f = none := s1.frees hf
      generalize upd H1 f (.lst []) = H2 at s2 ef e2 al2 ⊢
      refine ⟨_, rfl, _, rfl, km, _, _, _, rfl, rfl, SqL.of (s2 _ _ hkm), atI_nat (at_map hxk), _, rfl, xk, cl, k, st, co, rfl, hxc.same s2, s2 _ _ hcl, hco.mono (fun _ _ _ _ h => h.same s2), hn1, fun H3 L s3 hL e3 => ?_⟩
      have s4 := s2.trans s3
      have ef3 := s3 _ _ ef
      have eo3 := s3 _ _ e2
      have al3 : Al (RowN H3) (othersTo st i st.claims.length) os := al2.mono fun _ _ _ _ h => s3 _ _ h
      have nLf : L ≠ f := fun z => ne_of_none ef hL z.symm
      obtain ⟨pred, hpred⟩ : ∃ pred : Nat → Bool, (fun t => canAll ((othersTo st i st.claims.length).map fun row => row.filter fun c => c != t)) = pred := ⟨_, rfl⟩
      have hposs : Mu10.possible st i = (Mu10.candidates st k).filter pred := by rw [possible_is hk hopen, hpred]
      have hcl60 : (Mu10.candidates st k).length ≤ 60 := Nat.le_trans (cand_len st k _) hn1
      refine ⟨L, rfl, ⟨_, SqL.of e3⟩, for_list (K := K) (a := L) (xs := (Mu10.candidates st k).map nV) (fun j σ H' => ∃ v7 v8 : Option V, σ = [some (.ref km), some (nV i), some (.ref cl), some (.ref o), v4, v5, some (.ref f), v7, v8, none, none] ∧ Kp (fun b => b = f) H3 H' ∧ H' f = some (.lst ((((Mu10.candidates st k).take j).filter pred).map nV)))
        ⟨none, none, rfl, fun _ _ e _ => e, ef3⟩ (fun j σ H' _ ⟨_, _, _, k1, _⟩ => SqL.of (k1 _ _ e3 nLf)) ?_ ?_⟩
      · rintro j y σ H' hj ⟨v7, v8, rfl, k1, ef'⟩
        obtain ⟨tk, htk, rfl⟩ := map_at hj
        have eo' := k1 _ _ eo3 hof
        have al' : Al (RowN H') (othersTo st i st.claims.length) os := al3.mono fun _ b _ mb h => k1 _ _ h (nof b mb)
        refine ⟨_, rfl, o, rfl, ⟨_, SqL.of eo'⟩, fun d1 hd1 => ?_⟩
        refine lc_list (K := K) (a := o) (xs := os.map V.ref) (fun m H'' => Same H' H'' ∧ ∃ ns, H'' d1 = some (.lst (ns.map V.ref)) ∧ Al (RowN H'') (((othersTo st i st.claims.length).take m).map fun row => row.filter fun c => c != tk) ns ∧ d1 ∉ ns)
          ⟨Same.new hd1, [], upd_same, Al.nil, by simp⟩ (fun m H'' _ p => SqL.of (p.1 _ _ eo')) ?_ ?_
        · rintro m x H'' hx ⟨s5, ns, e5, al5, nd5⟩
          obtain ⟨ro, hro, rfl⟩ := map_at hx
          obtain ⟨row, hrow, hrw⟩ := al'.back hro
          have hrow60 : row.length ≤ 60 := Nat.le_trans (others_rows (List.mem_of_getElem? hrow)) hn1
          refine ⟨rfl, yes_of ?_⟩
          refine ⟨_, rfl, ro, rfl, ⟨_, SqL.of (s5 _ _ hrw)⟩, fun d2 hd2 => ?_⟩
          refine lc_list (K := K) (a := ro) (xs := row.map nV) (fun n H5 => Same H'' H5 ∧ H5 d2 = some (.lst (((row.take n).filter fun c => c != tk).map nV)))
            ⟨Same.new hd2, upd_same⟩ (fun n H5 _ p => SqL.of (p.1 _ _ (s5 _ _ hrw))) ?_ ?_
          · rintro n x H5 hx ⟨s6, e6⟩
            obtain ⟨on, hon, rfl⟩ := map_at hx
            refine ⟨rfl, _, rfl, _, rfl, rfl, _, rfl, ?_⟩
            rw [nV_ne, filter_take hon]
            have hl6 : ((row.take n).filter fun c => c != tk).length ≤ 60 := Nat.le_trans (List.length_filter_le _ _) (by rw [List.length_take]; omega)
            cases hb : (on != tk) with
            | true =>
              refine iteT ⟨_, rfl, _, e6, by rw [List.length_map]; exact lt_line (by omega), fun b u h => ?_, ?_⟩
              · rw [upd_ne (ne_of_none h hd2)]; exact s6 _ _ h
              · rw [upd_same, if_pos rfl, List.map_append]; rfl
            | false =>
              refine iteF ⟨s6, ?_⟩
              rw [if_neg (by decide)]
              exact e6
          · rintro H5 ⟨s6, e6⟩
            rw [List.length_map, List.take_length] at e6
            have e7 := s6 _ _ e5
            have n12 : d2 ≠ d1 := fun z => ne_of_none e5 hd2 z.symm
            have nsl : ns.length ≤ 8 := by
              rw [al5.1, List.length_map, List.length_take]
              have := others_len st i st.claims.length
              omega
            refine ⟨_, e7, by rw [List.length_map]; exact lt_line (by omega), fun b u h => ?_, ns ++ [d2], ?_, ?_, ?_⟩
            · rw [upd_ne (ne_of_none h hd1)]; exact s6 _ _ (s5 _ _ h)
            · rw [upd_same, List.map_append]; rfl
            · rw [take_map_snoc hrow]
              refine Al.snoc (al5.mono fun r b _ mb h => ?_) ?_
              · show upd H5 d1 _ b = _
                rw [upd_ne (fun z => nd5 (by rw [← z]; exact mb))]; exact s6 _ _ h
              · show upd H5 d1 _ d2 = _
                rw [upd_ne n12]; exact e6
            · intro z
              rcases List.mem_append.mp z with z | z
              · exact nd5 z
              · simp at z; exact n12 z.symm
        · rintro H'' ⟨s5, ns, e5, al5, nd5⟩
          rw [List.length_map, al'.1, List.take_length] at al5
          refine ⟨_, rfl, d1, _, ns, rfl, e5, al5, ?_, ?_, fun H6 s6 => ⟨_, rfl, ?_⟩⟩
          · rw [List.length_map]
            have := others_len st i st.claims.length
            omega
          · intro r hr' x hx
            obtain ⟨r0, h0, rfl⟩ := List.mem_map.mp hr'
            have := others_mem h0 (List.mem_filter.mp hx).1
            omega
          · have hp : canAll ((othersTo st i st.claims.length).map fun row => row.filter fun c => c != tk) = pred tk := by rw [← hpred]
            rw [hp]
            have ef6 := s6 _ _ (s5 _ _ ef')
            have k6 : Kp (fun b => b = f) H3 H6 := fun b u h n => s6 _ _ (s5 _ _ (k1 b u h n))
            rw [filter_take htk]
            cases hb : pred tk with
            | true =>
              have hl6 : (((Mu10.candidates st k).take j).filter pred).length ≤ 60 := Nat.le_trans (List.length_filter_le _ _) (by rw [List.length_take]; omega)
              refine iteT ⟨_, rfl, .inl ⟨rfl, _, SqL.of ef6⟩, _, rfl, f, _, _, rfl, rfl, ef6, by rw [List.length_map]; exact lt_line (by omega), ?_⟩
              refine ⟨some (nV tk), some (.ref d1), rfl, fun b u h n => ?_, ?_⟩
              · rw [upd_ne n]; exact k6 b u h n
              · rw [upd_same, if_pos rfl, List.map_append]; rfl
            | false =>
              refine iteF ⟨some (nV tk), some (.ref d1), rfl, k6, ?_⟩
              rw [if_neg (by decide)]
              exact ef6
      · rintro σ H' ⟨v7, v8, rfl, k1, ef'⟩
        rw [List.length_map, List.take_length, ← hposs] at ef'
        refine ⟨_, rfl, q H' f (Kp.sameF s4 k1 hfH) hfH ef'⟩
end
end Ck
end
section
set_option Elab.async false
set_option linter.all false
set_option maxRecDepth 100000
set_option maxHeartbeats 4000000
/-! The racks: made, copied, asked, changed. -/
namespace Ck
open PySem PySem.Spec PyProof.Rows L2
open Mu10 (State Coat Rack Spot)
theorem rep_one (v : V) : ∀ n : Nat, (List.replicate n [v]).flatten = List.replicate n v
  | 0 => rfl
  | n + 1 => by rw [List.replicate_succ, List.flatten_cons, rep_one v n]; rfl
theorem RkP.rack {D : Ads} {H : Hp} {x : Addr} {rs : List Rack} {hooks : List (List Int)} {d : RkA} (h : RkP D H x rs hooks d) {r : Nat} (hr : r < rs.length) : ∃ t, d.ts[r]? = some t ∧ H t = some (.tup (rackV (rs.getD r ⟨0, 0⟩))) := by
  obtain ⟨t, e, k⟩ := h.ts.2 r rs[r] (List.getElem?_eq_getElem hr)
  refine ⟨t, e, ?_⟩
  rw [List.getD_eq_getElem?_getD, List.getElem?_eq_getElem hr]
  exact k
section
variable {P : Program} {w : World} {K : PySem.W.Frag} {mg : Str → Option Value} {base : Heap} {D : Ads}
def emptyHooks (rs : List Rack) : List (List Int) := rs.map fun k => List.replicate k.hooks (-1)
def sp_Racks_init (D : Ads) : Sp := fun vs H Q _ => ∃ (p dx ra : Addr) (ts : List Addr) (rs : List Rack), vs = [.ref p, .ref ra] ∧ H p = some (.ins D.c_Racks dx []) ∧ H ra = some (.lst (ts.map V.ref)) ∧ Al (TupAt H) rs ts ∧ (∀ k ∈ rs, k.hooks ≤ 30) ∧ rs.length ≤ 6 ∧
  ∀ H' d, RkP D H' p rs (emptyHooks rs) d → d.ra = ra → H d.hk = none → (∀ r ∈ d.rows, H r = none) → Kp (fun b => b = p) H H' → Q .non H'
theorem ok_Racks_init (T : Txt K mg D) : FnOk P w K mg base CX0 1 D.f_Racks_init D.d_Racks_init ["self", "racks"] (sp_Racks_init D) := by
  refine T.F_Racks_init.ok sc_Racks_init (fun vs H Q E h => ?_) (fun cdv A outer s H vs Q E hr h => ?_)
  · obtain ⟨p, dx, ra, ts, rs, rfl, _⟩ := h
    rfl
  · obtain ⟨p, dx, ra, ts, rs, rfl, hp, hra, hts, h30, h6, q⟩ := h
    refine ⟨_, pss_cons (ps_fld (pv 0) (pv 1) rfl) (pss_one (ps_fld (pv 0) (pe_lc (own := [("many", 2), ("first", 3)]) (g := gTup K 2 (gCons (gName 2) (gCons (gName 3) gNil))) (tt := tYes) (te := tOp rRep (tLst (tCons (tC (.int (-1))) tNil)) (tVar 2)) rfl sc_Racks_init.nd (pi_list (pv 1)) (blkOk_by (N := ["self", "racks", "many", "first"]) (sc := defScope s_Racks_init) (by decide +kernel))
      (fun _ _ _ _ _ => by exact pg_tup rfl (pgs_cons (pg_name (i := 2) sc_Racks_init.nd rfl (Or.inl rfl)) (pgs_cons (pg_name (i := 3) sc_Racks_init.nd rfl (Or.inl rfl)) pgs_nil)))
      (fun _ _ _ _ _ => pts_nil) (fun _ _ _ _ _ => by exact pe_op op_rep (pe_lst (pa_cons (pe_num T.k_FREE) pa_nil)) (pv 2))) rfl)), ?_⟩
    refine ⟨_, rfl, _, rfl, p, D.c_Racks, dx, _, rfl, hp, T.cl_Racks, T.n_Racks_racks, by show 0 < 1000; decide, ?_⟩
    rw [nw_Racks_0]
    have nrp : ra ≠ p := lst_ne_ins hra hp
    have k1 : Kp (fun b => b = p) H (upd H p (.ins D.c_Racks dx [("racks", .ref ra)])) := kp_upd
    have f1 : ∀ b, upd H p (.ins D.c_Racks dx [("racks", .ref ra)]) b = none → H b = none := fun b hb => by
      by_cases z : b = p
      · rw [z, upd_same] at hb; cases hb
      · rw [upd_ne z] at hb; exact hb
    have ep : upd H p (.ins D.c_Racks dx [("racks", .ref ra)]) p = some (.ins D.c_Racks dx [("racks", .ref ra)]) := upd_same
    generalize upd H p (.ins D.c_Racks dx [("racks", .ref ra)]) = H1 at k1 f1 ep ⊢
    have hra1 := k1 _ _ hra nrp
    have hts1 : Al (TupAt H1) rs ts := hts.mono fun _ _ _ _ h => k1 _ _ h (tup_ne_ins h hp)
    refine ⟨_, rfl, ra, rfl, ⟨_, SqL.of hra1⟩, fun d hd => ?_⟩
    refine lc_list (K := K) (a := ra) (xs := ts.map V.ref) (fun i H' => Same H1 H' ∧ ∃ rows, H' d = some (.lst (rows.map V.ref)) ∧ Al (RowAt H') ((rs.take i).map fun k => List.replicate k.hooks (-1)) rows ∧ d ∉ rows ∧ ∀ r ∈ rows, H1 r = none)
      ⟨Same.new hd, [], upd_same, Al.nil, by simp, by simp⟩ (fun i H' _ p => SqL.of (p.1 _ _ hra1)) ?_ ?_
    · rintro i x H' hx ⟨s1, rows, e1, al1, nd1, fr1⟩
      obtain ⟨t, ht, rfl⟩ := map_at hx
      obtain ⟨k, hk, htk⟩ := hts1.back ht
      have hk30 := h30 k (List.mem_of_getElem? hk)
      refine ⟨t, _, rfl, SqT.of (s1 _ _ htk), rfl, _, _, rfl, _, _, rfl, rfl, rfl, yes_of ?_⟩
      refine ⟨by show 1 ≤ sizeLine; decide, fun l hl => ?_⟩
      have s2 := s1.more (o := .lst [.int (-1)]) hl
      have el : upd H' l (.lst [.int (-1)]) l = some (.lst [.int (-1)]) := upd_same
      have e2 : upd H' l (.lst [.int (-1)]) d = some (.lst (rows.map V.ref)) := by rw [upd_ne (ne_of_none e1 hl)]; exact e1
      have al2 : Al (RowAt (upd H' l (.lst [.int (-1)]))) ((rs.take i).map fun k => List.replicate k.hooks (-1)) rows := al1.mono fun _ _ _ _ h => by
        show upd H' l _ _ = _
        rw [upd_ne (ne_of_none h hl)]; exact h
      generalize upd H' l (.lst [.int (-1)]) = H2 at s2 el e2 al2 ⊢
      refine ⟨_, rfl, l, (k.hooks : Int), _, rfl, rfl, el, by omega, by omega, ?_, fun r hr2 => ?_⟩
      · rw [Int.toNat_natCast]; exact le_line (by show 1 * k.hooks ≤ _; omega)
      · rw [Int.toNat_natCast, rep_one]
        have ndr : d ≠ r := ne_of_none e2 hr2
        have hrows : rows.length ≤ 6 := by rw [al1.1, List.length_map, List.length_take]; omega
        refine ⟨_, by rw [upd_ne ndr]; exact e2, by rw [List.length_map]; exact lt_line (by omega), fun b u h => ?_, rows ++ [r], ?_, ?_, ?_, ?_⟩
        · have n1 : b ≠ d := ne_of_none h hd
          have n2 : b ≠ r := ne_of_none (s2 _ _ h) hr2
          rw [upd_ne n1, upd_ne n2]; exact s2 _ _ h
        · rw [upd_same, List.map_append]; rfl
        · rw [take_map_snoc hk]
          refine Al.snoc (al2.mono fun row b _ mb h => ?_) ?_
          · show upd (upd H2 r _) d _ b = _
            rw [upd_ne (fun z => nd1 (by rw [← z]; exact mb)), upd_ne (ne_of_none h hr2)]; exact h
          · show upd (upd H2 r _) d _ r = _
            rw [upd_ne (Ne.symm ndr), upd_same, List.map_replicate]
        · intro z
          rcases List.mem_append.mp z with z | z
          · exact nd1 z
          · simp at z; exact ndr z
        · intro b hb
          rcases List.mem_append.mp hb with z | z
          · exact fr1 b z
          · simp at z
            rw [z]
            exact s2.frees hr2
    · rintro H' ⟨s1, rows, e1, al1, nd1, fr1⟩
      rw [List.length_map, hts.1, List.take_length] at al1
      have ep1 := s1 _ _ ep
      refine ⟨_, rfl, p, D.c_Racks, dx, _, rfl, ep1, T.cl_Racks, T.n_Racks_hooks, by show 1 < 1000; decide, ?_⟩
      rw [nw_Racks_1]
      have nl : ∀ {b : Addr} {xs : List V}, H' b = some (.lst xs) → b ≠ p := fun e => lst_ne_ins e ep1
      have nt : ∀ {b : Addr} {xs : List V}, H' b = some (.tup xs) → b ≠ p := fun e => tup_ne_ins e ep1
      refine q _ ⟨dx, ra, d, ts, rows⟩ ⟨upd_same, ?_, hts1.mono fun k t _ _ h => ?_, ?_, al1.mono fun r b _ _ h => ?_, ne_of_none hra1 hd, fun r hr (z : r = d) => nd1 (by rw [← z]; exact hr)⟩ rfl (f1 _ hd) (fun r hr => f1 _ (fr1 r hr)) (fun b u h n => ?_)
      · rw [upd_ne (nl (s1 _ _ hra1))]; exact s1 _ _ hra1
      · show upd H' p _ t = _
        rw [upd_ne (nt (s1 _ _ h))]; exact s1 _ _ h
      · rw [upd_ne (nl e1)]; exact e1
      · show upd H' p _ b = _
        rw [upd_ne (nl h)]; exact h
      · rw [upd_ne n]; exact s1 _ _ (k1 b u h n)
/-! ### has_place, place_at -/
def sp_has_place (D : Ads) : Sp := fun vs H Q _ => ∃ (x : Addr) (rs : List Rack) (hooks : List (List Int)) (d : RkA) (r h v : Nat), vs = [.ref x, nV r, nV h, nV v] ∧ RkP D H x rs hooks d ∧ Q (.bl (decide (r < rs.length) && decide (h + v ≤ (rs.getD r ⟨0, 0⟩).hooks))) H
theorem ok_has_place (T : Txt K mg D) : FnOk P w K mg base CX0 1 D.f_Racks_has_place D.d_Racks_has_place ["self", "rack", "hook", "wide"] (sp_has_place D) := by
  refine T.F_Racks_has_place.ok sc_Racks_has_place (fun vs H Q E h => ?_) (fun cdv A outer s H vs Q E hr h => ?_)
  · obtain ⟨x, rs, hooks, d, r, h, v, rfl, _⟩ := h
    rfl
  · obtain ⟨x, rs, hooks, d, r, h, v, rfl, R, q⟩ := h
    refine ⟨_, pss_one (ps_ret (pe_and (pe_cmpR op_lt (pv 1) (pe_callB call_len_seq (by rfl) T.w_len PySem.boot_len (pa_cons (pe_fld (pv 0) rfl) pa_nil)) (nomark _))
      (pe_one (pe_cmpR op_le (pe_op op_add (pv 2) (pv 3)) (pe_ix ix_tup (pe_ix ix_list (pe_fld (pv 0) rfl) (pv 1) (fun _ _ => rfl)) pe_int (fun _ _ => rfl)) (nomark _))))), ?_⟩
    refine ⟨_, rfl, _, rfl, x, _, d.dx, _, _, rfl, R.ins, T.cl_Racks, T.n_Racks_racks, lk_Racks_racks, d.ra, _, rfl, .inl (SqL.of R.ra), _, _, rfl, rfl, _, rfl, ?_⟩
    rw [List.length_map, R.ts.1]
    by_cases hlt : r < rs.length
    · refine if_true_of (decide_eq_true (by omega)) ?_
      obtain ⟨t, ht, htt⟩ := R.rack hlt
      refine ⟨_, rfl, _, rfl, _, _, rfl, rfl, _, rfl, x, _, d.dx, _, _, rfl, R.ins, T.cl_Racks, T.n_Racks_racks, lk_Racks_racks, _, rfl, d.ra, _, _, _, rfl, rfl, SqL.of R.ra, atI_nat (at_map ht), t, _, _, _, rfl, rfl, SqT.of htt, rfl, _, _, rfl, rfl, ?_⟩
      rw [decide_eq_true hlt, Bool.true_and] at q
      have e : decide ((h : Int) + (v : Int) ≤ ((rs.getD r ⟨0, 0⟩).hooks : Int)) = decide (h + v ≤ (rs.getD r ⟨0, 0⟩).hooks) := decide_eq_decide.mpr (by omega)
      rw [← e] at q
      exact q
    · refine if_false_of (decide_eq_false (by omega)) ?_
      rw [decide_eq_false hlt, Bool.false_and] at q
      exact q
def sp_place_at (D : Ads) : Sp := fun vs H Q _ => ∃ (x : Addr) (rs : List Rack) (hooks : List (List Int)) (d : RkA) (r h : Nat), vs = [.ref x, nV r, nV h] ∧ RkP D H x rs hooks d ∧ r < rs.length ∧ ∀ p, H p = none → Q (.ref p) (upd H p (.tup (placeV rs ⟨r, h⟩)))
theorem ok_place_at (T : Txt K mg D) : FnOk P w K mg base CX0 1 D.f_Racks_place_at D.d_Racks_place_at ["self", "rack", "hook"] (sp_place_at D) := by
  refine T.F_Racks_place_at.ok sc_Racks_place_at (fun vs H Q E h => ?_) (fun cdv A outer s H vs Q E hr h => ?_)
  · obtain ⟨x, rs, hooks, d, r, h, rfl, _⟩ := h
    rfl
  · obtain ⟨x, rs, hooks, d, r, h, rfl, R, hlt, q⟩ := h
    refine ⟨_, pss_one (ps_ret (pe_tup (pa_cons (pe_op op_add (pe_ix ix_tup (pe_ix ix_list (pe_fld (pv 0) rfl) (pv 1) (fun _ _ => rfl)) pe_int (fun _ _ => rfl)) (pv 2)) (pa_cons (pv 1) (pa_cons (pv 2) pa_nil))))), ?_⟩
    obtain ⟨t, ht, htt⟩ := R.rack hlt
    refine ⟨_, rfl, x, _, d.dx, _, _, rfl, R.ins, T.cl_Racks, T.n_Racks_racks, lk_Racks_racks, _, rfl, d.ra, _, _, _, rfl, rfl, SqL.of R.ra, atI_nat (at_map ht), t, _, _, _, rfl, rfl, SqT.of htt, rfl, _, rfl, _, _, rfl, rfl, _, rfl, _, rfl, by show 3 ≤ sizeLine; decide, fun p hp => ?_⟩
    exact q p hp
/-! ### have_common -/
def overK : Option (Spot × Nat) → Spot → Nat → Bool
  | none, _, _ => false
  | some (p, v), q, u => Mu10.over p v q u
def KeptV (H : Hp) : Option (Spot × Nat) → V → Prop
  | none, x => x = .non
  | some (p, v), x => ∃ t, x = .ref t ∧ H t = some (.tup [nV p.rack, nV p.hook, nV v])
theorem KeptV.same {H H' : Hp} {o : Option (Spot × Nat)} {x : V} (h : KeptV H o x) (s : Same H H') : KeptV H' o x := by
  cases o with
  | none => exact h
  | some pv =>
    obtain ⟨t, e, k⟩ := h
    exact ⟨t, e, s _ _ k⟩
def sp_have_common : Sp := fun vs H Q _ => ∃ (pt : Addr) (rs : List Rack) (q : Spot) (u : Nat) (o : Option (Spot × Nat)) (x : V), vs = [.ref pt, nV u, x] ∧ H pt = some (.tup (placeV rs q)) ∧ KeptV H o x ∧ Q (.bl (overK o q u)) H
theorem ok_have_common (T : Txt K mg D) : FnOk P w K mg base CX0 1 D.f_have_common D.d_have_common ["place", "wide", "kept"] sp_have_common := by
  refine T.F_have_common.ok sc_have_common (fun vs H Q E h => ?_) (fun cdv A outer s H vs Q E hr h => ?_)
  · obtain ⟨pt, rs, q, u, o, x, rfl, _⟩ := h
    rfl
  · obtain ⟨pt, rs, q, u, o, x, rfl, hpt, hk, Qh⟩ := h
    refine ⟨_, pss_cons (ps_if (pt_cmpR op_isN (pv 2) pe_non (nomark _)) (pss_one (ps_ret pe_bl)) pss_nil)
      (pss_cons (ps_asg (pv 0) (pg_tup rfl (pgs_cons (pg_name (i := 3) sc_have_common.nd rfl (Or.inl rfl)) (pgs_cons (pg_name (i := 4) sc_have_common.nd rfl (Or.inl rfl)) (pgs_cons (pg_name (i := 5) sc_have_common.nd rfl (Or.inl rfl)) pgs_nil)))))
      (pss_cons (ps_asg (pv 2) (pg_tup rfl (pgs_cons (pg_name (i := 6) sc_have_common.nd rfl (Or.inl rfl)) (pgs_cons (pg_name (i := 7) sc_have_common.nd rfl (Or.inl rfl)) (pgs_cons (pg_name (i := 8) sc_have_common.nd rfl (Or.inl rfl)) pgs_nil)))))
      (pss_one (ps_ret (pe_and (pe_cmpR op_eq (pv 4) (pv 6) (nomark _)) (pe_and (pe_cmpR op_lt (pv 5) (pe_op op_add (pv 7) (pv 8)) (nomark _)) (pe_one (pe_cmpR op_lt (pv 7) (pe_op op_add (pv 5) (pv 1)) (nomark _))))))))), ?_⟩
    cases o with
    | none =>
      have e : x = .non := hk
      subst e
      exact ⟨_, rfl, rfl, _, rfl, if_true_of rfl Qh⟩
    | some pv =>
      obtain ⟨p, v⟩ := pv
      obtain ⟨t, rfl, ht⟩ := hk
      refine ⟨_, rfl, rfl, _, rfl, if_false_of rfl ?_⟩
      refine ⟨_, rfl, pt, _, rfl, SqT.of hpt, rfl, _, _, rfl, _, _, rfl, _, _, rfl, rfl, ?_⟩
      refine ⟨_, rfl, t, _, rfl, SqT.of ht, rfl, _, _, rfl, _, _, rfl, _, _, rfl, rfl, ?_⟩
      refine ⟨_, rfl, _, rfl, rfl, _, rfl, ?_⟩
      have e1 : decide (V.int (q.rack : Int) = nV p.rack) = (p.rack == q.rack) := by
        by_cases z : p.rack = q.rack
        · rw [z]; simp [nV]
        · have z2 : ¬ (V.int (q.rack : Int) = nV p.rack) := fun y => z (by have := V.int.inj y; omega)
          rw [decide_eq_false z2]
          exact (beq_eq_false_iff_ne.mpr z).symm
      have Qh : Q (.bl (p.rack == q.rack && (decide (p.hook < q.hook + u) && decide (q.hook < p.hook + v)))) H := Qh
      rw [e1]
      cases hb : (p.rack == q.rack) with
      | false =>
        rw [hb] at Qh
        exact iteF Qh
      | true =>
        rw [hb] at Qh
        refine iteT ?_
        refine ⟨_, rfl, _, rfl, _, rfl, _, _, rfl, rfl, _, _, rfl, rfl, _, rfl, ?_⟩
        by_cases c1 : q.hook < p.hook + v
        · refine if_true_of (decide_eq_true (by omega)) ?_
          refine ⟨_, rfl, _, rfl, _, rfl, _, _, rfl, rfl, _, _, rfl, rfl, ?_⟩
          rw [decide_eq_true c1, Bool.and_true, Bool.true_and] at Qh
          have e2 : decide ((p.hook : Int) < (q.hook : Int) + (u : Int)) = decide (p.hook < q.hook + u) := decide_eq_decide.mpr (by omega)
          rw [← e2] at Qh
          exact Qh
        · refine if_false_of (decide_eq_false (by omega)) ?_
          rw [decide_eq_false c1, Bool.and_false, Bool.and_false] at Qh
          exact Qh
end
end Ck
end
section
set_option Elab.async false
set_option linter.all false
set_option maxRecDepth 100000
set_option maxHeartbeats 4000000
/-! The racks: coats on a place; hung on, taken off; copied. -/
namespace Ck
open PySem PySem.Spec PyProof.Rows L2
open Mu10 (State Coat Rack Spot)
/-! ### a list compared with [] -/
def nsD (L : List Nat) : PyData := .list (L.map fun (n : Nat) => PyData.int (n : Int))
theorem dp_nats {K : PySem.W.Frag} {H : Hp} : ∀ L : List Nat, DpAll K H (L.map nV) (L.map fun (n : Nat) => PyData.int (n : Int))
  | [] => .nil
  | n :: r => .cons (.int n) (dp_nats r)
theorem dp_list {K : PySem.W.Frag} {H : Hp} {p : Addr} {L : List Nat} (h : SqL K H p (L.map nV)) : Dp K H (.ref p) (nsD L) := .lst h (dp_nats L)
theorem dp_empty {K : PySem.W.Frag} {H : Hp} {p : Addr} (h : SqL K H p []) : Dp K H (.ref p) (nsD []) := .lst h .nil
theorem shaped_nats (L : List Nat) : SeqAt.shaped (nsD L) = true := by
  have h1 : ∀ l : List Nat, PyData.canLayAll0 (l.map fun (n : Nat) => PyData.int (n : Int)) = true := by
    intro l
    induction l with
    | nil => rfl
    | cons a l ih =>
      show (PyData.canLay0 (.int (a : Int)) && PyData.canLayAll0 _) = true
      rw [ih]; rfl
  have h2 : ∀ l : List Nat, PyData.depthAll (l.map fun (n : Nat) => PyData.int (n : Int)) = 0 := by
    intro l
    induction l with
    | nil => rfl
    | cons a l ih =>
      show max (PyData.depth (.int (a : Int))) (PyData.depthAll _) = 0
      rw [ih]; rfl
  show (PyData.canLayAll0 _ && decide (PyData.depthAll _ + 1 ≤ 64)) = true
  rw [h1, h2]; rfl
theorem eqv_empty (L : List Nat) : PyData.eqv (nsD L) (nsD []) = L.isEmpty := by
  cases L with
  | nil => rfl
  | cons a l => rfl
theorem inV_int (x : Int) : ∀ l : List Int, inV (.int x) (l.map V.int) = decide (x ∈ l)
  | [] => by simp [inV]
  | a :: l => by
    show ((a == x) || inV (.int x) (l.map V.int)) = _
    rw [inV_int x l]
    by_cases e : x = a
    · subst e; simp
    · have e2 : (a == x) = false := by rw [beq_eq_false_iff_ne]; exact fun z => e z.symm
      rw [e2, Bool.false_or]
      simp [e]
theorem flat_ints : ∀ l : List Int, (l.map V.int).all flatV = true
  | [] => rfl
  | a :: l => by
    show (flatV (V.int a) && (l.map V.int).all flatV) = true
    rw [flat_ints l]; rfl
theorem cut_both {row : List Int} {h v : Nat} (k : h + v ≤ row.length) : cutV (row.map V.int) (some (h : Int)) (some ((h : Int) + (v : Int))) = ((row.drop h).take v).map V.int := by
  unfold cutV
  rw [show (h : Int) + (v : Int) = ((h + v : Nat) : Int) by omega, HT.sIx_nat, HT.sIx_nat, List.length_map, Nat.min_eq_left k, Nat.min_eq_left (by omega), List.map_take, List.map_drop]
  congr 1
  omega
theorem cut_to {row : List Int} {h : Nat} (k : h ≤ row.length) : cutV (row.map V.int) none (some (h : Int)) = (row.take h).map V.int := by
  unfold cutV
  rw [HT.sIx_nat, HT.sIx_none, List.length_map, Nat.min_eq_left k, List.map_take]
  rfl
theorem cut_from {row : List Int} {h v : Nat} (k : h + v ≤ row.length) : cutV (row.map V.int) (some ((h : Int) + (v : Int))) none = (row.drop (h + v)).map V.int := by
  unfold cutV
  rw [show (h : Int) + (v : Int) = ((h + v : Nat) : Int) by omega, HT.sIx_nat, HT.sIx_none, List.length_map, Nat.min_eq_left k, List.map_drop, List.take_of_length_le]
  rw [List.length_drop, List.length_map]
  exact Nat.le_refl _
theorem see_more {l : List Int} {i : Nat} {x : Int} (h : l[i]? = some x) : seeAll (l.take (i + 1)) [] = if x ≠ -1 ∧ x ∉ seeAll (l.take i) [] then seeAll (l.take i) [] ++ [x] else seeAll (l.take i) [] := by
  unfold seeAll
  rw [List.take_succ, h, List.foldl_append]
  rfl
theorem see_len (l : List Int) : ∀ acc : List Int, (seeAll l acc).length ≤ acc.length + l.length := by
  induction l with
  | nil => intro acc; exact Nat.le_refl _
  | cons x l ih =>
    intro acc
    unfold seeAll at ih ⊢
    rw [List.foldl_cons]
    refine Nat.le_trans (ih _) ?_
    split
    · simp only [List.length_append, List.length_cons, List.length_nil]; omega
    · simp only [List.length_cons]; omega
section
variable {P : Program} {w : World} {K : PySem.W.Frag} {mg : Str → Option Value} {base : Heap} {D : Ads}
def sp_coats_at (D : Ads) : Sp := fun vs H Q _ => ∃ (x pt : Addr) (s : State) (d : RkA) (q : Spot) (u : Nat), vs = [.ref x, .ref pt, nV u] ∧ RkP D H x s.racks (hooksOf s) d ∧ H pt = some (.tup (placeV s.racks q)) ∧ q.rack < s.racks.length ∧ q.hook + u ≤ (Mu10.rackOf s q.rack).hooks ∧ u ≤ 3 ∧
  ∀ H' p, Same H H' → H p = none → H' p = some (.lst ((Mu10.hanging s u q).map nV)) → Q (.ref p) H'
theorem ok_coats_at (T : Txt K mg D) : FnOk P w K mg base CX0 1 D.f_Racks_coats_at D.d_Racks_coats_at ["self", "place", "wide"] (sp_coats_at D) := by
  refine T.F_Racks_coats_at.ok sc_Racks_coats_at (fun vs H Q E h => ?_) (fun cdv A outer s H vs Q E hr h => ?_)
  · obtain ⟨x, pt, st, d, q, u, rfl, _⟩ := h
    rfl
  · obtain ⟨x, pt, st, d, q, u, rfl, R, hpt, h1, h2, h3, Qh⟩ := h
    refine ⟨_, pss_cons (ps_asg (pv 1) (pg_tup rfl (pgs_cons (pg_name (i := 3) sc_Racks_coats_at.nd rfl (Or.inl rfl)) (pgs_cons (pg_name (i := 4) sc_Racks_coats_at.nd rfl (Or.inl rfl)) (pgs_cons (pg_name (i := 5) sc_Racks_coats_at.nd rfl (Or.inl rfl)) pgs_nil)))))
      (pss_cons (ps_set (i := 6) sc_Racks_coats_at.nd rfl (Or.inl rfl) (pe_lst pa_nil))
      (pss_cons (ps_for PassesOwn.never rfl (pi_list (pe_slice sl_list (pe_ix ix_list (pe_fld (pv 0) rfl) (pv 4) (fun _ _ => rfl)) (po_some (pv 5)) (po_some (pe_op op_add (pv 5) (pv 2))))) (pg_name (i := 7) sc_Racks_coats_at.nd rfl (Or.inl rfl))
        (pss_one (ps_if (PW.pt (pw_and (pt_cmpR op_ne (pv 7) (pe_num T.k_FREE) (nomark _)) (pw_and1 (pt_cmpR op_notIn_seq (pv 7) (pv 6) (by rfl)))))
          (pss_one (ps_expr (pe_bm PySem.F.plainAttrs_list PySem.F.slot_list_append PySem.F.type_list_append mt_append (pv 6) (pa_cons (pv 7) pa_nil)))) pss_nil)))
      (pss_one (ps_ret (pv 6))))), ?_⟩
    refine ⟨_, rfl, pt, _, rfl, SqT.of hpt, rfl, _, _, rfl, _, _, rfl, _, _, rfl, rfl, ?_⟩
    refine ⟨Nat.zero_le _, fun f hf => ?_⟩
    have s1 := Same.new (o := .lst []) hf
    have ef : upd H f (.lst []) f = some (.lst []) := upd_same
    generalize upd H f (.lst []) = H1 at s1 ef ⊢
    have R1 := R.same s1
    obtain ⟨ro, hro, hrw⟩ := R1.rows.2 q.rack _ (hooksOf_at h1)
    refine ⟨_, rfl, x, _, d.dx, _, _, rfl, R1.ins, T.cl_Racks, T.n_Racks_hooks, lk_Racks_hooks, _, rfl, d.hk, _, _, _, rfl, rfl, SqL.of R1.hk, atI_nat (at_map hro), _, rfl, _, rfl, _, rfl, _, rfl, _, _, rfl, rfl, _, rfl, ro, _, rfl, SqL.of hrw, fun c hc => ?_⟩
    rw [cut_both (by rw [rowOf_len]; exact h2)]
    have s2 := s1.more (o := .lst ((((rowOf st q.rack).drop q.hook).take u).map V.int)) hc
    have ec : upd H1 c (.lst ((((rowOf st q.rack).drop q.hook).take u).map V.int)) c = some (.lst ((((rowOf st q.rack).drop q.hook).take u).map V.int)) := upd_same
    have ef2 : upd H1 c (.lst ((((rowOf st q.rack).drop q.hook).take u).map V.int)) f = some (.lst []) := by rw [upd_ne (ne_of_none ef hc)]; exact ef
    generalize upd H1 c (.lst ((((rowOf st q.rack).drop q.hook).take u).map V.int)) = H2 at s2 ec ef2 ⊢
    have ncf : c ≠ f := fun z => ne_of_none ef hc z.symm
    have see := see_is h2
    obtain ⟨l, hl⟩ : ∃ l, ((rowOf st q.rack).drop q.hook).take u = l := ⟨_, rfl⟩
    rw [hl] at ec see
    have hll : l.length ≤ 3 := by
      rw [← hl, List.length_take]
      omega
    refine ⟨c, rfl, ⟨_, SqL.of ec⟩, for_list (K := K) (a := c) (xs := l.map V.int) (fun i σ H' => ∃ v7 : Option V, σ = [some (.ref x), some (.ref pt), some (nV u), some (.int (stepsR st.racks q)), some (.int q.rack), some (.int q.hook), some (.ref f), v7] ∧ Kp (fun b => b = f) H2 H' ∧ H' f = some (.lst ((seeAll (l.take i) []).map V.int)))
      ⟨none, rfl, fun _ _ e _ => e, ef2⟩ (fun i σ H' _ ⟨_, _, k, _⟩ => SqL.of (k _ _ ec ncf)) ?_ ?_⟩
    · rintro i y σ H' hi ⟨v7, rfl, k, e⟩
      obtain ⟨z, hz, rfl⟩ := map_at hi
      have hsm := see_more hz
      refine ⟨_, rfl, rfl, _, rfl, ?_⟩
      by_cases c1 : z = -1
      · refine if_false_of (by rw [c1]; rfl) (iteF ?_)
        rw [if_neg (fun q => q.1 c1)] at hsm
        exact ⟨some (.int z), rfl, k, by rw [hsm]; exact e⟩
      · refine if_true_of (by rw [decide_eq_false (fun q => c1 (V.int.inj q))]; rfl) ?_
        refine ⟨_, rfl, _, rfl, f, _, rfl, .inl (SqL.of e), rfl, flat_ints _, _, rfl, ?_⟩
        by_cases c2 : z ∈ seeAll (l.take i) []
        · refine if_false_of (by show (!inV (V.int z) ((seeAll (l.take i) []).map V.int)) = false; rw [inV_int, decide_eq_true c2]; rfl) ?_
          rw [if_neg (fun q => q.2 c2)] at hsm
          exact ⟨some (.int z), rfl, k, by rw [hsm]; exact e⟩
        · refine if_true_of (by show (!inV (V.int z) ((seeAll (l.take i) []).map V.int)) = true; rw [inV_int, decide_eq_false c2]; rfl) ?_
          rw [if_pos ⟨c1, c2⟩] at hsm
          have hsl := see_len (l.take i) []
          rw [List.length_take] at hsl
          refine ⟨_, rfl, .inl ⟨rfl, _, SqL.of e⟩, _, rfl, f, _, _, rfl, rfl, e, by rw [List.length_map]; exact lt_line (by simp at hsl; omega), ?_⟩
          refine ⟨some (.int z), rfl, fun b o h n => ?_, ?_⟩
          · rw [upd_ne n]; exact k b o h n
          · rw [upd_same, hsm, List.map_append]; rfl
    · rintro σ H' ⟨v7, rfl, k, e⟩
      rw [List.length_map, List.take_length, see, List.map_map] at e
      exact ⟨_, rfl, Qh H' f (fun b o h => k b o (s2 _ _ h) (ne_of_none h hf)) hf e⟩
/-! ### hang_on -/
def sp_hang_on (D : Ads) : Sp := fun vs H Q _ => ∃ (x pt : Addr) (rs : List Rack) (hooks : List (List Int)) (d : RkA) (q : Spot) (u t : Nat) (row : List Int), vs = [.ref x, nV t, .ref pt, nV u] ∧ RkP D H x rs hooks d ∧ H pt = some (.tup (placeV rs q)) ∧ hooks[q.rack]? = some row ∧ q.hook + u ≤ row.length ∧ row.length ≤ 30 ∧ u ≤ 3 ∧
  ∀ H' r', RkP D H' x rs (hangOn hooks t q.rack q.hook u) { d with rows := d.rows.set q.rack r' } → H r' = none → Kp (fun b => b = d.hk) H H' → Q .non H'
theorem ok_hang_on (T : Txt K mg D) : FnOk P w K mg base CX0 1 D.f_Racks_hang_on D.d_Racks_hang_on ["self", "ticket", "place", "wide"] (sp_hang_on D) := by
  refine T.F_Racks_hang_on.ok sc_Racks_hang_on (fun vs H Q E h => ?_) (fun cdv A outer s H vs Q E hr h => ?_)
  · obtain ⟨x, pt, rs, hooks, d, q, u, t, row, rfl, _⟩ := h
    rfl
  · obtain ⟨x, pt, rs, hooks, d, q, u, t, row, rfl, R, hpt, hrow, h2, h30, h3, Qh⟩ := h
    refine ⟨_, pss_cons (ps_asg (pv 2) (pg_tup rfl (pgs_cons (pg_name (i := 4) sc_Racks_hang_on.nd rfl (Or.inl rfl)) (pgs_cons (pg_name (i := 5) sc_Racks_hang_on.nd rfl (Or.inl rfl)) (pgs_cons (pg_name (i := 6) sc_Racks_hang_on.nd rfl (Or.inl rfl)) pgs_nil)))))
      (pss_cons (ps_set (i := 7) sc_Racks_hang_on.nd rfl (Or.inl rfl) (pe_ix ix_list (pe_fld (pv 0) rfl) (pv 5) (fun _ _ => rfl)))
      (pss_one (ps_asg (pe_op op_cat (pe_op op_cat (pe_slice sl_list (pv 7) po_none (po_some (pv 6))) (pe_op op_rep (pe_lst (pa_cons (pv 1) pa_nil)) (pv 3))) (pe_slice sl_list (pv 7) (po_some (pe_op op_add (pv 6) (pv 3))) po_none)) (pg_sub (pe_fld (pv 0) rfl) (pv 5) set_list)))), ?_⟩
    obtain ⟨ro, hro, hrw⟩ := R.rows.2 q.rack row hrow
    refine ⟨_, rfl, pt, _, rfl, SqT.of hpt, rfl, _, _, rfl, _, _, rfl, _, _, rfl, rfl, ?_⟩
    refine ⟨_, rfl, x, _, d.dx, _, _, rfl, R.ins, T.cl_Racks, T.n_Racks_hooks, lk_Racks_hooks, _, rfl, d.hk, _, _, _, rfl, rfl, SqL.of R.hk, atI_nat (at_map hro), ?_⟩
    -- row[:hook]
    refine ⟨_, rfl, _, rfl, _, rfl, ro, _, rfl, SqL.of hrw, fun p1 hp1 => ?_⟩
    rw [cut_to (by omega)]
    have s1 := Same.new (o := .lst ((row.take q.hook).map V.int)) hp1
    have e1 : upd H p1 (.lst ((row.take q.hook).map V.int)) p1 = some (.lst ((row.take q.hook).map V.int)) := upd_same
    generalize upd H p1 (.lst ((row.take q.hook).map V.int)) = H1 at s1 e1 ⊢
    -- [ticket] * wide
    refine ⟨_, rfl, by show 1 ≤ sizeLine; decide, fun p2 hp2 => ?_⟩
    have s2 := s1.more (o := .lst [nV t]) hp2
    have e2 : upd H1 p2 (.lst [nV t]) p2 = some (.lst [nV t]) := upd_same
    have e12 : upd H1 p2 (.lst [nV t]) p1 = some (.lst ((row.take q.hook).map V.int)) := by rw [upd_ne (ne_of_none e1 hp2)]; exact e1
    generalize upd H1 p2 (.lst [nV t]) = H2 at s2 e2 e12 ⊢
    refine ⟨_, rfl, p2, (u : Int), _, rfl, rfl, e2, by omega, by omega, by rw [Int.toNat_natCast]; exact le_line (by show 1 * u ≤ _; omega), fun p3 hp3 => ?_⟩
    rw [Int.toNat_natCast, rep_one]
    have s3 := s2.more (o := .lst (List.replicate u (nV t))) hp3
    have e3 : upd H2 p3 (.lst (List.replicate u (nV t))) p3 = some (.lst (List.replicate u (nV t))) := upd_same
    have e13 : upd H2 p3 (.lst (List.replicate u (nV t))) p1 = some (.lst ((row.take q.hook).map V.int)) := by rw [upd_ne (ne_of_none e12 hp3)]; exact e12
    generalize upd H2 p3 (.lst (List.replicate u (nV t))) = H3 at s3 e3 e13 ⊢
    refine ⟨p1, p3, _, _, rfl, rfl, e13, e3, by rw [List.length_map, List.length_take, List.length_replicate]; exact le_line (by omega), fun p4 hp4 => ?_⟩
    have s4 := s3.more (o := .lst ((row.take q.hook).map V.int ++ List.replicate u (nV t))) hp4
    have e4 : upd H3 p4 (.lst ((row.take q.hook).map V.int ++ List.replicate u (nV t))) p4 = some (.lst ((row.take q.hook).map V.int ++ List.replicate u (nV t))) := upd_same
    generalize upd H3 p4 (.lst ((row.take q.hook).map V.int ++ List.replicate u (nV t))) = H4 at s4 e4 ⊢
    -- row[hook + wide:]
    refine ⟨_, rfl, _, rfl, _, rfl, _, _, rfl, rfl, _, rfl, ro, _, rfl, SqL.of (s4 _ _ hrw), fun p5 hp5 => ?_⟩
    rw [cut_from h2]
    have s5 := s4.more (o := .lst ((row.drop (q.hook + u)).map V.int)) hp5
    have e5 : upd H4 p5 (.lst ((row.drop (q.hook + u)).map V.int)) p5 = some (.lst ((row.drop (q.hook + u)).map V.int)) := upd_same
    have e45 : upd H4 p5 (.lst ((row.drop (q.hook + u)).map V.int)) p4 = some (.lst ((row.take q.hook).map V.int ++ List.replicate u (nV t))) := by rw [upd_ne (ne_of_none e4 hp5)]; exact e4
    generalize upd H4 p5 (.lst ((row.drop (q.hook + u)).map V.int)) = H5 at s5 e5 e45 ⊢
    refine ⟨p4, p5, _, _, rfl, rfl, e45, e5, by rw [List.length_append, List.length_map, List.length_map, List.length_take, List.length_replicate, List.length_drop]; exact le_line (by omega), fun p6 hp6 => ?_⟩
    have er : (row.take q.hook).map V.int ++ List.replicate u (nV t) ++ (row.drop (q.hook + u)).map V.int = (hangRow row t q.hook u).map V.int := by
      unfold hangRow
      rw [List.map_append, List.map_append, List.map_replicate, List.append_assoc]
      rfl
    rw [er]
    have s6 := s5.more (o := .lst ((hangRow row t q.hook u).map V.int)) hp6
    have e6 : upd H5 p6 (.lst ((hangRow row t q.hook u).map V.int)) p6 = some (.lst ((hangRow row t q.hook u).map V.int)) := upd_same
    have f6 : H p6 = none := s5.frees hp6
    generalize upd H5 p6 (.lst ((hangRow row t q.hook u).map V.int)) = H6 at s6 e6 ⊢
    have R6 := R.same s6
    have hlt : q.rack < d.rows.length := by rw [R.rows.1]; exact (List.getElem?_eq_some_iff.mp hrow).1
    refine ⟨_, rfl, x, _, d.dx, _, _, rfl, R6.ins, T.cl_Racks, T.n_Racks_hooks, lk_Racks_hooks, _, rfl, d.hk, _, _, q.rack, rfl, rfl, R6.hk, ?_, ?_⟩
    · unfold ixN
      rw [if_pos (by omega), if_pos (by rw [List.length_map]; omega), Int.toNat_natCast]
    · have nh : p6 ≠ d.hk := fun z => by
        rw [z, R.hk] at f6; cases f6
      have nl : ∀ {b : Addr} {xs : List V}, H6 b = some (.tup xs) → b ≠ d.hk := fun e => tup_ne_lst e R6.hk
      have hr2 : hooks.getD q.rack [] = row := by rw [List.getD_eq_getElem?_getD, hrow]; rfl
      refine Qh _ p6 ⟨?_, ?_, R6.ts.mono fun k b _ _ h => ?_, ?_, ?_, R6.ne, fun b hb => ?_⟩ f6 (fun b o h n => ?_)
      · rw [upd_ne (fun z => lst_ne_ins R6.hk R6.ins z.symm)]; exact R6.ins
      · rw [upd_ne R6.ne]; exact R6.ra
      · show upd H6 d.hk _ b = _
        rw [upd_ne (nl h)]; exact h
      · show upd H6 d.hk _ d.hk = some (.lst ((d.rows.set q.rack p6).map V.ref))
        rw [upd_same, List.map_set]
      · unfold hangOn
        rw [hr2]
        refine Al.put (R6.rows.mono fun r b _ mb h => ?_) (by rw [← R.rows.1]; exact hlt) ?_
        · show upd H6 d.hk _ b = _
          rw [upd_ne (R6.nr b mb)]; exact h
        · show upd H6 d.hk _ p6 = _
          rw [upd_ne nh]; exact e6
      · rcases List.mem_or_eq_of_mem_set hb with z | z
        · exact R6.nr b z
        · rw [z]; exact nh
      · rw [upd_ne n]; exact s6 _ _ h
end
end Ck
end
section
set_option Elab.async false
set_option linter.all false
set_option maxRecDepth 100000
set_option maxHeartbeats 4000000
/-! The racks: taken off, copied; places in order; the first free one. -/
namespace Ck
open PySem PySem.Spec PyProof.Rows L2
open Mu10 (State Coat Rack Spot)
section
variable {P : Program} {w : World} {K : PySem.W.Frag} {mg : Str → Option Value} {base : Heap} {D : Ads}
def sp_take_off (D : Ads) : Sp := fun vs H Q _ => ∃ (x : Addr) (rs : List Rack) (hooks : List (List Int)) (d : RkA) (t : Nat), vs = [.ref x, nV t] ∧ RkP D H x rs hooks d ∧ hooks.length ≤ 6 ∧ (∀ row ∈ hooks, row.length ≤ 30) ∧
  ∀ H' d', RkP D H' x rs (takeOff hooks t) d' → d'.ra = d.ra → H d'.hk = none → (∀ r ∈ d'.rows, H r = none) → Kp (fun b => b = x) H H' → Q .non H'
theorem ok_take_off (T : Txt K mg D) : FnOk P w K mg base CX0 1 D.f_Racks_take_off D.d_Racks_take_off ["self", "ticket"] (sp_take_off D) := by
  refine T.F_Racks_take_off.ok sc_Racks_take_off (fun vs H Q E h => ?_) (fun cdv A outer s H vs Q E hr h => ?_)
  · obtain ⟨x, rs, hooks, d, t, rfl, _⟩ := h
    rfl
  · obtain ⟨x, rs, hooks, d, t, rfl, R, h6, h30, Qh⟩ := h
    refine ⟨_, pss_one (ps_fld (pv 0) (pe_lc (own := [("row", 3)]) (g := gName 3) (tt := tYes) (te := tLc (iList K (tVar 3)) (gName 2) tYes (tIf (tTest (tOp rEq (tVar 2) (tVar 1))) (tC (.int (-1))) (tVar 2)) [2]) rfl sc_Racks_take_off.nd (pi_list (pe_fld (pv 0) rfl)) (blkOk_by (N := ["self", "ticket", "one", "row"]) (sc := defScope s_Racks_take_off) (by decide +kernel))
      (fun _ _ _ _ _ => pg_name (i := 3) sc_Racks_take_off.nd rfl (Or.inl rfl)) (fun _ _ _ _ _ => pts_nil)
      (fun _ _ _ _ _ => by exact pe_lc (own := [("one", 2)]) rfl sc_Racks_take_off.nd (pi_list (pv 3)) (blkOk_by (N := ["self", "ticket", "one", "row"]) (sc := { kind := .function, names := [(".0", .local), ("row", .local), ("ticket", .cell)], isGenerator := false, isCoroutine := false }) (by decide +kernel)) (fun _ _ _ _ _ => pg_name (i := 2) sc_Racks_take_off.nd rfl (Or.inl rfl)) (fun _ _ _ _ _ => pts_nil) (fun _ _ _ _ _ => by exact pe_ifExp (pt_cmpR op_eq (pv 2) (pv 1) (nomark _)) (pe_num T.k_FREE) (pv 2)))) rfl), ?_⟩
    refine ⟨_, rfl, x, _, d.dx, _, _, rfl, R.ins, T.cl_Racks, T.n_Racks_hooks, lk_Racks_hooks, d.hk, rfl, ⟨_, SqL.of R.hk⟩, fun d1 hd1 => ?_⟩
    refine lc_list (K := K) (a := d.hk) (xs := d.rows.map V.ref) (fun m H' => Same H H' ∧ ∃ ns, H' d1 = some (.lst (ns.map V.ref)) ∧ Al (RowAt H') ((hooks.take m).map fun row => row.map fun z => if z = (t : Int) then -1 else z) ns ∧ d1 ∉ ns ∧ ∀ r ∈ ns, H r = none)
      ⟨Same.new hd1, [], upd_same, Al.nil, by simp, by simp⟩ (fun m H' _ p => SqL.of (p.1 _ _ R.hk)) ?_ ?_
    · rintro m y H' hy ⟨s1, ns, e1, al1, nd1, fr1⟩
      obtain ⟨ro, hro, rfl⟩ := map_at hy
      obtain ⟨row, hrow, hrw⟩ := R.rows.back hro
      have hl := h30 row (List.mem_of_getElem? hrow)
      refine ⟨rfl, yes_of ?_⟩
      refine ⟨_, rfl, ro, rfl, ⟨_, SqL.of (s1 _ _ hrw)⟩, fun d2 hd2 => ?_⟩
      refine lc_list (K := K) (a := ro) (xs := row.map V.int) (fun n H5 => Same H' H5 ∧ H5 d2 = some (.lst (((row.take n).map fun z => if z = (t : Int) then -1 else z).map V.int)))
        ⟨Same.new hd2, upd_same⟩ (fun n H5 _ p => SqL.of (p.1 _ _ (s1 _ _ hrw))) ?_ ?_
      · rintro n y H5 hy ⟨s6, e6⟩
        obtain ⟨z, hz, rfl⟩ := map_at hy
        refine ⟨rfl, yes_of ?_⟩
        refine ⟨_, rfl, _, rfl, rfl, _, rfl, ?_⟩
        have fin : ∀ v : V, v = V.int (if z = (t : Int) then -1 else z) → ∃ acc, H5 d2 = some (.lst acc) ∧ acc.length < sizeLine ∧ (Same H' (upd H5 d2 (.lst (acc ++ [v]))) ∧ upd H5 d2 (.lst (acc ++ [v])) d2 = some (.lst (((row.take (n + 1)).map fun z => if z = (t : Int) then -1 else z).map V.int))) := fun v hv => by
          refine ⟨_, e6, by rw [List.length_map, List.length_map, List.length_take]; exact lt_line (by omega), fun b u h => ?_, ?_⟩
          · rw [upd_ne (ne_of_none h hd2)]; exact s6 _ _ h
          · rw [upd_same, take_map_snoc hz, List.map_append, hv]; rfl
        by_cases c : z = (t : Int)
        · refine if_true_of (decide_eq_true (by rw [c]; rfl)) (fin _ (by rw [if_pos c]))
        · refine if_false_of (decide_eq_false (fun q => c (V.int.inj q))) ⟨_, rfl, fin _ (by rw [if_neg c])⟩
      · rintro H5 ⟨s6, e6⟩
        rw [List.length_map, List.take_length] at e6
        have e7 := s6 _ _ e1
        have n12 : d2 ≠ d1 := fun z => ne_of_none e1 hd2 z.symm
        have nsl : ns.length ≤ 6 := by rw [al1.1, List.length_map, List.length_take]; omega
        refine ⟨_, e7, by rw [List.length_map]; exact lt_line (by omega), fun b u h => ?_, ns ++ [d2], ?_, ?_, ?_, ?_⟩
        · rw [upd_ne (ne_of_none h hd1)]; exact s6 _ _ (s1 _ _ h)
        · rw [upd_same, List.map_append]; rfl
        · rw [take_map_snoc hrow]
          refine Al.snoc (al1.mono fun r b _ mb h => ?_) ?_
          · show upd H5 d1 _ b = _
            rw [upd_ne (fun z => nd1 (by rw [← z]; exact mb))]; exact s6 _ _ h
          · show upd H5 d1 _ d2 = _
            rw [upd_ne n12]; exact e6
        · intro z
          rcases List.mem_append.mp z with z | z
          · exact nd1 z
          · simp at z; exact n12 z.symm
        · intro b hb
          rcases List.mem_append.mp hb with z | z
          · exact fr1 b z
          · simp at z
            rw [z]; exact s1.frees hd2
    · rintro H' ⟨s1, ns, e1, al1, nd1, fr1⟩
      rw [List.length_map, R.rows.1, List.take_length] at al1
      have R1 := R.same s1
      refine ⟨_, rfl, x, D.c_Racks, d.dx, _, rfl, R1.ins, T.cl_Racks, T.n_Racks_hooks, by show 2 < 1000; decide, ?_⟩
      rw [pf_Racks_hooks]
      have nl : ∀ {b : Addr} {xs : List V}, H' b = some (.lst xs) → b ≠ x := fun e => lst_ne_ins e R1.ins
      have nt : ∀ {b : Addr} {xs : List V}, H' b = some (.tup xs) → b ≠ x := fun e => tup_ne_ins e R1.ins
      refine Qh _ ⟨d.dx, d.ra, d1, d.ts, ns⟩ ⟨upd_same, ?_, R1.ts.mono fun k b _ _ h => ?_, ?_, al1.mono fun r b _ _ h => ?_, ne_of_none R.ra hd1, fun r hr (z : r = d1) => nd1 (by rw [← z]; exact hr)⟩ rfl hd1 fr1 (fun b u h n => ?_)
      · rw [upd_ne (nl R1.ra)]; exact R1.ra
      · show upd H' x _ b = _
        rw [upd_ne (nt h)]; exact h
      · rw [upd_ne (nl e1)]; exact e1
      · show upd H' x _ b = _
        rw [upd_ne (nl h)]; exact h
      · rw [upd_ne n]; exact s1 _ _ h
/-! ### copied -/
abbrev rLs (K : PySem.W.Frag) : List V → Hp → VK → Prop := fun xs H Q => ∃ p ys, xs = [.ref p] ∧ (SqL K H p ys ∨ SqT K H p ys) ∧ ∀ l, H l = none → Q (.ref l) (upd H l (.lst ys))
def sp_copied (D : Ads) : Sp := fun vs H Q _ => ∃ (x : Addr) (rs : List Rack) (hooks : List (List Int)) (d : RkA), vs = [.ref x] ∧ RkP D H x rs hooks d ∧ hooks.length ≤ 6 ∧ (∀ k ∈ rs, k.hooks ≤ 30) ∧ rs.length ≤ 6 ∧
  ∀ H' y d', Same H H' → H y = none → RkP D H' y rs hooks d' → H d'.hk = none → (∀ r ∈ d'.rows, H r = none) → d'.ra = d.ra → Q (.ref y) H'
theorem ok_copied (T : Txt K mg D) : FnOk P w K mg base CX0 3 D.f_Racks_copied D.d_Racks_copied ["self"] (sp_copied D) := by
  refine T.F_Racks_copied.ok sc_Racks_copied (fun vs H Q E h => ?_) (fun cdv A outer s H vs Q E hr h => ?_)
  · obtain ⟨x, rs, hooks, d, rfl, _⟩ := h
    rfl
  · obtain ⟨x, rs, hooks, d, rfl, R, h6, h30, hr6, Qh⟩ := h
    have GI : FnOk P w K mg base CX0 1 D.f_Racks_init D.d_Racks_init ["self", "racks"] (sp_Racks_init D) := ok_Racks_init T
    refine ⟨_, pss_cons (ps_set (i := 1) sc_Racks_copied.nd rfl (Or.inl rfl) (pe_make T.mk_Racks GI hr rfl T.g_Racks T.b_Racks_init .nil pass0 (pa_cons (pe_fld (pv 0) rfl) pa_nil)))
      (pss_cons (ps_fld (pv 1) (pe_lc (own := [("row", 2)]) (g := gName 2) (tt := tYes) (te := tCB (rLs K) (tCons (tVar 2) tNil)) rfl sc_Racks_copied.nd (pi_list (pe_fld (pv 0) rfl)) (blkOk_by (N := ["self", "found", "row"]) (sc := defScope s_Racks_copied) (by decide +kernel))
        (fun _ _ _ _ _ => pg_name (i := 2) sc_Racks_copied.nd rfl (Or.inl rfl)) (fun _ _ _ _ _ => pts_nil)
        (fun _ _ _ _ _ => by exact pe_callTy call_list_of (by rfl) T.w_list (by decide +kernel) (pa_cons (pv 2) pa_nil))) rfl)
      (pss_one (ps_ret (pv 1)))), ?_⟩
    refine ⟨_, rfl, x, _, d.dx, _, _, rfl, R.ins, T.cl_Racks, T.n_Racks_racks, lk_Racks_racks, fun y dy ny ndy nyd => ?_⟩
    have s0 : Same H (upd (upd H dy (.own y)) y (.ins D.c_Racks dy [])) := fun b o h => by
      rw [upd_ne (ne_of_none h ny), upd_ne (ne_of_none h ndy)]; exact h
    have f0 : ∀ b, upd (upd H dy (.own y)) y (.ins D.c_Racks dy []) b = none → H b = none := fun b h => s0.frees h
    have ey : upd (upd H dy (.own y)) y (.ins D.c_Racks dy []) y = some (.ins D.c_Racks dy []) := upd_same
    generalize upd (upd H dy (.own y)) y (.ins D.c_Racks dy []) = H0 at s0 f0 ey ⊢
    have R0 := R.same s0
    refine ⟨y, dy, d.ra, d.ts, rs, rfl, ey, R0.ra, R0.ts, h30, hr6, fun H2 d2 R2 era fhk frw k2 => ⟨rfl, ?_⟩⟩
    have s2 : Same H H2 := fun b o h => k2 b o (s0 _ _ h) (ne_of_none h ny)
    have RR := R.same s2
    have nyx : y ≠ x := fun z => ne_of_none R.ins ny z.symm
    refine ⟨_, rfl, x, _, d.dx, _, _, rfl, RR.ins, T.cl_Racks, T.n_Racks_hooks, lk_Racks_hooks, d.hk, rfl, ⟨_, SqL.of RR.hk⟩, fun d1 hd1 => ?_⟩
    refine lc_list (K := K) (a := d.hk) (xs := d.rows.map V.ref) (fun m H' => Same H2 H' ∧ ∃ ns, H' d1 = some (.lst (ns.map V.ref)) ∧ Al (RowAt H') (hooks.take m) ns ∧ d1 ∉ ns ∧ ∀ r ∈ ns, H2 r = none)
      ⟨Same.new hd1, [], upd_same, Al.nil, by simp, by simp⟩ (fun m H' _ p => SqL.of (p.1 _ _ RR.hk)) ?_ ?_
    · rintro m z H' hz ⟨s1, ns, e1, al1, nd1, fr1⟩
      obtain ⟨ro, hro, rfl⟩ := map_at hz
      obtain ⟨row, hrow, hrw⟩ := RR.rows.back hro
      refine ⟨rfl, yes_of ?_⟩
      refine ⟨_, rfl, ro, _, rfl, .inl (SqL.of (s1 _ _ hrw)), fun d2' hd2 => ?_⟩
      have n12 : d2' ≠ d1 := fun z => ne_of_none e1 hd2 z.symm
      have nsl : ns.length ≤ 6 := by rw [al1.1, List.length_take]; omega
      refine ⟨_, by rw [upd_ne (Ne.symm n12)]; exact e1, by rw [List.length_map]; exact lt_line (by omega), fun b u h => ?_, ns ++ [d2'], ?_, ?_, ?_, ?_⟩
      · rw [upd_ne (ne_of_none h hd1), upd_ne (ne_of_none (s1 _ _ h) hd2)]; exact s1 _ _ h
      · rw [upd_same, List.map_append]; rfl
      · rw [List.take_succ, hrow]
        refine Al.snoc (al1.mono fun r b _ mb h => ?_) ?_
        · show upd (upd H' d2' _) d1 _ b = _
          rw [upd_ne (fun z => nd1 (by rw [← z]; exact mb)), upd_ne (ne_of_none h hd2)]; exact h
        · show upd (upd H' d2' _) d1 _ d2' = _
          rw [upd_ne n12, upd_same]
      · intro z
        rcases List.mem_append.mp z with z | z
        · exact nd1 z
        · simp at z; exact n12 z.symm
      · intro b hb
        rcases List.mem_append.mp hb with z | z
        · exact fr1 b z
        · simp at z
          rw [z]; exact s1.frees hd2
    · rintro H' ⟨s1, ns, e1, al1, nd1, fr1⟩
      rw [List.length_map, RR.rows.1, List.take_length] at al1
      have R3 := R2.same s1
      refine ⟨_, rfl, y, D.c_Racks, d2.dx, _, rfl, R3.ins, T.cl_Racks, T.n_Racks_hooks, by show 2 < 1000; decide, ?_⟩
      rw [pf_Racks_hooks]
      have nl : ∀ {b : Addr} {xs : List V}, H' b = some (.lst xs) → b ≠ y := fun e => lst_ne_ins e R3.ins
      have nt : ∀ {b : Addr} {xs : List V}, H' b = some (.tup xs) → b ≠ y := fun e => tup_ne_ins e R3.ins
      refine ⟨_, rfl, Qh _ y ⟨d2.dx, d2.ra, d1, d2.ts, ns⟩ (fun b u h => ?_) ny ⟨upd_same, ?_, R3.ts.mono fun k b _ _ h => ?_, ?_, al1.mono fun r b _ _ h => ?_, ne_of_none R2.ra hd1, fun r hr (z : r = d1) => nd1 (by rw [← z]; exact hr)⟩ (s2.frees hd1) (fun r hr => s2.frees (fr1 r hr)) era⟩
      · rw [upd_ne (ne_of_none h ny)]; exact s1 _ _ (s2 _ _ h)
      · rw [upd_ne (nl R3.ra)]; exact R3.ra
      · show upd H' y _ b = _
        rw [upd_ne (nt h)]; exact h
      · rw [upd_ne (nl e1)]; exact e1
      · show upd H' y _ b = _
        rw [upd_ne (nl h)]; exact h
end
end Ck
end
section
set_option Elab.async false
set_option linter.all false
set_option maxRecDepth 100000
set_option maxHeartbeats 4000000
/-! Places in order; the first free one. -/
namespace Ck
open PySem PySem.Spec PyProof.Rows L2
open Mu10 (State Coat Rack Spot)
abbrev PlcAt (rs : List Rack) (H : Hp) (q : Spot) (t : Addr) : Prop := H t = some (.tup (placeV rs q))
/-- the places of the first n racks -/
def rawTo (s : State) (v n : Nat) : List Spot := (List.range n).flatMap fun (r : Nat) => (List.range ((Mu10.rackOf s r).hooks + 1 - v)).map fun (h : Nat) => (⟨r, h⟩ : Spot)
theorem raw_all (s : State) (v : Nat) : rawTo s v s.racks.length = placesRaw s v := rfl
theorem raw_more (s : State) (v n : Nat) : rawTo s v (n + 1) = rawTo s v n ++ (List.range ((Mu10.rackOf s n).hooks + 1 - v)).map fun (h : Nat) => (⟨n, h⟩ : Spot) := by
  unfold rawTo
  rw [List.range_succ, List.flatMap_append]
  simp
theorem raw_len {s : State} (hk : ∀ k ∈ s.racks, k.hooks ≤ 30) (v : Nat) : ∀ n, n ≤ s.racks.length → (rawTo s v n).length ≤ 31 * n
  | 0, _ => by simp [rawTo]
  | n + 1, h => by
    have ih := raw_len hk v n (by omega)
    have h1 : (Mu10.rackOf s n).hooks ≤ 30 := by
      unfold Mu10.rackOf
      rw [List.getD_eq_getElem?_getD, List.getElem?_eq_getElem (show n < s.racks.length by omega)]
      exact hk _ (List.getElem_mem ..)
    rw [raw_more, List.length_append, List.length_map, List.length_range]
    omega
/-- the three numbers of a tuple -/
def kOf (H : Hp) : V → Int × Int × Int
  | .ref t => match H t with
    | some (.tup [.int a, .int b, .int c]) => (a, b, c)
    | _ => (0, 0, 0)
  | _ => (0, 0, 0)
theorem kOf_at {H : Hp} {s : State} {q : Spot} {t : Addr} (h : PlcAt s.racks H q t) : kOf H (.ref t) = trip s q := by
  have h' : H t = some (.tup [.int (stepsR s.racks q), .int q.rack, .int q.hook]) := h
  show (match H t with
    | some (.tup [.int a, .int b, .int c]) => (a, b, c)
    | _ => (0, 0, 0)) = _
  rw [h']
  rfl
theorem Al.keys {H : Hp} {s : State} {qs : List Spot} {as : List Addr} (h : Al (PlcAt s.racks H) qs as) : (as.map V.ref).map (kOf H) = qs.map (trip s) := by
  apply List.ext_getElem?
  intro i
  rw [List.getElem?_map, List.getElem?_map, List.getElem?_map]
  cases e : qs[i]? with
  | none =>
    have : as[i]? = none := by
      rw [List.getElem?_eq_none_iff] at e ⊢
      rw [h.1]; exact e
    rw [this]; rfl
  | some q =>
    obtain ⟨a, e2, k⟩ := h.2 i q e
    rw [e2]
    show some (kOf H (.ref a)) = some (trip s q)
    rw [kOf_at k]
section
variable {P : Program} {w : World} {K : PySem.W.Frag} {mg : Str → Option Value} {base : Heap} {D : Ads}
def sp_places_of (D : Ads) : Sp := fun vs H Q _ => ∃ (x : Addr) (s : State) (hooks : List (List Int)) (d : RkA) (v : Nat), vs = [.ref x, nV v] ∧ RkP D H x s.racks hooks d ∧ s.racks.length ≤ 6 ∧ (∀ k ∈ s.racks, k.hooks ≤ 30) ∧ v ≤ 20 ∧
  ∀ H' p as, Same H H' → H p = none → H' p = some (.lst (as.map V.ref)) → Al (PlcAt s.racks H') (Mu10.places s v) as → Q (.ref p) H'
theorem ok_places_of (T : Txt K mg D) : FnOk P w K mg base CX0 2 D.f_Racks_places_of D.d_Racks_places_of ["self", "wide"] (sp_places_of D) := by
  refine T.F_Racks_places_of.ok sc_Racks_places_of (fun vs H Q E h => ?_) (fun cdv A outer s H vs Q E hr h => ?_)
  · obtain ⟨x, st, hooks, d, v, rfl, _⟩ := h
    rfl
  · obtain ⟨x, st, hooks, d, v, rfl, R, h6, h30, hv, Qh⟩ := h
    have GP : FnOk P w K mg base CX0 1 D.f_Racks_place_at D.d_Racks_place_at ["self", "rack", "hook"] (sp_place_at D) := ok_place_at T
    refine ⟨_, pss_cons (ps_set (i := 2) sc_Racks_places_of.nd rfl (Or.inl rfl) (pe_lst pa_nil))
      (pss_cons (ps_for PassesOwn.never rfl (pi_enum (by rfl) T.w_enumerate (pa_cons (pe_fld (pv 0) rfl) pa_nil)) (pg_tup rfl (pgs_cons (pg_name (i := 3) sc_Racks_places_of.nd rfl (Or.inr rfl)) (pgs_cons (pg_tup rfl (pgs_cons (pg_name (i := 4) sc_Racks_places_of.nd rfl (Or.inl rfl)) (pgs_cons (pg_name (i := 5) sc_Racks_places_of.nd rfl (Or.inl rfl)) pgs_nil))) pgs_nil)))
        (pss_one (ps_expr (pe_bm PySem.F.plainAttrs_list PySem.F.slot_list_extend PySem.F.type_list_extend mt_extend (pv 2) (pa_cons
          (pe_lc (own := [("hook", 6)]) (g := gName 6) (tt := tYes) (te := tMeth D.c_Racks "place_at" (sp_place_at D) [] E0 (tVar 0) (tCons (tVar 3) (tCons (tVar 6) tNil))) rfl sc_Racks_places_of.nd (pi_range1 rfl T.w_range (pa_cons (pe_op op_add (pe_op op_sub (pv 4) (pv 1)) pe_int) pa_nil)) (blkOk_by (N := ["self", "wide", "found", "rack", "many", "first", "hook"]) (sc := defScope s_Racks_places_of) (by decide +kernel))
            (fun _ _ _ _ _ => pg_name (i := 6) sc_Racks_places_of.nd rfl (Or.inl rfl)) (fun _ _ _ _ _ => pts_nil) (fun _ _ _ _ _ => by exact pe_meth (pv 0) T.cl_Racks T.m_Racks_place_at GP hr T.b_Racks_place_at .nil pass0 (pa_cons (pv 3) (pa_cons (pv 6) pa_nil)))) pa_nil)))))
      (pss_one (ps_ret (pe_callB cr_sorted3 (by rfl) T.w_sorted (by decide +kernel) (pa_cons (pv 2) pa_nil))))), ?_⟩
    refine ⟨Nat.zero_le _, fun f hf => ?_⟩
    have s0 := Same.new (o := .lst []) hf
    have ef : upd H f (.lst []) f = some (.lst []) := upd_same
    generalize upd H f (.lst []) = H0 at s0 ef ⊢
    have R0 := R.same s0
    have hlen : (d.ts.map V.ref).length = st.racks.length := by rw [List.length_map, R.ts.1]
    refine ⟨_, rfl, x, _, d.dx, _, _, rfl, R0.ins, T.cl_Racks, T.n_Racks_racks, lk_Racks_racks, d.ra, _, rfl, SqL.of R0.ra, for_it walk_enum (fun i σ H' => ∃ (v3 v4 v5 : Option V) (as : List Addr), σ = [some (.ref x), some (nV v), some (.ref f), v3, v4, v5, none] ∧ Kp (fun b => b = f) H0 H' ∧ H' f = some (.lst (as.map V.ref)) ∧ Al (PlcAt st.racks H') (rawTo st v i) as)
      ⟨none, none, none, [], rfl, fun _ _ e _ => e, ef, Al.nil⟩ (fun i σ H' _ ⟨_, _, _, _, _, k, _⟩ => SqL.of (k _ _ R0.ra (ne_of_none R.ra hf))) ?_ ?_⟩
    · rintro i y σ H1 H2 hi ⟨v3, v4, v5, as, rfl, k, e, al⟩ ⟨t, x1, y1, rfl, ht, rfl, ex, ey⟩
      cases ex
      obtain ⟨c, hc, rfl⟩ := map_at ey
      rw [hlen] at hi
      have s1 : Same H H1 := fun b o h => k b o (s0 _ _ h) (ne_of_none h hf)
      have s2 := s1.more (o := .tup [.int (i : Nat), .ref c]) ht
      have et : upd H1 t (.tup [.int (i : Nat), .ref c]) t = some (.tup [.int (i : Nat), .ref c]) := upd_same
      have k2 : Kp (fun b => b = f) H0 (upd H1 t (.tup [.int (i : Nat), .ref c])) := fun b o h n => by
        rw [upd_ne (ne_of_none (k b o h n) ht)]; exact k b o h n
      have e2 : upd H1 t (.tup [.int (i : Nat), .ref c]) f = some (.lst (as.map V.ref)) := by rw [upd_ne (ne_of_none e ht)]; exact e
      have al2 : Al (PlcAt st.racks (upd H1 t (.tup [.int (i : Nat), .ref c]))) (rawTo st v i) as := al.mono fun _ _ _ _ h => by
        show upd H1 t _ _ = _
        rw [upd_ne (ne_of_none h ht)]; exact h
      generalize upd H1 t (.tup [.int (i : Nat), .ref c]) = H2 at s2 et k2 e2 al2 ⊢
      have R2 := R.same s2
      obtain ⟨c', hc', htc⟩ := R2.rack hi
      rw [hc] at hc'
      cases hc'
      obtain ⟨kk, hkk⟩ : ∃ kk, st.racks.getD i ⟨0, 0⟩ = kk := ⟨_, rfl⟩
      have hkk2 : Mu10.rackOf st i = kk := hkk
      rw [hkk] at htc
      refine ⟨t, _, rfl, SqT.of et, rfl, _, _, rfl, _, _, rfl, c, _, rfl, SqT.of htc, rfl, _, _, rfl, _, _, rfl, rfl, rfl, ?_⟩
      refine ⟨_, rfl, .inl ⟨rfl, _, SqL.of e2⟩, ?_⟩
      have h30k : kk.hooks ≤ 30 := by
        rw [← hkk, List.getD_eq_getElem?_getD, List.getElem?_eq_getElem hi]
        exact h30 _ (List.getElem_mem ..)
      refine ⟨_, rfl, _, rfl, _, _, rfl, rfl, _, _, rfl, rfl, (kk.hooks : Int) - (v : Int) + 1, rfl, by omega, by omega, fun d1 hd1 => ?_⟩
      have hn : ((kk.hooks : Int) - (v : Int) + 1).toNat = kk.hooks + 1 - v := by omega
      rw [hn]
      refine lc_range (n := kk.hooks + 1 - v) (fun m H' => Same H2 H' ∧ ∃ bs, H' d1 = some (.lst (bs.map V.ref)) ∧ Al (PlcAt st.racks H') ((List.range m).map fun (h : Nat) => (⟨i, h⟩ : Spot)) bs) ⟨Same.new hd1, [], upd_same, Al.nil⟩ ?_ ?_
      · rintro m H' hm ⟨s3, bs, e3, al3⟩
        refine ⟨rfl, yes_of ?_⟩
        have R3 := R2.same s3
        have hcast : (0 : Int) + (m : Int) = ((m : Nat) : Int) := by omega
        refine ⟨_, rfl, x, d.dx, _, rfl, R3.ins, lm_Racks_place_at, _, rfl, _, rfl, x, st.racks, hooks, d, i, m, ?_, R3, hi, fun p hp => ?_⟩
        · show [V.ref x, V.int (i : Nat), V.int (0 + (m : Int))] ++ [] = _
          rw [hcast]
          rfl
        · have hbl : bs.length ≤ 31 := by rw [al3.1, List.length_map, List.length_range]; omega
          have n1 : d1 ≠ p := ne_of_none e3 hp
          refine ⟨_, by rw [upd_ne n1]; exact e3, by rw [List.length_map]; exact lt_line (by omega), fun b u h => ?_, bs ++ [p], ?_, ?_⟩
          · rw [upd_ne (ne_of_none h hd1), upd_ne (ne_of_none (s3 _ _ h) hp)]; exact s3 _ _ h
          · rw [upd_same, List.map_append]; rfl
          · rw [List.range_succ, List.map_append]
            refine Al.snoc (al3.mono fun q b _ _ h => ?_) ?_
            · show upd (upd H' p _) d1 _ b = _
              rw [upd_ne (tup_ne_lst h e3), upd_ne (ne_of_none h hp)]; exact h
            · show upd (upd H' p _) d1 _ p = _
              rw [upd_ne (Ne.symm n1), upd_same]
      · rintro H' ⟨s3, bs, e3, al3⟩
        have hbl : bs.length ≤ 31 := by rw [al3.1, List.length_map, List.length_range]; omega
        have hal : as.length ≤ 31 * 6 := by
          have := raw_len h30 v i (by omega)
          rw [al2.1]
          omega
        have e4 := s3 _ _ e2
        refine ⟨f, d1, _, _, rfl, rfl, e4, e3, by rw [List.length_map, List.length_map]; exact le_line (by omega), ?_⟩
        refine ⟨some (.int (i : Nat)), some (.int kk.hooks), some (.int kk.walk), as ++ bs, rfl, fun b o h n => ?_, ?_, ?_⟩
        · rw [upd_ne n]; exact s3 _ _ (k2 b o h n)
        · rw [upd_same, List.map_append]
        · rw [raw_more, hkk2]
          have a1 : Al (PlcAt st.racks (upd H' f (.lst (as.map V.ref ++ bs.map V.ref)))) (rawTo st v i) as := al2.mono fun q b _ _ h => by
            show upd H' f _ b = _
            rw [upd_ne (tup_ne_lst h e2)]; exact s3 _ _ h
          have a2 : Al (PlcAt st.racks (upd H' f (.lst (as.map V.ref ++ bs.map V.ref)))) ((List.range (kk.hooks + 1 - v)).map fun (h : Nat) => (⟨i, h⟩ : Spot)) bs := al3.mono fun q b _ _ h => by
            show upd H' f _ b = _
            rw [upd_ne (tup_ne_lst h e4)]; exact h
          exact a1.append a2
    · rintro σ H1 ⟨v3, v4, v5, as, rfl, k, e, al⟩
      rw [hlen, raw_all] at al
      have s1 : Same H H1 := fun b o h => k b o (s0 _ _ h) (ne_of_none h hf)
      refine ⟨_, rfl, f, _, kOf H1, rfl, SqL.of e, fun z hz => ?_, fun ys p hperm hsort hp => ?_⟩
      · obtain ⟨t, ht, rfl⟩ := List.mem_map.mp hz
        obtain ⟨i, hi⟩ := List.getElem?_of_mem ht
        obtain ⟨q, _, h⟩ := al.back hi
        refine ⟨t, rfl, ?_⟩
        rw [kOf_at h]
        exact h
      · have hk : ys.map (kOf H1) = (Mu10.places st v).map (trip st) := by
          refine sorted_places ?_ ?_
          · rw [← al.keys]
            exact hperm.map _
          · rw [List.pairwise_map]
            refine hsort.imp fun {a b} h => ?_
            unfold le3
            exact SrtO.lex3_no.mp h
        have href : ∀ z ∈ ys, ∃ (t : Addr) (q : Spot), z = .ref t ∧ PlcAt st.racks H1 q t := fun z hz => by
          obtain ⟨t, ht, rfl⟩ := List.mem_map.mp (hperm.mem_iff.mp hz)
          obtain ⟨i, hi⟩ := List.getElem?_of_mem ht
          obtain ⟨q, _, h⟩ := al.back hi
          exact ⟨t, q, rfl, h⟩
        obtain ⟨bs, hbs⟩ : ∃ bs : List Addr, ys = bs.map V.ref := by
          clear hk hsort hperm
          induction ys with
          | nil => exact ⟨[], rfl⟩
          | cons z ys ih =>
            obtain ⟨bs, hb⟩ := ih fun y hy => href y (List.mem_cons_of_mem _ hy)
            obtain ⟨t, _, ht, _⟩ := href z (List.mem_cons_self ..)
            exact ⟨t :: bs, by rw [hb, ht]; rfl⟩
        subst hbs
        refine Qh _ p bs (s1.more hp) (s1.frees hp) upd_same ⟨?_, fun i q hq => ?_⟩
        · have := congrArg List.length hk
          simpa using this
        · have hi := congrArg (fun l : List (Int × Int × Int) => l[i]?) hk
          simp only [List.getElem?_map, hq, Option.map_some] at hi
          cases hb : bs[i]? with
          | none => rw [hb] at hi; cases hi
          | some t =>
            rw [hb] at hi
            have hi2 : kOf H1 (.ref t) = trip st q := Option.some.inj hi
            obtain ⟨t', q', et, ht⟩ := href (.ref t) (List.mem_map.mpr ⟨t, List.mem_of_getElem? hb, rfl⟩)
            cases et
            rw [kOf_at ht] at hi2
            have hqq := trip_inj hi2
            subst hqq
            refine ⟨t, rfl, ?_⟩
            show upd H1 p _ t = _
            rw [upd_ne (ne_of_none ht hp)]; exact ht
end
end Ck
end
section
set_option Elab.async false
set_option linter.all false
set_option maxRecDepth 100000
set_option maxHeartbeats 4000000
/-! The first free place; the moves for a place. -/
namespace Ck
open PySem PySem.Spec PyProof.Rows L2
open Mu10 (State Coat Rack Spot)
theorem WF.h30 {s : State} (W : WF s) : ∀ k ∈ s.racks, k.hooks ≤ 30 := fun k hk => (W.rk k hk).2.1
theorem rackOf_30 {s : State} (W : WF s) {r : Nat} (h : r < s.racks.length) : (Mu10.rackOf s r).hooks ≤ 30 := by
  unfold Mu10.rackOf
  rw [List.getD_eq_getElem?_getD, List.getElem?_eq_getElem h]
  exact W.h30 _ (List.getElem_mem ..)
theorem hooks_30 {s : State} (W : WF s) : ∀ row ∈ hooksOf s, row.length ≤ 30 := fun row h => by
  obtain ⟨r, hr, rfl⟩ := List.mem_map.mp h
  rw [rowOf_len]
  exact rackOf_30 W (List.mem_range.mp hr)
theorem hooks_6 {s : State} (W : WF s) : (hooksOf s).length ≤ 6 := by rw [hooksOf_len]; exact W.nr
theorem hang_empty (s : State) (v : Nat) (q : Spot) : (Mu10.hanging s v q).isEmpty = Mu10.isFree s v q := by
  cases hb : Mu10.isFree s v q with
  | true => rw [hanging_nil.mpr hb]; rfl
  | false =>
    cases hl : Mu10.hanging s v q with
    | nil => rw [hanging_nil.mp hl] at hb; cases hb
    | cons a l => rfl
section
variable {P : Program} {w : World} {K : PySem.W.Frag} {mg : Str → Option Value} {base : Heap} {D : Ads}
def sp_first_free (D : Ads) : Sp := fun vs H Q _ => ∃ (x : Addr) (s : State) (d : RkA) (v : Nat) (o : Option (Spot × Nat)) (kv : V), vs = [.ref x, nV v, kv] ∧ RkP D H x s.racks (hooksOf s) d ∧ WF s ∧ 1 ≤ v ∧ v ≤ 3 ∧ KeptV H o kv ∧
  ∀ H', Same H H' → (match (Mu10.places s v).find? (fun q => Mu10.isFree s v q && !overK o q v) with
    | none => Q .non H'
    | some q => ∀ t, H' t = some (.tup (placeV s.racks q)) → Q (.ref t) H')
theorem ok_first_free (T : Txt K mg D) : FnOk P w K mg base CX0 3 D.f_Racks_first_free D.d_Racks_first_free ["self", "wide", "kept"] (sp_first_free D) := by
  refine T.F_Racks_first_free.ok sc_Racks_first_free (fun vs H Q E h => ?_) (fun cdv A outer s H vs Q E hr h => ?_)
  · obtain ⟨x, st, d, v, o, kv, rfl, _⟩ := h
    rfl
  · obtain ⟨x, st, d, v, o, kv, rfl, R, W, hv1, hv3, hkv, Qh⟩ := h
    have hr1 : Room 1 _ := hr.mono (by decide)
    have GP : FnOk P w K mg base CX0 2 D.f_Racks_places_of D.d_Racks_places_of ["self", "wide"] (sp_places_of D) := ok_places_of T
    have GC : FnOk P w K mg base CX0 1 D.f_Racks_coats_at D.d_Racks_coats_at ["self", "place", "wide"] (sp_coats_at D) := ok_coats_at T
    have GH : FnOk P w K mg base CX0 1 D.f_have_common D.d_have_common ["place", "wide", "kept"] sp_have_common := ok_have_common T
    refine ⟨_, pss_cons (ps_for PassesOwn.never rfl (pi_list (pe_meth (pv 0) T.cl_Racks T.m_Racks_places_of GP hr T.b_Racks_places_of .nil pass0 (pa_cons (pv 1) pa_nil))) (pg_name (i := 3) sc_Racks_first_free.nd rfl (Or.inl rfl))
        (pss_one (ps_if (PW.pt (pw_and (pt_cmpR (op_eqD hr.units) (pe_meth (pv 0) T.cl_Racks T.m_Racks_coats_at GC hr1 T.b_Racks_coats_at .nil pass0 (pa_cons (pv 3) (pa_cons (pv 1) pa_nil))) (pe_lst pa_nil) (nomark _))
            (pw_and1 (pt_not (pt_val (pe_call GH hr1 rfl T.g_have_common T.F_have_common.kp T.b_have_common .nil pass0 (pa_cons (pv 3) (pa_cons (pv 1) (pa_cons (pv 2) pa_nil)))))))))
          (pss_one (ps_ret (pv 3))) pss_nil)))
      (pss_one (ps_ret pe_non)), ?_⟩
    refine ⟨_, rfl, x, d.dx, _, rfl, R.ins, lm_Racks_places_of, _, rfl, x, st, hooksOf st, d, v, rfl, R, W.nr, W.h30, by omega, fun H1 p as s1 hp e1 al1 => ?_⟩
    obtain ⟨pred, hpred⟩ : ∃ pred : Spot → Bool, (fun q => Mu10.isFree st v q && !overK o q v) = pred := ⟨_, rfl⟩
    rw [hpred] at Qh
    refine ⟨p, rfl, ⟨_, SqL.of e1⟩, for_list (K := K) (a := p) (xs := as.map V.ref) (fun i σ H' => ∃ v3 : Option V, σ = [some (.ref x), some (nV v), some kv, v3] ∧ Same H1 H' ∧ ((Mu10.places st v).drop i).find? pred = (Mu10.places st v).find? pred)
      ⟨none, rfl, Same.refl _, rfl⟩ (fun i σ H' _ ⟨_, _, s2, _⟩ => SqL.of (s2 _ _ e1)) ?_ ?_⟩
    · rintro i y σ H' hi ⟨v3, rfl, s2, hfind⟩
      obtain ⟨t, ht, rfl⟩ := map_at hi
      obtain ⟨q, hq, hqt⟩ := al1.back ht
      have hfit := (mem_places hv1).mp (List.mem_of_getElem? hq)
      have s3 := s1.trans s2
      have R3 := R.same s3
      rw [drop_at hq, List.find?_cons] at hfind
      have hp2 : pred q = (Mu10.isFree st v q && !overK o q v) := by rw [← hpred]
      refine ⟨_, rfl, x, d.dx, _, rfl, R3.ins, lm_Racks_coats_at, _, rfl, _, rfl, x, t, st, d, q, v, rfl, R3, s2 _ _ hqt, hfit.1, hfit.2, hv3, fun H4 p4 s4 hp4 e4 => ?_⟩
      refine ⟨Nat.zero_le _, fun p5 hp5 => ?_⟩
      have s5 := s4.more (o := .lst []) hp5
      have e45 : upd H4 p5 (.lst []) p4 = some (.lst ((Mu10.hanging st v q).map nV)) := by rw [upd_ne (ne_of_none e4 hp5)]; exact e4
      have e5 : upd H4 p5 (.lst []) p5 = some (.lst []) := upd_same
      generalize upd H4 p5 (.lst []) = H5 at s5 e45 e5 ⊢
      refine ⟨_, _, dp_list (SqL.of e45), dp_empty (SqL.of e5), shaped_nats _, shaped_nats _, _, rfl, ?_⟩
      rw [eqv_empty, hang_empty]
      have s6 := s3.trans s5
      cases hb : Mu10.isFree st v q with
      | false =>
        rw [hb, Bool.false_and] at hp2
        rw [hp2] at hfind
        exact iteF (iteF ⟨some (.ref t), rfl, s2.trans s5, hfind⟩)
      | true =>
        rw [hb, Bool.true_and] at hp2
        refine iteT ?_
        refine ⟨_, rfl, _, rfl, _, rfl, t, st.racks, q, v, o, kv, rfl, s5 _ _ (s2 _ _ hqt), hkv.same s6, _, rfl, ?_⟩
        cases hc : overK o q v with
        | true =>
          rw [hc] at hp2
          rw [show (!true) = false from rfl] at hp2
          rw [hp2] at hfind
          exact iteF ⟨some (.ref t), rfl, s2.trans s5, hfind⟩
        | false =>
          rw [hc] at hp2
          rw [show (!false) = true from rfl] at hp2
          rw [hp2] at hfind
          refine iteT ⟨_, rfl, ?_⟩
          have := Qh H5 s6
          rw [← hfind] at this
          exact this t (s5 _ _ (s2 _ _ hqt))
    · rintro σ H' ⟨v3, rfl, s2, hfind⟩
      rw [List.length_map, al1.1, List.drop_length] at hfind
      have := Qh H' (s1.trans s2)
      rw [← hfind] at this
      exact this
/-! ### moves_for -/
def MvAt (rs : List Rack) (H : Hp) (m : Nat × Spot) (a : Addr) : Prop := ∃ t, H a = some (.tup [nV m.1, .ref t]) ∧ H t = some (.tup (placeV rs m.2))
theorem MvAt.keep {rs : List Rack} {H H' : Hp} {m : Nat × Spot} {a : Addr} (h : MvAt rs H m a) (k : ∀ t xs, H t = some (.tup xs) → H' t = some (.tup xs)) : MvAt rs H' m a := by
  obtain ⟨t, h1, h2⟩ := h
  exact ⟨t, k _ _ h1, k _ _ h2⟩
def sp_moves_for (D : Ads) : Sp := fun vs H Q _ => ∃ (x wl pt : Addr) (s : State) (d : RkA) (q : Spot) (u : Nat), vs = [.ref x, .ref wl, .ref pt, nV u] ∧ RkP D H x s.racks (hooksOf s) d ∧ WF s ∧ H wl = some (.lst (s.coats.map fun c => nV c.wide)) ∧ H pt = some (.tup (placeV s.racks q)) ∧ q.rack < s.racks.length ∧ q.hook + u ≤ (Mu10.rackOf s q.rack).hooks ∧ u ≤ 3 ∧
  ∀ H', Same H H' → (match Mu10.cleared q u s (Mu10.hanging s u q) with
    | none => Q .non H'
    | some y => ∀ p ts, H p = none → H' p = some (.lst (ts.map V.ref)) → Al (MvAt s.racks H') y.2 ts → Q (.ref p) H')
theorem off_at {hk : List (List Int)} {t : Int} {r : Nat} {row : List Int} (h : hk[r]? = some row) : (takeOff hk t)[r]? = some (row.map fun x => if x = t then -1 else x) := by
  unfold takeOff
  rw [List.getElem?_map, h]; rfl
theorem ok_moves_for (T : Txt K mg D) : FnOk P w K mg base CX0 4 D.f_moves_for D.d_moves_for ["racks", "widths", "place", "wide"] (sp_moves_for D) := by
  refine T.F_moves_for.ok sc_moves_for (fun vs H Q E h => ?_) (fun cdv A outer s H vs Q E hr h => ?_)
  · obtain ⟨x, wl, pt, st, d, q, u, rfl, _⟩ := h
    rfl
  · obtain ⟨x, wl, pt, st, d, q, u, rfl, R, W, hwl, hpt, hq1, hq2, hu3, Qh⟩ := h
    have hr1 : Room 1 _ := hr.mono (by decide)
    have GCp : FnOk P w K mg base CX0 3 D.f_Racks_copied D.d_Racks_copied ["self"] (sp_copied D) := ok_copied T
    have GC : FnOk P w K mg base CX0 1 D.f_Racks_coats_at D.d_Racks_coats_at ["self", "place", "wide"] (sp_coats_at D) := ok_coats_at T
    have GF : FnOk P w K mg base CX0 3 D.f_Racks_first_free D.d_Racks_first_free ["self", "wide", "kept"] (sp_first_free D) := ok_first_free T
    have GT : FnOk P w K mg base CX0 1 D.f_Racks_take_off D.d_Racks_take_off ["self", "ticket"] (sp_take_off D) := ok_take_off T
    have GH : FnOk P w K mg base CX0 1 D.f_Racks_hang_on D.d_Racks_hang_on ["self", "ticket", "place", "wide"] (sp_hang_on D) := ok_hang_on T
    refine ⟨_, pss_cons (ps_asg (pv 2) (pg_tup rfl (pgs_cons (pg_name (i := 4) sc_moves_for.nd rfl (Or.inl rfl)) (pgs_cons (pg_name (i := 5) sc_moves_for.nd rfl (Or.inl rfl)) (pgs_cons (pg_name (i := 6) sc_moves_for.nd rfl (Or.inl rfl)) pgs_nil)))))
      (pss_cons (ps_set (i := 7) sc_moves_for.nd rfl (Or.inl rfl) (pe_meth0 (pv 0) T.cl_Racks T.m_Racks_copied GCp hr T.b_Racks_copied .nil pass0))
      (pss_cons (ps_set (i := 8) sc_moves_for.nd rfl (Or.inl rfl) (pe_lst pa_nil))
      (pss_cons (ps_for PassesOwn.never rfl (pi_list (pe_meth (pv 0) T.cl_Racks T.m_Racks_coats_at GC hr1 T.b_Racks_coats_at .nil pass0 (pa_cons (pv 2) (pa_cons (pv 3) pa_nil)))) (pg_name (i := 9) sc_moves_for.nd rfl (Or.inl rfl))
        (pss_cons (ps_set (i := 10) sc_moves_for.nd rfl (Or.inl rfl) (pe_ix ix_list (pv 1) (pv 9) (fun _ _ => rfl)))
        (pss_cons (ps_set (i := 11) sc_moves_for.nd rfl (Or.inl rfl) (pe_meth (pv 7) T.cl_Racks T.m_Racks_first_free GF hr T.b_Racks_first_free .nil pass0 (pa_cons (pv 10) (pa_cons (pe_tup (pa_cons (pv 5) (pa_cons (pv 6) (pa_cons (pv 3) pa_nil)))) pa_nil))))
        (pss_cons (ps_if (pt_cmpR op_isN (pv 11) pe_non (nomark _)) (pss_one (ps_ret pe_non)) pss_nil)
        (pss_cons (ps_expr (pe_meth (pv 7) T.cl_Racks T.m_Racks_take_off GT hr1 T.b_Racks_take_off .nil pass0 (pa_cons (pv 9) pa_nil)))
        (pss_cons (ps_expr (pe_meth (pv 7) T.cl_Racks T.m_Racks_hang_on GH hr1 T.b_Racks_hang_on .nil pass0 (pa_cons (pv 9) (pa_cons (pv 11) (pa_cons (pv 10) pa_nil)))))
        (pss_one (ps_expr (pe_bm PySem.F.plainAttrs_list PySem.F.slot_list_append PySem.F.type_list_append mt_append (pv 8) (pa_cons (pe_tup (pa_cons (pv 9) (pa_cons (pv 11) pa_nil))) pa_nil))))))))))
      (pss_one (ps_ret (pv 8)))))), ?_⟩
    refine ⟨_, rfl, pt, _, rfl, SqT.of hpt, rfl, _, _, rfl, _, _, rfl, _, _, rfl, rfl, ?_⟩
    refine ⟨_, rfl, x, d.dx, _, rfl, R.ins, lm_Racks_copied, x, st.racks, hooksOf st, d, rfl, R, hooks_6 W, W.h30, W.nr, fun H1 y d1 s1 hy R1 fh1 fr1 era1 => ?_⟩
    refine ⟨Nat.zero_le _, fun f hf => ?_⟩
    have s2 := s1.more (o := .lst []) hf
    have ef : upd H1 f (.lst []) f = some (.lst []) := upd_same
    have R2 := R1.same (Same.new (o := .lst []) hf)
    have nf1 : f ≠ d1.hk := fun z => ne_of_none R1.hk hf z.symm
    have nf2 : ∀ r ∈ d1.rows, r ≠ f := fun r hr' => by
      obtain ⟨j, hj⟩ := List.getElem?_of_mem hr'
      obtain ⟨_, _, h⟩ := R1.rows.back hj
      exact ne_of_none h hf
    have fH : H f = none := s1.frees hf
    generalize upd H1 f (.lst []) = H2 at s2 ef R2 ⊢
    have RR2 := R.same s2
    refine ⟨_, rfl, x, d.dx, _, rfl, RR2.ins, lm_Racks_coats_at, _, rfl, _, rfl, x, pt, st, d, q, u, rfl, RR2, s2 _ _ hpt, hq1, hq2, hu3, fun H3 c s3 hc e3 => ?_⟩
    have hcH : H c = none := s2.frees hc
    have ncf : c ≠ f := fun z => ne_of_none ef hc z.symm
    have nch : c ≠ d1.hk := fun z => ne_of_none R2.hk hc z.symm
    obtain ⟨L, hL⟩ : ∃ L, Mu10.hanging st u q = L := ⟨_, rfl⟩
    have hLm : ∀ t ∈ L, ∃ cc, st.coats[t]? = some cc := fun t ht => mem_hanging W (by rw [hL]; exact ht)
    have hLl : L.length ≤ 3 := by have := hanging_len (s := st) (w := u) (q := q); rw [hL] at this; omega
    rw [hL] at e3 Qh
    obtain ⟨R0, hR0⟩ : ∃ R0, Mu10.cleared q u st L = R0 := ⟨_, rfl⟩
    rw [hR0] at Qh
    refine ⟨c, rfl, ⟨_, SqL.of e3⟩, for_list (K := K) (a := c) (xs := L.map nV) (fun i σ H' => ∃ (v9 v10 v11 : Option V) (si : State) (di : RkA) (pre : List (Nat × Spot)) (ts : List Addr),
        σ = [some (.ref x), some (.ref wl), some (.ref pt), some (nV u), some (.int (stepsR st.racks q)), some (.int q.rack), some (.int q.hook), some (.ref y), some (.ref f), v9, v10, v11] ∧ Same H H' ∧ RkP D H' y st.racks (hooksOf si) di ∧ di.ra = d.ra ∧ H di.hk = none ∧ f ≠ di.hk ∧ (∀ r ∈ di.rows, r ≠ f) ∧ c ≠ di.hk ∧
        H' f = some (.lst (ts.map V.ref)) ∧ H' c = some (.lst (L.map nV)) ∧ Al (MvAt st.racks H') pre ts ∧ pre.length = i ∧ WF si ∧ si.racks = st.racks ∧ si.coats.map (·.wide) = st.coats.map (·.wide) ∧
        R0 = (Mu10.cleared q u si (L.drop i)).map fun z => (z.1, pre ++ z.2))
      ⟨none, none, none, st, d1, [], [], rfl, s2.trans s3, R2.same s3, era1, fh1, nf1, nf2, nch, s3 _ _ ef, e3, Al.nil, rfl, W, rfl, rfl, by rw [List.drop_zero, hR0]; cases R0 <;> rfl⟩
      (fun i σ H' _ ⟨_, _, _, _, _, _, _, _, _, _, _, _, _, _, _, _, hc', _⟩ => SqL.of hc') ?_ ?_⟩
    · rintro i z σ H' hi ⟨v9, v10, v11, si, di, pre, ts, rfl, s4, R4, era, fhk, nfh, nfr, nch4, ef4, ec4, al4, hpl, Wi, er, ew, hcl⟩
      obtain ⟨t, ht, rfl⟩ := map_at hi
      obtain ⟨c0, hc0⟩ := hLm t (List.mem_of_getElem? ht)
      obtain ⟨cc, hcc, hcw⟩ : ∃ cc, si.coats[t]? = some cc ∧ cc.wide = c0.wide := by
        have h1 := congrArg (fun l : List Nat => l[t]?) ew
        simp only [List.getElem?_map, hc0, Option.map_some] at h1
        cases h2 : si.coats[t]? with
        | none => rw [h2] at h1; cases h1
        | some cc => rw [h2] at h1; exact ⟨cc, rfl, Option.some.inj h1⟩
      have hi3 : i < 3 := by
        have := (List.getElem?_eq_some_iff.mp ht).1
        omega
      have hwc : (st.coats.map fun c => nV c.wide)[t]? = some (nV cc.wide) := by rw [List.getElem?_map, hc0, hcw]; rfl
      rw [drop_at ht] at hcl
      unfold Mu10.cleared at hcl
      rw [hcc] at hcl
      simp only at hcl
      -- own = widths[ticket]
      refine ⟨_, rfl, _, rfl, wl, _, _, _, rfl, rfl, SqL.of (s4 _ _ hwl), atI_nat hwc, ?_⟩
      -- there = moved.first_free(own, (rack, hook, wide))
      refine ⟨_, rfl, y, di.dx, _, rfl, R4.ins, lm_Racks_first_free, _, rfl, _, rfl, _, rfl, _, rfl, by show 3 ≤ sizeLine; decide, fun kt hkt => ?_⟩
      have s5 := s4.more (o := .tup [.int q.rack, .int q.hook, nV u]) hkt
      have S5 := Same.new (o := .tup [.int q.rack, .int q.hook, nV u]) hkt
      have ek : upd H' kt (.tup [.int q.rack, .int q.hook, nV u]) kt = some (.tup [.int q.rack, .int q.hook, nV u]) := upd_same
      generalize upd H' kt (.tup [.int q.rack, .int q.hook, nV u]) = H5 at s5 S5 ek ⊢
      have R5 := R4.same S5
      have hww := Wi.co t cc hcc
      have R5' : RkP D H5 y si.racks (hooksOf si) di := by rw [er]; exact R5
      refine ⟨y, si, di, cc.wide, some (q, u), .ref kt, rfl, R5', Wi, hww.1, hww.2, ⟨kt, rfl, ek⟩, fun H6 s6 => ?_⟩
      have hcl2 : R0 = Option.map (fun z => (z.1, pre ++ z.2)) (match (Mu10.places si cc.wide).find? fun q' => Mu10.isFree si cc.wide q' && !overK (some (q, u)) q' cc.wide with
        | none => none
        | some q' => Option.map (fun (x : State × List (Nat × Spot)) => (x.1, (t, q') :: x.2)) (Mu10.cleared q u (Mu10.coatAt si t (some q')) (L.drop (i + 1)))) := hcl
      cases hfd : (Mu10.places si cc.wide).find? fun q' => Mu10.isFree si cc.wide q' && !overK (some (q, u)) q' cc.wide with
      | none =>
        rw [hfd] at hcl2
        have hcl3 : R0 = none := hcl2
        show _
        refine ⟨_, rfl, rfl, _, rfl, if_true_of rfl ?_⟩
        have := Qh H6 (s5.trans s6)
        rw [hcl3] at this
        exact this
      | some q' =>
        rw [hfd] at hcl2
        intro th hth
        obtain ⟨g1, g2, g3⟩ := find_wf (f := fun q' => !overK (some (q, u)) q' cc.wide) Wi hcc hfd
        have hfree := free_gone Wi hcc g3
        refine ⟨_, rfl, rfl, _, rfl, if_false_of rfl ?_⟩
        -- moved.take_off(ticket)
        have R6 := R5.same s6
        have S6 := S5.trans s6
        refine ⟨_, rfl, y, di.dx, _, rfl, R6.ins, lm_Racks_take_off, _, rfl, y, st.racks, hooksOf si, di, t, rfl, R6, hooks_6 Wi, hooks_30 Wi, fun H7 d7 R7 era7 fhk7 frw7 k7 => ?_⟩
        have nyH : ∀ b o, H b = some o → b ≠ y := fun b o h => ne_of_none h hy
        have s7 : Same H H7 := fun b o h => k7 b o (s6 _ _ (s5 _ _ h)) (nyH b o h)
        have th7 : H7 th = some (.tup (placeV st.racks q')) := by
          have : H6 th = some (.tup (placeV st.racks q')) := by rw [← er]; exact hth
          exact k7 _ _ this (tup_ne_ins this R6.ins)
        have ef7 : H7 f = some (.lst (ts.map V.ref)) := k7 _ _ (S6 _ _ ef4) (lst_ne_ins (S6 _ _ ef4) R6.ins)
        have ec7 : H7 c = some (.lst (L.map nV)) := k7 _ _ (S6 _ _ ec4) (lst_ne_ins (S6 _ _ ec4) R6.ins)
        have al7 : Al (MvAt st.racks H7) pre ts := al4.mono fun m a _ _ h => h.keep fun b xs e => k7 _ _ (S6 _ _ e) (tup_ne_ins (S6 _ _ e) R6.ins)
        -- moved.hang_on(ticket, there, own)
        have hrow := off_at (t := (t : Int)) (hooksOf_at g1)
        have hrl : ((rowOf si q'.rack).map fun x => if x = (t : Int) then -1 else x).length = (Mu10.rackOf si q'.rack).hooks := by rw [List.length_map, rowOf_len]
        refine ⟨_, rfl, y, d7.dx, _, rfl, R7.ins, lm_Racks_hang_on, _, rfl, _, rfl, _, rfl, y, th, st.racks, _, d7, q', cc.wide, t, _, rfl, R7, th7, hrow, by rw [hrl]; exact g2, by rw [hrl]; exact rackOf_30 Wi g1, hww.2, fun H8 r8 R8 fr8 k8 => ?_⟩
        have hk6 : H6 d7.hk = none := fhk7
        have nfh7 : f ≠ d7.hk := fun z => ne_of_none (S6 _ _ ef4) hk6 z
        have nch7 : c ≠ d7.hk := fun z => ne_of_none (S6 _ _ ec4) hk6 z
        have hkH : H d7.hk = none := s5.frees (s6.frees hk6)
        have s8 : Same H H8 := fun b o h => k8 b o (s7 _ _ h) (ne_of_none h hkH)
        have ef8 := k8 _ _ ef7 nfh7
        have ec8 := k8 _ _ ec7 nch7
        have nt8 : ∀ {b : Addr} {xs : List V}, H7 b = some (.tup xs) → H8 b = some (.tup xs) := fun e => k8 _ _ e (tup_ne_lst e R7.hk)
        have al8 : Al (MvAt st.racks H8) pre ts := al7.mono fun m a _ _ h => h.keep fun b xs e => nt8 e
        have th8 := nt8 th7
        rw [← hooks_put Wi hcc g1 g2 hfree] at R8
        have W8 := wf_put Wi hcc g1 g2 hfree
        have hfr8 : ∀ r ∈ d7.rows.set q'.rack r8, r ≠ f := fun r hr' => by
          rcases List.mem_or_eq_of_mem_set hr' with z | z
          · exact fun y => ne_of_none (S6 _ _ ef4) (frw7 r z) y.symm
          · rw [z]; exact fun y => ne_of_none ef7 fr8 y.symm
        have hra8 : d7.ra ≠ f := by rw [era7, era]; exact ne_of_none R.ra fH
        -- found.append((ticket, there))
        have htsl : ts.length ≤ 3 := by rw [al4.1]; omega
        refine ⟨_, rfl, .inl ⟨rfl, _, SqL.of ef8⟩, _, rfl, _, rfl, by show 2 ≤ sizeLine; decide, fun pp hpp => ?_⟩
        have S9 := Same.new (o := .tup [nV t, .ref th]) hpp
        have ep9 : upd H8 pp (.tup [nV t, .ref th]) pp = some (.tup [nV t, .ref th]) := upd_same
        generalize upd H8 pp (.tup [nV t, .ref th]) = H9 at S9 ep9 ⊢
        have R9 := R8.same S9
        have ef9 := S9 _ _ ef8
        refine ⟨f, _, _, rfl, rfl, ef9, by rw [List.length_map]; exact lt_line (by omega), ?_⟩
        have nt : ∀ {b : Addr} {xs : List V}, H9 b = some (.tup xs) → b ≠ f := fun e => tup_ne_lst e ef9
        refine ⟨some (nV t), some (nV cc.wide), some (.ref th), Mu10.coatAt si t (some q'), _, pre ++ [(t, q')], ts ++ [pp], rfl, fun b o h => ?_, R9.keep (X := fun b => b = f) kp_upd (fun z => lst_ne_ins ef9 R9.ins z.symm) hra8 (fun z => nfh7 z.symm) hfr8 (fun b xs e => nt e), by show d7.ra = d.ra; rw [era7, era], hkH, nfh7, hfr8, nch7, ?_, ?_, ?_, ?_, W8, ?_, ?_, ?_⟩
        · rw [upd_ne (ne_of_none h fH)]; exact S9 _ _ (s8 _ _ h)
        · rw [upd_same, List.map_append]; rfl
        · rw [upd_ne ncf]; exact S9 _ _ ec8
        · refine Al.snoc (al8.mono fun m a _ _ h => h.keep fun b xs e => ?_) ⟨th, ?_, ?_⟩
          · rw [upd_ne (nt (S9 _ _ e))]; exact S9 _ _ e
          · rw [upd_ne (nt ep9)]; exact ep9
          · rw [upd_ne (nt (S9 _ _ th8))]; exact S9 _ _ th8
        · rw [List.length_append, hpl]; rfl
        · rw [coatAt_racks]; exact er
        · rw [coatAt_wides]; exact ew
        · rw [hcl2]
          simp only
          cases Mu10.cleared q u (Mu10.coatAt si t (some q')) (L.drop (i + 1)) with
          | none => rfl
          | some z =>
            show some (z.1, pre ++ (t, q') :: z.2) = some (z.1, (pre ++ [(t, q')]) ++ z.2)
            rw [List.append_assoc]; rfl
    · rintro σ H' ⟨v9, v10, v11, si, di, pre, ts, rfl, s4, R4, era, fhk, nfh, nfr, nch4, ef4, ec4, al4, hpl, Wi, er, ew, hcl⟩
      rw [List.length_map, List.drop_length] at hcl
      unfold Mu10.cleared at hcl
      have hcl2 : R0 = some (si, pre ++ []) := hcl
      rw [List.append_nil] at hcl2
      have := Qh H' s4
      rw [hcl2] at this
      exact ⟨_, rfl, this f ts fH ef4 al4⟩
end
end Ck
end
section
set_option Elab.async false
set_option linter.all false
set_option maxRecDepth 100000
set_option maxHeartbeats 4000000
/-! The fewest moves; whether numbers are racks. -/
namespace Ck
open PySem PySem.Spec PyProof.Rows L2
open Mu10 (State Coat Rack Spot)
/-! ### the fewest moves -/
def bst (s : State) (u : Nat) (m : Option (Spot × List (Nat × Spot))) (p : Spot) : Option (Spot × List (Nat × Spot)) := match Mu10.cleared p u s (Mu10.hanging s u p) with
  | none => m
  | some x => match m with
    | none => some (p, x.2)
    | some y => if x.2.length < y.2.length then some (p, x.2) else m
theorem making_is (s : State) (u : Nat) : Mu10.making s u = (Mu10.places s u).foldl (bst s u) none := rfl
def BestAt (rs : List Rack) (H : Hp) : Option (Spot × List (Nat × Spot)) → V → Prop
  | none, v => v = .non
  | some b, v => ∃ (p pt ml : Addr) (ts : List Addr), v = .ref p ∧ H p = some (.tup [.ref pt, .ref ml]) ∧ H pt = some (.tup (placeV rs b.1)) ∧ H ml = some (.lst (ts.map V.ref)) ∧ Al (MvAt rs H) b.2 ts
theorem BestAt.same {rs : List Rack} {H H' : Hp} {o : Option (Spot × List (Nat × Spot))} {v : V} (h : BestAt rs H o v) (s : Same H H') : BestAt rs H' o v := by
  cases o with
  | none => exact h
  | some b =>
    obtain ⟨p, pt, ml, ts, e, h1, h2, h3, h4⟩ := h
    exact ⟨p, pt, ml, ts, e, s _ _ h1, s _ _ h2, s _ _ h3, h4.mono fun m a _ _ q => q.keep fun _ _ z => s _ _ z⟩
theorem fold_take {α β : Type} {f : β → α → β} {b : β} {l : List α} {i : Nat} {x : α} (h : l[i]? = some x) : (l.take (i + 1)).foldl f b = f ((l.take i).foldl f b) x := by
  rw [List.take_succ, h, List.foldl_append]; rfl
section
variable {P : Program} {w : World} {K : PySem.W.Frag} {mg : Str → Option Value} {base : Heap} {D : Ads}
def sp_fewest (D : Ads) : Sp := fun vs H Q _ => ∃ (x wl : Addr) (s : State) (d : RkA) (u : Nat), vs = [.ref x, .ref wl, nV u] ∧ RkP D H x s.racks (hooksOf s) d ∧ WF s ∧ H wl = some (.lst (s.coats.map fun c => nV c.wide)) ∧ 1 ≤ u ∧ u ≤ 3 ∧
  ∀ H' v, Same H H' → BestAt s.racks H' (Mu10.making s u) v → Q v H'
theorem ok_fewest (T : Txt K mg D) : FnOk P w K mg base CX0 5 D.f_fewest_moves D.d_fewest_moves ["racks", "widths", "wide"] (sp_fewest D) := by
  refine T.F_fewest_moves.ok sc_fewest_moves (fun vs H Q E h => ?_) (fun cdv A outer s H vs Q E hr h => ?_)
  · obtain ⟨x, wl, st, d, u, rfl, _⟩ := h
    rfl
  · obtain ⟨x, wl, st, d, u, rfl, R, W, hwl, hu1, hu3, Qh⟩ := h
    have hr2 : Room 2 _ := hr.mono (by decide)
    have GP : FnOk P w K mg base CX0 2 D.f_Racks_places_of D.d_Racks_places_of ["self", "wide"] (sp_places_of D) := ok_places_of T
    have GM : FnOk P w K mg base CX0 4 D.f_moves_for D.d_moves_for ["racks", "widths", "place", "wide"] (sp_moves_for D) := ok_moves_for T
    refine ⟨_, pss_cons (ps_set (i := 3) sc_fewest_moves.nd rfl (Or.inl rfl) pe_non)
      (pss_cons (ps_for PassesOwn.never rfl (pi_list (pe_meth (pv 0) T.cl_Racks T.m_Racks_places_of GP hr2 T.b_Racks_places_of .nil pass0 (pa_cons (pv 2) pa_nil))) (pg_name (i := 4) sc_fewest_moves.nd rfl (Or.inl rfl))
        (pss_cons (ps_set (i := 5) sc_fewest_moves.nd rfl (Or.inl rfl) (pe_call GM hr rfl T.g_moves_for T.F_moves_for.kp T.b_moves_for .nil pass0 (pa_cons (pv 0) (pa_cons (pv 1) (pa_cons (pv 4) (pa_cons (pv 2) pa_nil))))))
        (pss_one (ps_if (PW.pt (pw_and (pt_cmpR op_notN (pv 5) pe_non (nomark _)) (pw_and1 (PW.pt (pw_or (pt_cmpR op_isN (pv 3) pe_non (nomark _)) (pw_or1 (pt_cmpR op_lt (pe_callB call_len_seq (by rfl) T.w_len PySem.boot_len (pa_cons (pv 5) pa_nil)) (pe_callB call_len_seq (by rfl) T.w_len PySem.boot_len (pa_cons (pe_ix ix_tup (pv 3) pe_int (fun _ _ => rfl)) pa_nil)) (nomark _))))))))
          (pss_one (ps_set (i := 3) sc_fewest_moves.nd rfl (Or.inl rfl) (pe_tup (pa_cons (pv 4) (pa_cons (pv 5) pa_nil))))) pss_nil))))
      (pss_one (ps_ret (pv 3)))), ?_⟩
    refine ⟨_, rfl, x, d.dx, _, rfl, R.ins, lm_Racks_places_of, _, rfl, x, st, hooksOf st, d, u, rfl, R, W.nr, W.h30, by omega, fun H1 p as s1 hp e1 al1 => ?_⟩
    refine ⟨p, rfl, ⟨_, SqL.of e1⟩, for_list (K := K) (a := p) (xs := as.map V.ref) (fun i σ H' => ∃ (v3 : V) (v4 v5 : Option V), σ = [some (.ref x), some (.ref wl), some (nV u), some v3, v4, v5] ∧ Same H1 H' ∧ BestAt st.racks H' (((Mu10.places st u).take i).foldl (bst st u) none) v3)
      ⟨.non, none, none, rfl, Same.refl _, rfl⟩ (fun i σ H' _ ⟨_, _, _, _, s2, _⟩ => SqL.of (s2 _ _ e1)) ?_ ?_⟩
    · rintro i y σ H' hi ⟨v3, v4, v5, rfl, s2, hb⟩
      obtain ⟨t, ht, rfl⟩ := map_at hi
      obtain ⟨q, hq, hqt⟩ := al1.back ht
      have hfit := (mem_places hu1).mp (List.mem_of_getElem? hq)
      have s3 := s1.trans s2
      rw [fold_take hq]
      obtain ⟨cur, hcur⟩ : ∃ cur, ((Mu10.places st u).take i).foldl (bst st u) none = cur := ⟨_, rfl⟩
      rw [hcur] at hb ⊢
      refine ⟨_, rfl, _, rfl, _, rfl, _, rfl, x, wl, t, st, d, q, u, rfl, R.same s3, W, s3 _ _ hwl, s2 _ _ hqt, hfit.1, hfit.2, hu3, fun H2 sS => ?_⟩
      have s4 := s2.trans sS
      unfold bst
      cases hcl : Mu10.cleared q u st (Mu10.hanging st u q) with
      | none =>
        refine ⟨_, rfl, rfl, _, rfl, if_false_of rfl (iteF ?_)⟩
        exact ⟨v3, some (.ref t), some .non, rfl, s4, hb.same sS⟩
      | some z =>
        intro ml ts hml eml alm
        simp only
        refine ⟨_, rfl, rfl, _, rfl, if_true_of rfl ?_⟩
        have fin : ∀ o, o = some (q, z.2) → ∀ (pp : Addr), H2 pp = none → ∃ (w3 : V) (w4 w5 : Option V), [some (V.ref x), some (V.ref wl), some (nV u), some (V.ref pp), some (V.ref t), some (V.ref ml)] = [some (.ref x), some (.ref wl), some (nV u), some w3, w4, w5] ∧ Same H1 (upd H2 pp (.tup [.ref t, .ref ml])) ∧ BestAt st.racks (upd H2 pp (.tup [.ref t, .ref ml])) o w3 := fun o ho pp hpp => by
          subst ho
          have sN := Same.new (o := .tup [.ref t, .ref ml]) hpp
          exact ⟨.ref pp, some (.ref t), some (.ref ml), rfl, s4.more hpp, pp, t, ml, ts, rfl, upd_same, sN _ _ (sS _ _ (s2 _ _ hqt)), sN _ _ eml, alm.mono fun m a _ _ h => h.keep fun _ _ e => sN _ _ e⟩
        cases cur with
        | none =>
          have e3 : v3 = .non := hb
          subst e3
          refine ⟨_, rfl, rfl, _, rfl, if_true_of rfl (iteT ?_)⟩
          exact ⟨_, rfl, _, rfl, by show 2 ≤ sizeLine; decide, fun pp hpp => fin _ rfl pp hpp⟩
        | some b =>
          obtain ⟨bp, bpt, bml, bts, rfl, hb1, hb2, hb3, hb4⟩ := id (hb.same sS)
          refine ⟨_, rfl, rfl, _, rfl, if_false_of rfl ?_⟩
          refine ⟨_, rfl, ml, _, rfl, .inl (SqL.of eml), _, rfl, bp, _, _, _, rfl, rfl, SqT.of hb1, rfl, bml, _, rfl, .inl (SqL.of hb3), _, _, rfl, rfl, _, rfl, ?_⟩
          rw [List.length_map, List.length_map, alm.1, hb4.1]
          by_cases c : z.2.length < b.2.length
          · refine if_true_of (decide_eq_true (by omega)) ?_
            exact ⟨_, rfl, _, rfl, by show 2 ≤ sizeLine; decide, fun pp hpp => fin _ (if_pos c) pp hpp⟩
          · refine if_false_of (decide_eq_false (by omega)) ?_
            refine ⟨.ref bp, some (.ref t), some (.ref ml), rfl, s4, ?_⟩
            show BestAt st.racks H2 (if z.2.length < b.2.length then some (q, z.2) else some b) (.ref bp)
            rw [if_neg c]
            exact hb.same sS
    · rintro σ H' ⟨v3, v4, v5, rfl, s2, hb⟩
      rw [List.length_map, al1.1, List.take_length, ← making_is] at hb
      exact ⟨_, rfl, Qh H' v3 (s1.trans s2) hb⟩
end
end Ck
end
section
set_option Elab.async false
set_option linter.all false
set_option maxRecDepth 100000
set_option maxHeartbeats 4000000
/-! Whether numbers are racks; refusals. -/
namespace Ck
open PySem PySem.Spec PyProof.Rows L2
open Mu10 (State Coat Rack Spot)
theorem pairs_at : ∀ (m : Nat) (ns : List Nat), ns.length = 2 * m → (Mu10Neutral.pairs ns).length = m ∧ ∀ (k : Nat) (p : Nat × Nat), (Mu10Neutral.pairs ns)[k]? = some p → ns[2 * k]? = some p.1 ∧ ns[2 * k + 1]? = some p.2
  | 0, ns, h => by
    have e : ns = [] := List.length_eq_zero_iff.mp h
    subst e
    exact ⟨rfl, fun k p h => by simp [Mu10Neutral.pairs] at h⟩
  | m + 1, [], h => by simp at h
  | m + 1, [a], h => by simp at h; omega
  | m + 1, a :: b :: l, h => by
    obtain ⟨h1, h2⟩ := pairs_at m l (by simp at h; omega)
    refine ⟨by simp [Mu10Neutral.pairs, h1], fun k p e => ?_⟩
    cases k with
    | zero =>
      simp [Mu10Neutral.pairs] at e
      subst e
      exact ⟨rfl, rfl⟩
    | succ k =>
      have e' : (Mu10Neutral.pairs l)[k]? = some p := by simpa [Mu10Neutral.pairs] using e
      have := h2 k p e'
      rw [show 2 * (k + 1) = 2 * k + 1 + 1 by omega]
      simpa using this
def racksOk (ps : List (Nat × Nat)) : Bool := (!ps.isEmpty && decide (ps.length ≤ 6)) && ((ps.all fun p => decide (1 ≤ p.1) && decide (p.1 ≤ 30)) && ps.all fun p => decide (p.2 ≤ 100))
theorem racksOk_iff (ps : List (Nat × Nat)) : racksOk ps = true ↔ ¬ (ps.isEmpty = true ∨ (6 < ps.length ∨ ps.any (fun (x : Nat × Nat) => decide (x.1 = 0 ∨ (30 < x.1 ∨ 100 < x.2))) = true)) := by
  unfold racksOk
  simp only [Bool.and_eq_true, Bool.not_eq_true', List.all_eq_true, decide_eq_true_eq, List.any_eq_true, not_or, Bool.not_eq_true]
  constructor
  · rintro ⟨⟨h1, h2⟩, h3, h4⟩
    refine ⟨h1, by omega, ?_⟩
    rintro ⟨x, hx, hc⟩
    have := h3 x hx
    have := h4 x hx
    omega
  · rintro ⟨h1, h2, h3⟩
    refine ⟨⟨h1, by omega⟩, fun x hx => ?_, fun x hx => ?_⟩
    · have : ¬ (x.1 = 0 ∨ (30 < x.1 ∨ 100 < x.2)) := fun z => h3 ⟨x, hx, z⟩
      omega
    · have : ¬ (x.1 = 0 ∨ (30 < x.1 ∨ 100 < x.2)) := fun z => h3 ⟨x, hx, z⟩
      omega
theorem rg_even : ∀ m : Fin 11, RgC 0 ((2 * m.val : Nat) : Int) 2 m.val := by
  intro m
  have : ∀ m : Fin 11, (2 : Int) ≠ 0 ∧ (2 : Int).natAbs < 1073741824 ∧ Builtin.Range.small 0 ((2 * m.val : Nat) : Int) 2 = true ∧ Builtin.Range.rangeSize 0 ((2 * m.val : Nat) : Int) 2 = (m.val : Int) := by decide +kernel
  exact this m
theorem rg_odd : ∀ m : Fin 11, RgC 1 ((2 * m.val : Nat) : Int) 2 m.val := by
  intro m
  have : ∀ m : Fin 11, (2 : Int) ≠ 0 ∧ (2 : Int).natAbs < 1073741824 ∧ Builtin.Range.small 1 ((2 * m.val : Nat) : Int) 2 = true ∧ Builtin.Range.rangeSize 1 ((2 * m.val : Nat) : Int) 2 = (m.val : Int) := by decide +kernel
  exact this m
theorem at_sum {xs : List V} {z : Int} {j : Nat} {v : V} (h : xs[j]? = some v) (e : z = (j : Int)) : atI xs z = some v := by rw [e]; exact atI_nat h
section
variable {P : Program} {w : World} {K : PySem.W.Frag} {mg : Str → Option Value} {base : Heap} {D : Ads}
def sp_are_racks : Sp := fun vs H Q _ => ∃ (r : Addr) (ns : List Nat) (m : Nat), vs = [.ref r] ∧ H r = some (.lst (ns.map nV)) ∧ ns.length = 2 * m ∧ m ≤ 10 ∧ ∀ H', Same H H' → Q (.bl (racksOk (Mu10Neutral.pairs ns))) H'
theorem ok_are_racks (T : Txt K mg D) : FnOk P w K mg base CX0 1 D.f_are_racks D.d_are_racks ["row"] sp_are_racks := by
  refine T.F_are_racks.ok sc_are_racks (fun vs H Q E h => ?_) (fun cdv A outer s H vs Q E hr h => ?_)
  · obtain ⟨r, ns, m, rfl, _⟩ := h
    rfl
  · obtain ⟨r, ns, m, rfl, hr1, hlen, hm, Qh⟩ := h
    refine ⟨_, pss_cons (ps_if (PW.pt (pw_or (pt_cmpR op_lt (pe_callB call_len_seq (by rfl) T.w_len PySem.boot_len (pa_cons (pv 0) pa_nil)) pe_int (nomark _)) (pw_or1 (pt_cmpR op_gt (pe_callB call_len_seq (by rfl) T.w_len PySem.boot_len (pa_cons (pv 0) pa_nil)) pe_int (nomark _))))) (pss_one (ps_ret pe_bl)) pss_nil)
      (pss_cons (ps_setLc (i := 1) (own := [("k", 3)]) (g := gName 3) (tt := tYes) (te := tOp (rIxL K) (tVar 0) (tVar 3)) rfl sc_are_racks.nd rfl rfl (sw_true rfl rfl rfl (by decide +kernel)) (pi_range3 rfl T.w_range (pa_cons pe_int (pa_cons (pe_callB call_len_seq (by rfl) T.w_len PySem.boot_len (pa_cons (pv 0) pa_nil)) (pa_cons pe_int pa_nil)))) (blkOk_by (N := ["row", "hooks", "steps", "k", "many", "first"]) (sc := defScope s_are_racks) (by decide +kernel))
        (fun _ _ _ _ _ => pg_name (i := 3) sc_are_racks.nd rfl (Or.inl rfl)) (fun _ _ _ _ _ => pts_nil) (fun _ _ _ _ _ => by exact pe_ix ix_list (pv 0) (pv 3) (fun _ _ => rfl)))
      (pss_cons (ps_setLc (i := 2) (own := [("k", 3)]) (g := gName 3) (tt := tYes) (te := tOp (rIxL K) (tVar 0) (tVar 3)) rfl sc_are_racks.nd rfl rfl (sw_true rfl rfl rfl (by decide +kernel)) (pi_range3 rfl T.w_range (pa_cons pe_int (pa_cons (pe_callB call_len_seq (by rfl) T.w_len PySem.boot_len (pa_cons (pv 0) pa_nil)) (pa_cons pe_int pa_nil)))) (blkOk_by (N := ["row", "hooks", "steps", "k", "many", "first"]) (sc := defScope s_are_racks) (by decide +kernel))
        (fun _ _ _ _ _ => pg_name (i := 3) sc_are_racks.nd rfl (Or.inl rfl)) (fun _ _ _ _ _ => pts_nil) (fun _ _ _ _ _ => by exact pe_ix ix_list (pv 0) (pv 3) (fun _ _ => rfl)))
      (pss_one (ps_ret (pe_and (pe_callB (cr_all rfl) (by rfl) T.w_all (by decide +kernel) (pa_cons (pe_lc (own := [("many", 4)]) (g := gName 4) (tt := tYes) (te := tChain (rI0 fun i j => .bl (decide (i ≤ j))) (rI0 fun i j => .bl (decide (i ≤ j))) (tC (.int 1)) (tVar 4) (tC (.int 30))) rfl sc_are_racks.nd (pi_list (pv 1)) (blkOk_by (N := ["row", "hooks", "steps", "k", "many", "first"]) (sc := defScope s_are_racks) (by decide +kernel))
          (fun _ _ _ _ _ => pg_name (i := 4) sc_are_racks.nd rfl (Or.inl rfl)) (fun _ _ _ _ _ => pts_nil) (fun _ _ _ _ _ => by exact pe_chain op_le op_le pe_int (pv 4) pe_int)) pa_nil))
        (pe_one (pe_callB (cr_all rfl) (by rfl) T.w_all (by decide +kernel) (pa_cons (pe_lc (own := [("first", 5)]) (g := gName 5) (tt := tYes) (te := tOp (rI0 fun i j => .bl (decide (i ≤ j))) (tVar 5) (tC (.int 100))) rfl sc_are_racks.nd (pi_list (pv 2)) (blkOk_by (N := ["row", "hooks", "steps", "k", "many", "first"]) (sc := defScope s_are_racks) (by decide +kernel))
          (fun _ _ _ _ _ => pg_name (i := 5) sc_are_racks.nd rfl (Or.inl rfl)) (fun _ _ _ _ _ => pts_nil) (fun _ _ _ _ _ => by exact pe_cmpR op_le (pv 5) pe_int (nomark _))) pa_nil)))))))), ?_⟩
    obtain ⟨ps, hps⟩ : ∃ ps, Mu10Neutral.pairs ns = ps := ⟨_, rfl⟩
    have hpp := pairs_at m ns hlen
    rw [hps] at hpp Qh
    obtain ⟨hpl, hpa⟩ := hpp
    refine ⟨_, rfl, r, _, rfl, .inl (SqL.of hr1), _, _, rfl, rfl, _, rfl, ?_⟩
    rw [List.length_map, hlen]
    by_cases c0 : m = 0
    · refine if_true_of (decide_eq_true (by omega)) (iteT ?_)
      have e : racksOk ps = false := by
        have : ps = [] := List.length_eq_zero_iff.mp (by omega)
        rw [this]; rfl
      rw [e] at Qh
      exact Qh H (Same.refl H)
    refine if_false_of (decide_eq_false (by omega)) ?_
    refine ⟨_, rfl, r, _, rfl, .inl (SqL.of hr1), _, _, rfl, rfl, _, rfl, ?_⟩
    rw [List.length_map, hlen]
    by_cases c6 : 6 < m
    · refine if_true_of (decide_eq_true (by omega)) ?_
      have e : racksOk ps = false := by
        unfold racksOk
        rw [decide_eq_false (show ¬ ps.length ≤ 6 by omega), Bool.and_false, Bool.false_and]
      rw [e] at Qh
      exact Qh H (Same.refl H)
    refine if_false_of (decide_eq_false (by omega)) ?_
    have hbase : (!ps.isEmpty && decide (ps.length ≤ 6)) = true := by
      cases hq : ps with
      | nil => rw [hq] at hpl; exact absurd hpl.symm c0
      | cons a l => rw [← hq, decide_eq_true (show ps.length ≤ 6 by omega), hq]; rfl
    -- hooks
    refine ⟨_, rfl, r, _, rfl, .inl (SqL.of hr1), 0, ((ns.map nV).length : Int), 2, m, rfl, by rw [List.length_map, hlen]; exact rg_even ⟨m, by omega⟩, fun d1 hd1 => ?_⟩
    refine lc_it walk_rangeC (fun i H' => Same H H' ∧ H' d1 = some (.lst ((ps.take i).map fun p => nV p.1))) ⟨Same.new hd1, upd_same⟩ (fun _ _ _ _ => trivial) ?_ ?_
    · rintro i y H1 H2 hi ⟨s1, e1⟩ ⟨rfl, rfl⟩
      refine ⟨rfl, yes_of ?_⟩
      obtain ⟨p, hp⟩ : ∃ p, ps[i]? = some p := ⟨_, List.getElem?_eq_getElem (show i < ps.length by omega)⟩
      refine ⟨_, rfl, _, rfl, r, _, _, _, rfl, rfl, SqL.of (s1 _ _ hr1), at_sum (at_map (hpa i p hp).1) (by show (0 : Int) + (i : Nat) * 2 = ((2 * i : Nat) : Int); omega), ?_⟩
      refine ⟨_, e1, by rw [List.length_map, List.length_take]; exact lt_line (by omega), fun b u h => ?_, ?_⟩
      · rw [upd_ne (ne_of_none h hd1)]; exact s1 _ _ h
      · rw [upd_same, take_map_snoc hp]
    rintro H1 ⟨s1, e1⟩
    rw [← hpl, List.take_length] at e1
    -- steps
    have hr2 := s1 _ _ hr1
    refine ⟨_, rfl, r, _, rfl, .inl (SqL.of hr2), 1, ((ns.map nV).length : Int), 2, m, rfl, by rw [List.length_map, hlen]; exact rg_odd ⟨m, by omega⟩, fun d2 hd2 => ?_⟩
    refine lc_it walk_rangeC (fun i H' => Same H1 H' ∧ H' d2 = some (.lst ((ps.take i).map fun p => nV p.2))) ⟨Same.new hd2, upd_same⟩ (fun _ _ _ _ => trivial) ?_ ?_
    · rintro i y H2 H3 hi ⟨s2, e2⟩ ⟨rfl, rfl⟩
      refine ⟨rfl, yes_of ?_⟩
      obtain ⟨p, hp⟩ : ∃ p, ps[i]? = some p := ⟨_, List.getElem?_eq_getElem (show i < ps.length by omega)⟩
      refine ⟨_, rfl, _, rfl, r, _, _, _, rfl, rfl, SqL.of (s2 _ _ hr2), at_sum (at_map (hpa i p hp).2) (by show (1 : Int) + (i : Nat) * 2 = ((2 * i + 1 : Nat) : Int); omega), ?_⟩
      refine ⟨_, e2, by rw [List.length_map, List.length_take]; exact lt_line (by omega), fun b u h => ?_, ?_⟩
      · rw [upd_ne (ne_of_none h hd2)]; exact s2 _ _ h
      · rw [upd_same, take_map_snoc hp]
    rintro H2 ⟨s2, e2⟩
    rw [← hpl, List.take_length] at e2
    have e12 := s2 _ _ e1
    -- all of the hooks
    refine ⟨_, rfl, d1, rfl, ⟨_, SqL.of e12⟩, fun d3 hd3 => ?_⟩
    refine lc_list (K := K) (a := d1) (xs := ps.map fun p => nV p.1) (fun i H' => Same H2 H' ∧ H' d3 = some (.lst (((ps.take i).map fun p => decide (1 ≤ p.1) && decide (p.1 ≤ 30)).map V.bl))) ⟨Same.new hd3, upd_same⟩ (fun i H' _ q => SqL.of (q.1 _ _ e12)) ?_ ?_
    · rintro i y H3 hi ⟨s3, e3⟩
      obtain ⟨p, hp, rfl⟩ := map_at hi
      refine ⟨rfl, yes_of ?_⟩
      have fin : ∀ b : Bool, b = (decide (1 ≤ p.1) && decide (p.1 ≤ 30)) → ∃ acc, H3 d3 = some (.lst acc) ∧ acc.length < sizeLine ∧ (Same H2 (upd H3 d3 (.lst (acc ++ [.bl b]))) ∧ upd H3 d3 (.lst (acc ++ [.bl b])) d3 = some (.lst (((ps.take (i + 1)).map fun p => decide (1 ≤ p.1) && decide (p.1 ≤ 30)).map V.bl))) := fun b hb => by
        refine ⟨_, e3, by rw [List.length_map, List.length_map, List.length_take]; exact lt_line (by omega), fun a u h => ?_, ?_⟩
        · rw [upd_ne (ne_of_none h hd3)]; exact s3 _ _ h
        · rw [upd_same, take_map_snoc hp, List.map_append, hb]; rfl
      refine ⟨_, rfl, _, _, rfl, rfl, _, rfl, ?_⟩
      by_cases c1 : 1 ≤ p.1
      · refine if_true_of (decide_eq_true (by omega)) ?_
        refine ⟨_, _, rfl, rfl, fin _ ?_⟩
        rw [decide_eq_true c1, Bool.true_and]
        exact decide_eq_decide.mpr (by omega)
      · refine if_false_of (decide_eq_false (by omega)) (fin _ ?_)
        rw [decide_eq_false c1, Bool.false_and]
    rintro H3 ⟨s3, e3⟩
    rw [List.length_map, List.take_length] at e3
    refine ⟨d3, _, rfl, SqL.of e3, _, rfl, ?_⟩
    have eall : ∀ f : Nat × Nat → Bool, (ps.map f).all id = ps.all f := fun f => by rw [List.all_map]; rfl
    rw [eall]
    have s23 := s2.trans s3
    have s123 := s1.trans s23
    unfold racksOk at Qh
    rw [hbase, Bool.true_and] at Qh
    cases hA : (ps.all fun p => decide (1 ≤ p.1) && decide (p.1 ≤ 30)) with
    | false =>
      rw [hA, Bool.false_and] at Qh
      exact iteF (Qh H3 s123)
    | true =>
      rw [hA, Bool.true_and] at Qh
      refine iteT ?_
      have e23 := s3 _ _ e2
      refine ⟨_, rfl, d2, rfl, ⟨_, SqL.of e23⟩, fun d4 hd4 => ?_⟩
      refine lc_list (K := K) (a := d2) (xs := ps.map fun p => nV p.2) (fun i H' => Same H3 H' ∧ H' d4 = some (.lst (((ps.take i).map fun p => decide (p.2 ≤ 100)).map V.bl))) ⟨Same.new hd4, upd_same⟩ (fun i H' _ q => SqL.of (q.1 _ _ e23)) ?_ ?_
      · rintro i y H4 hi ⟨s4, e4⟩
        obtain ⟨p, hp, rfl⟩ := map_at hi
        refine ⟨rfl, yes_of ?_⟩
        refine ⟨_, rfl, _, _, rfl, rfl, ?_⟩
        refine ⟨_, e4, by rw [List.length_map, List.length_map, List.length_take]; exact lt_line (by omega), fun a u h => ?_, ?_⟩
        · rw [upd_ne (ne_of_none h hd4)]; exact s4 _ _ h
        · have e : decide ((p.2 : Int) ≤ 100) = decide (p.2 ≤ 100) := decide_eq_decide.mpr (by omega)
          rw [upd_same, take_map_snoc hp, List.map_append]
          exact congrArg (fun z => some (HO.lst (_ ++ [V.bl z]))) e
      rintro H4 ⟨s4, e4⟩
      rw [List.length_map, List.take_length] at e4
      refine ⟨d4, _, rfl, SqL.of e4, ?_⟩
      rw [eall]
      exact Qh H4 (s123.trans s4)
/-! ### refusals -/
def sp_refused (D : Ads) : Sp := fun vs H Q _ => ∃ (a : Addr) (z : Int), vs = [.ref a, .int z] ∧ H a = some (exo a D.c_Refused none) ∧ ∀ dx, H dx = none → dx ≠ a → Q .non (upd (upd H dx (exd dx [("code", .int z)])) a (exo a D.c_Refused (some dx)))
theorem ok_refused (T : Txt K mg D) : FnOk P w K mg base CX0 1 D.f_Refused_init D.d_Refused_init ["self", "code"] (sp_refused D) := by
  refine T.F_Refused_init.ok sc_Refused_init (fun vs H Q E h => ?_) (fun cdv A outer s H vs Q E hr h => ?_)
  · obtain ⟨a, z, rfl, _⟩ := h
    rfl
  · obtain ⟨a, z, rfl, ha, Qh⟩ := h
    refine ⟨_, pss_cons (ps_expr (pe_veinit (by rfl) T.w_ValueError T.vV (pa_cons (pv 0) (pa_cons pe_str pa_nil)))) (pss_one (ps_ost (pv 0) (pv 1))), ?_⟩
    refine ⟨_, rfl, a, D.c_Refused, _, rfl, by show 1 ≤ 1000; decide, T.oex, ha, ?_⟩
    exact ⟨_, rfl, _, rfl, a, D.c_Refused, rfl, T.oex, T.nCode, .inl ⟨ha, fun dx hdx hne => Qh dx hdx hne⟩⟩
/-- the heap behind a refusal -/
def refH (H : Hp) (d : Addr) (z : Int) : Hp := upd H d (.xd [("code", .int z)])
def sp_want (D : Ads) : Sp := fun vs H Q E => ∃ (b : Bool) (z : Int), vs = [.bl b, .int z] ∧ (b = true → Q .non H) ∧ (b = false → ∀ d, H d = none → E (.ref D.c_Refused) (some d) (refH H d z))
theorem ok_want (T : Txt K mg D) : FnOk P w K mg base (L2.CX P w) 3 D.f_want D.d_want ["truth", "code"] (sp_want D) := by
  have GR : FnOk P w K mg base CX0 1 D.f_Refused_init D.d_Refused_init ["self", "code"] (sp_refused D) := ok_refused T
  refine T.F_want.okX sc_want (fun vs H Q E h => ?_) (fun cdv A outer s H vs Q E hr h => ?_)
  · obtain ⟨b, z, rfl, _⟩ := h
    rfl
  · obtain ⟨b, z, rfl, q1, q2⟩ := h
    refine ⟨_, pss_one (ps_if (pt_not (pt_val (pv 0))) (pss_one (ps_raise rfl (takes_of rfl rfl rfl rfl) (pmk_oex T.oex T.iC T.tI GR hr T.b_Refused_init .nil pass0 rfl T.g_Refused (by exact pa_cons (pv 1) pa_nil)))) pss_nil), ?_⟩
    refine ⟨_, rfl, _, rfl, ?_⟩
    cases b with
    | true => exact iteF (q1 rfl)
    | false =>
      refine iteT ⟨_, rfl, by show 1 ≤ 1000; decide, fun a ha => ⟨a, z, rfl, upd_same, fun dx hdx hne => ⟨rfl, dx, [("code", .int z)], upd_same, ?_, ?_, ?_⟩⟩⟩
      · rw [upd_ne hne, upd_same]
      · rw [upd_ne hne] at hdx; exact hdx
      · rw [upd_ne hne] at hdx
        have e := q2 rfl dx hdx
        have eh : refH H dx z = upd (del (upd (upd (upd H a (exo a D.c_Refused none)) dx (exd dx [("code", .int z)])) a (exo a D.c_Refused (some dx))) a) dx (.xd [("code", .int z)]) := by
          funext b
          unfold refH
          by_cases hb : b = dx
          · rw [hb, upd_same, upd_same]
          · rw [upd_ne hb, upd_ne hb]
            by_cases hba : b = a
            · rw [hba, del_same, ha]
            · rw [del_ne hba, upd_ne hba, upd_ne hb, upd_ne hba]
        rw [eh] at e
        exact e
end
end Ck
end
section
set_option Elab.async false
set_option linter.all false
set_option maxRecDepth 100000
set_option maxHeartbeats 4000000
/-! The room: what a call leaves; its helpers. -/
namespace Ck
open PySem PySem.Spec PyProof.Rows L2
open Mu10 (State Coat Rack Spot)
/-- what is kept by a call on a room: all but instances and the room's own lists -/
structure Fr (d : RmA) (H H' : Hp) : Prop where
  keep : ∀ b o, H b = some o → (∀ C dx fs, o ≠ HO.ins C dx fs) → b ∉ d.ls → H' b = some o
  still : ∀ b o, H b = some o → ∃ o', H' b = some o'
theorem Fr.same {d : RmA} {H H' : Hp} (s : Same H H') : Fr d H H' := ⟨fun b o e _ _ => s b o e, fun b o e => ⟨o, s b o e⟩⟩
theorem Fr.of_kp {d : RmA} {H H' : Hp} {X : Addr → Prop} (k : Kp X H H') (h1 : ∀ b, X b → (∃ C dx fs, H b = some (.ins C dx fs)) ∨ b ∈ d.ls ∨ H b = none) (h2 : ∀ b, X b → ∃ o', H' b = some o') : Fr d H H' := by
  refine ⟨fun b o e n m => k b o e fun z => ?_, fun b o e => ?_⟩
  · rcases h1 b z with ⟨C, dx, fs, q⟩ | q | q
    · rw [e] at q
      exact n C dx fs (Option.some.inj q)
    · exact m q
    · rw [e] at q; cases q
  · by_cases z : X b
    · exact h2 b z
    · exact ⟨o, k b o e z⟩
structure Stp (D : Ads) (a : Addr) (d d' : RmA) (H H' : Hp) (m : MS) : Prop where
  room : RoomP D H' a m d'
  fr : Fr d H H'
  sub : ∀ b ∈ d'.ls, b ∈ d.ls ∨ H b = none
theorem RoomP.lst {D : Ads} {H : Hp} {a : Addr} {m : MS} {d : RmA} (R : RoomP D H a m d) {b : Addr} (h : b ∈ d.ls) : ∃ xs, H b = some (.lst xs) := by
  unfold RmA.ls at h
  simp only [List.mem_cons] at h
  rcases h with z | z | z | z | z
  · rw [z]; exact ⟨_, R.rk.hk⟩
  · rw [z]; exact ⟨_, R.cl⟩
  · rw [z]; exact ⟨_, R.km⟩
  · rw [z]; exact ⟨_, R.rk.ra⟩
  · obtain ⟨j, hj⟩ := List.getElem?_of_mem z
    obtain ⟨_, _, q⟩ := R.rk.rows.back hj
    exact ⟨_, q⟩
theorem RmA.sub_r {H : Hp} {d : RmA} {r : RkA} (e1 : r.ra = d.r.ra) (e2 : r.hk = d.r.hk ∨ H r.hk = none) (e3 : ∀ x ∈ r.rows, x ∈ d.r.rows ∨ H x = none) : ∀ b ∈ ({ d with r := r } : RmA).ls, b ∈ d.ls ∨ H b = none := by
  intro b hb
  unfold RmA.ls at hb ⊢
  simp only [List.mem_cons] at hb ⊢
  rcases hb with z | z | z | z | z
  · rcases e2 with q | q
    · left; left; rw [z, q]
    · right; rw [z]; exact q
  · left; right; left; exact z
  · left; right; right; left; exact z
  · left; right; right; right; left; rw [z, e1]
  · rcases e3 b z with q | q
    · left; right; right; right; right; exact q
    · right; exact q
theorem Stp.trans {D : Ads} {a : Addr} {d d1 d2 : RmA} {H H1 H2 : Hp} {m1 m2 : MS} (s1 : Stp D a d d1 H H1 m1) (s2 : Stp D a d1 d2 H1 H2 m2) : Stp D a d d2 H H2 m2 := by
  refine ⟨s2.room, ⟨fun b o e n m => s2.fr.keep b o (s1.fr.keep b o e n m) n fun z => ?_, fun b o e => ?_⟩, fun b hb => ?_⟩
  · rcases s1.sub b z with q | q
    · exact m q
    · rw [e] at q; cases q
  · obtain ⟨o', e'⟩ := s1.fr.still b o e
    exact s2.fr.still b o' e'
  · rcases s2.sub b hb with q | q
    · exact s1.sub b q
    · right
      cases e : H b with
      | none => rfl
      | some o =>
        obtain ⟨o', e'⟩ := s1.fr.still b o e
        rw [q] at e'; cases e'
theorem Stp.more {D : Ads} {a : Addr} {d d1 : RmA} {H H1 H2 : Hp} {m1 : MS} (s1 : Stp D a d d1 H H1 m1) (s : Same H1 H2) : Stp D a d d1 H H2 m1 :=
  s1.trans ⟨s1.room.same s, Fr.same s, fun b hb => .inl hb⟩
theorem Stp.start {D : Ads} {a : Addr} {d : RmA} {H : Hp} {m : MS} (h : RoomP D H a m d) : Stp D a d d H H m := ⟨h, Fr.same (Same.refl H), fun b hb => .inl hb⟩
def After (D : Ads) (a : Addr) (d : RmA) (H H' : Hp) (s : State) : Prop := ∃ d', Stp D a d d' H H' (ofS s)
/-- what a call is answered with -/
def Ans (D : Ads) (a : Addr) (s : State) (d : RmA) (c : Mu10.Call) (H : Hp) (Q : VK) (E : XK) : Prop :=
  (∀ H' dx z, Mu10.step s c = (s, [z]) → After D a d H H' s → H dx = none → H' dx = some (.xd [("code", .int z)]) → E (.ref D.c_Refused) (some dx) H') ∧
  (∀ H' p, After D a d H H' (Mu10.step s c).1 → H p = none → H' p = some (.lst ((Mu10.step s c).2.map V.int)) → Q (.ref p) H')
/-- a refusal, from a step that left the room as it was -/
theorem Ans.no {D : Ads} {a : Addr} {s : State} {d d1 : RmA} {c : Mu10.Call} {H H1 : Hp} {Q : VK} {E : XK} (h : Ans D a s d c H Q E) {z : Int} (e : Mu10.step s c = (s, [z])) (S : Stp D a d d1 H H1 (ofS s)) {dx : Addr} (hd : H1 dx = none) : E (.ref D.c_Refused) (some dx) (refH H1 dx z) := by
  refine h.1 _ dx z e ⟨d1, S.more (Same.new hd)⟩ ?_ upd_same
  cases q : H dx with
  | none => rfl
  | some o =>
    obtain ⟨o', e'⟩ := S.fr.still dx o q
    rw [hd] at e'; cases e'
theorem Stp.free {D : Ads} {a : Addr} {d d1 : RmA} {H H1 : Hp} {m : MS} (S : Stp D a d d1 H H1 m) {p : Addr} (h : H1 p = none) : H p = none := by
  cases q : H p with
  | none => rfl
  | some o =>
    obtain ⟨o', e'⟩ := S.fr.still p o q
    rw [h] at e'; cases e'
theorem hooks_empty (rs : List Rack) : hooksOf { Mu10.none_ with racks := rs } = emptyHooks rs := by
  unfold hooksOf emptyHooks
  apply List.ext_getElem?
  intro r
  rw [List.getElem?_map, List.getElem?_map]
  show Option.map _ (List.range rs.length)[r]? = _
  by_cases h : r < rs.length
  · rw [List.getElem?_range h, List.getElem?_eq_getElem h]
    show some (rowOf _ r) = some _
    refine congrArg some ?_
    unfold rowOf
    have e : Mu10.rackOf { Mu10.none_ with racks := rs } r = rs[r] := by
      unfold Mu10.rackOf
      rw [List.getD_eq_getElem?_getD, List.getElem?_eq_getElem h]; rfl
    rw [e]
    apply List.ext_getElem?
    intro i
    rw [List.getElem?_map, List.getElem?_replicate]
    by_cases hi : i < rs[r].hooks
    · rw [List.getElem?_range hi, if_pos hi]; rfl
    · rw [List.getElem?_eq_none (by simpa using hi), if_neg hi]; rfl
  · rw [List.getElem?_eq_none (by simpa using h), List.getElem?_eq_none (by simpa using h)]; rfl
section
variable {P : Program} {w : World} {K : PySem.W.Frag} {mg : Str → Option Value} {base : Heap} {D : Ads}
def sp_room_init (D : Ads) : Sp := fun vs H Q _ => ∃ (p dx ra : Addr) (ts : List Addr) (rs : List Rack), vs = [.ref p, .ref ra] ∧ H p = some (.ins D.c_Cloakroom dx []) ∧ H ra = some (.lst (ts.map V.ref)) ∧ Al (TupAt H) rs ts ∧ (∀ k ∈ rs, k.hooks ≤ 30) ∧ rs.length ≤ 6 ∧
  ∀ H' d, RoomP D H' p (ofS { Mu10.none_ with racks := rs }) d → (∀ b ∈ d.ls, b = ra ∨ H b = none) → Kp (fun b => b = p) H H' → Q .non H'
theorem ok_room_init (T : Txt K mg D) : FnOk P w K mg base CX0 3 D.f_Cloakroom_init D.d_Cloakroom_init ["self", "racks"] (sp_room_init D) := by
  refine T.F_Cloakroom_init.ok sc_Cloakroom_init (fun vs H Q E h => ?_) (fun cdv A outer s H vs Q E hr h => ?_)
  · obtain ⟨p, dx, ra, ts, rs, rfl, _⟩ := h
    rfl
  · obtain ⟨p, dx, ra, ts, rs, rfl, hp, hra, hts, h30, h6, Qh⟩ := h
    have GI : FnOk P w K mg base CX0 1 D.f_Racks_init D.d_Racks_init ["self", "racks"] (sp_Racks_init D) := ok_Racks_init T
    refine ⟨_, pss_cons (ps_fld (pv 0) (pe_make T.mk_Racks GI hr rfl T.g_Racks T.b_Racks_init .nil pass0 (pa_cons (pv 1) pa_nil)) rfl)
      (pss_cons (ps_fld (pv 0) (pe_lst pa_nil) rfl) (pss_cons (ps_fld (pv 0) (pe_lst pa_nil) rfl) (pss_cons (ps_fld (pv 0) pe_int rfl) (pss_one (ps_fld (pv 0) pe_int rfl))))), ?_⟩
    refine ⟨_, rfl, fun y dy ny ndy nyd => ?_⟩
    have s0 : Same H (upd (upd H dy (.own y)) y (.ins D.c_Racks dy [])) := fun b o h => by
      rw [upd_ne (ne_of_none h ny), upd_ne (ne_of_none h ndy)]; exact h
    have ey : upd (upd H dy (.own y)) y (.ins D.c_Racks dy []) y = some (.ins D.c_Racks dy []) := upd_same
    generalize upd (upd H dy (.own y)) y (.ins D.c_Racks dy []) = H0 at s0 ey ⊢
    refine ⟨y, dy, ra, ts, rs, rfl, ey, s0 _ _ hra, hts.mono (fun _ _ _ _ h => s0 _ _ h), h30, h6, fun H2 d2 R2 era fhk frw k2 => ⟨rfl, ?_⟩⟩
    have s2 : Same H H2 := fun b o h => k2 b o (s0 _ _ h) (ne_of_none h ny)
    have fhkH : H d2.hk = none := s0.frees fhk
    have hp2 := s2 _ _ hp
    refine ⟨_, rfl, p, D.c_Cloakroom, dx, _, rfl, hp2, T.cl_Cloakroom, T.n_Cloakroom_racks, by show 0 < 1000; decide, ?_⟩
    rw [nw_Cloakroom_0]
    -- H3: with the racks
    have np : ∀ {b : Addr} {xs : List V}, H2 b = some (.lst xs) → b ≠ p := fun e => lst_ne_ins e hp2
    have nt : ∀ {b : Addr} {xs : List V}, H2 b = some (.tup xs) → b ≠ p := fun e => tup_ne_ins e hp2
    have nyp : y ≠ p := fun z => ne_of_none hp ny z.symm
    have k3 : Kp (fun b => b = p) H2 (upd H2 p (.ins D.c_Cloakroom dx [("racks", .ref y)])) := kp_upd
    have R3 : RkP D (upd H2 p (.ins D.c_Cloakroom dx [("racks", .ref y)])) y rs (emptyHooks rs) d2 := R2.keep (X := fun b => b = p) kp_upd nyp (np R2.ra) (np R2.hk) (fun r m => by
      obtain ⟨j, hj⟩ := List.getElem?_of_mem m
      obtain ⟨_, _, h⟩ := R2.rows.back hj
      exact np h) (fun t xs e => nt e)
    have ep3 : upd H2 p (.ins D.c_Cloakroom dx [("racks", .ref y)]) p = some (.ins D.c_Cloakroom dx [("racks", .ref y)]) := upd_same
    have k3H : Kp (fun b => b = p) H (upd H2 p (.ins D.c_Cloakroom dx [("racks", .ref y)])) := fun b o h n => k3 b o (s2 _ _ h) n
    generalize upd H2 p (.ins D.c_Cloakroom dx [("racks", .ref y)]) = H3 at R3 ep3 k3H ⊢
    -- coats
    refine ⟨Nat.zero_le _, fun cl hcl => ?_⟩
    have S4 := Same.new (o := .lst []) hcl
    have ecl : upd H3 cl (.lst []) cl = some (.lst []) := upd_same
    generalize upd H3 cl (.lst []) = H4 at S4 ecl ⊢
    have R4 := R3.same S4
    have ep4 := S4 _ _ ep3
    refine ⟨_, rfl, p, D.c_Cloakroom, dx, _, rfl, ep4, T.cl_Cloakroom, T.n_Cloakroom_coats, by show 1 < 1000; decide, ?_⟩
    rw [nw_Cloakroom_1]
    have keepP : ∀ {H' : Hp} {o : HO} {d : RkA} {C dx' : Addr} {fs : List (Str × V)}, RkP D H' y rs (emptyHooks rs) d → H' p = some (.ins C dx' fs) → RkP D (upd H' p o) y rs (emptyHooks rs) d := fun {H' o d C dx' fs} R e => R.keep (X := fun b => b = p) kp_upd nyp (lst_ne_ins R.ra e) (lst_ne_ins R.hk e) (fun r m => by
      obtain ⟨j, hj⟩ := List.getElem?_of_mem m
      obtain ⟨_, _, h⟩ := R.rows.back hj
      exact lst_ne_ins h e) (fun t xs q => tup_ne_ins q e)
    have R5 := keepP (o := .ins D.c_Cloakroom dx [("racks", .ref y), ("coats", .ref cl)]) R4 ep4
    have ncl : cl ≠ p := lst_ne_ins ecl ep4
    have ecl5 : upd H4 p (.ins D.c_Cloakroom dx [("racks", .ref y), ("coats", .ref cl)]) cl = some (.lst []) := by rw [upd_ne ncl]; exact ecl
    have ep5 : upd H4 p (.ins D.c_Cloakroom dx [("racks", .ref y), ("coats", .ref cl)]) p = some (.ins D.c_Cloakroom dx [("racks", .ref y), ("coats", .ref cl)]) := upd_same
    have k5H : Kp (fun b => b = p) H (upd H4 p (.ins D.c_Cloakroom dx [("racks", .ref y), ("coats", .ref cl)])) := fun b o h n => by rw [upd_ne n]; exact S4 _ _ (k3H b o h n)
    have fcl : H cl = none := by
      cases q : H cl with
      | none => rfl
      | some o =>
        by_cases z : cl = p
        · exact absurd z ncl
        · have := k3H cl o q z
          rw [hcl] at this; cases this
    generalize upd H4 p (.ins D.c_Cloakroom dx [("racks", .ref y), ("coats", .ref cl)]) = H5 at R5 ecl5 ep5 k5H ⊢
    -- claims
    refine ⟨Nat.zero_le _, fun km hkm => ?_⟩
    have S6 := Same.new (o := .lst []) hkm
    have ekm : upd H5 km (.lst []) km = some (.lst []) := upd_same
    generalize upd H5 km (.lst []) = H6 at S6 ekm ⊢
    have R6 := R5.same S6
    have ep6 := S6 _ _ ep5
    have ecl6 := S6 _ _ ecl5
    have nkm : km ≠ p := lst_ne_ins ekm ep6
    have fkm : H km = none := by
      cases q : H km with
      | none => rfl
      | some o =>
        have := k5H km o q nkm
        rw [hkm] at this; cases this
    have n1 : cl ≠ km := ne_of_none ecl5 hkm
    refine ⟨_, rfl, p, D.c_Cloakroom, dx, _, rfl, ep6, T.cl_Cloakroom, T.n_Cloakroom_claims, by show 2 < 1000; decide, ?_⟩
    rw [nw_Cloakroom_2]
    have R7 := keepP (o := .ins D.c_Cloakroom dx [("racks", .ref y), ("coats", .ref cl), ("claims", .ref km)]) R6 ep6
    refine ⟨_, rfl, p, D.c_Cloakroom, dx, _, rfl, upd_same, T.cl_Cloakroom, T.n_Cloakroom_time, by show 3 < 1000; decide, ?_⟩
    rw [upd_upd, nw_Cloakroom_3]
    refine ⟨_, rfl, p, D.c_Cloakroom, dx, _, rfl, upd_same, T.cl_Cloakroom, T.n_Cloakroom_walked, by show 4 < 1000; decide, ?_⟩
    rw [upd_upd, nw_Cloakroom_4]
    have R8 := keepP (o := .ins D.c_Cloakroom dx (F_Cloakroom (.ref y) (.ref cl) (.ref km) (.int 0) (.int 0))) R6 ep6
    refine Qh _ ⟨dx, y, cl, km, [], [], d2⟩ ⟨upd_same, by rw [show (ofS { Mu10.none_ with racks := rs }).hooks = emptyHooks rs from hooks_empty rs]; exact R8, ?_, Al.nil, List.nodup_nil, ?_, Al.nil, List.nodup_nil, n1, ⟨fun z => ?_, fun z => ?_⟩, ⟨fun z => ?_, fun z => ?_⟩, fun r hr' => ⟨fun z => ?_, fun z => ?_⟩⟩ (fun b hb => ?_) (fun b o h n => ?_)
    · show upd H6 p _ cl = _
      rw [upd_ne ncl]; exact ecl6
    · show upd H6 p _ km = _
      rw [upd_ne nkm]; exact ekm
    · exact ne_of_none R3.hk hcl z.symm
    · exact ne_of_none R5.hk hkm z.symm
    · exact ne_of_none R3.ra hcl z.symm
    · exact ne_of_none R5.ra hkm z.symm
    · obtain ⟨j, hj⟩ := List.getElem?_of_mem hr'
      obtain ⟨_, _, h⟩ := R3.rows.back hj
      exact ne_of_none h hcl z
    · obtain ⟨j, hj⟩ := List.getElem?_of_mem hr'
      obtain ⟨_, _, h⟩ := R5.rows.back hj
      exact ne_of_none h hkm z
    · unfold RmA.ls at hb
      simp only [List.mem_cons] at hb
      rcases hb with z | z | z | z | z
      · right; rw [z]; exact fhkH
      · right; rw [z]; exact fcl
      · right; rw [z]; exact fkm
      · left; rw [z]; exact era
      · right; exact s0.frees (frw b z)
    · rw [upd_ne n]; exact S6 _ _ (k5H b o h n)
/-! ### coats and claims by their numbers -/
def sp_coat_of (D : Ads) : Sp := fun vs H Q E => ∃ (a : Addr) (m : MS) (d : RmA) (t : Nat), vs = [.ref a, nV t] ∧ RoomP D H a m d ∧ (m.coats[t]? = none → ∀ dx, H dx = none → E (.ref D.c_Refused) (some dx) (refH H dx (-2))) ∧ (∀ c x, m.coats[t]? = some c → d.co[t]? = some x → Q (.ref x) H)
theorem ok_coat_of (T : Txt K mg D) : FnOk P w K mg base (L2.CX P w) 4 D.f_Cloakroom_coat_of D.d_Cloakroom_coat_of ["self", "ticket"] (sp_coat_of D) := by
  have GW : FnOk P w K mg base (L2.CX P w) 3 D.f_want D.d_want ["truth", "code"] (sp_want D) := ok_want T
  refine T.F_Cloakroom_coat_of.okX sc_Cloakroom_coat_of (fun vs H Q E h => ?_) (fun cdv A outer s H vs Q E hr h => ?_)
  · obtain ⟨a, m, d, t, rfl, _⟩ := h
    rfl
  · obtain ⟨a, m, d, t, rfl, R, q1, q2⟩ := h
    refine ⟨_, pss_cons (ps_expr (pe_call GW hr rfl T.g_want T.F_want.kp T.b_want .nil (passes_call (takes_of rfl rfl rfl rfl) (fun _ _ _ _ h => h)) (pa_cons (pe_cmpR op_lt (pv 1) (pe_callB call_len_seq (by rfl) T.w_len PySem.boot_len (pa_cons (pe_fld (pv 0) rfl) pa_nil)) (nomark _)) (pa_cons (pe_num T.k_NO_SUCH) pa_nil))))
      (pss_one (ps_ret (pe_ix ix_list (pe_fld (pv 0) rfl) (pv 1) (fun _ _ => rfl)))), ?_⟩
    refine ⟨_, rfl, _, rfl, a, _, d.dx, _, _, rfl, R.ins, T.cl_Cloakroom, T.n_Cloakroom_coats, lk_Cloakroom_coats, d.cl, _, rfl, .inl (SqL.of R.cl), _, _, rfl, rfl, _, _, rfl, fun hb => ?_, fun hb dx hdx => q1 ?_ dx hdx⟩
    · rw [List.length_map, R.co.1, decide_eq_true_eq] at hb
      have hlt : t < m.coats.length := by omega
      obtain ⟨x, hx, _⟩ := R.co.2 t _ (List.getElem?_eq_getElem hlt)
      exact ⟨_, rfl, a, _, d.dx, _, _, rfl, R.ins, T.cl_Cloakroom, T.n_Cloakroom_coats, lk_Cloakroom_coats, _, rfl, d.cl, _, _, _, rfl, rfl, SqL.of R.cl, atI_nat (at_map hx), q2 _ x (List.getElem?_eq_getElem hlt) hx⟩
    · rw [List.length_map, R.co.1, decide_eq_false_iff_not] at hb
      exact List.getElem?_eq_none (by omega)
def sp_claim_of (D : Ads) : Sp := fun vs H Q E => ∃ (a : Addr) (m : MS) (d : RmA) (t : Nat), vs = [.ref a, nV t] ∧ RoomP D H a m d ∧ (m.claims[t]? = none → ∀ dx, H dx = none → E (.ref D.c_Refused) (some dx) (refH H dx (-2))) ∧ (∀ c x, m.claims[t]? = some c → d.ks[t]? = some x → Q (.ref x) H)
theorem ok_claim_of (T : Txt K mg D) : FnOk P w K mg base (L2.CX P w) 4 D.f_Cloakroom_claim_of D.d_Cloakroom_claim_of ["self", "number"] (sp_claim_of D) := by
  have GW : FnOk P w K mg base (L2.CX P w) 3 D.f_want D.d_want ["truth", "code"] (sp_want D) := ok_want T
  refine T.F_Cloakroom_claim_of.okX sc_Cloakroom_claim_of (fun vs H Q E h => ?_) (fun cdv A outer s H vs Q E hr h => ?_)
  · obtain ⟨a, m, d, t, rfl, _⟩ := h
    rfl
  · obtain ⟨a, m, d, t, rfl, R, q1, q2⟩ := h
    refine ⟨_, pss_cons (ps_expr (pe_call GW hr rfl T.g_want T.F_want.kp T.b_want .nil (passes_call (takes_of rfl rfl rfl rfl) (fun _ _ _ _ h => h)) (pa_cons (pe_cmpR op_lt (pv 1) (pe_callB call_len_seq (by rfl) T.w_len PySem.boot_len (pa_cons (pe_fld (pv 0) rfl) pa_nil)) (nomark _)) (pa_cons (pe_num T.k_NO_SUCH) pa_nil))))
      (pss_one (ps_ret (pe_ix ix_list (pe_fld (pv 0) rfl) (pv 1) (fun _ _ => rfl)))), ?_⟩
    refine ⟨_, rfl, _, rfl, a, _, d.dx, _, _, rfl, R.ins, T.cl_Cloakroom, T.n_Cloakroom_claims, lk_Cloakroom_claims, d.km, _, rfl, .inl (SqL.of R.km), _, _, rfl, rfl, _, _, rfl, fun hb => ?_, fun hb dx hdx => q1 ?_ dx hdx⟩
    · rw [List.length_map, R.ks.1, decide_eq_true_eq] at hb
      have hlt : t < m.claims.length := by omega
      obtain ⟨x, hx, _⟩ := R.ks.2 t _ (List.getElem?_eq_getElem hlt)
      exact ⟨_, rfl, a, _, d.dx, _, _, rfl, R.ins, T.cl_Cloakroom, T.n_Cloakroom_claims, lk_Cloakroom_claims, _, rfl, d.km, _, _, _, rfl, rfl, SqL.of R.km, atI_nat (at_map hx), q2 _ x (List.getElem?_eq_getElem hlt) hx⟩
    · rw [List.length_map, R.ks.1, decide_eq_false_iff_not] at hb
      exact List.getElem?_eq_none (by omega)
end
end Ck
end
section
set_option Elab.async false
set_option linter.all false
set_option maxRecDepth 100000
set_option maxHeartbeats 4000000
/-! Coats that hang, open claims; what is walked; fetch, drop, rack, look, counts. -/
namespace Ck
open PySem PySem.Spec PyProof.Rows L2
open Mu10 (State Coat Rack Spot)
theorem at_eq {H : Hp} {a b : Addr} {o : HO} (z : b = a) (h : H a = some o) : H b = some o := by rw [z]; exact h
theorem RoomP.coat {D : Ads} {H : Hp} {a : Addr} {m : MS} {d : RmA} (R : RoomP D H a m d) {t : Nat} {c : Coat} {x : Addr} (hc : m.coats[t]? = some c) (hx : d.co[t]? = some x) : CoatAt D m.racks H c x := by
  obtain ⟨y, hy, h⟩ := R.co.2 t c hc
  rw [hx] at hy
  cases hy
  exact h
theorem RoomP.claimAt {D : Ads} {H : Hp} {a : Addr} {m : MS} {d : RmA} (R : RoomP D H a m d) {t : Nat} {c : Mu10.Claim} {x : Addr} (hc : m.claims[t]? = some c) (hx : d.ks[t]? = some x) : ClaimAt D H c x := by
  obtain ⟨y, hy, h⟩ := R.ks.2 t c hc
  rw [hx] at hy
  cases hy
  exact h
theorem RoomP.notL {D : Ads} {H : Hp} {a : Addr} {m : MS} {d : RmA} (R : RoomP D H a m d) {b : Addr} {xs : List V} (h : H b = some (.tup xs)) : b ∉ d.ls := fun z => by
  obtain ⟨ys, e⟩ := R.lst z
  exact tup_ne_lst h e rfl
theorem RoomP.newL {D : Ads} {H0 H : Hp} {a : Addr} {m : MS} {d : RmA} (R : RoomP D H0 a m d) (s : Same H0 H) {b : Addr} (h : H0 b = none) : b ∉ d.ls := fun z => by
  obtain ⟨ys, e⟩ := R.lst z
  rw [h] at e; cases e
theorem Stp.tup {D : Ads} {a : Addr} {d d' : RmA} {H H' : Hp} {m m' : MS} (S : Stp D a d d' H H' m') (R : RoomP D H a m d) {b : Addr} {xs : List V} (h : H b = some (.tup xs)) : H' b = some (.tup xs) :=
  S.fr.keep b _ h (fun _ _ _ z => by cases z) (R.notL h)
section
variable {P : Program} {w : World} {K : PySem.W.Frag} {mg : Str → Option Value} {base : Heap} {D : Ads}
def sp_hanging (D : Ads) : Sp := fun vs H Q E => ∃ (a : Addr) (m : MS) (d : RmA) (t : Nat), vs = [.ref a, nV t] ∧ RoomP D H a m d ∧ (m.coats[t]? = none → ∀ dx, H dx = none → E (.ref D.c_Refused) (some dx) (refH H dx (-2))) ∧
  (∀ c, m.coats[t]? = some c → c.spot = none → ∀ dx, H dx = none → E (.ref D.c_Refused) (some dx) (refH H dx (-4))) ∧ (∀ c p x, m.coats[t]? = some c → c.spot = some p → d.co[t]? = some x → Q (.ref x) H)
theorem ok_hanging (T : Txt K mg D) : FnOk P w K mg base (L2.CX P w) 5 D.f_Cloakroom_hanging D.d_Cloakroom_hanging ["self", "ticket"] (sp_hanging D) := by
  have GW : FnOk P w K mg base (L2.CX P w) 3 D.f_want D.d_want ["truth", "code"] (sp_want D) := ok_want T
  have GC : FnOk P w K mg base (L2.CX P w) 4 D.f_Cloakroom_coat_of D.d_Cloakroom_coat_of ["self", "ticket"] (sp_coat_of D) := ok_coat_of T
  refine T.F_Cloakroom_hanging.okX sc_Cloakroom_hanging (fun vs H Q E h => ?_) (fun cdv A outer s H vs Q E hr h => ?_)
  · obtain ⟨a, m, d, t, rfl, _⟩ := h
    rfl
  · obtain ⟨a, m, d, t, rfl, R, q1, q2, q3⟩ := h
    have hr3 : Room 3 _ := hr.mono (by decide)
    refine ⟨_, pss_cons (ps_set (i := 2) sc_Cloakroom_hanging.nd rfl (Or.inl rfl) (pe_meth (pv 0) T.cl_Cloakroom T.m_Cloakroom_coat_of GC hr T.b_Cloakroom_coat_of .nil (passes_call (takes_of rfl rfl rfl rfl) (fun _ _ _ _ h => h)) (pa_cons (pv 1) pa_nil)))
      (pss_cons (ps_expr (pe_call GW hr3 rfl T.g_want T.F_want.kp T.b_want .nil (passes_call (takes_of rfl rfl rfl rfl) (fun _ _ _ _ h => h)) (pa_cons (pe_cmpR op_notN (pe_fld (pv 2) rfl) pe_non (nomark _)) (pa_cons (pe_num T.k_OVER) pa_nil))))
      (pss_one (ps_ret (pv 2)))), ?_⟩
    refine ⟨_, rfl, a, d.dx, _, rfl, R.ins, lm_Cloakroom_coat_of, _, rfl, a, m, d, t, rfl, R, q1, fun c x hc hx => ?_⟩
    obtain ⟨dc, pl, e, hp⟩ := R.coat hc hx
    refine ⟨_, rfl, x, _, dc, _, _, rfl, e, T.cl_Coat, T.n_Coat_place, lk_Coat_place, rfl, _, _, rfl, fun hb => ?_, fun hb => ?_⟩
    · rw [pl_non hp] at hb
      cases hs : c.spot with
      | none => rw [hs] at hb; cases hb
      | some p => exact ⟨_, rfl, q3 c p x hc hs hx⟩
    · rw [pl_non hp] at hb
      cases hs : c.spot with
      | none => exact q2 c hc hs
      | some p => rw [hs] at hb; cases hb
def sp_open_claim (D : Ads) : Sp := fun vs H Q E => ∃ (a : Addr) (m : MS) (d : RmA) (t : Nat), vs = [.ref a, nV t] ∧ RoomP D H a m d ∧ (m.claims[t]? = none → ∀ dx, H dx = none → E (.ref D.c_Refused) (some dx) (refH H dx (-2))) ∧
  (∀ k u, m.claims[t]? = some k → k.coat = some u → ∀ dx, H dx = none → E (.ref D.c_Refused) (some dx) (refH H dx (-4))) ∧ (∀ k x, m.claims[t]? = some k → k.coat = none → d.ks[t]? = some x → Q (.ref x) H)
theorem ok_open_claim (T : Txt K mg D) : FnOk P w K mg base (L2.CX P w) 5 D.f_Cloakroom_open_claim D.d_Cloakroom_open_claim ["self", "number"] (sp_open_claim D) := by
  have GW : FnOk P w K mg base (L2.CX P w) 3 D.f_want D.d_want ["truth", "code"] (sp_want D) := ok_want T
  have GC : FnOk P w K mg base (L2.CX P w) 4 D.f_Cloakroom_claim_of D.d_Cloakroom_claim_of ["self", "number"] (sp_claim_of D) := ok_claim_of T
  refine T.F_Cloakroom_open_claim.okX sc_Cloakroom_open_claim (fun vs H Q E h => ?_) (fun cdv A outer s H vs Q E hr h => ?_)
  · obtain ⟨a, m, d, t, rfl, _⟩ := h
    rfl
  · obtain ⟨a, m, d, t, rfl, R, q1, q2, q3⟩ := h
    have hr3 : Room 3 _ := hr.mono (by decide)
    refine ⟨_, pss_cons (ps_set (i := 2) sc_Cloakroom_open_claim.nd rfl (Or.inl rfl) (pe_meth (pv 0) T.cl_Cloakroom T.m_Cloakroom_claim_of GC hr T.b_Cloakroom_claim_of .nil (passes_call (takes_of rfl rfl rfl rfl) (fun _ _ _ _ h => h)) (pa_cons (pv 1) pa_nil)))
      (pss_cons (ps_expr (pe_call GW hr3 rfl T.g_want T.F_want.kp T.b_want .nil (passes_call (takes_of rfl rfl rfl rfl) (fun _ _ _ _ h => h)) (pa_cons (pe_cmpR op_isN (pe_fld (pv 2) rfl) pe_non (nomark _)) (pa_cons (pe_num T.k_OVER) pa_nil))))
      (pss_one (ps_ret (pv 2)))), ?_⟩
    refine ⟨_, rfl, a, d.dx, _, rfl, R.ins, lm_Cloakroom_claim_of, _, rfl, a, m, d, t, rfl, R, q1, fun k x hc hx => ?_⟩
    obtain ⟨dc, e⟩ := R.claimAt hc hx
    refine ⟨_, rfl, x, _, dc, _, _, rfl, e, T.cl_Claim, T.n_Claim_ticket, lk_Claim_ticket, rfl, _, _, rfl, fun hb => ?_, fun hb => ?_⟩
    · rw [tk_non] at hb
      cases hs : k.coat with
      | none => exact ⟨_, rfl, q3 k x hc hs hx⟩
      | some p => rw [hs] at hb; cases hb
    · rw [tk_non] at hb
      cases hs : k.coat with
      | none => rw [hs] at hb; cases hb
      | some p => exact q2 k p hc hs
/-! ### what is walked -/
def sp_walk_for (D : Ads) : Sp := fun vs H Q _ => ∃ (a pt : Addr) (m : MS) (d : RmA) (p : Spot), vs = [.ref a, .ref pt] ∧ RoomP D H a m d ∧ H pt = some (.tup (placeV m.racks p)) ∧
  ∀ H', Stp D a d d H H' { m with now := m.now + 1, walked := m.walked + 2 * stepsR m.racks p } → Q (.int ((2 * stepsR m.racks p : Nat) : Int)) H'
theorem ok_walk_for (T : Txt K mg D) : FnOk P w K mg base CX0 1 D.f_Cloakroom_walk_for D.d_Cloakroom_walk_for ["self", "place"] (sp_walk_for D) := by
  refine T.F_Cloakroom_walk_for.ok sc_Cloakroom_walk_for (fun vs H Q E h => ?_) (fun cdv A outer s H vs Q E hr h => ?_)
  · obtain ⟨a, pt, m, d, p, rfl, _⟩ := h
    rfl
  · obtain ⟨a, pt, m, d, p, rfl, R, hpt, Qh⟩ := h
    refine ⟨_, pss_cons (ps_fld (pv 0) (pe_op op_add (pe_fld (pv 0) rfl) (pe_op op_mul pe_int (pe_ix ix_tup (pv 1) pe_int (fun _ _ => rfl)))) rfl)
      (pss_cons (ps_fld (pv 0) (pe_op op_add (pe_fld (pv 0) rfl) pe_int) rfl)
      (pss_one (ps_ret (pe_op op_mul pe_int (pe_ix ix_tup (pv 1) pe_int (fun _ _ => rfl)))))), ?_⟩
    have npa : pt ≠ a := tup_ne_ins hpt R.ins
    refine ⟨_, rfl, a, _, d.dx, _, _, rfl, R.ins, T.cl_Cloakroom, T.n_Cloakroom_walked, lk_Cloakroom_walked, _, rfl, pt, _, _, _, rfl, rfl, SqT.of hpt, rfl, _, _, rfl, rfl, .inl ⟨by decide, by decide⟩, _, _, rfl, rfl, _, rfl, a, D.c_Cloakroom, d.dx, _, rfl, R.ins, T.cl_Cloakroom, T.n_Cloakroom_walked, by show 5 < 1000; decide, ?_⟩
    rw [pf_Cloakroom_walked]
    refine ⟨_, rfl, a, _, d.dx, _, _, rfl, upd_same, T.cl_Cloakroom, T.n_Cloakroom_time, lk_Cloakroom_time, _, _, rfl, rfl, _, rfl, a, D.c_Cloakroom, d.dx, _, rfl, upd_same, T.cl_Cloakroom, T.n_Cloakroom_time, by show 5 < 1000; decide, ?_⟩
    rw [pf_Cloakroom_time, upd_upd]
    have e1 : (m.walked : Int) + 2 * (stepsR m.racks p : Int) = ((m.walked + 2 * stepsR m.racks p : Nat) : Int) := by omega
    have e2 : (m.now : Int) + 1 = ((m.now + 1 : Nat) : Int) := by omega
    have e3 : (2 : Int) * (stepsR m.racks p : Int) = ((2 * stepsR m.racks p : Nat) : Int) := by omega
    show (_ : L2.St → Hp → Prop) _ (upd H a (.ins D.c_Cloakroom d.dx (F_Cloakroom (.ref d.rk) (.ref d.cl) (.ref d.km) (.int ((m.now : Int) + 1)) (.int ((m.walked : Int) + 2 * (stepsR m.racks p : Int))))))
    rw [e1, e2]
    have R2 := R.setTW T (m.now + 1) (m.walked + 2 * stepsR m.racks p)
    have F2 : Fr d H (upd H a (.ins D.c_Cloakroom d.dx (F_Cloakroom (.ref d.rk) (.ref d.cl) (.ref d.km) (.int ((m.now + 1 : Nat) : Int)) (.int ((m.walked + 2 * stepsR m.racks p : Nat) : Int))))) :=
      Fr.of_kp (X := fun b => b = a) kp_upd (fun b z => .inl ⟨_, _, _, at_eq z R.ins⟩) (fun b z => ⟨_, at_eq z upd_same⟩)
    refine ⟨_, rfl, pt, _, _, _, rfl, rfl, SqT.of (by rw [upd_ne npa]; exact hpt), rfl, _, _, rfl, rfl, .inl ⟨by decide, by decide⟩, ?_⟩
    have := Qh _ ⟨R2, F2, fun b hb => .inl hb⟩
    rw [← e3] at this
    exact this
def sp_hand_out (D : Ads) : Sp := fun vs H Q _ => ∃ (a : Addr) (s : State) (d : RmA) (t : Nat) (c : Coat) (p : Spot), vs = [.ref a, nV t] ∧ RoomP D H a (ofS s) d ∧ WF s ∧ s.coats[t]? = some c ∧ c.spot = some p ∧
  ∀ H' d', Stp D a d d' H H' (ofS (Mu10.out s t p)) → d'.ks = d.ks → Q (.int ((2 * Mu10.steps s p : Nat) : Int)) H'
theorem ok_hand_out (T : Txt K mg D) : FnOk P w K mg base CX0 2 D.f_Cloakroom_hand_out D.d_Cloakroom_hand_out ["self", "ticket"] (sp_hand_out D) := by
  have GW : FnOk P w K mg base CX0 1 D.f_Cloakroom_walk_for D.d_Cloakroom_walk_for ["self", "place"] (sp_walk_for D) := ok_walk_for T
  have GT : FnOk P w K mg base CX0 1 D.f_Racks_take_off D.d_Racks_take_off ["self", "ticket"] (sp_take_off D) := ok_take_off T
  have GH : FnOk P w K mg base CX0 1 D.f_Coat_hang_at D.d_Coat_hang_at ["self", "place"] (sp_hang_at D) := ok_hang_at T
  refine T.F_Cloakroom_hand_out.ok sc_Cloakroom_hand_out (fun vs H Q E h => ?_) (fun cdv A outer s H vs Q E hr h => ?_)
  · obtain ⟨a, st, d, t, c, p, rfl, _⟩ := h
    rfl
  · obtain ⟨a, st, d, t, c, p, rfl, R, W, hc, hp, Qh⟩ := h
    refine ⟨_, pss_cons (ps_set (i := 2) sc_Cloakroom_hand_out.nd rfl (Or.inl rfl) (pe_ix ix_list (pe_fld (pv 0) rfl) (pv 1) (fun _ _ => rfl)))
      (pss_cons (ps_set (i := 3) sc_Cloakroom_hand_out.nd rfl (Or.inl rfl) (pe_meth (pv 0) T.cl_Cloakroom T.m_Cloakroom_walk_for GW hr T.b_Cloakroom_walk_for .nil pass0 (pa_cons (pe_fld (pv 2) rfl) pa_nil)))
      (pss_cons (ps_expr (pe_meth (pe_fld (pv 0) rfl) T.cl_Racks T.m_Racks_take_off GT hr T.b_Racks_take_off .nil pass0 (pa_cons (pv 1) pa_nil)))
      (pss_cons (ps_expr (pe_meth (pv 2) T.cl_Coat T.m_Coat_hang_at GH hr T.b_Coat_hang_at .nil pass0 (pa_cons pe_non pa_nil)))
      (pss_one (ps_ret (pv 3)))))), ?_⟩
    obtain ⟨x, hx, hcx⟩ := R.co.2 t c hc
    refine ⟨_, rfl, a, _, d.dx, _, _, rfl, R.ins, T.cl_Cloakroom, T.n_Cloakroom_coats, lk_Cloakroom_coats, _, rfl, d.cl, _, _, _, rfl, rfl, SqL.of R.cl, atI_nat (at_map hx), ?_⟩
    obtain ⟨dc, pl, ex, hpl⟩ := id hcx
    rw [hp] at hpl
    obtain ⟨pt, rfl, hpt⟩ := hpl
    refine ⟨_, rfl, a, d.dx, _, rfl, R.ins, lm_Cloakroom_walk_for, _, rfl, x, _, dc, _, _, rfl, ex, T.cl_Coat, T.n_Coat_place, lk_Coat_place, a, pt, ofS st, d, p, rfl, R, hpt, fun H1 S1 => ?_⟩
    have R1 := S1.room
    refine ⟨_, rfl, a, _, d.dx, _, _, rfl, R1.ins, T.cl_Cloakroom, T.n_Cloakroom_racks, lk_Cloakroom_racks, d.rk, d.r.dx, _, rfl, R1.rk.ins, lm_Racks_take_off, _, rfl, d.rk, st.racks, hooksOf st, d.r, t, rfl, R1.rk, hooks_6 W, hooks_30 W, fun H2 r2 P2 era fhk frw k2 => ?_⟩
    have k2' : Kp (fun b => b = d.rk ∨ b = d.r.hk) H1 H2 := k2.mono fun b z => .inl z
    have R2 := R1.setRk T k2' P2 era (.inr fhk) (fun y hy => .inr (frw y hy))
    have F2 : Fr d H1 H2 := Fr.of_kp k2 (fun b z => .inl ⟨_, _, _, at_eq z R1.rk.ins⟩) (fun b z => ⟨_, at_eq z P2.ins⟩)
    have S2 : Stp D a d { d with r := r2 } H1 H2 _ := ⟨R2, F2, RmA.sub_r era (.inr fhk) (fun y hy => .inr (frw y hy))⟩
    obtain ⟨dc2, pl2, ex2, _⟩ := R2.coat (t := t) (x := x) hc hx
    refine ⟨_, rfl, x, dc2, _, rfl, ex2, lm_Coat_hang_at, x, dc2, _, _, _, _, _, _, rfl, ex2, ?_⟩
    have R3 := R2.setCoat (dx := dc2) (pl := .non) (c' := { c with spot := none }) T hx hc ⟨rfl, rfl, rfl, rfl⟩ rfl
    have F3 : Fr { d with r := r2 } H2 (upd H2 x (.ins D.c_Coat dc2 (F_Coat (.int c.wide) (.int c.kind) (.int c.colour) (.int c.since) .non))) := Fr.of_kp (X := fun b => b = x) kp_upd (fun b z => .inl ⟨_, _, _, at_eq z ex2⟩) (fun b z => ⟨_, at_eq z upd_same⟩)
    have S3 := (S1.trans S2).trans ⟨R3, F3, fun b hb => .inl hb⟩
    refine ⟨_, rfl, ?_⟩
    refine Qh _ { d with r := r2 } ?_ rfl
    have em : ofS (Mu10.out st t p) = ⟨st.racks, takeOff (hooksOf st) t, st.coats.set t { c with spot := none }, st.claims, st.now + 1, st.walked + 2 * stepsR st.racks p⟩ := by
      unfold ofS
      have e1 : hooksOf (Mu10.out st t p) = hooksOf (Mu10.coatAt st t none) := rfl
      rw [e1, hooks_gone W hc]
      unfold Mu10.out
      rw [coatAt_eq hc]
      rfl
    rw [em]
    exact S3
/-! ### fetch -/
theorem st_fetch0 {s : State} {t : Nat} (h : s.coats[t]? = none) : Mu10.step s (.fetch t) = (s, [-2]) := by simp only [Mu10.step, h]
theorem st_fetch1 {s : State} {t : Nat} {c : Coat} (h : s.coats[t]? = some c) (hs : c.spot = none) : Mu10.step s (.fetch t) = (s, [-4]) := by simp only [Mu10.step, h, hs]
theorem st_fetch2 {s : State} {t : Nat} {c : Coat} {p : Spot} (h : s.coats[t]? = some c) (hs : c.spot = some p) : Mu10.step s (.fetch t) = (Mu10.out s t p, [((2 * Mu10.steps s p : Nat) : Int)]) := by simp only [Mu10.step, h, hs]
def sp_fetch (D : Ads) : Sp := fun vs H Q E => ∃ (a : Addr) (s : State) (d : RmA) (t : Nat), vs = [.ref a, nV t] ∧ RoomP D H a (ofS s) d ∧ WF s ∧ Ans D a s d (.fetch t) H Q E
theorem ok_fetch (T : Txt K mg D) : FnOk P w K mg base (L2.CX P w) 6 D.f_Cloakroom_fetch D.d_Cloakroom_fetch ["self", "ticket"] (sp_fetch D) := by
  have GH : FnOk P w K mg base (L2.CX P w) 5 D.f_Cloakroom_hanging D.d_Cloakroom_hanging ["self", "ticket"] (sp_hanging D) := ok_hanging T
  have GO : FnOk P w K mg base CX0 2 D.f_Cloakroom_hand_out D.d_Cloakroom_hand_out ["self", "ticket"] (sp_hand_out D) := ok_hand_out T
  refine T.F_Cloakroom_fetch.okX sc_Cloakroom_fetch (fun vs H Q E h => ?_) (fun cdv A outer s H vs Q E hr h => ?_)
  · obtain ⟨a, st, d, t, rfl, _⟩ := h
    rfl
  · obtain ⟨a, st, d, t, rfl, R, W, AN⟩ := h
    have hr2 : Room 2 _ := hr.mono (by decide)
    refine ⟨_, pss_cons (ps_expr (pe_meth (pv 0) T.cl_Cloakroom T.m_Cloakroom_hanging GH hr T.b_Cloakroom_hanging .nil (passes_call (takes_of rfl rfl rfl rfl) (fun _ _ _ _ h => h)) (pa_cons (pv 1) pa_nil)))
      (pss_one (ps_ret (pe_lst (pa_cons (pe_meth (pv 0) T.cl_Cloakroom T.m_Cloakroom_hand_out GO hr2 T.b_Cloakroom_hand_out .nil pass0 (pa_cons (pv 1) pa_nil)) pa_nil)))), ?_⟩
    refine ⟨_, rfl, a, d.dx, _, rfl, R.ins, lm_Cloakroom_hanging, _, rfl, a, ofS st, d, t, rfl, R, fun h dx hdx => AN.no (st_fetch0 h) (Stp.start R) hdx, fun c h hs dx hdx => AN.no (st_fetch1 h hs) (Stp.start R) hdx, fun c p x hc hs hx => ?_⟩
    refine ⟨_, rfl, a, d.dx, _, rfl, R.ins, lm_Cloakroom_hand_out, _, rfl, a, st, d, t, c, p, rfl, R, W, hc, hs, fun H1 d1 S1 _ => ?_⟩
    refine ⟨by show 1 ≤ sizeLine; decide, fun q hq => ?_⟩
    have h2 := AN.2
    rw [st_fetch2 hc hs] at h2
    exact h2 _ q ⟨d1, S1.more (Same.new hq)⟩ (S1.free hq) upd_same
/-! ### drop -/
theorem st_drop0 {s : State} {t : Nat} (h : s.claims[t]? = none) : Mu10.step s (.drop t) = (s, [-2]) := by simp only [Mu10.step, h]
theorem st_drop1 {s : State} {t u : Nat} {c : Mu10.Claim} (h : s.claims[t]? = some c) (hs : c.coat = some u) : Mu10.step s (.drop t) = (s, [-4]) := by simp only [Mu10.step, h, hs, Option.isSome_some, if_true]
theorem st_drop2 {s : State} {t : Nat} {c : Mu10.Claim} (h : s.claims[t]? = some c) (hs : c.coat = none) : Mu10.step s (.drop t) = ({ s with claims := s.claims.eraseIdx t }, [0]) := by simp only [Mu10.step, h, hs, Option.isSome_none, Bool.false_eq_true, if_false]
def sp_drop (D : Ads) : Sp := fun vs H Q E => ∃ (a : Addr) (s : State) (d : RmA) (t : Nat), vs = [.ref a, nV t] ∧ RoomP D H a (ofS s) d ∧ WF s ∧ Ans D a s d (.drop t) H Q E
theorem ok_drop (T : Txt K mg D) : FnOk P w K mg base (L2.CX P w) 6 D.f_Cloakroom_drop D.d_Cloakroom_drop ["self", "number"] (sp_drop D) := by
  have GH : FnOk P w K mg base (L2.CX P w) 5 D.f_Cloakroom_open_claim D.d_Cloakroom_open_claim ["self", "number"] (sp_open_claim D) := ok_open_claim T
  refine T.F_Cloakroom_drop.okX sc_Cloakroom_drop (fun vs H Q E h => ?_) (fun cdv A outer s H vs Q E hr h => ?_)
  · obtain ⟨a, st, d, t, rfl, _⟩ := h
    rfl
  · obtain ⟨a, st, d, t, rfl, R, W, AN⟩ := h
    refine ⟨_, pss_cons (ps_expr (pe_meth (pv 0) T.cl_Cloakroom T.m_Cloakroom_open_claim GH hr T.b_Cloakroom_open_claim .nil (passes_call (takes_of rfl rfl rfl rfl) (fun _ _ _ _ h => h)) (pa_cons (pv 1) pa_nil)))
      (pss_cons (ps_expr (pe_bm PySem.F.plainAttrs_list PySem.F.slot_list_pop PySem.F.type_list_pop mt_popAt (pe_fld (pv 0) rfl) (pa_cons (pv 1) pa_nil)))
      (pss_one (ps_ret (pe_lst (pa_cons pe_int pa_nil))))), ?_⟩
    refine ⟨_, rfl, a, d.dx, _, rfl, R.ins, lm_Cloakroom_open_claim, _, rfl, a, ofS st, d, t, rfl, R, fun h dx hdx => AN.no (st_drop0 h) (Stp.start R) hdx, fun c u h hs dx hdx => AN.no (st_drop1 h hs) (Stp.start R) hdx, fun c x hc hs hx => ?_⟩
    have hlt : t < d.ks.length := (List.getElem?_eq_some_iff.mp hx).1
    have hix : seqIndex? (t : Int) (d.ks.map V.ref).length = some t := (ixN_seq (by
      unfold ixN
      rw [if_pos (by omega), if_pos (by rw [List.length_map]; omega), Int.toNat_natCast])).1
    have h8 : d.ks.length ≤ 8 := by rw [R.ks.1]; exact W.nk
    refine ⟨_, rfl, a, _, d.dx, _, _, rfl, R.ins, T.cl_Cloakroom, T.n_Cloakroom_claims, lk_Cloakroom_claims, .inl ⟨rfl, _, SqL.of R.km⟩, _, rfl, d.km, _, _, t, _, rfl, rfl, R.km, by omega, by omega, hix, at_map hx, ?_⟩
    have hm : (d.ks.map V.ref).eraseIdx t = (d.ks.eraseIdx t).map V.ref := by
      apply List.ext_getElem?
      intro i
      rw [List.getElem?_map, List.getElem?_eraseIdx, List.getElem?_eraseIdx]
      split <;> rw [List.getElem?_map]
    rw [hm]
    have R2 := R.setClaims (R.ks.erase t) (R.ksN.sublist (List.eraseIdx_sublist ..))
    have F2 : Fr d H (upd H d.km (.lst ((d.ks.eraseIdx t).map V.ref))) := Fr.of_kp (X := fun b => b = d.km) kp_upd (fun b z => .inr (.inl (by rw [z]; unfold RmA.ls; simp))) (fun b z => ⟨_, at_eq z upd_same⟩)
    have S2 : Stp D a d { d with ks := d.ks.eraseIdx t } H _ _ := ⟨R2, F2, fun b hb => .inl hb⟩
    refine ⟨by show 1 ≤ sizeLine; decide, fun q hq => ?_⟩
    have h2 := AN.2
    rw [st_drop2 hc hs] at h2
    exact h2 _ q ⟨_, S2.more (Same.new hq)⟩ (S2.free hq) upd_same
end
end Ck
end
section
set_option Elab.async false
set_option linter.all false
set_option maxRecDepth 100000
set_option maxHeartbeats 4000000
/-! rack, look, counts, claim, whose, settle. -/
namespace Ck
open PySem PySem.Spec PyProof.Rows L2
open Mu10 (State Coat Rack Spot)
/-! ### tests of several parts as values -/
theorem ev_and {ta tb : TE} {σ : L2.St} {H : Hp} {Q : VK} {a b : Bool} (ha : ∀ Q : VK, Q (.bl a) H → ta σ H Q) (hb : ∀ Q : VK, Q (.bl b) H → tb σ H Q) (hq : Q (.bl (a && b)) H) : tAndV ta tb σ H Q := by
  refine ha _ ⟨a, rfl, ?_⟩
  cases a with
  | true => exact iteT (hb Q hq)
  | false => exact iteF hq
theorem ev_chain {i j k : Int} {ta tb tc : TE} {σ : L2.St} {H : Hp} {Q : VK} (ha : ∀ Q : VK, Q (.int i) H → ta σ H Q) (hb : ∀ Q : VK, Q (.int j) H → tb σ H Q) (hc : ∀ Q : VK, Q (.int k) H → tc σ H Q) (hq : Q (.bl (decide (i ≤ j) && decide (j ≤ k))) H) :
    tChain (rI0 fun i j => .bl (decide (i ≤ j))) (rI0 fun i j => .bl (decide (i ≤ j))) ta tb tc σ H Q := by
  refine ha _ (hb _ ⟨i, j, rfl, rfl, _, rfl, ?_⟩)
  cases e : decide (i ≤ j) with
  | true =>
    rw [e] at hq
    exact iteT (hc _ ⟨j, k, rfl, rfl, hq⟩)
  | false =>
    rw [e] at hq
    exact iteF hq
theorem row_ints (s : State) (l : List Nat) : (l.map nV) = (Mu10.nums l).map V.int := by
  unfold Mu10.nums
  rw [List.map_map]; rfl
section
variable {P : Program} {w : World} {K : PySem.W.Frag} {mg : Str → Option Value} {base : Heap} {D : Ads}
/-! ### rack -/
theorem st_rack0 {s : State} {r : Nat} (h : s.racks.length ≤ r) : Mu10.step s (.rack r) = (s, [-2]) := by
  show (s, if s.racks.length ≤ r then [-2] else _) = _
  rw [if_pos h]
theorem st_rack1 {s : State} {r : Nat} (h : ¬ s.racks.length ≤ r) : Mu10.step s (.rack r) = (s, rowOf s r) := by
  show (s, if s.racks.length ≤ r then [-2] else _) = _
  rw [if_neg h]
  rfl
def sp_rack_told (D : Ads) : Sp := fun vs H Q E => ∃ (a : Addr) (s : State) (d : RmA) (r : Nat), vs = [.ref a, nV r] ∧ RoomP D H a (ofS s) d ∧ WF s ∧ Ans D a s d (.rack r) H Q E
theorem ok_rack_told (T : Txt K mg D) : FnOk P w K mg base (L2.CX P w) 4 D.f_Cloakroom_rack_told D.d_Cloakroom_rack_told ["self", "rack"] (sp_rack_told D) := by
  have GW : FnOk P w K mg base (L2.CX P w) 3 D.f_want D.d_want ["truth", "code"] (sp_want D) := ok_want T
  refine T.F_Cloakroom_rack_told.okX sc_Cloakroom_rack_told (fun vs H Q E h => ?_) (fun cdv A outer s H vs Q E hr h => ?_)
  · obtain ⟨a, st, d, r, rfl, _⟩ := h
    rfl
  · obtain ⟨a, st, d, r, rfl, R, W, AN⟩ := h
    refine ⟨_, pss_cons (ps_expr (pe_call GW hr rfl T.g_want T.F_want.kp T.b_want .nil (passes_call (takes_of rfl rfl rfl rfl) (fun _ _ _ _ h => h)) (pa_cons (pe_cmpR op_lt (pv 1) (pe_callB call_len_seq (by rfl) T.w_len PySem.boot_len (pa_cons (pe_fld (pe_fld (pv 0) rfl) rfl) pa_nil)) (nomark _)) (pa_cons (pe_num T.k_NO_SUCH) pa_nil))))
      (pss_one (ps_ret (pe_callTy call_list_of (by rfl) T.w_list (by decide +kernel) (pa_cons (pe_ix ix_list (pe_fld (pe_fld (pv 0) rfl) rfl) (pv 1) (fun _ _ => rfl)) pa_nil)))), ?_⟩
    have RK := R.rk
    refine ⟨_, rfl, _, rfl, a, _, d.dx, _, _, rfl, R.ins, T.cl_Cloakroom, T.n_Cloakroom_racks, lk_Cloakroom_racks, d.rk, _, d.r.dx, _, _, rfl, RK.ins, T.cl_Racks, T.n_Racks_hooks, lk_Racks_hooks, d.r.hk, _, rfl, .inl (SqL.of RK.hk), _, _, rfl, rfl, _, _, rfl, fun hb => ?_, fun hb dx hdx => ?_⟩
    · rw [List.length_map, RK.rows.1, decide_eq_true_eq] at hb
      have hb : (r : Int) < ((hooksOf st).length : Int) := hb
      rw [hooksOf_len] at hb
      have hlt : r < st.racks.length := by omega
      obtain ⟨ro, hro, hrw⟩ := RK.rows.2 r _ (hooksOf_at hlt)
      refine ⟨_, rfl, a, _, d.dx, _, _, rfl, R.ins, T.cl_Cloakroom, T.n_Cloakroom_racks, lk_Cloakroom_racks, d.rk, _, d.r.dx, _, _, rfl, RK.ins, T.cl_Racks, T.n_Racks_hooks, lk_Racks_hooks, _, rfl, d.r.hk, _, _, _, rfl, rfl, SqL.of RK.hk, atI_nat (at_map hro), ro, _, rfl, .inl (SqL.of hrw), fun q hq => ?_⟩
      have h2 := AN.2
      rw [st_rack1 (show ¬ st.racks.length ≤ r by omega)] at h2
      exact h2 _ q ⟨d, (Stp.start R).more (Same.new hq)⟩ hq upd_same
    · rw [List.length_map, RK.rows.1, decide_eq_false_iff_not] at hb
      have hb : ¬ ((r : Int) < ((hooksOf st).length : Int)) := hb
      rw [hooksOf_len] at hb
      exact AN.no (st_rack0 (by omega)) (Stp.start R) hdx
/-! ### look -/
theorem st_look0 {s : State} {t : Nat} (h : s.coats[t]? = none) : Mu10.step s (.look t) = (s, [-2]) := by simp only [Mu10.step, h]
theorem st_look1 {s : State} {t : Nat} {c : Coat} (h : s.coats[t]? = some c) (hs : c.spot = none) : Mu10.step s (.look t) = (s, [(c.wide : Int), (c.kind : Int), (c.colour : Int), (c.since : Int), -1]) := by simp only [Mu10.step, h, hs]
theorem st_look2 {s : State} {t : Nat} {c : Coat} {p : Spot} (h : s.coats[t]? = some c) (hs : c.spot = some p) : Mu10.step s (.look t) = (s, [(c.wide : Int), (c.kind : Int), (c.colour : Int), (c.since : Int), (p.rack : Int), (p.hook : Int)]) := by simp only [Mu10.step, h, hs, Mu10.spotNums]
def sp_look (D : Ads) : Sp := fun vs H Q E => ∃ (a : Addr) (s : State) (d : RmA) (t : Nat), vs = [.ref a, nV t] ∧ RoomP D H a (ofS s) d ∧ WF s ∧ Ans D a s d (.look t) H Q E
theorem ok_look (T : Txt K mg D) : FnOk P w K mg base (L2.CX P w) 5 D.f_Cloakroom_look D.d_Cloakroom_look ["self", "ticket"] (sp_look D) := by
  have GC : FnOk P w K mg base (L2.CX P w) 4 D.f_Cloakroom_coat_of D.d_Cloakroom_coat_of ["self", "ticket"] (sp_coat_of D) := ok_coat_of T
  refine T.F_Cloakroom_look.okX sc_Cloakroom_look (fun vs H Q E h => ?_) (fun cdv A outer s H vs Q E hr h => ?_)
  · obtain ⟨a, st, d, t, rfl, _⟩ := h
    rfl
  · obtain ⟨a, st, d, t, rfl, R, W, AN⟩ := h
    refine ⟨_, pss_cons (ps_set (i := 2) sc_Cloakroom_look.nd rfl (Or.inl rfl) (pe_meth (pv 0) T.cl_Cloakroom T.m_Cloakroom_coat_of GC hr T.b_Cloakroom_coat_of .nil (passes_call (takes_of rfl rfl rfl rfl) (fun _ _ _ _ h => h)) (pa_cons (pv 1) pa_nil)))
      (pss_cons (ps_set (i := 3) sc_Cloakroom_look.nd rfl (Or.inl rfl) (pe_lst (pa_cons (pe_fld (pv 2) rfl) (pa_cons (pe_fld (pv 2) rfl) (pa_cons (pe_fld (pv 2) rfl) (pa_cons (pe_fld (pv 2) rfl) pa_nil))))))
      (pss_cons (ps_if (pt_cmpR op_isN (pe_fld (pv 2) rfl) pe_non (nomark _)) (pss_one (ps_ret (pe_op op_cat (pv 3) (pe_lst (pa_cons (pe_num T.k_GONE) pa_nil))))) pss_nil)
      (pss_one (ps_ret (pe_op op_cat (pv 3) (pe_lst (pa_cons (pe_ix ix_tup (pe_fld (pv 2) rfl) pe_int (fun _ _ => rfl)) (pa_cons (pe_ix ix_tup (pe_fld (pv 2) rfl) pe_int (fun _ _ => rfl)) pa_nil)))))))), ?_⟩
    refine ⟨_, rfl, a, d.dx, _, rfl, R.ins, lm_Cloakroom_coat_of, _, rfl, a, ofS st, d, t, rfl, R, fun h dx hdx => AN.no (st_look0 h) (Stp.start R) hdx, fun c x hc hx => ?_⟩
    obtain ⟨dc, pl, e, hp⟩ := R.coat hc hx
    refine ⟨_, rfl, x, _, dc, _, _, rfl, e, T.cl_Coat, T.n_Coat_wide, lk_Coat_wide, _, rfl, x, _, dc, _, _, rfl, e, T.cl_Coat, T.n_Coat_kind, lk_Coat_kind, _, rfl, x, _, dc, _, _, rfl, e, T.cl_Coat, T.n_Coat_colour, lk_Coat_colour, _, rfl, x, _, dc, _, _, rfl, e, T.cl_Coat, T.n_Coat_time, lk_Coat_time, by show 4 ≤ sizeLine; decide, fun f hf => ?_⟩
    have s1 := Same.new (o := .lst [.int c.wide, .int c.kind, .int c.colour, .int c.since]) hf
    have ef : upd H f (.lst [.int c.wide, .int c.kind, .int c.colour, .int c.since]) f = some (.lst [.int c.wide, .int c.kind, .int c.colour, .int c.since]) := upd_same
    generalize upd H f (.lst [.int c.wide, .int c.kind, .int c.colour, .int c.since]) = H1 at s1 ef ⊢
    have e1 := s1 _ _ e
    refine ⟨_, rfl, x, _, dc, _, _, rfl, e1, T.cl_Coat, T.n_Coat_place, lk_Coat_place, rfl, _, rfl, ?_⟩
    rw [pl_non hp]
    have h2 := AN.2
    cases hs : c.spot with
    | none =>
      rw [st_look1 hc hs] at h2
      refine iteT ⟨_, rfl, by show 1 ≤ sizeLine; decide, fun g hg => ?_⟩
      have s2 := s1.more (o := .lst [.int (-1)]) hg
      refine ⟨f, g, _, _, rfl, rfl, by rw [upd_ne (ne_of_none ef hg)]; exact ef, upd_same, by show 5 ≤ sizeLine; decide, fun q hq => ?_⟩
      exact h2 _ q ⟨d, (Stp.start R).more (s2.more hq)⟩ (s2.frees hq) upd_same
    | some p =>
      rw [st_look2 hc hs] at h2
      rw [hs] at hp
      obtain ⟨pt, rfl, hpt⟩ := hp
      have hpt1 := s1 _ _ hpt
      refine iteF ⟨_, rfl, _, rfl, x, _, dc, _, _, rfl, e1, T.cl_Coat, T.n_Coat_place, lk_Coat_place, pt, _, _, _, rfl, rfl, SqT.of hpt1, rfl, _, rfl, x, _, dc, _, _, rfl, e1, T.cl_Coat, T.n_Coat_place, lk_Coat_place, pt, _, _, _, rfl, rfl, SqT.of hpt1, rfl, by show 2 ≤ sizeLine; decide, fun g hg => ?_⟩
      have s2 := s1.more (o := .lst [.int p.rack, .int p.hook]) hg
      refine ⟨f, g, _, _, rfl, rfl, by rw [upd_ne (ne_of_none ef hg)]; exact ef, upd_same, by show 6 ≤ sizeLine; decide, fun q hq => ?_⟩
      exact h2 _ q ⟨d, (Stp.start R).more (s2.more hq)⟩ (s2.frees hq) upd_same
/-! ### counts -/
theorem filter_len {α : Type} {p : α → Bool} {l : List α} {i : Nat} {x : α} (h : l[i]? = some x) : ((l.take (i + 1)).filter p).length = ((l.take i).filter p).length + (if p x = true then 1 else 0) := by
  rw [filter_take h]
  split
  · simp
  · simp
def sp_counts (D : Ads) : Sp := fun vs H Q E => ∃ (a : Addr) (s : State) (d : RmA), vs = [.ref a] ∧ RoomP D H a (ofS s) d ∧ WF s ∧ Ans D a s d .counts H Q E
theorem ok_counts (T : Txt K mg D) : FnOk P w K mg base CX0 1 D.f_Cloakroom_counts D.d_Cloakroom_counts ["self"] (sp_counts D) := by
  refine T.F_Cloakroom_counts.ok sc_Cloakroom_counts (fun vs H Q E h => ?_) (fun cdv A outer s H vs Q E hr h => ?_)
  · obtain ⟨a, st, d, rfl, _⟩ := h
    rfl
  · obtain ⟨a, st, d, rfl, R, W, AN⟩ := h
    refine ⟨_, pss_cons (ps_setLc (i := 1) (own := [("coat", 3)]) (g := gName 3) (tt := tTest (tOp (fun x y H Q => y = V.non ∧ Q (.bl (!decide (x = V.non))) H) (tFld K (tVar 3) "place") (tC .non))) (te := tVar 3) rfl sc_Cloakroom_counts.nd rfl rfl (sw_true rfl rfl rfl (by decide +kernel)) (pi_list (pe_fld (pv 0) rfl)) (blkOk_by (N := ["self", "hanging", "found", "coat"]) (sc := defScope s_Cloakroom_counts) (by decide +kernel))
        (fun _ _ _ _ _ => pg_name (i := 3) sc_Cloakroom_counts.nd rfl (Or.inl rfl)) (fun _ _ _ _ _ => by exact pts_one (pt_cmpR op_notN (pe_fld (pv 3) rfl) pe_non (nomark _))) (fun _ _ _ _ _ => by exact pv 3))
      (pss_cons (ps_set (i := 2) sc_Cloakroom_counts.nd rfl (Or.inl rfl) (pe_lst (pa_cons (pe_callB call_len_seq (by rfl) T.w_len PySem.boot_len (pa_cons (pe_fld (pe_fld (pv 0) rfl) rfl) pa_nil)) (pa_cons (pe_callB call_len_seq (by rfl) T.w_len PySem.boot_len (pa_cons (pe_fld (pv 0) rfl) pa_nil)) (pa_cons (pe_callB call_len_seq (by rfl) T.w_len PySem.boot_len (pa_cons (pv 1) pa_nil)) (pa_cons (pe_callB call_len_seq (by rfl) T.w_len PySem.boot_len (pa_cons (pe_fld (pv 0) rfl) pa_nil)) pa_nil))))))
      (pss_one (ps_ret (pe_op op_cat (pv 2) (pe_lst (pa_cons (pe_fld (pv 0) rfl) (pa_cons (pe_fld (pv 0) rfl) pa_nil))))))), ?_⟩
    refine ⟨_, rfl, a, _, d.dx, _, _, rfl, R.ins, T.cl_Cloakroom, T.n_Cloakroom_coats, lk_Cloakroom_coats, d.cl, rfl, ⟨_, SqL.of R.cl⟩, fun d1 hd1 => ?_⟩
    refine lc_list (K := K) (a := d.cl) (xs := d.co.map V.ref) (fun i H' => Same H H' ∧ ∃ hs : List V, H' d1 = some (.lst hs) ∧ hs.length = ((st.coats.take i).filter fun c => c.spot.isSome).length) ⟨Same.new hd1, [], upd_same, rfl⟩ (fun i H' _ q => SqL.of (q.1 _ _ R.cl)) ?_ ?_
    · rintro i y H1 hi ⟨s1, hs, e1, hl⟩
      obtain ⟨x, hx, rfl⟩ := map_at hi
      obtain ⟨c, hc, hca⟩ := R.co.back hx
      obtain ⟨dc, pl, e, hp⟩ := hca.same s1
      refine ⟨rfl, _, rfl, x, _, dc, _, _, rfl, e, T.cl_Coat, T.n_Coat_place, lk_Coat_place, rfl, _, rfl, ?_⟩
      have h60 : i < 60 := by
        have := (List.getElem?_eq_some_iff.mp hc).1
        have := W.nc
        have e60 : (ofS st).coats.length = st.coats.length := rfl
        omega
      have hfl := filter_len (p := fun c : Coat => c.spot.isSome) hc
      have hle : hs.length ≤ 60 := by
        rw [hl]
        refine Nat.le_trans (List.length_filter_le _ _) ?_
        rw [List.length_take]; omega
      rw [pl_non hp]
      cases hsp : c.spot with
      | none =>
        refine iteF ⟨s1, hs, e1, ?_⟩
        rw [hl]
        rw [hsp] at hfl
        exact hfl.symm
      | some p =>
        refine iteT ⟨_, rfl, _, e1, lt_line (by omega), fun b u h => ?_, _, upd_same, ?_⟩
        · rw [upd_ne (ne_of_none h hd1)]; exact s1 _ _ h
        · rw [hsp] at hfl
          rw [List.length_append, hl]
          exact hfl.symm
    rintro H1 ⟨s1, hs, e1, hl⟩
    rw [List.length_map, R.co.1] at hl
    have hl : hs.length = ((st.coats.take st.coats.length).filter fun c => c.spot.isSome).length := hl
    rw [List.take_length] at hl
    have R1 := R.same s1
    refine ⟨_, rfl, a, _, d.dx, _, _, rfl, R1.ins, T.cl_Cloakroom, T.n_Cloakroom_racks, lk_Cloakroom_racks, d.rk, _, d.r.dx, _, _, rfl, R1.rk.ins, T.cl_Racks, T.n_Racks_hooks, lk_Racks_hooks, d.r.hk, _, rfl, .inl (SqL.of R1.rk.hk), ?_⟩
    refine ⟨_, rfl, a, _, d.dx, _, _, rfl, R1.ins, T.cl_Cloakroom, T.n_Cloakroom_coats, lk_Cloakroom_coats, d.cl, _, rfl, .inl (SqL.of R1.cl), ?_⟩
    refine ⟨_, rfl, d1, _, rfl, .inl (SqL.of e1), ?_⟩
    refine ⟨_, rfl, a, _, d.dx, _, _, rfl, R1.ins, T.cl_Cloakroom, T.n_Cloakroom_claims, lk_Cloakroom_claims, d.km, _, rfl, .inl (SqL.of R1.km), ?_⟩
    refine ⟨by show 4 ≤ sizeLine; decide, fun f hf => ?_⟩
    rw [List.length_map, List.length_map, List.length_map, R.rk.rows.1, (show d.co.length = st.coats.length from R.co.1), (show d.ks.length = st.claims.length from R.ks.1), hl, show (ofS st).hooks.length = st.racks.length from hooksOf_len st]
    have s2 := s1.more (o := .lst [.int st.racks.length, .int st.coats.length, .int (st.coats.filter fun c => c.spot.isSome).length, .int st.claims.length]) hf
    have ef : upd H1 f (.lst [.int st.racks.length, .int st.coats.length, .int (st.coats.filter fun c => c.spot.isSome).length, .int st.claims.length]) f = some (.lst [.int st.racks.length, .int st.coats.length, .int (st.coats.filter fun c => c.spot.isSome).length, .int st.claims.length]) := upd_same
    have R2 := R.same s2
    generalize upd H1 f (.lst [.int st.racks.length, .int st.coats.length, .int (st.coats.filter fun c => c.spot.isSome).length, .int st.claims.length]) = H2 at s2 ef R2 ⊢
    refine ⟨_, rfl, _, rfl, a, _, d.dx, _, _, rfl, R2.ins, T.cl_Cloakroom, T.n_Cloakroom_time, lk_Cloakroom_time, _, rfl, a, _, d.dx, _, _, rfl, R2.ins, T.cl_Cloakroom, T.n_Cloakroom_walked, lk_Cloakroom_walked, by show 2 ≤ sizeLine; decide, fun g hg => ?_⟩
    have s3 := s2.more (o := .lst [.int st.now, .int st.walked]) hg
    refine ⟨f, g, _, _, rfl, rfl, by rw [upd_ne (ne_of_none ef hg)]; exact ef, upd_same, by show 6 ≤ sizeLine; decide, fun q hq => ?_⟩
    exact AN.2 _ q ⟨d, (Stp.start R).more (s3.more hq)⟩ (s3.frees hq) upd_same
end
end Ck
end
section
set_option Elab.async false
set_option linter.all false
set_option maxRecDepth 100000
set_option maxHeartbeats 4000000
/-! claim, whose, settle. -/
namespace Ck
open PySem PySem.Spec PyProof.Rows L2
open Mu10 (State Coat Rack Spot)
theorem oI_opt {k : Int} (h : -1 ≤ k) : oI (Mu10.opt k) = k := by
  unfold Mu10.opt
  by_cases c : k < 0
  · rw [if_pos c]
    show (-1 : Int) = k
    omega
  · rw [if_neg c]
    show ((k.toNat : Nat) : Int) = k
    omega
theorem cand_claims (s : State) (cs : List Mu10.Claim) (k : Mu10.Claim) : Mu10.candidates { s with claims := cs } k = Mu10.candidates s k := rfl
section
variable {P : Program} {w : World} {K : PySem.W.Frag} {mg : Str → Option Value} {base : Heap} {D : Ads}
theorem st_claim0 {s : State} {k f : Int} {lo hi : Nat} (h : k < -1 ∨ (9 < k ∨ (f < -1 ∨ (9 < f ∨ hi < lo)))) : Mu10.step s (.claim k f lo hi) = (s, [-1]) := by
  simp only [Mu10.step]
  rw [if_pos h]
theorem st_claim1 {s : State} {k f : Int} {lo hi : Nat} (h : ¬ (k < -1 ∨ (9 < k ∨ (f < -1 ∨ (9 < f ∨ hi < lo))))) (h8 : 8 ≤ s.claims.length) : Mu10.step s (.claim k f lo hi) = (s, [-5]) := by
  simp only [Mu10.step]
  rw [if_neg h, if_pos (show Mu10.CLAIMS ≤ s.claims.length from h8)]
theorem st_claim2 {s : State} {k f : Int} {lo hi : Nat} (h : ¬ (k < -1 ∨ (9 < k ∨ (f < -1 ∨ (9 < f ∨ hi < lo))))) (h8 : ¬ 8 ≤ s.claims.length) :
    Mu10.step s (.claim k f lo hi) = ({ s with claims := s.claims ++ [⟨Mu10.opt k, Mu10.opt f, lo, hi, none⟩] }, [(s.claims.length : Int), ((Mu10.candidates s ⟨Mu10.opt k, Mu10.opt f, lo, hi, none⟩).length : Int)]) := by
  simp only [Mu10.step]
  rw [if_neg h, if_neg (show ¬ Mu10.CLAIMS ≤ s.claims.length from h8)]
def sp_claim (D : Ads) : Sp := fun vs H Q E => ∃ (a : Addr) (s : State) (d : RmA) (k f : Int) (lo hi : Nat), vs = [.ref a, .int k, .int f, nV lo, nV hi] ∧ RoomP D H a (ofS s) d ∧ WF s ∧ Ans D a s d (.claim k f lo hi) H Q E
theorem ok_claim (T : Txt K mg D) : FnOk P w K mg base (L2.CX P w) 4 D.f_Cloakroom_claim D.d_Cloakroom_claim ["self", "kind", "colour", "low", "high"] (sp_claim D) := by
  have GW : FnOk P w K mg base (L2.CX P w) 3 D.f_want D.d_want ["truth", "code"] (sp_want D) := ok_want T
  have GI : FnOk P w K mg base CX0 1 D.f_Claim_init D.d_Claim_init ["self", "kind", "colour", "low", "high"] (sp_Claim_init D) := ok_Claim_init T
  have GS : FnOk P w K mg base CX0 2 D.f_suiting D.d_suiting ["claim", "coats"] (sp_suiting D) := ok_suiting T
  refine T.F_Cloakroom_claim.okX sc_Cloakroom_claim (fun vs H Q E h => ?_) (fun cdv A outer s H vs Q E hr h => ?_)
  · obtain ⟨a, st, d, k, f, lo, hi, rfl, _⟩ := h
    rfl
  · obtain ⟨a, st, d, k, f, lo, hi, rfl, R, W, AN⟩ := h
    have hr2 : Room 2 _ := hr.mono (by decide)
    refine ⟨_, pss_cons (ps_set (i := 5) sc_Cloakroom_claim.nd rfl (Or.inl rfl) (pe_and (pe_chain op_le op_le (pe_num T.k_UNKNOWN) (pv 1) (pe_num T.k_MOST_NUMBER)) (pe_one (pe_chain op_le op_le (pe_num T.k_UNKNOWN) (pv 2) (pe_num T.k_MOST_NUMBER)))))
      (pss_cons (ps_expr (pe_call GW hr rfl T.g_want T.F_want.kp T.b_want .nil (passes_call (takes_of rfl rfl rfl rfl) (fun _ _ _ _ h => h)) (pa_cons (pe_and (pv 5) (pe_one (pe_cmpR op_le (pv 3) (pv 4) (nomark _)))) (pa_cons (pe_num T.k_WRONG) pa_nil))))
      (pss_cons (ps_expr (pe_call GW hr rfl T.g_want T.F_want.kp T.b_want .nil (passes_call (takes_of rfl rfl rfl rfl) (fun _ _ _ _ h => h)) (pa_cons (pe_cmpR op_lt (pe_callB call_len_seq (by rfl) T.w_len PySem.boot_len (pa_cons (pe_fld (pv 0) rfl) pa_nil)) (pe_num T.k_MOST_CLAIMS) (nomark _)) (pa_cons (pe_num T.k_TOO_MANY) pa_nil))))
      (pss_cons (ps_set (i := 6) sc_Cloakroom_claim.nd rfl (Or.inl rfl) (pe_make T.mk_Claim GI hr2 rfl T.g_Claim T.b_Claim_init .nil pass0 (pa_cons (pv 1) (pa_cons (pv 2) (pa_cons (pv 3) (pa_cons (pv 4) pa_nil))))))
      (pss_cons (ps_expr (pe_bm PySem.F.plainAttrs_list PySem.F.slot_list_append PySem.F.type_list_append mt_append (pe_fld (pv 0) rfl) (pa_cons (pv 6) pa_nil)))
      (pss_one (ps_ret (pe_lst (pa_cons (pe_op op_sub (pe_callB call_len_seq (by rfl) T.w_len PySem.boot_len (pa_cons (pe_fld (pv 0) rfl) pa_nil)) pe_int) (pa_cons (pe_callB call_len_seq (by rfl) T.w_len PySem.boot_len (pa_cons (pe_call GS hr2 rfl T.g_suiting T.F_suiting.kp T.b_suiting .nil pass0 (pa_cons (pv 6) (pa_cons (pe_fld (pv 0) rfl) pa_nil))) pa_nil)) pa_nil))))))))), ?_⟩
    refine ev_and (fun Q q => ev_chain (i := -1) (j := k) (k := 9) (fun Q q => q) (fun Q q => ⟨_, rfl, q⟩) (fun Q q => q) q) (fun Q q => ev_chain (i := -1) (j := f) (k := 9) (fun Q q => q) (fun Q q => ⟨_, rfl, q⟩) (fun Q q => q) q) ?_
    unfold gName
    dsimp only
    refine ev_and (fun Q q => ⟨_, rfl, q⟩) (fun Q q => ⟨_, rfl, _, rfl, _, _, rfl, rfl, q⟩) ?_
    refine ⟨_, _, rfl, fun hb => ?_, fun hb dx hdx => ?_⟩
    rotate_left
    · refine AN.no (st_claim0 ?_) (Stp.start R) hdx
      simp only [Bool.and_eq_false_iff, decide_eq_false_iff_not] at hb
      omega
    simp only [Bool.and_eq_true, decide_eq_true_eq] at hb
    have hno : ¬ (k < -1 ∨ (9 < k ∨ (f < -1 ∨ (9 < f ∨ hi < lo)))) := by omega
    have hkl : d.ks.length = st.claims.length := R.ks.1
    refine ⟨_, rfl, a, _, d.dx, _, _, rfl, R.ins, T.cl_Cloakroom, T.n_Cloakroom_claims, lk_Cloakroom_claims, d.km, _, rfl, .inl (SqL.of R.km), _, _, rfl, rfl, _, _, rfl, fun hb2 => ?_, fun hb2 dx hdx => ?_⟩
    rotate_left
    · rw [List.length_map, hkl, decide_eq_false_iff_not] at hb2
      exact AN.no (st_claim1 hno (by omega)) (Stp.start R) hdx
    rw [List.length_map, hkl, decide_eq_true_eq] at hb2
    refine ⟨_, rfl, _, rfl, _, rfl, _, rfl, fun y dy ny ndy nyd => ⟨y, dy, _, _, _, _, rfl, upd_same, rfl, ?_⟩⟩
    rw [upd_upd]
    have s1 : Same H (upd (upd H dy (.own y)) y (.ins D.c_Claim dy (F_Claim (.int k) (.int f) (nV lo) (nV hi) .non))) := fun b o h => by
      rw [upd_ne (ne_of_none h ny), upd_ne (ne_of_none h ndy)]; exact h
    have ey : upd (upd H dy (.own y)) y (.ins D.c_Claim dy (F_Claim (.int k) (.int f) (nV lo) (nV hi) .non)) y = some (.ins D.c_Claim dy (F_Claim (.int k) (.int f) (nV lo) (nV hi) .non)) := upd_same
    generalize upd (upd H dy (.own y)) y (.ins D.c_Claim dy (F_Claim (.int k) (.int f) (nV lo) (nV hi) .non)) = H1 at s1 ey ⊢
    have R1 := R.same s1
    have hca : ClaimAt D H1 ⟨Mu10.opt k, Mu10.opt f, lo, hi, none⟩ y := by
      refine ⟨dy, ?_⟩
      show H1 y = some (.ins D.c_Claim dy (F_Claim (.int (oI (Mu10.opt k))) (.int (oI (Mu10.opt f))) (.int lo) (.int hi) .non))
      rw [oI_opt (by omega), oI_opt (by omega)]
      exact ey
    have nyk : y ∉ d.ks := fun z => by
      obtain ⟨j, hj⟩ := List.getElem?_of_mem z
      obtain ⟨_, _, dq, hq⟩ := R.ks.back hj
      exact ne_of_none hq ny rfl
    have hnd : (d.ks ++ [y]).Nodup := by
      rw [List.nodup_append]
      exact ⟨R.ksN, by simp, by intro p hp q hq; simp at hq; intro z; exact nyk (by rw [← hq, ← z]; exact hp)⟩
    have R2 := R1.setClaims (R1.ks.snoc hca) hnd
    have em : (d.ks.map V.ref ++ [.ref y]) = (d.ks ++ [y]).map V.ref := by rw [List.map_append]; rfl
    have F2 : Fr d H1 (upd H1 d.km (.lst ((d.ks ++ [y]).map V.ref))) := Fr.of_kp (X := fun b => b = d.km) kp_upd (fun b z => .inr (.inl (by rw [z]; unfold RmA.ls; simp))) (fun b z => ⟨_, at_eq z upd_same⟩)
    have S2 : Stp D a d { d with ks := d.ks ++ [y] } H (upd H1 d.km (.lst ((d.ks ++ [y]).map V.ref))) (ofS { st with claims := st.claims ++ [⟨Mu10.opt k, Mu10.opt f, lo, hi, none⟩] }) := ((Stp.start R).more s1).trans ⟨R2, F2, fun b hb => .inl hb⟩
    refine ⟨_, rfl, a, _, d.dx, _, _, rfl, R1.ins, T.cl_Cloakroom, T.n_Cloakroom_claims, lk_Cloakroom_claims, .inl ⟨rfl, _, SqL.of R1.km⟩, _, rfl, d.km, _, _, rfl, rfl, R1.km, by rw [List.length_map, hkl]; exact lt_line (by omega), ?_⟩
    rw [em]
    generalize upd H1 d.km (.lst ((d.ks ++ [y]).map V.ref)) = H2 at R2 S2 ⊢
    have hca2 : ClaimAt D H2 ⟨Mu10.opt k, Mu10.opt f, lo, hi, none⟩ y := R2.claimAt (t := st.claims.length) (by show (st.claims ++ [_])[st.claims.length]? = _; simp) (by show (d.ks ++ [y])[st.claims.length]? = _; rw [← hkl]; simp)
    refine ⟨_, rfl, a, _, d.dx, _, _, rfl, R2.ins, T.cl_Cloakroom, T.n_Cloakroom_claims, lk_Cloakroom_claims, d.km, _, rfl, .inl (SqL.of R2.km), _, _, rfl, rfl, ?_⟩
    refine ⟨_, rfl, _, rfl, a, _, d.dx, _, _, rfl, R2.ins, T.cl_Cloakroom, T.n_Cloakroom_coats, lk_Cloakroom_coats, y, d.cl, ⟨Mu10.opt k, Mu10.opt f, lo, hi, none⟩, st, d.co, rfl, hca2, R2.cl, R2.co, W.nc, fun H3 p3 s3 hp3 e3 => ?_⟩
    refine ⟨p3, _, rfl, .inl (SqL.of e3), by show 2 ≤ sizeLine; decide, fun q hq => ?_⟩
    have h2 := AN.2
    rw [st_claim2 hno (by omega)] at h2
    have S3 := S2.more s3
    refine h2 _ q ⟨_, S3.more (Same.new hq)⟩ (S3.free hq) ?_
    rw [upd_same, List.length_map, List.length_map, List.length_append, hkl]
    have e1 : ((st.claims.length + [y].length : Nat) : Int) - 1 = (st.claims.length : Int) := by
      show ((st.claims.length + 1 : Nat) : Int) - 1 = _
      omega
    exact congrArg (fun z => some (HO.lst [V.int z, _])) e1
/-! ### whose -/
theorem st_whose0 {s : State} {i : Nat} (h : s.claims[i]? = none) : Mu10.step s (.whose i) = (s, [-2]) := by simp only [Mu10.step, h]
theorem st_whose1 {s : State} {i t : Nat} {k : Mu10.Claim} (h : s.claims[i]? = some k) (hs : k.coat = some t) : Mu10.step s (.whose i) = (s, [1, (t : Int)]) := by simp only [Mu10.step, h, hs]
theorem st_whose2 {s : State} {i : Nat} {k : Mu10.Claim} (h : s.claims[i]? = some k) (hs : k.coat = none) (he : Mu10.possible s i = []) : Mu10.step s (.whose i) = (s, [-6]) := by simp only [Mu10.step, h, hs, he, List.isEmpty_nil, if_true]
theorem st_whose3 {s : State} {i : Nat} {k : Mu10.Claim} (h : s.claims[i]? = some k) (hs : k.coat = none) (he : Mu10.possible s i ≠ []) : Mu10.step s (.whose i) = (s, 0 :: Mu10.nums (Mu10.possible s i)) := by
  simp only [Mu10.step, h, hs]
  rw [if_neg (by rw [List.isEmpty_iff]; exact he)]
def sp_whose (D : Ads) : Sp := fun vs H Q E => ∃ (a : Addr) (s : State) (d : RmA) (i : Nat), vs = [.ref a, nV i] ∧ RoomP D H a (ofS s) d ∧ WF s ∧ Ans D a s d (.whose i) H Q E
theorem ok_whose (T : Txt K mg D) : FnOk P w K mg base (L2.CX P w) 13 D.f_Cloakroom_whose D.d_Cloakroom_whose ["self", "number"] (sp_whose D) := by
  have GW : FnOk P w K mg base (L2.CX P w) 3 D.f_want D.d_want ["truth", "code"] (sp_want D) := ok_want T
  have GC : FnOk P w K mg base (L2.CX P w) 4 D.f_Cloakroom_claim_of D.d_Cloakroom_claim_of ["self", "number"] (sp_claim_of D) := ok_claim_of T
  have GP : FnOk P w K mg base CX0 12 D.f_possible D.d_possible ["claims", "number", "coats"] (sp_possible D) := ok_possible T
  refine T.F_Cloakroom_whose.okX sc_Cloakroom_whose (fun vs H Q E h => ?_) (fun cdv A outer s H vs Q E hr h => ?_)
  · obtain ⟨a, st, d, i, rfl, _⟩ := h
    rfl
  · obtain ⟨a, st, d, i, rfl, R, W, AN⟩ := h
    have hr3 : Room 3 _ := hr.mono (by decide)
    have hr4 : Room 4 _ := hr.mono (by decide)
    refine ⟨_, pss_cons (ps_set (i := 2) sc_Cloakroom_whose.nd rfl (Or.inl rfl) (pe_meth (pv 0) T.cl_Cloakroom T.m_Cloakroom_claim_of GC hr4 T.b_Cloakroom_claim_of .nil (passes_call (takes_of rfl rfl rfl rfl) (fun _ _ _ _ h => h)) (pa_cons (pv 1) pa_nil)))
      (pss_cons (ps_if (pt_cmpR op_notN (pe_fld (pv 2) rfl) pe_non (nomark _)) (pss_one (ps_ret (pe_lst (pa_cons pe_int (pa_cons (pe_fld (pv 2) rfl) pa_nil))))) pss_nil)
      (pss_cons (ps_set (i := 3) sc_Cloakroom_whose.nd rfl (Or.inl rfl) (pe_call GP hr rfl T.g_possible T.F_possible.kp T.b_possible .nil pass0 (pa_cons (pe_fld (pv 0) rfl) (pa_cons (pv 1) (pa_cons (pe_fld (pv 0) rfl) pa_nil)))))
      (pss_cons (ps_expr (pe_call GW hr3 rfl T.g_want T.F_want.kp T.b_want .nil (passes_call (takes_of rfl rfl rfl rfl) (fun _ _ _ _ h => h)) (pa_cons (pe_cmpR (op_neD hr.units) (pv 3) (pe_lst pa_nil) (nomark _)) (pa_cons (pe_num T.k_NONE_POSSIBLE) pa_nil))))
      (pss_one (ps_ret (pe_op op_cat (pe_lst (pa_cons pe_int pa_nil)) (pv 3))))))), ?_⟩
    refine ⟨_, rfl, a, d.dx, _, rfl, R.ins, lm_Cloakroom_claim_of, _, rfl, a, ofS st, d, i, rfl, R, fun h dx hdx => AN.no (st_whose0 h) (Stp.start R) hdx, fun k x hk hx => ?_⟩
    obtain ⟨dk, ek⟩ := R.claimAt hk hx
    refine ⟨_, rfl, x, _, dk, _, _, rfl, ek, T.cl_Claim, T.n_Claim_ticket, lk_Claim_ticket, rfl, _, rfl, ?_⟩
    rw [tk_non]
    have h2 := AN.2
    cases hs : k.coat with
    | some t =>
      rw [st_whose1 hk hs] at h2
      rw [hs] at ek
      refine iteT ⟨_, rfl, x, _, dk, _, _, rfl, ek, T.cl_Claim, T.n_Claim_ticket, lk_Claim_ticket, by show 2 ≤ sizeLine; decide, fun q hq => ?_⟩
      exact h2 _ q ⟨d, (Stp.start R).more (Same.new hq)⟩ hq upd_same
    | none =>
      refine iteF ?_
      refine ⟨_, rfl, a, _, d.dx, _, _, rfl, R.ins, T.cl_Cloakroom, T.n_Cloakroom_claims, lk_Cloakroom_claims, _, rfl, _, rfl, a, _, d.dx, _, _, rfl, R.ins, T.cl_Cloakroom, T.n_Cloakroom_coats, lk_Cloakroom_coats, d.km, d.cl, i, st, d.ks, d.co, k, rfl, R.km, R.ks, R.cl, R.co, W.nc, W.nk, hk, hs, fun H1 p1 s1 hp1 e1 => ?_⟩
      refine ⟨_, rfl, Nat.zero_le _, fun p2 hp2 => ?_⟩
      have s2 := s1.more (o := .lst []) hp2
      have e2 : upd H1 p2 (.lst []) p2 = some (.lst []) := upd_same
      have e12 : upd H1 p2 (.lst []) p1 = some (.lst ((Mu10.possible st i).map nV)) := by rw [upd_ne (ne_of_none e1 hp2)]; exact e1
      generalize upd H1 p2 (.lst []) = H2 at s2 e2 e12 ⊢
      have S2 := (Stp.start R).more s2
      have hpl := possible_len hk hs
      have hnc := W.nc
      refine ⟨_, _, dp_list (SqL.of e12), dp_empty (SqL.of e2), shaped_nats _, shaped_nats _, ?_⟩
      rw [eqv_empty]
      refine ⟨_, _, rfl, fun hb => ?_, fun hb dx hdx => ?_⟩
      · have hne : Mu10.possible st i ≠ [] := fun z => by rw [z] at hb; cases hb
        rw [st_whose3 hk hs hne] at h2
        refine ⟨by show 1 ≤ sizeLine; decide, fun p3 hp3 => ?_⟩
        have s3 := s2.more (o := .lst [.int 0]) hp3
        refine ⟨_, rfl, p3, p1, _, _, rfl, rfl, upd_same, by rw [upd_ne (ne_of_none e12 hp3)]; exact e12, by rw [List.length_map]; exact le_line (by show 1 + _ ≤ _; omega), fun q hq => ?_⟩
        refine h2 _ q ⟨d, (Stp.start R).more (s3.more hq)⟩ (s3.frees hq) ?_
        rw [upd_same, row_ints st]; rfl
      · have hne : Mu10.possible st i = [] := by
          cases hz : Mu10.possible st i with
          | nil => rfl
          | cons z l => rw [hz] at hb; cases hb
        exact AN.no (st_whose2 hk hs hne) S2 hdx
/-! ### settle -/
theorem st_settle0 {s : State} {i : Nat} (h : s.claims[i]? = none) : Mu10.step s (.settle i) = (s, [-2]) := by simp only [Mu10.step, h]
theorem st_settle1 {s : State} {i t : Nat} {k : Mu10.Claim} (h : s.claims[i]? = some k) (hs : k.coat = some t) : Mu10.step s (.settle i) = (s, [-4]) := by simp only [Mu10.step, h, hs, Option.isSome_some, if_true]
theorem st_settle2 {s : State} {i : Nat} {k : Mu10.Claim} (h : s.claims[i]? = some k) (hs : k.coat = none) (he : Mu10.possible s i = []) : Mu10.step s (.settle i) = (s, [-6]) := by simp only [Mu10.step, h, hs, he, Option.isSome_none, Bool.false_eq_true, if_false]
theorem st_settle3 {s : State} {i t u : Nat} {l : List Nat} {k : Mu10.Claim} (h : s.claims[i]? = some k) (hs : k.coat = none) (he : Mu10.possible s i = t :: u :: l) : Mu10.step s (.settle i) = (s, [-7]) := by simp only [Mu10.step, h, hs, he, Option.isSome_none, Bool.false_eq_true, if_false]
theorem st_settle4 {s : State} {i t : Nat} {k : Mu10.Claim} {c : Coat} {p : Spot} (h : s.claims[i]? = some k) (hs : k.coat = none) (he : Mu10.possible s i = [t]) (hc : s.coats[t]? = some c) (hp : c.spot = some p) :
    Mu10.step s (.settle i) = ({ Mu10.out s t p with claims := (Mu10.out s t p).claims.set i { k with coat := some t } }, [(t : Int)]) := by
  simp only [Mu10.step, h, hs, he, hc, hp, Option.isSome_none, Bool.false_eq_true, if_false, Option.bind_some]
def sp_settle (D : Ads) : Sp := fun vs H Q E => ∃ (a : Addr) (s : State) (d : RmA) (i : Nat), vs = [.ref a, nV i] ∧ RoomP D H a (ofS s) d ∧ WF s ∧ Ans D a s d (.settle i) H Q E
theorem out_claims (s : State) (t : Nat) (p : Spot) : (Mu10.out s t p).claims = s.claims := by
  unfold Mu10.out Mu10.coatAt Mu10.setCoat
  dsimp only
  split <;> rfl
theorem ok_settle (T : Txt K mg D) : FnOk P w K mg base (L2.CX P w) 13 D.f_Cloakroom_settle D.d_Cloakroom_settle ["self", "number"] (sp_settle D) := by
  have GW : FnOk P w K mg base (L2.CX P w) 3 D.f_want D.d_want ["truth", "code"] (sp_want D) := ok_want T
  have GC : FnOk P w K mg base (L2.CX P w) 5 D.f_Cloakroom_open_claim D.d_Cloakroom_open_claim ["self", "number"] (sp_open_claim D) := ok_open_claim T
  have GP : FnOk P w K mg base CX0 12 D.f_possible D.d_possible ["claims", "number", "coats"] (sp_possible D) := ok_possible T
  have GO : FnOk P w K mg base CX0 2 D.f_Cloakroom_hand_out D.d_Cloakroom_hand_out ["self", "ticket"] (sp_hand_out D) := ok_hand_out T
  have GB : FnOk P w K mg base CX0 1 D.f_Claim_settle_by D.d_Claim_settle_by ["self", "ticket"] (sp_settle_by D) := ok_settle_by T
  refine T.F_Cloakroom_settle.okX sc_Cloakroom_settle (fun vs H Q E h => ?_) (fun cdv A outer s H vs Q E hr h => ?_)
  · obtain ⟨a, st, d, i, rfl, _⟩ := h
    rfl
  · obtain ⟨a, st, d, i, rfl, R, W, AN⟩ := h
    have hr1 : Room 1 _ := hr.mono (by decide)
    have hr2 : Room 2 _ := hr.mono (by decide)
    have hr3 : Room 3 _ := hr.mono (by decide)
    have hr5 : Room 5 _ := hr.mono (by decide)
    refine ⟨_, pss_cons (ps_set (i := 2) sc_Cloakroom_settle.nd rfl (Or.inl rfl) (pe_meth (pv 0) T.cl_Cloakroom T.m_Cloakroom_open_claim GC hr5 T.b_Cloakroom_open_claim .nil (passes_call (takes_of rfl rfl rfl rfl) (fun _ _ _ _ h => h)) (pa_cons (pv 1) pa_nil)))
      (pss_cons (ps_set (i := 3) sc_Cloakroom_settle.nd rfl (Or.inl rfl) (pe_call GP hr rfl T.g_possible T.F_possible.kp T.b_possible .nil pass0 (pa_cons (pe_fld (pv 0) rfl) (pa_cons (pv 1) (pa_cons (pe_fld (pv 0) rfl) pa_nil)))))
      (pss_cons (ps_expr (pe_call GW hr3 rfl T.g_want T.F_want.kp T.b_want .nil (passes_call (takes_of rfl rfl rfl rfl) (fun _ _ _ _ h => h)) (pa_cons (pe_cmpR (op_neD hr.units) (pv 3) (pe_lst pa_nil) (nomark _)) (pa_cons (pe_num T.k_NONE_POSSIBLE) pa_nil))))
      (pss_cons (ps_expr (pe_call GW hr3 rfl T.g_want T.F_want.kp T.b_want .nil (passes_call (takes_of rfl rfl rfl rfl) (fun _ _ _ _ h => h)) (pa_cons (pe_cmpR op_eq (pe_callB call_len_seq (by rfl) T.w_len PySem.boot_len (pa_cons (pv 3) pa_nil)) pe_int (nomark _)) (pa_cons (pe_num T.k_SEVERAL) pa_nil))))
      (pss_cons (ps_expr (pe_meth (pv 0) T.cl_Cloakroom T.m_Cloakroom_hand_out GO hr2 T.b_Cloakroom_hand_out .nil pass0 (pa_cons (pe_ix ix_list (pv 3) pe_int (fun _ _ => rfl)) pa_nil)))
      (pss_cons (ps_expr (pe_meth (pv 2) T.cl_Claim T.m_Claim_settle_by GB hr1 T.b_Claim_settle_by .nil pass0 (pa_cons (pe_ix ix_list (pv 3) pe_int (fun _ _ => rfl)) pa_nil)))
      (pss_one (ps_ret (pv 3)))))))), ?_⟩
    refine ⟨_, rfl, a, d.dx, _, rfl, R.ins, lm_Cloakroom_open_claim, _, rfl, a, ofS st, d, i, rfl, R, fun h dx hdx => AN.no (st_settle0 h) (Stp.start R) hdx, fun k u h hs dx hdx => AN.no (st_settle1 h hs) (Stp.start R) hdx, fun k x hk hs hx => ?_⟩
    refine ⟨_, rfl, a, _, d.dx, _, _, rfl, R.ins, T.cl_Cloakroom, T.n_Cloakroom_claims, lk_Cloakroom_claims, _, rfl, _, rfl, a, _, d.dx, _, _, rfl, R.ins, T.cl_Cloakroom, T.n_Cloakroom_coats, lk_Cloakroom_coats, d.km, d.cl, i, st, d.ks, d.co, k, rfl, R.km, R.ks, R.cl, R.co, W.nc, W.nk, hk, hs, fun H1 p1 s1 hp1 e1 => ?_⟩
    refine ⟨_, rfl, Nat.zero_le _, fun p2 hp2 => ?_⟩
    have s2 := s1.more (o := .lst []) hp2
    have e2 : upd H1 p2 (.lst []) p2 = some (.lst []) := upd_same
    have e12 : upd H1 p2 (.lst []) p1 = some (.lst ((Mu10.possible st i).map nV)) := by rw [upd_ne (ne_of_none e1 hp2)]; exact e1
    generalize upd H1 p2 (.lst []) = H2 at s2 e2 e12 ⊢
    have S2 := (Stp.start R).more s2
    refine ⟨_, _, dp_list (SqL.of e12), dp_empty (SqL.of e2), shaped_nats _, shaped_nats _, ?_⟩
    rw [eqv_empty]
    refine ⟨_, _, rfl, fun hb => ?_, fun hb dx hdx => ?_⟩
    rotate_left
    · have hne : Mu10.possible st i = [] := by
        cases hz : Mu10.possible st i with
        | nil => rfl
        | cons z l => rw [hz] at hb; cases hb
      exact AN.no (st_settle2 hk hs hne) S2 hdx
    refine ⟨_, rfl, p1, _, rfl, .inl (SqL.of e12), rfl, _, _, rfl, fun hb2 => ?_, fun hb2 dx hdx => ?_⟩
    rotate_left
    · rw [List.length_map, decide_eq_false_iff_not] at hb2
      cases hz : Mu10.possible st i with
      | nil => rw [hz] at hb; cases hb
      | cons t l =>
        cases l with
        | nil => rw [hz] at hb2; exact absurd rfl hb2
        | cons u l => exact AN.no (st_settle3 hk hs hz) S2 hdx
    rw [List.length_map, decide_eq_true_eq] at hb2
    obtain ⟨t, hz⟩ : ∃ t, Mu10.possible st i = [t] := by
      cases hz : Mu10.possible st i with
      | nil => rw [hz] at hb; cases hb
      | cons t l =>
        cases l with
        | nil => exact ⟨t, rfl⟩
        | cons u l =>
          rw [hz] at hb2
          have := V.int.inj hb2
          simp only [List.length_cons] at this
          omega
    obtain ⟨c, p, hc, hp⟩ := possible_mem hk hs (t := t) (by rw [hz]; exact List.mem_singleton.mpr rfl)
    rw [hz] at e12
    have R2 := S2.room
    refine ⟨_, rfl, a, d.dx, _, rfl, R2.ins, lm_Cloakroom_hand_out, _, rfl, p1, _, _, _, rfl, rfl, SqL.of e12, rfl, a, st, d, t, c, p, rfl, R2, W, hc, hp, fun H3 d3 S3 hks => ?_⟩
    have n1 : p1 ∉ d.ls := R.newL s1 hp1
    have e13 : H3 p1 = some (.lst [nV t]) := S3.fr.keep _ _ e12 (fun _ _ _ z => by cases z) n1
    have R3 := S3.room
    have hx3 : d3.ks[i]? = some x := by rw [hks]; exact hx
    have hk3 : (ofS (Mu10.out st t p)).claims[i]? = some k := by
      show (Mu10.out st t p).claims[i]? = some k
      rw [out_claims]; exact hk
    obtain ⟨dk3, ek3⟩ := R3.claimAt hk3 hx3
    refine ⟨_, rfl, x, dk3, _, rfl, ek3, lm_Claim_settle_by, _, rfl, p1, _, _, _, rfl, rfl, SqL.of e13, rfl, x, dk3, _, _, _, _, _, _, rfl, ek3, ?_⟩
    have R4 := R3.setClaim (dx := dk3) (t := t) T hx3 hk3
    have F4 : Fr d3 H3 (upd H3 x (.ins D.c_Claim dk3 (F_Claim (.int (oI k.kind)) (.int (oI k.colour)) (.int k.lo) (.int k.hi) (.int t)))) := Fr.of_kp (X := fun b => b = x) kp_upd (fun b z => .inl ⟨_, _, _, at_eq z ek3⟩) (fun b z => ⟨_, at_eq z upd_same⟩)
    have S4 := (S2.trans S3).trans ⟨R4, F4, fun b hb => .inl hb⟩
    have npx : p1 ≠ x := lst_ne_ins e13 ek3
    have h2 := AN.2
    rw [st_settle4 hk hs hz hc hp] at h2
    refine ⟨_, rfl, h2 _ p1 ⟨d3, S4⟩ hp1 ?_⟩
    show upd H3 x _ p1 = _
    rw [upd_ne npx]; exact e13
end
end Ck
end
section
set_option Elab.async false
set_option linter.all false
set_option maxRecDepth 100000
set_option maxHeartbeats 4000000
/-! hang, make. -/
namespace Ck
open PySem PySem.Spec PyProof.Rows L2
open Mu10 (State Coat Rack Spot)
theorem nearest_is (s : State) (v : Nat) : Mu10.nearest s v = (Mu10.places s v).find? fun q => Mu10.isFree s v q && !overK none q v := by
  unfold Mu10.nearest
  refine congrArg (fun f => List.find? f (Mu10.places s v)) ?_
  funext q
  show Mu10.isFree s v q = (Mu10.isFree s v q && !false)
  rw [Bool.not_false, Bool.and_true]
theorem st_hang0 {s : State} {v k f : Nat} (h : v = 0 ∨ (3 < v ∨ (9 < k ∨ 9 < f))) : Mu10.step s (.hang v k f) = (s, [-1]) := by
  simp only [Mu10.step]
  rw [if_pos h]
theorem st_hang1 {s : State} {v k f : Nat} (h : ¬ (v = 0 ∨ (3 < v ∨ (9 < k ∨ 9 < f)))) (h6 : 60 ≤ s.coats.length) : Mu10.step s (.hang v k f) = (s, [-5]) := by
  simp only [Mu10.step]
  rw [if_neg h, if_pos (show Mu10.COATS ≤ s.coats.length from h6)]
theorem st_hang2 {s : State} {v k f : Nat} (h : ¬ (v = 0 ∨ (3 < v ∨ (9 < k ∨ 9 < f)))) (h6 : ¬ 60 ≤ s.coats.length) (hn : Mu10.nearest s v = none) : Mu10.step s (.hang v k f) = (s, [-3]) := by
  simp only [Mu10.step]
  rw [if_neg h, if_neg (show ¬ Mu10.COATS ≤ s.coats.length from h6), hn]
theorem st_hang3 {s : State} {v k f : Nat} {p : Spot} (h : ¬ (v = 0 ∨ (3 < v ∨ (9 < k ∨ 9 < f)))) (h6 : ¬ 60 ≤ s.coats.length) (hn : Mu10.nearest s v = some p) :
    Mu10.step s (.hang v k f) = ({ s with coats := s.coats ++ [⟨v, k, f, s.now, some p⟩], now := s.now + 1, walked := s.walked + 2 * Mu10.steps s p }, [(s.coats.length : Int), (p.rack : Int), (p.hook : Int)]) := by
  simp only [Mu10.step]
  rw [if_neg h, if_neg (show ¬ Mu10.COATS ≤ s.coats.length from h6), hn]
  rfl
section
variable {P : Program} {w : World} {K : PySem.W.Frag} {mg : Str → Option Value} {base : Heap} {D : Ads}
def sp_hang (D : Ads) : Sp := fun vs H Q E => ∃ (a : Addr) (s : State) (d : RmA) (v k f : Nat), vs = [.ref a, nV v, nV k, nV f] ∧ RoomP D H a (ofS s) d ∧ WF s ∧ Ans D a s d (.hang v k f) H Q E
theorem ok_hang (T : Txt K mg D) : FnOk P w K mg base (L2.CX P w) 4 D.f_Cloakroom_hang D.d_Cloakroom_hang ["self", "wide", "kind", "colour"] (sp_hang D) := by
  have GW : FnOk P w K mg base (L2.CX P w) 3 D.f_want D.d_want ["truth", "code"] (sp_want D) := ok_want T
  have GF : FnOk P w K mg base CX0 3 D.f_Racks_first_free D.d_Racks_first_free ["self", "wide", "kept"] (sp_first_free D) := ok_first_free T
  have GI : FnOk P w K mg base CX0 1 D.f_Coat_init D.d_Coat_init ["self", "wide", "kind", "colour", "time", "place"] (sp_Coat_init D) := ok_Coat_init T
  have GH : FnOk P w K mg base CX0 1 D.f_Racks_hang_on D.d_Racks_hang_on ["self", "ticket", "place", "wide"] (sp_hang_on D) := ok_hang_on T
  have GF2 : FnOk P w K mg base CX0 1 D.f_Cloakroom_walk_for D.d_Cloakroom_walk_for ["self", "place"] (sp_walk_for D) := ok_walk_for T
  refine T.F_Cloakroom_hang.okX sc_Cloakroom_hang (fun vs H Q E h => ?_) (fun cdv A outer s H vs Q E hr h => ?_)
  · obtain ⟨a, st, d, v, k, f, rfl, _⟩ := h
    rfl
  · obtain ⟨a, st, d, v, k, f, rfl, R, W, AN⟩ := h
    have hr1 : Room 1 _ := hr.mono (by decide)
    have hr2 : Room 2 _ := hr.mono (by decide)
    refine ⟨_, pss_cons (ps_expr (pe_call GW hr rfl T.g_want T.F_want.kp T.b_want .nil (passes_call (takes_of rfl rfl rfl rfl) (fun _ _ _ _ h => h)) (pa_cons (pe_and (pe_chain op_le op_le pe_int (pv 1) (pe_num T.k_MOST_WIDE)) (pe_and (pe_cmpR op_le (pv 2) (pe_num T.k_MOST_NUMBER) (nomark _)) (pe_one (pe_cmpR op_le (pv 3) (pe_num T.k_MOST_NUMBER) (nomark _))))) (pa_cons (pe_num T.k_WRONG) pa_nil))))
      (pss_cons (ps_expr (pe_call GW hr rfl T.g_want T.F_want.kp T.b_want .nil (passes_call (takes_of rfl rfl rfl rfl) (fun _ _ _ _ h => h)) (pa_cons (pe_cmpR op_lt (pe_callB call_len_seq (by rfl) T.w_len PySem.boot_len (pa_cons (pe_fld (pv 0) rfl) pa_nil)) (pe_num T.k_MOST_COATS) (nomark _)) (pa_cons (pe_num T.k_TOO_MANY) pa_nil))))
      (pss_cons (ps_set (i := 4) sc_Cloakroom_hang.nd rfl (Or.inl rfl) (pe_meth (pe_fld (pv 0) rfl) T.cl_Racks T.m_Racks_first_free GF hr T.b_Racks_first_free .nil pass0 (pa_cons (pv 1) (pa_cons pe_non pa_nil))))
      (pss_cons (ps_expr (pe_call GW hr rfl T.g_want T.F_want.kp T.b_want .nil (passes_call (takes_of rfl rfl rfl rfl) (fun _ _ _ _ h => h)) (pa_cons (pe_cmpR op_notN (pv 4) pe_non (nomark _)) (pa_cons (pe_num T.k_NO_ROOM) pa_nil))))
      (pss_cons (ps_set (i := 5) sc_Cloakroom_hang.nd rfl (Or.inl rfl) (pe_callB call_len_seq (by rfl) T.w_len PySem.boot_len (pa_cons (pe_fld (pv 0) rfl) pa_nil)))
      (pss_cons (ps_expr (pe_bm PySem.F.plainAttrs_list PySem.F.slot_list_append PySem.F.type_list_append mt_append (pe_fld (pv 0) rfl) (pa_cons (pe_make T.mk_Coat GI hr2 rfl T.g_Coat T.b_Coat_init .nil pass0 (pa_cons (pv 1) (pa_cons (pv 2) (pa_cons (pv 3) (pa_cons (pe_fld (pv 0) rfl) (pa_cons (pv 4) pa_nil)))))) pa_nil)))
      (pss_cons (ps_expr (pe_meth (pe_fld (pv 0) rfl) T.cl_Racks T.m_Racks_hang_on GH hr1 T.b_Racks_hang_on .nil pass0 (pa_cons (pv 5) (pa_cons (pv 4) (pa_cons (pv 1) pa_nil)))))
      (pss_cons (ps_expr (pe_meth (pv 0) T.cl_Cloakroom T.m_Cloakroom_walk_for GF2 hr1 T.b_Cloakroom_walk_for .nil pass0 (pa_cons (pv 4) pa_nil)))
      (pss_one (ps_ret (pe_lst (pa_cons (pv 5) (pa_cons (pe_ix ix_tup (pv 4) pe_int (fun _ _ => rfl)) (pa_cons (pe_ix ix_tup (pv 4) pe_int (fun _ _ => rfl)) pa_nil))))))))))))), ?_⟩
    refine ev_and (fun Q q => ev_chain (i := 1) (j := v) (k := 3) (fun Q q => q) (fun Q q => ⟨_, rfl, q⟩) (fun Q q => q) q) (fun Q q => ev_and (fun Q q => ⟨_, rfl, _, _, rfl, rfl, q⟩) (fun Q q => ⟨_, rfl, _, _, rfl, rfl, q⟩) q) ?_
    refine ⟨_, _, rfl, fun hb => ?_, fun hb dx hdx => ?_⟩
    rotate_left
    · refine AN.no (st_hang0 ?_) (Stp.start R) hdx
      simp only [Bool.and_eq_false_iff, decide_eq_false_iff_not] at hb
      omega
    simp only [Bool.and_eq_true, decide_eq_true_eq] at hb
    have hno : ¬ (v = 0 ∨ (3 < v ∨ (9 < k ∨ 9 < f))) := by omega
    have hcl : d.co.length = st.coats.length := R.co.1
    refine ⟨_, rfl, a, _, d.dx, _, _, rfl, R.ins, T.cl_Cloakroom, T.n_Cloakroom_coats, lk_Cloakroom_coats, d.cl, _, rfl, .inl (SqL.of R.cl), _, _, rfl, rfl, _, _, rfl, fun hb2 => ?_, fun hb2 dx hdx => ?_⟩
    rotate_left
    · rw [List.length_map, hcl, decide_eq_false_iff_not] at hb2
      exact AN.no (st_hang1 hno (by omega)) (Stp.start R) hdx
    rw [List.length_map, hcl, decide_eq_true_eq] at hb2
    have h60 : ¬ 60 ≤ st.coats.length := by omega
    refine ⟨_, rfl, a, _, d.dx, _, _, rfl, R.ins, T.cl_Cloakroom, T.n_Cloakroom_racks, lk_Cloakroom_racks, d.rk, d.r.dx, _, rfl, R.rk.ins, lm_Racks_first_free, _, rfl, d.rk, st, d.r, v, none, .non, rfl, R.rk, W, by omega, by omega, rfl, fun H1 s1 => ?_⟩
    rw [← nearest_is]
    have S1 := (Stp.start R).more s1
    have R1 := S1.room
    cases hnr : Mu10.nearest st v with
    | none =>
      refine ⟨_, rfl, rfl, _, _, rfl, fun hb3 => (by cases hb3), fun _ dx hdx => AN.no (st_hang2 hno h60 hnr) S1 hdx⟩
    | some q =>
      intro t ht
      have hfd := hnr
      rw [nearest_is] at hfd
      have hq1 := (mem_places (show 1 ≤ v by omega)).mp (List.mem_of_find?_eq_some hfd)
      have hfree : Mu10.isFree st v q = true := by
        have := List.find?_some hnr
        exact this
      refine ⟨_, rfl, rfl, _, _, rfl, fun _ => ?_, fun hb3 => (by cases hb3)⟩
      refine ⟨_, rfl, a, _, d.dx, _, _, rfl, R1.ins, T.cl_Cloakroom, T.n_Cloakroom_coats, lk_Cloakroom_coats, d.cl, _, rfl, .inl (SqL.of R1.cl), ?_⟩
      rw [List.length_map, hcl]
      -- self.coats.append(Coat(..))
      refine ⟨_, rfl, a, _, d.dx, _, _, rfl, R1.ins, T.cl_Cloakroom, T.n_Cloakroom_coats, lk_Cloakroom_coats, .inl ⟨rfl, _, SqL.of R1.cl⟩, _, rfl, _, rfl, _, rfl, _, rfl, a, _, d.dx, _, _, rfl, R1.ins, T.cl_Cloakroom, T.n_Cloakroom_time, lk_Cloakroom_time, _, rfl, fun y dy ny ndy nyd => ⟨y, dy, _, _, _, _, _, rfl, upd_same, rfl, ?_⟩⟩
      rw [upd_upd]
      have s2 : Same H1 (upd (upd H1 dy (.own y)) y (.ins D.c_Coat dy (F_Coat (nV v) (nV k) (nV f) (.int (ofS st).now) (.ref t)))) := fun b o h => by
        rw [upd_ne (ne_of_none h ny), upd_ne (ne_of_none h ndy)]; exact h
      have ey : upd (upd H1 dy (.own y)) y (.ins D.c_Coat dy (F_Coat (nV v) (nV k) (nV f) (.int (ofS st).now) (.ref t))) y = some (.ins D.c_Coat dy (F_Coat (nV v) (nV k) (nV f) (.int (ofS st).now) (.ref t))) := upd_same
      generalize upd (upd H1 dy (.own y)) y (.ins D.c_Coat dy (F_Coat (nV v) (nV k) (nV f) (.int (ofS st).now) (.ref t))) = H2 at s2 ey ⊢
      have S2 := S1.more s2
      have R2 := S2.room
      have hca : CoatAt D st.racks H2 ⟨v, k, f, st.now, some q⟩ y := ⟨dy, .ref t, ey, t, rfl, s2 _ _ ht⟩
      have nyc : y ∉ d.co := fun z => by
        obtain ⟨j, hj⟩ := List.getElem?_of_mem z
        obtain ⟨_, _, _, _, hq, _⟩ := R1.co.back hj
        exact ne_of_none hq ny rfl
      have R3 := R2.addCoat hca nyc
      have em : (d.co.map V.ref ++ [.ref y]) = (d.co ++ [y]).map V.ref := by rw [List.map_append]; rfl
      have F3 : Fr d H2 (upd H2 d.cl (.lst ((d.co ++ [y]).map V.ref))) := Fr.of_kp (X := fun b => b = d.cl) kp_upd (fun b z => .inr (.inl (by rw [z]; unfold RmA.ls; simp))) (fun b z => ⟨_, at_eq z upd_same⟩)
      have S3 := S2.trans (⟨R3, F3, fun b hb => .inl hb⟩ : Stp D a d { d with co := d.co ++ [y] } H2 _ _)
      refine ⟨d.cl, _, _, rfl, rfl, R2.cl, by rw [List.length_map, hcl]; exact lt_line (by omega), ?_⟩
      rw [em]
      have ht3 : upd H2 d.cl (.lst ((d.co ++ [y]).map V.ref)) t = some (.tup (placeV st.racks q)) := by
        have := s2 _ _ ht
        rw [upd_ne (tup_ne_lst this R2.cl)]; exact this
      generalize upd H2 d.cl (.lst ((d.co ++ [y]).map V.ref)) = H3 at R3 S3 ht3 ⊢
      -- self.racks.hang_on(ticket, place, wide)
      have RK3 : RkP D H3 d.rk st.racks (hooksOf st) d.r := R3.rk
      refine ⟨_, rfl, a, _, d.dx, _, _, rfl, R3.ins, T.cl_Cloakroom, T.n_Cloakroom_racks, lk_Cloakroom_racks, d.rk, d.r.dx, _, rfl, R3.rk.ins, lm_Racks_hang_on, _, rfl, _, rfl, _, rfl, d.rk, t, st.racks, hooksOf st, d.r, q, v, st.coats.length, _, rfl, RK3, ht3, hooksOf_at hq1.1, by rw [rowOf_len]; exact hq1.2, by rw [rowOf_len]; exact rackOf_30 W hq1.1, by omega, fun H4 r4 P4 fr4 k4 => ?_⟩
      have R4 := R3.setRk T (k4.mono fun b z => .inr z) P4 rfl (.inl rfl) (fun x hx => by
        rcases List.mem_or_eq_of_mem_set hx with z | z
        · exact .inl z
        · right; rw [z]; exact fr4)
      have F4 : Fr { d with co := d.co ++ [y] } H3 H4 := Fr.of_kp k4 (fun b z => .inr (.inl (by rw [z]; unfold RmA.ls; simp))) (fun b z => ⟨_, at_eq z P4.hk⟩)
      have S4 := S3.trans (⟨R4, F4, RmA.sub_r (d := { d with co := d.co ++ [y] }) (r := { d.r with rows := d.r.rows.set q.rack r4 }) rfl (.inl rfl) (fun x hx => by
        rcases List.mem_or_eq_of_mem_set hx with z | z
        · exact .inl z
        · right; rw [z]; exact fr4)⟩ : Stp D a _ _ H3 H4 _)
      have ht4 := k4 _ _ ht3 (tup_ne_lst ht3 R3.rk.hk)
      -- self.walk_for(place)
      refine ⟨_, rfl, a, d.dx, _, rfl, R4.ins, lm_Cloakroom_walk_for, _, rfl, a, t, _, _, q, rfl, R4, ht4, fun H5 S5 => ?_⟩
      have S6 := S4.trans S5
      have ht5 := S5.tup R4 ht4
      refine ⟨_, rfl, _, rfl, t, _, _, _, rfl, rfl, SqT.of ht5, rfl, _, rfl, t, _, _, _, rfl, rfl, SqT.of ht5, rfl, by show 3 ≤ sizeLine; decide, fun p hp => ?_⟩
      have h2 := AN.2
      rw [st_hang3 hno h60 hnr] at h2
      refine h2 _ p ?_ (S6.free hp) upd_same
      have hk := hooks_new W (c := ⟨v, k, f, st.now, some q⟩) (by omega) ⟨by show 1 ≤ v; omega, by show v ≤ 3; omega⟩ rfl hq1.1 hq1.2 hfree
      have eo : ofS { st with coats := st.coats ++ [⟨v, k, f, st.now, some q⟩], now := st.now + 1, walked := st.walked + 2 * Mu10.steps st q } = ⟨st.racks, hangOn (hooksOf st) st.coats.length q.rack q.hook v, st.coats ++ [⟨v, k, f, st.now, some q⟩], st.claims, st.now + 1, st.walked + 2 * stepsR st.racks q⟩ := by
        unfold ofS
        have e1 : hooksOf { st with coats := st.coats ++ [⟨v, k, f, st.now, some q⟩], now := st.now + 1, walked := st.walked + 2 * Mu10.steps st q } = hooksOf (withCoat st ⟨v, k, f, st.now, some q⟩) := rfl
        rw [e1, hk]
        rfl
      unfold After
      show ∃ d', Stp D a d d' H _ (ofS { st with coats := st.coats ++ [⟨v, k, f, st.now, some q⟩], now := st.now + 1, walked := st.walked + 2 * Mu10.steps st q })
      rw [eo]
      exact ⟨_, S6.more (Same.new hp)⟩
end
end Ck
end
section
set_option Elab.async false
set_option linter.all false
set_option maxRecDepth 100000
set_option maxHeartbeats 4000000
/-! make, move. -/
namespace Ck
open PySem PySem.Spec PyProof.Rows L2
open Mu10 (State Coat Rack Spot)
theorem cleared_len {p : Spot} {u : Nat} : ∀ (l : List Nat) (s : State) (y : State × List (Nat × Spot)), Mu10.cleared p u s l = some y → y.2.length = l.length
  | [], s, y, h => by
    unfold Mu10.cleared at h
    cases h
    rfl
  | t :: l, s, y, h => by
    unfold Mu10.cleared at h
    cases hc : s.coats[t]? with
    | none => rw [hc] at h; cases h
    | some c =>
      rw [hc] at h
      simp only at h
      cases hf : (Mu10.places s c.wide).find? fun (q : Spot) => Mu10.isFree s c.wide q && !(Mu10.over p u q c.wide) with
      | none => rw [hf] at h; cases h
      | some q =>
        rw [hf] at h
        simp only at h
        cases hr : Mu10.cleared p u (Mu10.coatAt s t (some q)) l with
        | none => rw [hr] at h; cases h
        | some z =>
          rw [hr] at h
          cases h
          show z.2.length + 1 = l.length + 1
          rw [cleared_len l _ z hr]
theorem making_len {s : State} {u : Nat} (hu : u ≤ 3) {b : Spot × List (Nat × Spot)} (h : Mu10.making s u = some b) : b.2.length ≤ 3 := by
  rw [making_is] at h
  have key : ∀ (l : List Spot) (m : Option (Spot × List (Nat × Spot))), (∀ c, m = some c → c.2.length ≤ 3) → ∀ c, l.foldl (bst s u) m = some c → c.2.length ≤ 3 := by
    intro l
    induction l with
    | nil => intro m hm c hc; exact hm c hc
    | cons p l ih =>
      intro m hm c hc
      rw [List.foldl_cons] at hc
      refine ih _ (fun c' hc' => ?_) c hc
      unfold bst at hc'
      cases hcl : Mu10.cleared p u s (Mu10.hanging s u p) with
      | none => rw [hcl] at hc'; exact hm c' hc'
      | some x =>
        rw [hcl] at hc'
        simp only at hc'
        have hx : x.2.length ≤ 3 := by
          rw [cleared_len _ _ _ hcl]
          exact Nat.le_trans hanging_len hu
        cases m with
        | none =>
          simp only [Option.some.injEq] at hc'
          rw [← hc']; exact hx
        | some y =>
          simp only at hc'
          by_cases q : x.2.length < y.2.length
          · rw [if_pos q] at hc'
            cases hc'; exact hx
          · rw [if_neg q] at hc'
            exact hm c' hc'
  exact key _ none (fun c hc => by cases hc) b h
theorem st_make0 {s : State} {v : Nat} (h : v = 0 ∨ 3 < v) : Mu10.step s (.make v) = (s, [-1]) := by
  simp only [Mu10.step]
  rw [if_pos h]
theorem st_make1 {s : State} {v : Nat} (h : ¬ (v = 0 ∨ 3 < v)) (hn : Mu10.making s v = none) : Mu10.step s (.make v) = (s, [-3]) := by
  simp only [Mu10.step]
  rw [if_neg h, hn]
def mvNums (l : List (Nat × Spot)) : List Int := l.flatMap fun (y : Nat × Spot) => (y.1 : Int) :: Mu10.spotNums y.2
theorem st_make2 {s : State} {v : Nat} {b : Spot × List (Nat × Spot)} (h : ¬ (v = 0 ∨ 3 < v)) (hn : Mu10.making s v = some b) : Mu10.step s (.make v) = (s, [(b.1.rack : Int), (b.1.hook : Int), (b.2.length : Int)] ++ mvNums b.2) := by
  simp only [Mu10.step]
  rw [if_neg h, hn]
  rfl
theorem mv_more {l : List (Nat × Spot)} {i : Nat} {y : Nat × Spot} (h : l[i]? = some y) : mvNums (l.take (i + 1)) = mvNums (l.take i) ++ [(y.1 : Int), (y.2.rack : Int), (y.2.hook : Int)] := by
  unfold mvNums
  rw [List.take_succ, h, List.flatMap_append]
  rfl
theorem mv_len (l : List (Nat × Spot)) : (mvNums l).length = 3 * l.length := by
  induction l with
  | nil => rfl
  | cons y l ih =>
    show (((y.1 : Int) :: Mu10.spotNums y.2) ++ mvNums l).length = _
    rw [List.length_append, ih]
    show 3 + _ = 3 * (l.length + 1)
    omega
section
variable {P : Program} {w : World} {K : PySem.W.Frag} {mg : Str → Option Value} {base : Heap} {D : Ads}
def sp_make (D : Ads) : Sp := fun vs H Q E => ∃ (a : Addr) (s : State) (d : RmA) (v : Nat), vs = [.ref a, nV v] ∧ RoomP D H a (ofS s) d ∧ WF s ∧ Ans D a s d (.make v) H Q E
theorem ok_make (T : Txt K mg D) : FnOk P w K mg base (L2.CX P w) 6 D.f_Cloakroom_make D.d_Cloakroom_make ["self", "wide"] (sp_make D) := by
  have GW : FnOk P w K mg base (L2.CX P w) 3 D.f_want D.d_want ["truth", "code"] (sp_want D) := ok_want T
  have GF : FnOk P w K mg base CX0 5 D.f_fewest_moves D.d_fewest_moves ["racks", "widths", "wide"] (sp_fewest D) := ok_fewest T
  refine T.F_Cloakroom_make.okX sc_Cloakroom_make (fun vs H Q E h => ?_) (fun cdv A outer s H vs Q E hr h => ?_)
  · obtain ⟨a, st, d, v, rfl, _⟩ := h
    rfl
  · obtain ⟨a, st, d, v, rfl, R, W, AN⟩ := h
    have hr3 : Room 3 _ := hr.mono (by decide)
    refine ⟨_, pss_cons (ps_expr (pe_call GW hr3 rfl T.g_want T.F_want.kp T.b_want .nil (passes_call (takes_of rfl rfl rfl rfl) (fun _ _ _ _ h => h)) (pa_cons (pe_chain op_le op_le pe_int (pv 1) (pe_num T.k_MOST_WIDE)) (pa_cons (pe_num T.k_WRONG) pa_nil))))
      (pss_cons (ps_set (i := 2) sc_Cloakroom_make.nd rfl (Or.inl rfl) (pe_call GF hr rfl T.g_fewest_moves T.F_fewest_moves.kp T.b_fewest_moves .nil pass0 (pa_cons (pe_fld (pv 0) rfl) (pa_cons
          (pe_lc (own := [("coat", 8)]) (g := gName 8) (tt := tYes) (te := tFld K (tVar 8) "wide") rfl sc_Cloakroom_make.nd (pi_list (pe_fld (pv 0) rfl)) (blkOk_by (N := ["self", "wide", "best", "place", "moves", "found", "ticket", "there", "coat"]) (sc := defScope s_Cloakroom_make) (by decide +kernel))
            (fun _ _ _ _ _ => pg_name (i := 8) sc_Cloakroom_make.nd rfl (Or.inl rfl)) (fun _ _ _ _ _ => pts_nil) (fun _ _ _ _ _ => by exact pe_fld (pv 8) rfl)) (pa_cons (pv 1) pa_nil)))))
      (pss_cons (ps_expr (pe_call GW hr3 rfl T.g_want T.F_want.kp T.b_want .nil (passes_call (takes_of rfl rfl rfl rfl) (fun _ _ _ _ h => h)) (pa_cons (pe_cmpR op_notN (pv 2) pe_non (nomark _)) (pa_cons (pe_num T.k_NO_ROOM) pa_nil))))
      (pss_cons (ps_asg (pv 2) (pg_tup rfl (pgs_cons (pg_name (i := 3) sc_Cloakroom_make.nd rfl (Or.inl rfl)) (pgs_cons (pg_name (i := 4) sc_Cloakroom_make.nd rfl (Or.inl rfl)) pgs_nil))))
      (pss_cons (ps_set (i := 5) sc_Cloakroom_make.nd rfl (Or.inl rfl) (pe_lst (pa_cons (pe_ix ix_tup (pv 3) pe_int (fun _ _ => rfl)) (pa_cons (pe_ix ix_tup (pv 3) pe_int (fun _ _ => rfl)) (pa_cons (pe_callB call_len_seq (by rfl) T.w_len PySem.boot_len (pa_cons (pv 4) pa_nil)) pa_nil)))))
      (pss_cons (ps_for (passes_of rfl) rfl (pi_list (pv 4)) (pg_tup rfl (pgs_cons (pg_name (i := 6) sc_Cloakroom_make.nd rfl (Or.inl rfl)) (pgs_cons (pg_name (i := 7) sc_Cloakroom_make.nd rfl (Or.inl rfl)) pgs_nil)))
        (pss_one (ps_expr (pe_bm PySem.F.plainAttrs_list PySem.F.slot_list_extend PySem.F.type_list_extend mt_extend (pv 5) (pa_cons (pe_lst (pa_cons (pv 6) (pa_cons (pe_ix ix_tup (pv 7) pe_int (fun _ _ => rfl)) (pa_cons (pe_ix ix_tup (pv 7) pe_int (fun _ _ => rfl)) pa_nil)))) pa_nil)))))
      (pss_one (ps_ret (pv 5)))))))), ?_⟩
    refine ev_chain (i := 1) (j := v) (k := 3) (fun Q q => q) (fun Q q => ⟨_, rfl, q⟩) (fun Q q => q) ?_
    refine ⟨_, _, rfl, fun hb => ?_, fun hb dx hdx => ?_⟩
    rotate_left
    · refine AN.no (st_make0 ?_) (Stp.start R) hdx
      simp only [Bool.and_eq_false_iff, decide_eq_false_iff_not] at hb
      omega
    simp only [Bool.and_eq_true, decide_eq_true_eq] at hb
    have hno : ¬ (v = 0 ∨ 3 < v) := by omega
    refine ⟨_, rfl, a, _, d.dx, _, _, rfl, R.ins, T.cl_Cloakroom, T.n_Cloakroom_racks, lk_Cloakroom_racks, ?_⟩
    refine ⟨_, rfl, a, _, d.dx, _, _, rfl, R.ins, T.cl_Cloakroom, T.n_Cloakroom_coats, lk_Cloakroom_coats, d.cl, rfl, ⟨_, SqL.of R.cl⟩, fun d1 hd1 => ?_⟩
    refine lc_list (K := K) (a := d.cl) (xs := d.co.map V.ref) (fun i H' => Same H H' ∧ H' d1 = some (.lst ((st.coats.take i).map fun c => nV c.wide))) ⟨Same.new hd1, upd_same⟩ (fun i H' _ q => SqL.of (q.1 _ _ R.cl)) ?_ ?_
    · rintro i y H1 hi ⟨s1, e1⟩
      obtain ⟨x, hx, rfl⟩ := map_at hi
      obtain ⟨c, hc, hca⟩ := R.co.back hx
      obtain ⟨dc, pl, e, hp⟩ := hca.same s1
      refine ⟨rfl, yes_of ?_⟩
      have h60 : i < 60 := by
        have h1 := (List.getElem?_eq_some_iff.mp hc).1
        have h2 := W.nc
        have e60 : (ofS st).coats.length = st.coats.length := rfl
        omega
      refine ⟨_, rfl, x, _, dc, _, _, rfl, e, T.cl_Coat, T.n_Coat_wide, lk_Coat_wide, _, e1, by rw [List.length_map, List.length_take]; exact lt_line (by omega), fun b u h => ?_, ?_⟩
      · rw [upd_ne (ne_of_none h hd1)]; exact s1 _ _ h
      · rw [upd_same, take_map_snoc (show st.coats[i]? = some c from hc)]; rfl
    rintro H1 ⟨s1, e1⟩
    rw [List.length_map, R.co.1, show (st.coats.take (ofS st).coats.length) = st.coats from List.take_length] at e1
    refine ⟨_, rfl, d.rk, d1, st, d.r, v, rfl, R.rk.same s1, W, e1, by omega, by omega, fun H2 bv sS hbest => ?_⟩
    have s2 := s1.trans sS
    have S2 := (Stp.start R).more s2
    cases hmk : Mu10.making st v with
    | none =>
      rw [hmk] at hbest
      have e : bv = .non := hbest
      subst e
      exact ⟨_, rfl, rfl, _, _, rfl, fun hb3 => (by cases hb3), fun _ dx hdx => AN.no (st_make1 hno hmk) S2 hdx⟩
    | some b =>
      rw [hmk] at hbest
      obtain ⟨bp, pt, ml, ts, rfl, hb1, hb2, hb3, hb4⟩ := hbest
      have hml := making_len (by omega) hmk
      have htl : ts.length ≤ 3 := by rw [hb4.1]; exact hml
      refine ⟨_, rfl, rfl, _, _, rfl, fun _ => ?_, fun hb5 => (by cases hb5)⟩
      refine ⟨_, rfl, bp, _, rfl, SqT.of hb1, rfl, _, _, rfl, _, _, rfl, rfl, ?_⟩
      refine ⟨_, rfl, pt, _, _, _, rfl, rfl, SqT.of hb2, rfl, _, rfl, pt, _, _, _, rfl, rfl, SqT.of hb2, rfl, _, rfl, ml, _, rfl, .inl (SqL.of hb3), by show 3 ≤ sizeLine; decide, fun f hf => ?_⟩
      rw [List.length_map, hb4.1]
      have s3 := s2.more (o := .lst [.int b.1.rack, .int b.1.hook, .int b.2.length]) hf
      have sN := Same.new (o := .lst [.int b.1.rack, .int b.1.hook, .int b.2.length]) hf
      have ef : upd H2 f (.lst [.int b.1.rack, .int b.1.hook, .int b.2.length]) f = some (.lst [.int b.1.rack, .int b.1.hook, .int b.2.length]) := upd_same
      generalize upd H2 f (.lst [.int b.1.rack, .int b.1.hook, .int b.2.length]) = H3 at s3 sN ef ⊢
      have eml := sN _ _ hb3
      have nmf : ml ≠ f := ne_of_none hb3 hf
      have hfH : H f = none := s2.frees hf
      refine ⟨_, rfl, ml, rfl, ⟨_, SqL.of eml⟩, for_list (K := K) (a := ml) (xs := ts.map V.ref) (fun i σ H' => ∃ (v6 v7 : Option V), σ = [some (.ref a), some (nV v), some (.ref bp), some (.ref pt), some (.ref ml), some (.ref f), v6, v7, none] ∧ Kp (fun z => z = f) H3 H' ∧ H' f = some (.lst (([(b.1.rack : Int), (b.1.hook : Int), (b.2.length : Int)] ++ mvNums (b.2.take i)).map V.int)))
        ⟨none, none, rfl, fun _ _ e _ => e, ef⟩ (fun i σ H' _ ⟨_, _, _, k1, _⟩ => SqL.of (k1 _ _ eml nmf)) ?_ ?_⟩
      · rintro i y σ H' hi ⟨v6, v7, rfl, k1, e⟩
        obtain ⟨tm, htm, rfl⟩ := map_at hi
        obtain ⟨y, hy, tt, hy1, hy2⟩ := hb4.back htm
        have nt : ∀ {z : Addr} {xs : List V}, H2 z = some (.tup xs) → H' z = some (.tup xs) := fun q => k1 _ _ (sN _ _ q) (ne_of_none q hf)
        refine ⟨tm, _, rfl, SqT.of (nt hy1), rfl, _, _, rfl, _, _, rfl, rfl, ?_⟩
        refine ⟨_, rfl, .inl ⟨rfl, _, SqL.of e⟩, _, rfl, _, rfl, tt, _, _, _, rfl, rfl, SqT.of (nt hy2), rfl, _, rfl, tt, _, _, _, rfl, rfl, SqT.of (nt hy2), rfl, by show 3 ≤ sizeLine; decide, fun g hg => ?_⟩
        have nfg : f ≠ g := ne_of_none e hg
        have hi3 : i < 3 := by
          have := (List.getElem?_eq_some_iff.mp htm).1
          omega
        refine ⟨f, g, _, _, rfl, rfl, by rw [upd_ne nfg]; exact e, upd_same, ?_, ?_⟩
        · rw [List.length_map, List.length_append, mv_len, List.length_take]
          exact le_line (by show 3 + 3 * min i _ + 3 ≤ _; omega)
        · refine ⟨some (nV y.1), some (.ref tt), rfl, fun z o h n => ?_, ?_⟩
          · rw [upd_ne n, upd_ne (ne_of_none (k1 z o h n) hg)]; exact k1 z o h n
          · rw [upd_same, mv_more hy, ← List.append_assoc, List.map_append (l₁ := [(b.1.rack : Int), (b.1.hook : Int), (b.2.length : Int)] ++ mvNums (b.2.take i))]
            rfl
      · rintro σ H' ⟨v6, v7, rfl, k1, e⟩
        rw [List.length_map, hb4.1, List.take_length] at e
        have h2 := AN.2
        rw [st_make2 hno hmk] at h2
        have sF : Same H H' := fun z o h => k1 z o (s3 _ _ h) (ne_of_none h hfH)
        exact ⟨_, rfl, h2 _ f ⟨d, (Stp.start R).more sF⟩ hfH e⟩
end
end Ck
end
section
set_option Elab.async false
set_option linter.all false
set_option maxRecDepth 100000
set_option maxHeartbeats 4000000
/-! move. -/
namespace Ck
open PySem PySem.Spec PyProof.Rows L2
open Mu10 (State Coat Rack Spot)
theorem all_free {s : State} (W : WF s) {t u : Nat} {c : Coat} {q : Spot} (h : s.coats[t]? = some c) : ((Mu10.hanging s u q).map fun x => decide (x = t)).all id = Mu10.isFree (Mu10.coatAt s t none) u q := by
  rw [List.all_map]
  have e : (Mu10.hanging s u q).all (id ∘ fun x => decide (x = t)) = true ↔ Mu10.isFree (Mu10.coatAt s t none) u q = true := by
    rw [List.all_eq_true, free_iff]
    constructor
    · intro k g h1 h2
      rw [hook_gone W h]
      cases hg : Mu10.onHook s q.rack g with
      | none => simp
      | some x =>
        have hm : x ∈ Mu10.hanging s u q := by
          unfold Mu10.hanging
          rw [List.mem_eraseDups, List.mem_filterMap]
          exact ⟨g - q.hook, List.mem_range.mpr (by omega), by rw [show q.hook + (g - q.hook) = g by omega]; exact hg⟩
        have := k x hm
        have hx : x = t := of_decide_eq_true this
        rw [hx]; simp
    · intro k x hx
      unfold Mu10.hanging at hx
      rw [List.mem_eraseDups, List.mem_filterMap] at hx
      obtain ⟨i, hi, hg⟩ := hx
      have hi := List.mem_range.mp hi
      have := k (q.hook + i) (by omega) (by omega)
      rw [hook_gone W h, hg] at this
      show decide (x = t) = true
      by_cases z : x = t
      · exact decide_eq_true z
      · rw [if_neg (by simpa using z)] at this
        cases this
  exact Bool.eq_iff_iff.mpr e
theorem st_move0 {s : State} {t r h : Nat} (hc : s.coats[t]? = none) : Mu10.step s (.move t r h) = (s, [-2]) := by simp only [Mu10.step, hc]
theorem st_move1 {s : State} {t r h : Nat} {c : Coat} (hc : s.coats[t]? = some c) (hp : c.spot = none) : Mu10.step s (.move t r h) = (s, [-4]) := by simp only [Mu10.step, hc, hp]
theorem st_move2 {s : State} {t r h : Nat} {c : Coat} {p : Spot} (hc : s.coats[t]? = some c) (hp : c.spot = some p) (hb : s.racks.length ≤ r ∨ (Mu10.rackOf s r).hooks < h + c.wide) : Mu10.step s (.move t r h) = (s, [-1]) := by
  simp only [Mu10.step, hc, hp]
  rw [if_pos hb]
theorem st_move3 {s : State} {t r h : Nat} {c : Coat} {p : Spot} (hc : s.coats[t]? = some c) (hp : c.spot = some p) (hb : ¬ (s.racks.length ≤ r ∨ (Mu10.rackOf s r).hooks < h + c.wide)) (hf : Mu10.isFree (Mu10.coatAt s t none) c.wide ⟨r, h⟩ = false) : Mu10.step s (.move t r h) = (s, [-3]) := by
  simp only [Mu10.step, hc, hp]
  rw [if_neg hb, if_pos hf]
theorem st_move4 {s : State} {t r h : Nat} {c : Coat} {p : Spot} (hc : s.coats[t]? = some c) (hp : c.spot = some p) (hb : ¬ (s.racks.length ≤ r ∨ (Mu10.rackOf s r).hooks < h + c.wide)) (hf : Mu10.isFree (Mu10.coatAt s t none) c.wide ⟨r, h⟩ = true) :
    Mu10.step s (.move t r h) = ({ Mu10.coatAt s t (some ⟨r, h⟩) with walked := s.walked + Mu10.steps s p + Mu10.steps s ⟨r, h⟩ }, [0]) := by
  simp only [Mu10.step, hc, hp]
  rw [if_neg hb, if_neg (by rw [hf]; decide)]
section
variable {P : Program} {w : World} {K : PySem.W.Frag} {mg : Str → Option Value} {base : Heap} {D : Ads}
def sp_move (D : Ads) : Sp := fun vs H Q E => ∃ (a : Addr) (s : State) (d : RmA) (t r h : Nat), vs = [.ref a, nV t, nV r, nV h] ∧ RoomP D H a (ofS s) d ∧ WF s ∧ Ans D a s d (.move t r h) H Q E
theorem ok_move (T : Txt K mg D) : FnOk P w K mg base (L2.CX P w) 6 D.f_Cloakroom_move D.d_Cloakroom_move ["self", "ticket", "rack", "hook"] (sp_move D) := by
  have GW : FnOk P w K mg base (L2.CX P w) 3 D.f_want D.d_want ["truth", "code"] (sp_want D) := ok_want T
  have GH : FnOk P w K mg base (L2.CX P w) 5 D.f_Cloakroom_hanging D.d_Cloakroom_hanging ["self", "ticket"] (sp_hanging D) := ok_hanging T
  have GP : FnOk P w K mg base CX0 1 D.f_Racks_has_place D.d_Racks_has_place ["self", "rack", "hook", "wide"] (sp_has_place D) := ok_has_place T
  have GA : FnOk P w K mg base CX0 1 D.f_Racks_place_at D.d_Racks_place_at ["self", "rack", "hook"] (sp_place_at D) := ok_place_at T
  have GC : FnOk P w K mg base CX0 1 D.f_Racks_coats_at D.d_Racks_coats_at ["self", "place", "wide"] (sp_coats_at D) := ok_coats_at T
  have GT : FnOk P w K mg base CX0 1 D.f_Racks_take_off D.d_Racks_take_off ["self", "ticket"] (sp_take_off D) := ok_take_off T
  have GO : FnOk P w K mg base CX0 1 D.f_Racks_hang_on D.d_Racks_hang_on ["self", "ticket", "place", "wide"] (sp_hang_on D) := ok_hang_on T
  have GL : FnOk P w K mg base CX0 1 D.f_Coat_hang_at D.d_Coat_hang_at ["self", "place"] (sp_hang_at D) := ok_hang_at T
  refine T.F_Cloakroom_move.okX sc_Cloakroom_move (fun vs H Q E h => ?_) (fun cdv A outer s H vs Q E hr h => ?_)
  · obtain ⟨a, st, d, t, r, g, rfl, _⟩ := h
    rfl
  · obtain ⟨a, st, d, t, r, g, rfl, R, W, AN⟩ := h
    have hr1 : Room 1 _ := hr.mono (by decide)
    have hr3 : Room 3 _ := hr.mono (by decide)
    refine ⟨_, pss_cons (ps_set (i := 4) sc_Cloakroom_move.nd rfl (Or.inl rfl) (pe_meth (pv 0) T.cl_Cloakroom T.m_Cloakroom_hanging GH hr T.b_Cloakroom_hanging .nil (passes_call (takes_of rfl rfl rfl rfl) (fun _ _ _ _ h => h)) (pa_cons (pv 1) pa_nil)))
      (pss_cons (ps_expr (pe_call GW hr3 rfl T.g_want T.F_want.kp T.b_want .nil (passes_call (takes_of rfl rfl rfl rfl) (fun _ _ _ _ h => h)) (pa_cons (pe_meth (pe_fld (pv 0) rfl) T.cl_Racks T.m_Racks_has_place GP hr1 T.b_Racks_has_place .nil pass0 (pa_cons (pv 2) (pa_cons (pv 3) (pa_cons (pe_fld (pv 4) rfl) pa_nil)))) (pa_cons (pe_num T.k_WRONG) pa_nil))))
      (pss_cons (ps_set (i := 5) sc_Cloakroom_move.nd rfl (Or.inl rfl) (pe_meth (pe_fld (pv 0) rfl) T.cl_Racks T.m_Racks_place_at GA hr1 T.b_Racks_place_at .nil pass0 (pa_cons (pv 2) (pa_cons (pv 3) pa_nil))))
      (pss_cons (ps_expr (pe_call GW hr3 rfl T.g_want T.F_want.kp T.b_want .nil (passes_call (takes_of rfl rfl rfl rfl) (fun _ _ _ _ h => h)) (pa_cons (pe_callB (cr_all rfl) (by rfl) T.w_all (by decide +kernel) (pa_cons
          (pe_lc (own := [("one", 6)]) (g := gName 6) (tt := tYes) (te := tOp rEq (tVar 6) (tVar 1)) rfl sc_Cloakroom_move.nd (pi_list (pe_meth (pe_fld (pv 0) rfl) T.cl_Racks T.m_Racks_coats_at GC hr1 T.b_Racks_coats_at .nil pass0 (pa_cons (pv 5) (pa_cons (pe_fld (pv 4) rfl) pa_nil)))) (blkOk_by (N := ["self", "ticket", "rack", "hook", "coat", "place", "one"]) (sc := defScope s_Cloakroom_move) (by decide +kernel))
            (fun _ _ _ _ _ => pg_name (i := 6) sc_Cloakroom_move.nd rfl (Or.inl rfl)) (fun _ _ _ _ _ => pts_nil) (fun _ _ _ _ _ => by exact pe_cmpR op_eq (pv 6) (pv 1) (nomark _))) pa_nil)) (pa_cons (pe_num T.k_NO_ROOM) pa_nil))))
      (pss_cons (ps_expr (pe_meth (pe_fld (pv 0) rfl) T.cl_Racks T.m_Racks_take_off GT hr1 T.b_Racks_take_off .nil pass0 (pa_cons (pv 1) pa_nil)))
      (pss_cons (ps_expr (pe_meth (pe_fld (pv 0) rfl) T.cl_Racks T.m_Racks_hang_on GO hr1 T.b_Racks_hang_on .nil pass0 (pa_cons (pv 1) (pa_cons (pv 5) (pa_cons (pe_fld (pv 4) rfl) pa_nil)))))
      (pss_cons (ps_fld (pv 0) (pe_op op_add (pe_op op_add (pe_fld (pv 0) rfl) (pe_ix ix_tup (pe_fld (pv 4) rfl) pe_int (fun _ _ => rfl))) (pe_ix ix_tup (pv 5) pe_int (fun _ _ => rfl))) rfl)
      (pss_cons (ps_expr (pe_meth (pv 4) T.cl_Coat T.m_Coat_hang_at GL hr1 T.b_Coat_hang_at .nil pass0 (pa_cons (pv 5) pa_nil)))
      (pss_one (ps_ret (pe_lst (pa_cons pe_int pa_nil))))))))))), ?_⟩
    refine ⟨_, rfl, a, d.dx, _, rfl, R.ins, lm_Cloakroom_hanging, _, rfl, a, ofS st, d, t, rfl, R, fun h dx hdx => AN.no (st_move0 h) (Stp.start R) hdx, fun c h hs dx hdx => AN.no (st_move1 h hs) (Stp.start R) hdx, fun c p x hc hs hx => ?_⟩
    have hc : st.coats[t]? = some c := hc
    obtain ⟨dc, pl, ec, hpl⟩ := R.coat (t := t) hc hx
    have hww := W.co t c hc
    refine ⟨_, rfl, a, _, d.dx, _, _, rfl, R.ins, T.cl_Cloakroom, T.n_Cloakroom_racks, lk_Cloakroom_racks, d.rk, d.r.dx, _, rfl, R.rk.ins, lm_Racks_has_place, _, rfl, _, rfl, _, rfl, x, _, dc, _, _, rfl, ec, T.cl_Coat, T.n_Coat_wide, lk_Coat_wide, d.rk, st.racks, hooksOf st, d.r, r, g, c.wide, rfl, R.rk, _, _, rfl, fun hb => ?_, fun hb dx hdx => ?_⟩
    rotate_left
    · refine AN.no (st_move2 hc hs ?_) (Stp.start R) hdx
      have hb : (decide (r < st.racks.length) && decide (g + c.wide ≤ (Mu10.rackOf st r).hooks)) = false := hb
      simp only [Bool.and_eq_false_iff, decide_eq_false_iff_not] at hb
      omega
    have hb : (decide (r < st.racks.length) && decide (g + c.wide ≤ (Mu10.rackOf st r).hooks)) = true := hb
    simp only [Bool.and_eq_true, decide_eq_true_eq] at hb
    have hno : ¬ (st.racks.length ≤ r ∨ (Mu10.rackOf st r).hooks < g + c.wide) := by omega
    refine ⟨_, rfl, a, _, d.dx, _, _, rfl, R.ins, T.cl_Cloakroom, T.n_Cloakroom_racks, lk_Cloakroom_racks, d.rk, d.r.dx, _, rfl, R.rk.ins, lm_Racks_place_at, _, rfl, _, rfl, d.rk, st.racks, hooksOf st, d.r, r, g, rfl, R.rk, hb.1, fun pt hpt => ?_⟩
    have s1 := Same.new (o := .tup (placeV st.racks ⟨r, g⟩)) hpt
    have ept : upd H pt (.tup (placeV st.racks ⟨r, g⟩)) pt = some (.tup (placeV st.racks ⟨r, g⟩)) := upd_same
    generalize upd H pt (.tup (placeV st.racks ⟨r, g⟩)) = H1 at s1 ept ⊢
    have R1 := R.same s1
    have ec1 := s1 _ _ ec
    refine ⟨_, rfl, a, _, d.dx, _, _, rfl, R1.ins, T.cl_Cloakroom, T.n_Cloakroom_racks, lk_Cloakroom_racks, d.rk, d.r.dx, _, rfl, R1.rk.ins, lm_Racks_coats_at, _, rfl, _, rfl, x, _, dc, _, _, rfl, ec1, T.cl_Coat, T.n_Coat_wide, lk_Coat_wide, d.rk, pt, st, d.r, ⟨r, g⟩, c.wide, rfl, R1.rk, ept, hb.1, hb.2, hww.2, fun H2 cl s2 hcl ecl => ?_⟩
    refine ⟨cl, rfl, ⟨_, SqL.of ecl⟩, fun d1 hd1 => ?_⟩
    obtain ⟨L, hL⟩ : ∃ L, Mu10.hanging st c.wide ⟨r, g⟩ = L := ⟨_, rfl⟩
    have hall := all_free W (u := c.wide) (q := ⟨r, g⟩) hc
    rw [hL] at ecl hall
    have hLl : L.length ≤ 3 := by have := hanging_len (s := st) (w := c.wide) (q := ⟨r, g⟩); rw [hL] at this; omega
    refine lc_list (K := K) (a := cl) (xs := L.map nV) (fun i H' => Same H2 H' ∧ H' d1 = some (.lst (((L.take i).map fun x => decide (x = t)).map V.bl))) ⟨Same.new hd1, upd_same⟩ (fun i H' _ q => SqL.of (q.1 _ _ ecl)) ?_ ?_
    · rintro i y H3 hi ⟨s3, e3⟩
      obtain ⟨z, hz, rfl⟩ := map_at hi
      refine ⟨rfl, yes_of ?_⟩
      refine ⟨_, rfl, _, rfl, rfl, _, e3, by rw [List.length_map, List.length_map, List.length_take]; exact lt_line (by omega), fun b u h => ?_, ?_⟩
      · rw [upd_ne (ne_of_none h hd1)]; exact s3 _ _ h
      · have e : decide (nV z = nV t) = decide (z = t) := decide_eq_decide.mpr ⟨fun q => (by have := V.int.inj q; omega), fun q => by rw [q]⟩
        rw [upd_same, take_map_snoc hz, List.map_append, e]; rfl
    rintro H3 ⟨s3, e3⟩
    rw [List.length_map, List.take_length] at e3
    refine ⟨d1, _, rfl, SqL.of e3, ?_⟩
    rw [hall]
    have sT := (s1.trans s2).trans s3
    have S3 := (Stp.start R).more sT
    refine ⟨_, _, rfl, fun hf => ?_, fun hf dx hdx => AN.no (st_move3 hc hs hno hf) S3 hdx⟩
    have R3 := S3.room
    have ept3 := s3 _ _ (s2 _ _ ept)
    -- take_off
    refine ⟨_, rfl, a, _, d.dx, _, _, rfl, R3.ins, T.cl_Cloakroom, T.n_Cloakroom_racks, lk_Cloakroom_racks, d.rk, d.r.dx, _, rfl, R3.rk.ins, lm_Racks_take_off, _, rfl, d.rk, st.racks, hooksOf st, d.r, t, rfl, R3.rk, hooks_6 W, hooks_30 W, fun H4 r4 P4 era fhk frw k4 => ?_⟩
    have R4 := R3.setRk T (k4.mono fun b z => .inl z) P4 era (.inr fhk) (fun y hy => .inr (frw y hy))
    have F4 : Fr d H3 H4 := Fr.of_kp k4 (fun b z => .inl ⟨_, _, _, at_eq z R3.rk.ins⟩) (fun b z => ⟨_, at_eq z P4.ins⟩)
    have S4 := S3.trans (⟨R4, F4, RmA.sub_r era (.inr fhk) (fun y hy => .inr (frw y hy))⟩ : Stp D a d { d with r := r4 } H3 H4 _)
    have ept4 := k4 _ _ ept3 (tup_ne_ins ept3 R3.rk.ins)
    -- hang_on
    have hrow := off_at (t := (t : Int)) (hooksOf_at hb.1)
    have hrl : ((rowOf st r).map fun x => if x = (t : Int) then -1 else x).length = (Mu10.rackOf st r).hooks := by rw [List.length_map, rowOf_len]
    obtain ⟨dc4, pl4, ec4, hpl4⟩ := R4.coat (t := t) (c := c) (x := x) hc hx
    refine ⟨_, rfl, a, _, d.dx, _, _, rfl, R4.ins, T.cl_Cloakroom, T.n_Cloakroom_racks, lk_Cloakroom_racks, d.rk, r4.dx, _, rfl, R4.rk.ins, lm_Racks_hang_on, _, rfl, _, rfl, _, rfl, x, _, dc4, _, _, rfl, ec4, T.cl_Coat, T.n_Coat_wide, lk_Coat_wide, d.rk, pt, st.racks, _, r4, ⟨r, g⟩, c.wide, t, _, rfl, P4, ept4, hrow, by rw [hrl]; exact hb.2, by rw [hrl]; exact rackOf_30 W hb.1, hww.2, fun H5 r5 P5 fr5 k5 => ?_⟩
    have R5 := R4.setRk T (k5.mono fun b z => .inr z) P5 rfl (.inl rfl) (fun x hx => by
      rcases List.mem_or_eq_of_mem_set hx with z | z
      · exact .inl z
      · right; rw [z]; exact fr5)
    have F5 : Fr { d with r := r4 } H4 H5 := Fr.of_kp k5 (fun b z => .inr (.inl (by rw [z]; unfold RmA.ls; simp))) (fun b z => ⟨_, at_eq z P5.hk⟩)
    have S5 := S4.trans (⟨R5, F5, RmA.sub_r (d := { d with r := r4 }) (r := { r4 with rows := r4.rows.set r r5 }) rfl (.inl rfl) (fun x hx => by
      rcases List.mem_or_eq_of_mem_set hx with z | z
      · exact .inl z
      · right; rw [z]; exact fr5)⟩ : Stp D a _ _ H4 H5 _)
    have ept5 := k5 _ _ ept4 (tup_ne_lst ept4 R4.rk.hk)
    obtain ⟨dc5, pl5, ec5, hpl5⟩ := R5.coat (t := t) (c := c) (x := x) hc hx
    rw [hs] at hpl5
    obtain ⟨po, rfl, hpo⟩ := hpl5
    -- walked
    have npa : pt ≠ a := tup_ne_ins ept5 R5.ins
    refine ⟨_, rfl, a, _, d.dx, _, _, rfl, R5.ins, T.cl_Cloakroom, T.n_Cloakroom_walked, lk_Cloakroom_walked, _, rfl, x, _, dc5, _, _, rfl, ec5, T.cl_Coat, T.n_Coat_place, lk_Coat_place, po, _, _, _, rfl, rfl, SqT.of hpo, rfl, _, _, rfl, rfl, _, rfl, pt, _, _, _, rfl, rfl, SqT.of ept5, rfl, _, _, rfl, rfl, _, rfl, a, D.c_Cloakroom, d.dx, _, rfl, R5.ins, T.cl_Cloakroom, T.n_Cloakroom_walked, by show 5 < 1000; decide, ?_⟩
    rw [pf_Cloakroom_walked]
    have e1 : ((st.walked : Int) + (stepsR st.racks p : Int)) + (stepsR st.racks ⟨r, g⟩ : Int) = ((st.walked + stepsR st.racks p + stepsR st.racks ⟨r, g⟩ : Nat) : Int) := by omega
    have R6 := R5.setTW T st.now (st.walked + stepsR st.racks p + stepsR st.racks ⟨r, g⟩)
    have F6 : Fr { d with r := { r4 with rows := r4.rows.set r r5 } } H5 (upd H5 a (.ins D.c_Cloakroom d.dx (F_Cloakroom (.ref d.rk) (.ref d.cl) (.ref d.km) (.int st.now) (.int ((st.walked + stepsR st.racks p + stepsR st.racks ⟨r, g⟩ : Nat) : Int))))) := Fr.of_kp (X := fun b => b = a) kp_upd (fun b z => .inl ⟨_, _, _, at_eq z R5.ins⟩) (fun b z => ⟨_, at_eq z upd_same⟩)
    have S6 := S5.trans (⟨R6, F6, fun b hb => .inl hb⟩ : Stp D a _ _ H5 _ _)
    have ept6 : upd H5 a (.ins D.c_Cloakroom d.dx (F_Cloakroom (.ref d.rk) (.ref d.cl) (.ref d.km) (.int st.now) (.int ((st.walked + stepsR st.racks p + stepsR st.racks ⟨r, g⟩ : Nat) : Int)))) pt = some (.tup (placeV st.racks ⟨r, g⟩)) := by rw [upd_ne npa]; exact ept5
    show (_ : L2.St → Hp → Prop) _ (upd H5 a (.ins D.c_Cloakroom d.dx (F_Cloakroom (.ref d.rk) (.ref d.cl) (.ref d.km) (.int st.now) (.int (((st.walked : Int) + (stepsR st.racks p : Int)) + (stepsR st.racks ⟨r, g⟩ : Int))))))
    rw [e1]
    generalize upd H5 a (.ins D.c_Cloakroom d.dx (F_Cloakroom (.ref d.rk) (.ref d.cl) (.ref d.km) (.int st.now) (.int ((st.walked + stepsR st.racks p + stepsR st.racks ⟨r, g⟩ : Nat) : Int)))) = H6 at R6 F6 S6 ept6 ⊢
    obtain ⟨dc6, pl6, ec6, _⟩ := R6.coat (t := t) (c := c) (x := x) hc hx
    refine ⟨_, rfl, x, dc6, _, rfl, ec6, lm_Coat_hang_at, _, rfl, x, dc6, _, _, _, _, _, _, rfl, ec6, ?_⟩
    have R7 := R6.setCoat (dx := dc6) (pl := .ref pt) (c' := { c with spot := some ⟨r, g⟩ }) T hx hc ⟨rfl, rfl, rfl, rfl⟩ ⟨pt, rfl, ept6⟩
    have F7 : Fr { d with r := { r4 with rows := r4.rows.set r r5 } } H6 (upd H6 x (.ins D.c_Coat dc6 (F_Coat (.int c.wide) (.int c.kind) (.int c.colour) (.int c.since) (.ref pt)))) := Fr.of_kp (X := fun b => b = x) kp_upd (fun b z => .inl ⟨_, _, _, at_eq z ec6⟩) (fun b z => ⟨_, at_eq z upd_same⟩)
    have S7 := S6.trans (⟨R7, F7, fun b hb => .inl hb⟩ : Stp D a _ _ H6 _ _)
    refine ⟨by show 1 ≤ sizeLine; decide, fun q hq => ?_⟩
    have h2 := AN.2
    rw [st_move4 hc hs hno hf] at h2
    refine h2 _ q ?_ (S7.free hq) upd_same
    have eo : ofS { Mu10.coatAt st t (some ⟨r, g⟩) with walked := st.walked + Mu10.steps st p + Mu10.steps st ⟨r, g⟩ } = ⟨st.racks, hangOn (takeOff (hooksOf st) t) t r g c.wide, st.coats.set t { c with spot := some ⟨r, g⟩ }, st.claims, st.now, st.walked + stepsR st.racks p + stepsR st.racks ⟨r, g⟩⟩ := by
      unfold ofS
      have e1 : hooksOf { Mu10.coatAt st t (some ⟨r, g⟩) with walked := st.walked + Mu10.steps st p + Mu10.steps st ⟨r, g⟩ } = hooksOf (Mu10.coatAt st t (some ⟨r, g⟩)) := rfl
      rw [e1, hooks_put W hc hb.1 hb.2 hf, coatAt_eq hc]
      rfl
    unfold After
    show ∃ d', Stp D a d d' H _ (ofS { Mu10.coatAt st t (some ⟨r, g⟩) with walked := st.walked + Mu10.steps st p + Mu10.steps st ⟨r, g⟩ })
    rw [eo]
    exact ⟨_, S7.more (Same.new hq)⟩
end
end Ck
end
section
set_option Elab.async false
set_option linter.all false
set_option maxRecDepth 100000
set_option maxHeartbeats 4000000
/-! What stands behind a call; the calls by their numbers; refusals caught. -/
namespace Ck
open PySem PySem.Spec PyProof.Rows L2
open Mu10 (State Coat Rack Spot)
theorem WF.of {s s' : State} (W : WF s) (h1 : s'.racks = s.racks) (h2 : s'.coats = s.coats) (h3 : s'.claims.length ≤ 8) : WF s' := by
  have hR : ∀ r, Mu10.rackOf s' r = Mu10.rackOf s r := fun r => by unfold Mu10.rackOf; rw [h1]
  refine ⟨by rw [h1]; exact W.nr, by rw [h1]; exact W.rk, by rw [h2]; exact W.nc, by rw [h2]; exact W.co, fun t c p hc hp => ?_, by rw [h2]; exact W.one, h3⟩
  rw [h1, hR]
  rw [h2] at hc
  exact W.sp t c p hc hp
theorem wf_out {s : State} (W : WF s) {t : Nat} {c : Coat} {p : Spot} (h : s.coats[t]? = some c) : WF (Mu10.out s t p) := by
  refine (wf_gone W h).of rfl rfl ?_
  rw [out_claims]; exact W.nk
theorem wf_step {s : State} (W : WF s) {p : Int} {xs : List Int} {c : Mu10.Call} (A : Asked p xs c) : WF (Mu10.step s c).1 := by
  cases A with
  | hang v k f =>
    by_cases h0 : v = 0 ∨ (3 < v ∨ (9 < k ∨ 9 < f))
    · rw [st_hang0 h0]; exact W
    · by_cases h1 : 60 ≤ s.coats.length
      · rw [st_hang1 h0 h1]; exact W
      · cases hn : Mu10.nearest s v with
        | none => rw [st_hang2 h0 h1 hn]; exact W
        | some q =>
          rw [st_hang3 h0 h1 hn]
          have hq1 := (mem_places (show 1 ≤ v by omega)).mp (List.mem_of_find?_eq_some hn)
          have hf : Mu10.isFree s v q = true := List.find?_some hn
          have := wf_new W (c := ⟨v, k, f, s.now, some q⟩) (by omega) ⟨by show 1 ≤ v; omega, by show v ≤ 3; omega⟩ rfl hq1.1 hq1.2 hf
          exact this.of rfl rfl W.nk
  | fetch t =>
    cases hc : s.coats[t]? with
    | none => rw [st_fetch0 hc]; exact W
    | some c =>
      cases hp : c.spot with
      | none => rw [st_fetch1 hc hp]; exact W
      | some p => rw [st_fetch2 hc hp]; exact wf_out W hc
  | make v =>
    show WF (Mu10.step s (.make v)).1
    by_cases h0 : v = 0 ∨ 3 < v
    · rw [st_make0 h0]; exact W
    · cases hm : Mu10.making s v with
      | none => rw [st_make1 h0 hm]; exact W
      | some b => rw [st_make2 h0 hm]; exact W
  | move t r h =>
    cases hc : s.coats[t]? with
    | none => rw [st_move0 hc]; exact W
    | some c =>
      cases hp : c.spot with
      | none => rw [st_move1 hc hp]; exact W
      | some p =>
        by_cases hb : s.racks.length ≤ r ∨ (Mu10.rackOf s r).hooks < h + c.wide
        · rw [st_move2 hc hp hb]; exact W
        · cases hf : Mu10.isFree (Mu10.coatAt s t none) c.wide ⟨r, h⟩ with
          | false => rw [st_move3 hc hp hb hf]; exact W
          | true =>
            rw [st_move4 hc hp hb hf]
            have := wf_put W hc (q := ⟨r, h⟩) (by show r < _; omega) (by show h + c.wide ≤ (Mu10.rackOf s r).hooks; omega) hf
            exact this.of rfl rfl this.nk
  | claim k f lo hi =>
    by_cases h0 : k < -1 ∨ (9 < k ∨ (f < -1 ∨ (9 < f ∨ hi < lo)))
    · rw [st_claim0 h0]; exact W
    · by_cases h1 : 8 ≤ s.claims.length
      · rw [st_claim1 h0 h1]; exact W
      · rw [st_claim2 h0 h1]
        exact W.of rfl rfl (by show (s.claims ++ [_]).length ≤ 8; rw [List.length_append]; show s.claims.length + 1 ≤ 8; omega)
  | whose i =>
    cases hk : s.claims[i]? with
    | none => rw [st_whose0 hk]; exact W
    | some k =>
      cases hs : k.coat with
      | some t => rw [st_whose1 hk hs]; exact W
      | none =>
        by_cases he : Mu10.possible s i = []
        · rw [st_whose2 hk hs he]; exact W
        · rw [st_whose3 hk hs he]; exact W
  | settle i =>
    cases hk : s.claims[i]? with
    | none => rw [st_settle0 hk]; exact W
    | some k =>
      cases hs : k.coat with
      | some t => rw [st_settle1 hk hs]; exact W
      | none =>
        cases he : Mu10.possible s i with
        | nil => rw [st_settle2 hk hs he]; exact W
        | cons t l =>
          cases l with
          | cons u l => rw [st_settle3 hk hs he]; exact W
          | nil =>
            obtain ⟨c, p, hc, hp⟩ := possible_mem hk hs (t := t) (by rw [he]; exact List.mem_singleton.mpr rfl)
            rw [st_settle4 hk hs he hc hp]
            refine (wf_out W hc (p := p)).of rfl rfl ?_
            show ((Mu10.out s t p).claims.set i _).length ≤ 8
            rw [List.length_set, out_claims]; exact W.nk
  | drop i =>
    cases hk : s.claims[i]? with
    | none => rw [st_drop0 hk]; exact W
    | some k =>
      cases hs : k.coat with
      | some t => rw [st_drop1 hk hs]; exact W
      | none =>
        rw [st_drop2 hk hs]
        exact W.of rfl rfl (Nat.le_trans (List.length_eraseIdx_le ..) W.nk)
  | rack r =>
    by_cases h : s.racks.length ≤ r
    · rw [st_rack0 h]; exact W
    · rw [st_rack1 h]; exact W
  | look t =>
    cases hc : s.coats[t]? with
    | none => rw [st_look0 hc]; exact W
    | some c =>
      cases hp : c.spot with
      | none => rw [st_look1 hc hp]; exact W
      | some p => rw [st_look2 hc hp]; exact W
  | counts => exact W
/-! ### a method's call within a try -/
def tMethS (C : Addr) (m : Str) (sp : Sp) (E : L2.St → XK) (ta : TE) (t : TA) : TE := fun σ H Q => ta σ H fun x H1 => ∃ a dx fs, x = .ref a ∧ H1 a = some (.ins C dx fs) ∧ fs.lookup m = none ∧ t σ H1 fun vs H2 => sp (x :: vs) H2 Q (E σ)
theorem pe_methS {X : Cx} {CX : CXT} {k : Nat} {f C : Addr} {fd : FuncData} {ps : List Str} {sp : Sp} {E : L2.St → XK} {m : Str} {pos apos : Pos} {e o : Expr} {es : List Expr} {ta : TE} {t : TA} {pl : Sem Bool} (he : PE X o ta) (c : Cls X.K C) (hm : Meth X.K C m f)
    (F : FnOk X.prog X.w X.K X.mg X.base CX k f fd ps sp) (hr : Room k X.A) (hb : Binds X.K fd ps []) (hx : ∀ σ, PassesAt CX X σ (E σ)) (ha : PA X (e :: es) t)
    (hst : starEach (e :: es) X.env = (false, eval e X.env) :: starEach es X.env := by rfl) (hpl : (backTo pos (starEach es X.env)).any (·.1) = false := by rfl)
    (ht : eval (.Call (.Attribute o m apos) (e :: es) [] pos) X.env = (do
      let ov ← eval o X.env
      standAt apos.atName
      let (f, first) ← holding [ov] (getMethod ov m pl)
      callWith pos f first (backTo pos (starEach (e :: es) X.env)) (backToKw pos (keywordEach [] X.env))) := by rfl) :
    PE X (.Call (.Attribute o m apos) (e :: es) [] pos) (tMethS C m sp E ta t) := by
  refine ⟨fun pins s σ H Q I h => ?_⟩
  refine PySem.W.methodCall_KW (pl := pl) (thn (he.run pins s σ H _ I h) fun u s1 ⟨x, H1, I1, rx, a, dx, fs, ex, ea, l, q⟩ => ?_) ht
  subst ex
  obtain rfl : u = Value.ref a := rx
  refine getmeth_ok I1 ea c hm l ?_
  refine PySem.W.callWith_K (first := [.ref a]) (h₀ := X.base) I.ok.mod.kin hm.kp (thn (ha.run pos pins s1 σ H1 _ I1 q) fun us s2 ⟨vs, H2, I2, r, q2⟩ => ⟨I2.kIn, ?_⟩) hst hpl
  exact run_fnS (us := .ref a :: us) (vs := .ref a :: vs) F hr hb (hx σ) I2 (.cons rfl r) q2
section
variable {P : Program} {w : World} {K : PySem.W.Frag} {mg : Str → Option Value} {base : Heap} {D : Ads}
def sp_about (D : Ads) : Sp := fun vs H Q E => ∃ (a nl : Addr) (s : State) (d : RmA) (p : Int) (xs : List Int) (c : Mu10.Call), vs = [.ref a, .int p, .ref nl] ∧ RoomP D H a (ofS s) d ∧ WF s ∧ Asked p xs c ∧ p ≤ 4 ∧ H nl = some (.lst (xs.map V.int)) ∧ Ans D a s d c H Q E
theorem ok_about (T : Txt K mg D) : FnOk P w K mg base (L2.CX P w) 7 D.f_Cloakroom_about_coats D.d_Cloakroom_about_coats ["self", "call", "n"] (sp_about D) := by
  have G1 : FnOk P w K mg base (L2.CX P w) 4 D.f_Cloakroom_hang D.d_Cloakroom_hang ["self", "wide", "kind", "colour"] (sp_hang D) := ok_hang T
  have G2 : FnOk P w K mg base (L2.CX P w) 6 D.f_Cloakroom_fetch D.d_Cloakroom_fetch ["self", "ticket"] (sp_fetch D) := ok_fetch T
  have G3 : FnOk P w K mg base (L2.CX P w) 6 D.f_Cloakroom_make D.d_Cloakroom_make ["self", "wide"] (sp_make D) := ok_make T
  have G4 : FnOk P w K mg base (L2.CX P w) 6 D.f_Cloakroom_move D.d_Cloakroom_move ["self", "ticket", "rack", "hook"] (sp_move D) := ok_move T
  refine T.F_Cloakroom_about_coats.okX sc_Cloakroom_about_coats (fun vs H Q E h => ?_) (fun cdv A outer s H vs Q E hr h => ?_)
  · obtain ⟨a, nl, st, d, p, xs, c, rfl, _⟩ := h
    rfl
  · obtain ⟨a, nl, st, d, p, xs, c, rfl, R, W, AS, hp4, hnl, AN⟩ := h
    have hr4 : Room 4 _ := hr.mono (by decide)
    refine ⟨_, pss_cons (ps_if (pt_cmpR op_eq (pv 1) pe_int (nomark _)) (pss_one (ps_ret (pe_meth (pv 0) T.cl_Cloakroom T.m_Cloakroom_hang G1 hr4 T.b_Cloakroom_hang .nil (passes_call (takes_of rfl rfl rfl rfl) (fun _ _ _ _ h => h)) (pa_cons (pe_ix ix_list (pv 2) pe_int (fun _ _ => rfl)) (pa_cons (pe_ix ix_list (pv 2) pe_int (fun _ _ => rfl)) (pa_cons (pe_ix ix_list (pv 2) pe_int (fun _ _ => rfl)) pa_nil)))))) pss_nil)
      (pss_cons (ps_if (pt_cmpR op_eq (pv 1) pe_int (nomark _)) (pss_one (ps_ret (pe_meth (pv 0) T.cl_Cloakroom T.m_Cloakroom_fetch G2 hr T.b_Cloakroom_fetch .nil (passes_call (takes_of rfl rfl rfl rfl) (fun _ _ _ _ h => h)) (pa_cons (pe_ix ix_list (pv 2) pe_int (fun _ _ => rfl)) pa_nil)))) pss_nil)
      (pss_cons (ps_if (pt_cmpR op_eq (pv 1) pe_int (nomark _)) (pss_one (ps_ret (pe_meth (pv 0) T.cl_Cloakroom T.m_Cloakroom_make G3 hr T.b_Cloakroom_make .nil (passes_call (takes_of rfl rfl rfl rfl) (fun _ _ _ _ h => h)) (pa_cons (pe_ix ix_list (pv 2) pe_int (fun _ _ => rfl)) pa_nil)))) pss_nil)
      (pss_one (ps_ret (pe_meth (pv 0) T.cl_Cloakroom T.m_Cloakroom_move G4 hr T.b_Cloakroom_move .nil (passes_call (takes_of rfl rfl rfl rfl) (fun _ _ _ _ h => h)) (pa_cons (pe_ix ix_list (pv 2) pe_int (fun _ _ => rfl)) (pa_cons (pe_ix ix_list (pv 2) pe_int (fun _ _ => rfl)) (pa_cons (pe_ix ix_list (pv 2) pe_int (fun _ _ => rfl)) pa_nil)))))))), ?_⟩
    cases AS with
    | hang v k f =>
      refine ⟨_, rfl, rfl, _, rfl, if_true_of rfl ?_⟩
      exact ⟨_, rfl, a, d.dx, _, rfl, R.ins, lm_Cloakroom_hang, _, rfl, nl, _, _, _, rfl, rfl, SqL.of hnl, rfl, _, rfl, nl, _, _, _, rfl, rfl, SqL.of hnl, rfl, _, rfl, nl, _, _, _, rfl, rfl, SqL.of hnl, rfl, a, st, d, v, k, f, rfl, R, W, AN⟩
    | fetch t =>
      refine ⟨_, rfl, rfl, _, rfl, if_false_of rfl ⟨_, rfl, rfl, _, rfl, if_true_of rfl ?_⟩⟩
      exact ⟨_, rfl, a, d.dx, _, rfl, R.ins, lm_Cloakroom_fetch, _, rfl, nl, _, _, _, rfl, rfl, SqL.of hnl, rfl, a, st, d, t, rfl, R, W, AN⟩
    | make v =>
      refine ⟨_, rfl, rfl, _, rfl, if_false_of rfl ⟨_, rfl, rfl, _, rfl, if_false_of rfl ⟨_, rfl, rfl, _, rfl, if_true_of rfl ?_⟩⟩⟩
      exact ⟨_, rfl, a, d.dx, _, rfl, R.ins, lm_Cloakroom_make, _, rfl, nl, _, _, _, rfl, rfl, SqL.of hnl, rfl, a, st, d, v, rfl, R, W, AN⟩
    | move t r h =>
      refine ⟨_, rfl, rfl, _, rfl, if_false_of rfl ⟨_, rfl, rfl, _, rfl, if_false_of rfl ⟨_, rfl, rfl, _, rfl, if_false_of rfl ?_⟩⟩⟩
      exact ⟨_, rfl, a, d.dx, _, rfl, R.ins, lm_Cloakroom_move, _, rfl, nl, _, _, _, rfl, rfl, SqL.of hnl, rfl, _, rfl, nl, _, _, _, rfl, rfl, SqL.of hnl, rfl, _, rfl, nl, _, _, _, rfl, rfl, SqL.of hnl, rfl, a, st, d, t, r, h, rfl, R, W, AN⟩
    | claim k f lo hi => omega
    | whose i => omega
    | settle i => omega
    | drop i => omega
    | rack r => omega
    | look t => omega
    | counts => omega
def sp_called (D : Ads) : Sp := fun vs H Q E => ∃ (a nl : Addr) (s : State) (d : RmA) (p : Int) (xs : List Int) (c : Mu10.Call), vs = [.ref a, .int p, .ref nl] ∧ RoomP D H a (ofS s) d ∧ WF s ∧ Asked p xs c ∧ H nl = some (.lst (xs.map V.int)) ∧ Ans D a s d c H Q E
theorem ok_called (T : Txt K mg D) : FnOk P w K mg base (L2.CX P w) 14 D.f_Cloakroom_called D.d_Cloakroom_called ["self", "call", "n"] (sp_called D) := by
  have G0 : FnOk P w K mg base (L2.CX P w) 7 D.f_Cloakroom_about_coats D.d_Cloakroom_about_coats ["self", "call", "n"] (sp_about D) := ok_about T
  have G5 : FnOk P w K mg base (L2.CX P w) 4 D.f_Cloakroom_claim D.d_Cloakroom_claim ["self", "kind", "colour", "low", "high"] (sp_claim D) := ok_claim T
  have G6 : FnOk P w K mg base (L2.CX P w) 13 D.f_Cloakroom_whose D.d_Cloakroom_whose ["self", "number"] (sp_whose D) := ok_whose T
  have G7 : FnOk P w K mg base (L2.CX P w) 13 D.f_Cloakroom_settle D.d_Cloakroom_settle ["self", "number"] (sp_settle D) := ok_settle T
  have G8 : FnOk P w K mg base (L2.CX P w) 6 D.f_Cloakroom_drop D.d_Cloakroom_drop ["self", "number"] (sp_drop D) := ok_drop T
  have G9 : FnOk P w K mg base (L2.CX P w) 4 D.f_Cloakroom_rack_told D.d_Cloakroom_rack_told ["self", "rack"] (sp_rack_told D) := ok_rack_told T
  have G10 : FnOk P w K mg base (L2.CX P w) 5 D.f_Cloakroom_look D.d_Cloakroom_look ["self", "ticket"] (sp_look D) := ok_look T
  have G11 : FnOk P w K mg base CX0 1 D.f_Cloakroom_counts D.d_Cloakroom_counts ["self"] (sp_counts D) := ok_counts T
  refine T.F_Cloakroom_called.okX sc_Cloakroom_called (fun vs H Q E h => ?_) (fun cdv A outer s H vs Q E hr h => ?_)
  · obtain ⟨a, nl, st, d, p, xs, c, rfl, _⟩ := h
    rfl
  · obtain ⟨a, nl, st, d, p, xs, c, rfl, R, W, AS, hnl, AN⟩ := h
    have hr7 : Room 7 _ := hr.mono (by decide)
    have hr4 : Room 4 _ := hr.mono (by decide)
    have hr6 : Room 6 _ := hr.mono (by decide)
    have hr5 : Room 5 _ := hr.mono (by decide)
    have hr1 : Room 1 _ := hr.mono (by decide)
    refine ⟨_, pss_cons (ps_if (pt_cmpR op_le (pv 1) pe_int (nomark _)) (pss_one (ps_ret (pe_meth (pv 0) T.cl_Cloakroom T.m_Cloakroom_about_coats G0 hr7 T.b_Cloakroom_about_coats .nil (passes_call (takes_of rfl rfl rfl rfl) (fun _ _ _ _ h => h)) (pa_cons (pv 1) (pa_cons (pv 2) pa_nil))))) pss_nil)
      (pss_cons (ps_if (pt_cmpR op_eq (pv 1) pe_int (nomark _)) (pss_one (ps_ret (pe_meth (pv 0) T.cl_Cloakroom T.m_Cloakroom_claim G5 hr4 T.b_Cloakroom_claim .nil (passes_call (takes_of rfl rfl rfl rfl) (fun _ _ _ _ h => h)) (pa_cons (pe_ix ix_list (pv 2) pe_int (fun _ _ => rfl)) (pa_cons (pe_ix ix_list (pv 2) pe_int (fun _ _ => rfl)) (pa_cons (pe_ix ix_list (pv 2) pe_int (fun _ _ => rfl)) (pa_cons (pe_ix ix_list (pv 2) pe_int (fun _ _ => rfl)) pa_nil))))))) pss_nil)
      (pss_cons (ps_if (pt_cmpR op_eq (pv 1) pe_int (nomark _)) (pss_one (ps_ret (pe_meth (pv 0) T.cl_Cloakroom T.m_Cloakroom_whose G6 hr T.b_Cloakroom_whose .nil (passes_call (takes_of rfl rfl rfl rfl) (fun _ _ _ _ h => h)) (pa_cons (pe_ix ix_list (pv 2) pe_int (fun _ _ => rfl)) pa_nil)))) pss_nil)
      (pss_cons (ps_if (pt_cmpR op_eq (pv 1) pe_int (nomark _)) (pss_one (ps_ret (pe_meth (pv 0) T.cl_Cloakroom T.m_Cloakroom_settle G7 hr T.b_Cloakroom_settle .nil (passes_call (takes_of rfl rfl rfl rfl) (fun _ _ _ _ h => h)) (pa_cons (pe_ix ix_list (pv 2) pe_int (fun _ _ => rfl)) pa_nil)))) pss_nil)
      (pss_cons (ps_if (pt_cmpR op_eq (pv 1) pe_int (nomark _)) (pss_one (ps_ret (pe_meth (pv 0) T.cl_Cloakroom T.m_Cloakroom_drop G8 hr6 T.b_Cloakroom_drop .nil (passes_call (takes_of rfl rfl rfl rfl) (fun _ _ _ _ h => h)) (pa_cons (pe_ix ix_list (pv 2) pe_int (fun _ _ => rfl)) pa_nil)))) pss_nil)
      (pss_cons (ps_if (pt_cmpR op_eq (pv 1) pe_int (nomark _)) (pss_one (ps_ret (pe_meth (pv 0) T.cl_Cloakroom T.m_Cloakroom_rack_told G9 hr4 T.b_Cloakroom_rack_told .nil (passes_call (takes_of rfl rfl rfl rfl) (fun _ _ _ _ h => h)) (pa_cons (pe_ix ix_list (pv 2) pe_int (fun _ _ => rfl)) pa_nil)))) pss_nil)
      (pss_cons (ps_if (pt_cmpR op_eq (pv 1) pe_int (nomark _)) (pss_one (ps_ret (pe_meth (pv 0) T.cl_Cloakroom T.m_Cloakroom_look G10 hr5 T.b_Cloakroom_look .nil (passes_call (takes_of rfl rfl rfl rfl) (fun _ _ _ _ h => h)) (pa_cons (pe_ix ix_list (pv 2) pe_int (fun _ _ => rfl)) pa_nil)))) pss_nil)
      (pss_one (ps_ret (pe_meth0 (pv 0) T.cl_Cloakroom T.m_Cloakroom_counts G11 hr1 T.b_Cloakroom_counts .nil pass0))))))))), ?_⟩
    have small : ∀ {p : Int} {xs : List Int} {c : Mu10.Call}, Asked p xs c → p ≤ 4 → H nl = some (.lst (xs.map V.int)) → Ans D a st d c H Q E → sp_about D ([.ref a, .int p, .ref nl]) H Q E := fun AS h4 hnl AN => ⟨a, nl, st, d, _, _, _, rfl, R, W, AS, h4, hnl, AN⟩
    cases AS with
    | hang v k f =>
      refine ⟨_, rfl, _, _, rfl, rfl, _, rfl, if_true_of rfl ?_⟩
      exact ⟨_, rfl, a, d.dx, _, rfl, R.ins, lm_Cloakroom_about_coats, _, rfl, _, rfl, small (.hang v k f) (by decide) hnl AN⟩
    | fetch t =>
      refine ⟨_, rfl, _, _, rfl, rfl, _, rfl, if_true_of rfl ?_⟩
      exact ⟨_, rfl, a, d.dx, _, rfl, R.ins, lm_Cloakroom_about_coats, _, rfl, _, rfl, small (.fetch t) (by decide) hnl AN⟩
    | make v =>
      refine ⟨_, rfl, _, _, rfl, rfl, _, rfl, if_true_of rfl ?_⟩
      exact ⟨_, rfl, a, d.dx, _, rfl, R.ins, lm_Cloakroom_about_coats, _, rfl, _, rfl, small (.make v) (by decide) hnl AN⟩
    | move t r h =>
      refine ⟨_, rfl, _, _, rfl, rfl, _, rfl, if_true_of rfl ?_⟩
      exact ⟨_, rfl, a, d.dx, _, rfl, R.ins, lm_Cloakroom_about_coats, _, rfl, _, rfl, small (.move t r h) (by decide) hnl AN⟩
    | claim k f lo hi =>
      refine ⟨_, rfl, _, _, rfl, rfl, _, rfl, if_false_of rfl ⟨_, rfl, rfl, _, rfl, if_true_of rfl ?_⟩⟩
      exact ⟨_, rfl, a, d.dx, _, rfl, R.ins, lm_Cloakroom_claim, _, rfl, nl, _, _, _, rfl, rfl, SqL.of hnl, rfl, _, rfl, nl, _, _, _, rfl, rfl, SqL.of hnl, rfl, _, rfl, nl, _, _, _, rfl, rfl, SqL.of hnl, rfl, _, rfl, nl, _, _, _, rfl, rfl, SqL.of hnl, rfl, a, st, d, k, f, lo, hi, rfl, R, W, AN⟩
    | whose i =>
      refine ⟨_, rfl, _, _, rfl, rfl, _, rfl, if_false_of rfl ⟨_, rfl, rfl, _, rfl, if_false_of rfl ⟨_, rfl, rfl, _, rfl, if_true_of rfl ?_⟩⟩⟩
      exact ⟨_, rfl, a, d.dx, _, rfl, R.ins, lm_Cloakroom_whose, _, rfl, nl, _, _, _, rfl, rfl, SqL.of hnl, rfl, a, st, d, i, rfl, R, W, AN⟩
    | settle i =>
      refine ⟨_, rfl, _, _, rfl, rfl, _, rfl, if_false_of rfl ⟨_, rfl, rfl, _, rfl, if_false_of rfl ⟨_, rfl, rfl, _, rfl, if_false_of rfl ⟨_, rfl, rfl, _, rfl, if_true_of rfl ?_⟩⟩⟩⟩
      exact ⟨_, rfl, a, d.dx, _, rfl, R.ins, lm_Cloakroom_settle, _, rfl, nl, _, _, _, rfl, rfl, SqL.of hnl, rfl, a, st, d, i, rfl, R, W, AN⟩
    | drop i =>
      refine ⟨_, rfl, _, _, rfl, rfl, _, rfl, if_false_of rfl ⟨_, rfl, rfl, _, rfl, if_false_of rfl ⟨_, rfl, rfl, _, rfl, if_false_of rfl ⟨_, rfl, rfl, _, rfl, if_false_of rfl ⟨_, rfl, rfl, _, rfl, if_true_of rfl ?_⟩⟩⟩⟩⟩
      exact ⟨_, rfl, a, d.dx, _, rfl, R.ins, lm_Cloakroom_drop, _, rfl, nl, _, _, _, rfl, rfl, SqL.of hnl, rfl, a, st, d, i, rfl, R, W, AN⟩
    | rack r =>
      refine ⟨_, rfl, _, _, rfl, rfl, _, rfl, if_false_of rfl ⟨_, rfl, rfl, _, rfl, if_false_of rfl ⟨_, rfl, rfl, _, rfl, if_false_of rfl ⟨_, rfl, rfl, _, rfl, if_false_of rfl ⟨_, rfl, rfl, _, rfl, if_false_of rfl ⟨_, rfl, rfl, _, rfl, if_true_of rfl ?_⟩⟩⟩⟩⟩⟩
      exact ⟨_, rfl, a, d.dx, _, rfl, R.ins, lm_Cloakroom_rack_told, _, rfl, nl, _, _, _, rfl, rfl, SqL.of hnl, rfl, a, st, d, r, rfl, R, W, AN⟩
    | look t =>
      refine ⟨_, rfl, _, _, rfl, rfl, _, rfl, if_false_of rfl ⟨_, rfl, rfl, _, rfl, if_false_of rfl ⟨_, rfl, rfl, _, rfl, if_false_of rfl ⟨_, rfl, rfl, _, rfl, if_false_of rfl ⟨_, rfl, rfl, _, rfl, if_false_of rfl ⟨_, rfl, rfl, _, rfl, if_false_of rfl ⟨_, rfl, rfl, _, rfl, if_true_of rfl ?_⟩⟩⟩⟩⟩⟩⟩
      exact ⟨_, rfl, a, d.dx, _, rfl, R.ins, lm_Cloakroom_look, _, rfl, nl, _, _, _, rfl, rfl, SqL.of hnl, rfl, a, st, d, t, rfl, R, W, AN⟩
    | counts =>
      refine ⟨_, rfl, _, _, rfl, rfl, _, rfl, if_false_of rfl ⟨_, rfl, rfl, _, rfl, if_false_of rfl ⟨_, rfl, rfl, _, rfl, if_false_of rfl ⟨_, rfl, rfl, _, rfl, if_false_of rfl ⟨_, rfl, rfl, _, rfl, if_false_of rfl ⟨_, rfl, rfl, _, rfl, if_false_of rfl ⟨_, rfl, rfl, _, rfl, if_false_of rfl ?_⟩⟩⟩⟩⟩⟩⟩
      refine ⟨_, rfl, a, d.dx, _, rfl, R.ins, lm_Cloakroom_counts, a, st, d, rfl, R, W, fun H' dx z e _ _ _ => ?_, AN.2⟩
      have e2 : (6 : Nat) = 1 := congrArg (fun x : State × List Int => x.2.length) e
      omega
end
end Ck
end
section
set_option Elab.async false
set_option linter.all false
set_option maxRecDepth 100000
set_option maxHeartbeats 4000000
/-! A call but begin: its answer, or its refusal. -/
namespace Ck
open PySem PySem.Spec PyProof.Rows L2
open Mu10 (State Coat Rack Spot)
section
variable {P : Program} {w : World} {K : PySem.W.Frag} {mg : Str → Option Value} {base : Heap} {D : Ads}
def sp_answer (D : Ads) : Sp := fun vs H Q _ => ∃ (a nl : Addr) (s : State) (d : RmA) (p : Int) (xs : List Int) (c : Mu10.Call), vs = [.ref a, .int p, .ref nl] ∧ RoomP D H a (ofS s) d ∧ WF s ∧ Asked p xs c ∧ H nl = some (.lst (xs.map V.int)) ∧
  ∀ H' q, After D a d H H' (Mu10.step s c).1 → H q = none → H' q = some (.lst ((Mu10.step s c).2.map V.int)) → Q (.ref q) H'
theorem ok_answer (T : Txt K mg D) : FnOk P w K mg base CX0 15 D.f_Cloakroom_answer D.d_Cloakroom_answer ["self", "call", "n"] (sp_answer D) := by
  have GC : FnOk P w K mg base (L2.CX P w) 14 D.f_Cloakroom_called D.d_Cloakroom_called ["self", "call", "n"] (sp_called D) := ok_called T
  refine T.F_Cloakroom_answer.ok sc_Cloakroom_answer (fun vs H Q E h => ?_) (fun cdv A outer s H vs Q E hr h => ?_)
  · obtain ⟨a, nl, st, d, p, xs, c, rfl, _⟩ := h
    rfl
  · obtain ⟨a, nl, st, d, p, xs, c, rfl, R, W, AS, hnl, AN⟩ := h
    refine ⟨_, pss_cons (ps_try_as (i := 4) (tb := fun W => tAsg (tMethS D.c_Cloakroom "called" (sp_called D) (WE W) (tVar 0) (tCons (tVar 1) (tCons (tVar 2) tNil))) (gName 3)) (ts := fun a cls d => tAsg (tLst (tCons (tXf a cls d D.c_Refused "code" (tVar 4)) tNil)) (gName 3)) (Wout := fun _ _ _ _ => False) rfl rfl sc_Cloakroom_answer.nd rfl rfl ⟨rfl, by decide, Or.inl T.g_Refused⟩ takes0
        (fun W pn xe tk _ => pss_one (ps_set (i := 3) sc_Cloakroom_answer.nd rfl (Or.inl rfl) (by exact pe_methS (pv 0) T.cl_Cloakroom T.m_Cloakroom_called GC hr T.b_Cloakroom_called (fun σ => passAt tk σ) (by exact pa_cons (pv 1) (pa_cons (pv 2) pa_nil)))))
        (fun a oe cls d pn hz hf => pss_one (ps_set (i := 3) sc_Cloakroom_answer.nd rfl (Or.inl rfl) (by exact pe_lst (pa_cons (pe_xf T.xf T.nCode hz hf (pv 4)) pa_nil)))))
      (pss_one (ps_ret (pv 3))), ?_⟩
    refine ⟨_, rfl, a, d.dx, _, rfl, R.ins, lm_Cloakroom_called, _, rfl, _, rfl, a, nl, st, d, p, xs, c, rfl, R, W, AS, hnl, fun H' dx z e AF hd hx => ?_, fun H' q AF hq hq' => ?_⟩
    · refine ⟨true, T.te, fun _ a0 _ => ?_, fun q => Bool.noConfusion q⟩
      refine ⟨_, rfl, rfl, rfl, dx, _, _, rfl, hx, lk_here, by show 1 ≤ sizeLine; decide, fun q hq => ?_⟩
      obtain ⟨d', S⟩ := AF
      rw [e] at AN
      exact ⟨_, rfl, AN _ q ⟨d', S.more (Same.new hq)⟩ (S.free hq) upd_same⟩
    · exact ⟨_, rfl, AN _ q AF hq hq'⟩
end
end Ck
end
section
set_option Elab.async false
set_option linter.all false
set_option maxRecDepth 100000
set_option maxHeartbeats 4000000
/-! The calls one behind the other. -/
namespace Ck
open PySem PySem.Spec PyProof.Rows L2
open Mu10 (State Coat Rack Spot)
/-- the given list: frozen, or one of the module's own -/
def CallsAt (K : PySem.W.Frag) (H : Hp) (a : Addr) (xs : List V) : Prop :=
  (∃ o, H a = some (.frz o (.lst xs))) ∨ ∃ (o : Obj) (its : Array Value) (n : Nat), K.lookup a = some o ∧ o.cls = .type "list" ∧ o.dict = none ∧ o.data = .seq its n ∧ its.size ≤ sizeLine ∧ Vals xs its.toList
section
variable {K : PySem.W.Frag} {H H' : Hp} {a : Addr} {xs : List V}
theorem CallsAt.sq (h : CallsAt K H a xs) : SqL K H a xs := h.elim (fun ⟨o, e⟩ => .inl (.inr ⟨o, e⟩)) .inr
theorem CallsAt.mono (h : CallsAt K H a xs) (k : ∀ o u, H a = some (.frz o u) → H' a = some (.frz o u)) : CallsAt K H' a xs := h.elim (fun ⟨o, e⟩ => .inl ⟨o, k _ _ e⟩) .inr
theorem CallsAt.same (h : CallsAt K H a xs) (s : Same H H') : CallsAt K H' a xs := h.mono fun _ _ e => s _ _ e
theorem CallsAt.put (h : CallsAt K H a xs) {f : Addr} {ys : List V} {o : HO} (hf : H f = some (.lst ys)) : CallsAt K (upd H f o) a xs := h.mono fun _ _ e => by
  rw [upd_ne (ne_of e hf (by intro z; cases z))]; exact e
theorem CallsAt.stp {D : Ads} {rm : Addr} {m m' : MS} {d d' : RmA} (h : CallsAt K H a xs) (R : RoomP D H rm m d) (S : Stp D rm d d' H H' m') : CallsAt K H' a xs := h.mono fun o u e =>
  S.fr.keep _ _ e (by intro _ _ _ z; cases z) (fun z => by obtain ⟨ys, q⟩ := R.lst z; rw [e] at q; cases q)
theorem CallsAt.only (hO : OnlyF H) (h : SqL K H a xs) : CallsAt K H a xs := by
  rcases h with (e | e) | e
  · rcases hO a with q | ⟨o, u, q⟩
    · rw [q] at e; cases e
    · rw [q] at e; cases e
  · exact .inl e
  · exact .inr e
end
/-- a list that is none of the room's is written -/
theorem RoomP.put {D : Ads} {H : Hp} {a : Addr} {m : MS} {d : RmA} (h : RoomP D H a m d) {f : Addr} {xs : List V} {o : HO} (hf : H f = some (.lst xs)) (n : f ∉ d.ls) : RoomP D (upd H f o) a m d := by
  have nl : ∀ {b : Addr}, b ∈ d.ls → b ≠ f := fun hb z => n (z ▸ hb)
  have ni : ∀ {b C dx : Addr} {fs : List (Str × V)}, H b = some (.ins C dx fs) → b ≠ f := fun e z => lst_ne_ins hf e z.symm
  have nt : ∀ {b : Addr} {ys : List V}, H b = some (.tup ys) → b ≠ f := fun e => tup_ne_lst e hf
  have mk : d.r.hk ∈ d.ls ∧ d.cl ∈ d.ls ∧ d.km ∈ d.ls ∧ d.r.ra ∈ d.ls ∧ ∀ r ∈ d.r.rows, r ∈ d.ls := by
    unfold RmA.ls
    refine ⟨.head _, .tail _ (.head _), .tail _ (.tail _ (.head _)), .tail _ (.tail _ (.tail _ (.head _))), fun r hr => .tail _ (.tail _ (.tail _ (.tail _ hr)))⟩
  obtain ⟨m1, m2, m3, m4, m5⟩ := mk
  refine ⟨?_, h.rk.keep (X := fun b => b = f) kp_upd (ni h.rk.ins) (nl m4) (nl m1) (fun r hr => nl (m5 r hr)) (fun t ys e => nt e), ?_, h.co.mono fun c x _ _ ⟨dx, pl, e, p⟩ => ⟨dx, pl, ?_, p.keep fun _ _ z => ?_⟩, h.coN, ?_, h.ks.mono fun c x _ _ ⟨dx, e⟩ => ⟨dx, ?_⟩, h.ksN, h.n1, h.n2, h.n3, h.n4⟩
  · rw [upd_ne (ni h.ins)]; exact h.ins
  · rw [upd_ne (nl m2)]; exact h.cl
  · rw [upd_ne (ni e)]; exact e
  · rw [upd_ne (nt z)]; exact z
  · rw [upd_ne (nl m3)]; exact h.km
  · rw [upd_ne (ni e)]; exact e
theorem cut_ints (ns : List Int) {i j : Nat} (hi : i ≤ j) (hj : j ≤ ns.length) : cutV (ns.map V.int) (some (i : Int)) (some (j : Int)) = ((ns.drop i).take (j - i)).map V.int := by
  unfold cutV
  rw [List.length_map, HT.sIx_nat, HT.sIx_nat, Nat.min_eq_left (by omega : i ≤ ns.length), Nat.min_eq_left hj, List.map_take, List.map_drop]
def mkRacks (ps : List (Nat × Nat)) : List Rack := ps.map fun (x : Nat × Nat) => (⟨x.1, x.2⟩ : Rack)
theorem st_begin0 {s : State} {ps : List (Nat × Nat)} (h : racksOk ps = false) : Mu10.step s (.begin_ ps) = (s, [-1]) := by
  have c : ps.isEmpty = true ∨ (6 < ps.length ∨ ps.any (fun (x : Nat × Nat) => decide (x.1 = 0 ∨ (30 < x.1 ∨ 100 < x.2))) = true) := Classical.byContradiction fun z => by
    rw [(racksOk_iff ps).mpr z] at h; cases h
  simp only [Mu10.step]
  rw [if_pos c]
theorem st_begin1 {s : State} {ps : List (Nat × Nat)} (h : racksOk ps = true) : Mu10.step s (.begin_ ps) = ({ Mu10.none_ with racks := mkRacks ps }, [0]) := by
  have c := (racksOk_iff ps).mp h
  simp only [Mu10.step]
  rw [if_neg c]
  rfl
theorem wf_none : WF Mu10.none_ := ⟨by decide, fun k h => by simp [Mu10.none_] at h, by decide, fun t c h => by simp [Mu10.none_] at h, fun t c p h => by simp [Mu10.none_] at h, fun t u c d r h e => by simp [Mu10.none_] at e, by decide⟩
theorem wf_begin {ps : List (Nat × Nat)} (h : racksOk ps = true) : WF { Mu10.none_ with racks := mkRacks ps } := by
  have c := (racksOk_iff ps).mp h
  simp only [not_or] at c
  obtain ⟨_, c2, c3⟩ := c
  refine ⟨by show (mkRacks ps).length ≤ 6; unfold mkRacks; rw [List.length_map]; omega, fun k hk => ?_, Nat.zero_le _, fun t c h => by simp [Mu10.none_] at h, fun t c p h => by simp [Mu10.none_] at h, fun t u c d r h e => by simp [Mu10.none_] at e, Nat.zero_le _⟩
  obtain ⟨x, hx, rfl⟩ := List.mem_map.mp hk
  have : ¬ (x.1 = 0 ∨ (30 < x.1 ∨ 100 < x.2)) := fun z => c3 (List.any_eq_true.mpr ⟨x, hx, decide_eq_true z⟩)
  show 1 ≤ x.1 ∧ x.1 ≤ 30 ∧ x.2 ≤ 100
  omega
theorem calls_nil {f : Nat} {cs : List (List (List Int))} (h : PyFlat.calls PyMu10.shape f [] = some cs) : cs = [] := by
  cases f <;> · simp [PyFlat.calls] at h; exact h
theorem due_nil (s : State) : due s [] = [] := rfl
section
variable {P : Program} {w : World} {K : PySem.W.Frag} {mg : Str → Option Value} {base : Heap} {D : Ads}
/-- how it stands before a turn -/
structure Lp (D : Ads) (K : PySem.W.Frag) (ns A : List Int) (a : Addr) (H : Hp) (i : Nat) (rm fo : Addr) (st : State) (d : RmA) (cs : List (List (List Int))) (got : List Int) : Prop where
  le : i ≤ ns.length
  room : RoomP D H rm (ofS st) d
  wf : WF st
  hfo : H fo = some (.lst (got.map V.int))
  nf : fo ∉ d.ls
  ca : CallsAt K H a (ns.map V.int)
  cl : ∃ fl, PyFlat.calls PyMu10.shape fl (ns.drop i) = some cs
  ask : ∀ c ∈ cs, Mu10Neutral.asked1 c = true
  end_ : got ++ due st cs = A
def LpW (D : Ads) (K : PySem.W.Frag) (ns A : List Int) (a : Addr) (m : Nat) (σ : L2.St) (H : Hp) : Prop := ∃ (i : Nat) (rm fo : Addr) (st : State) (d : RmA) (cs : List (List (List Int))) (got : List Int) (z : Int) (v4 v5 v6 v7 v8 : Option V),
  σ = [some (.ref a), some (.ref rm), some (.ref fo), some (.int z), v4, v5, v6, v7, v8] ∧ z = (i : Int) ∧ m = ns.length - i ∧ Lp D K ns A a H i rm fo st d cs got
def t_tail (K : PySem.W.Frag) : TS := tSeq (tDrop (tBM K "list" rAppend (tVar 2) (tCons (tCB (fun xs H Q => ∃ p ys, xs = [.ref p] ∧ (SqL K H p ys ∨ SqT K H p ys) ∧ Q (.int ys.length) H) (tCons (tVar 7) tNil)) tNil))) (tDrop (tBM K "list" rExtend (tVar 2) (tCons (tVar 7) tNil)))
/-- what is found is told, behind each call -/
theorem tail_of {ns A : List Int} {a : Addr} {m i : Nat} (hA : A.length ≤ 10000000) {Ds : Ends} (hnx : ∀ σ H, (∃ m', m' < m ∧ LpW D K ns A a m' σ H) → Ds.nx σ H) {H : Hp} {j : Nat} {rm fo q : Addr} {st : State} {d : RmA} {fl : Nat} {cs : List (List (List Int))} {got ans : List Int} {z : Int} {v4 v5 v6 v8 : Option V}
    (hm : m = ns.length - i) (hi : i < ns.length) (hij : i < j) (hz : z = (j : Int)) (hle : j ≤ ns.length) (R : RoomP D H rm (ofS st) d) (W : WF st) (hfo : H fo = some (.lst (got.map V.int))) (nf : fo ∉ d.ls) (ca : CallsAt K H a (ns.map V.int)) (hq : H q = some (.lst (ans.map V.int))) (nq : q ≠ fo)
    (hcl : PyFlat.calls PyMu10.shape fl (ns.drop j) = some cs) (ask : ∀ c ∈ cs, Mu10Neutral.asked1 c = true) (he : got ++ (((ans.length : Int) :: ans) ++ due st cs) = A) :
    t_tail K Ds [some (.ref a), some (.ref rm), some (.ref fo), some (.int z), v4, v5, v6, some (.ref q), v8] H := by
  have hl : got.length + (ans.length + 1) + (due st cs).length ≤ 10000000 := by
    rw [← he] at hA
    simp only [List.length_append, List.length_cons] at hA
    omega
  refine ⟨_, rfl, .inl ⟨rfl, _, SqL.of hfo⟩, _, rfl, q, _, rfl, .inl (SqL.of hq), fo, _, _, rfl, rfl, hfo, by rw [List.length_map]; exact lt_line (by omega), ?_⟩
  rw [List.length_map]
  have e1 : upd H fo (.lst (got.map V.int ++ [.int (ans.length : Int)])) fo = some (.lst ((got ++ [(ans.length : Int)]).map V.int)) := by rw [upd_same, List.map_append]; rfl
  have hq1 : upd H fo (.lst (got.map V.int ++ [.int (ans.length : Int)])) q = some (.lst (ans.map V.int)) := by rw [upd_ne nq]; exact hq
  have R1 := R.put (o := .lst (got.map V.int ++ [.int (ans.length : Int)])) hfo nf
  have ca1 := ca.put (o := .lst (got.map V.int ++ [.int (ans.length : Int)])) hfo
  generalize upd H fo (.lst (got.map V.int ++ [.int (ans.length : Int)])) = H1 at e1 hq1 R1 ca1 ⊢
  refine ⟨_, rfl, .inl ⟨rfl, _, SqL.of e1⟩, _, rfl, fo, q, _, _, rfl, rfl, e1, hq1, by rw [List.length_map, List.length_map, List.length_append, List.length_singleton]; exact Nat.le_of_lt (lt_line (by omega)), ?_⟩
  refine hnx _ _ ⟨ns.length - j, by omega, j, rm, fo, st, d, cs, got ++ [(ans.length : Int)] ++ ans, z, v4, v5, v6, some (.ref q), v8, rfl, hz, rfl, hle, R1.put e1 nf, W, ?_, nf, ca1.put e1, ⟨fl, hcl⟩, ask, ?_⟩
  · rw [upd_same, List.map_append (l₁ := got ++ [(ans.length : Int)])]
  · rw [← he]
    simp only [List.append_assoc, List.singleton_append, List.cons_append, List.nil_append]
end
end Ck
end
section
set_option Elab.async false
set_option linter.all false
set_option maxRecDepth 100000
set_option maxHeartbeats 4000000
/-! The calls one behind the other: the walk. -/
namespace Ck
open PySem PySem.Spec PyProof.Rows L2
open Mu10 (State Coat Rack Spot)
section
variable {P : Program} {w : World} {K : PySem.W.Frag} {mg : Str → Option Value} {base : Heap} {D : Ads}
def sp_answers (K : PySem.W.Frag) : Sp := fun vs H Q _ => ∃ (a : Addr) (ns : List Int), vs = [.ref a] ∧ CallsAt K H a (ns.map V.int) ∧ PyMu10.answers_asked ns = true ∧ ∀ H' q, H' q = some (.lst ((PyMu10.answers ns).map V.int)) → Q (.ref q) H'
theorem ok_answers (T : Txt K mg D) : FnOk P w K mg base CX0 16 D.f_answers D.d_answers ["calls"] (sp_answers K) := by
  have GI : FnOk P w K mg base CX0 3 D.f_Cloakroom_init D.d_Cloakroom_init ["self", "racks"] (sp_room_init D) := ok_room_init T
  have GR : FnOk P w K mg base CX0 1 D.f_are_racks D.d_are_racks ["row"] sp_are_racks := ok_are_racks T
  have GA : FnOk P w K mg base CX0 15 D.f_Cloakroom_answer D.d_Cloakroom_answer ["self", "call", "n"] (sp_answer D) := ok_answer T
  refine T.F_answers.ok sc_answers (fun vs H Q E h => ?_) (fun cdv A outer s H vs Q E hr h => ?_)
  · obtain ⟨a, ns, rfl, _⟩ := h
    rfl
  · obtain ⟨a, ns, rfl, hca, hask, Qh⟩ := h
    have hr4 : Room 4 _ := hr.mono (by decide)
    have hr1 : Room 1 _ := hr.mono (by decide)
    refine ⟨_, pss_cons (ps_set (i := 1) sc_answers.nd rfl (Or.inl rfl) (pe_make T.mk_Cloakroom GI hr4 rfl T.g_Cloakroom T.b_Cloakroom_init .nil pass0 (pa_cons (pe_lst pa_nil) pa_nil)))
      (pss_cons (ps_set (i := 2) sc_answers.nd rfl (Or.inl rfl) (pe_lst pa_nil))
      (pss_cons (ps_set (i := 3) sc_answers.nd rfl (Or.inl rfl) pe_int)
      (pss_cons (ps_while PassesOwn.never (pt_cmpR op_lt (pv 3) (pe_callB call_len_seq (by rfl) T.w_len PySem.boot_len (pa_cons (pv 0) pa_nil)) (nomark _))
        (pss_cons (ps_set (i := 4) sc_answers.nd rfl (Or.inl rfl) (pe_ix ix_list (pv 0) (pv 3) (fun _ _ => rfl)))
        (pss_cons (ps_set (i := 5) sc_answers.nd rfl (Or.inl rfl) (pe_op op_add (pv 3) pe_int))
        (pss_cons (ps_set (i := 3) sc_answers.nd rfl (Or.inl rfl) (pe_op op_add (pv 5) (pe_ix ix_tup (pe_glob (v := .ref D.a_NUMBERS) rfl T.g_NUMBERS rfl) (pv 4) (fun _ _ => rfl))))
        (pss_cons (ps_if (pt_cmpR op_eq (pv 4) (pe_num T.k_BEGIN) (nomark _))
          (pss_cons (ps_set (i := 3) sc_answers.nd rfl (Or.inl rfl) (pe_op op_add (pe_op op_add (pv 5) pe_int) (pe_ix ix_list (pv 0) (pv 5) (fun _ _ => rfl))))
          (pss_cons (ps_set (i := 6) sc_answers.nd rfl (Or.inr rfl) (pe_slice sl_list (pv 0) (po_some (pe_op op_add (pv 5) pe_int)) (po_some (pv 3))))
          (pss_cons (ps_set (i := 7) sc_answers.nd rfl (Or.inl rfl) (pe_lst (pa_cons (pe_num T.k_WRONG) pa_nil)))
          (pss_one (ps_if (pt_val (pe_call GR hr1 rfl T.g_are_racks T.F_are_racks.kp T.b_are_racks .nil pass0 (pa_cons (pv 6) pa_nil)))
            (pss_cons (ps_set (i := 1) sc_answers.nd rfl (Or.inl rfl) (pe_make T.mk_Cloakroom GI hr4 rfl T.g_Cloakroom T.b_Cloakroom_init .nil pass0 (pa_cons
              (pe_lc (own := [("k", 8)]) (g := gName 8) (tt := tYes) (te := tTup (tCons (tOp (rIxL K) (tVar 6) (tVar 8)) (tCons (tOp (rIxL K) (tVar 6) (tOp (rI0 fun i j => .int (i + j)) (tVar 8) (tC (.int 1)))) tNil))) rfl sc_answers.nd (pi_range3 rfl T.w_range (pa_cons pe_int (pa_cons (pe_callB call_len_seq (by rfl) T.w_len PySem.boot_len (pa_cons (pv 6) pa_nil)) (pa_cons pe_int pa_nil)))) (blkOk_by (N := ["calls", "room", "found", "at", "call", "begin", "numbers", "row", "k"]) (sc := defScope s_answers) (by decide +kernel))
                (fun _ _ _ _ _ => pg_name (i := 8) sc_answers.nd rfl (Or.inl rfl)) (fun _ _ _ _ _ => pts_nil) (fun _ _ _ _ _ => by exact pe_tup (pa_cons (pe_ix ix_list (pv 6) (pv 8) (fun _ _ => rfl)) (pa_cons (pe_ix ix_list (pv 6) (pe_op op_add (pv 8) pe_int) (fun _ _ => rfl)) pa_nil)))) pa_nil)))
            (pss_one (ps_set (i := 7) sc_answers.nd rfl (Or.inl rfl) (pe_lst (pa_cons pe_int pa_nil))))) pss_nil)))))
          (pss_one (ps_set (i := 7) sc_answers.nd rfl (Or.inl rfl) (pe_meth (pv 1) T.cl_Cloakroom T.m_Cloakroom_answer GA hr T.b_Cloakroom_answer .nil pass0 (pa_cons (pv 4) (pa_cons (pe_slice sl_list (pv 0) (po_some (pv 5)) (po_some (pv 3))) pa_nil))))))
        (pss_cons (ps_expr (pe_bm PySem.F.plainAttrs_list PySem.F.slot_list_append PySem.F.type_list_append mt_append (pv 2) (pa_cons (pe_callB call_len_seq (by rfl) T.w_len PySem.boot_len (pa_cons (pv 7) pa_nil)) pa_nil)))
        (pss_one (ps_expr (pe_bm PySem.F.plainAttrs_list PySem.F.slot_list_extend PySem.F.type_list_extend mt_extend (pv 2) (pa_cons (pv 7) pa_nil))))))))))
      (pss_one (ps_ret (pv 2)))))), ?_⟩
    obtain ⟨cs0, hcs0, hall, hlen, hans⟩ := asked_all hask
    rw [hans] at Qh
    generalize hAl : due Mu10.none_ cs0 = Al0 at hlen Qh
    -- room = Cloakroom([])
    refine ⟨Nat.zero_le _, fun l0 hl0 => ?_⟩
    have s0 := Same.new (o := .lst []) hl0
    have el0 : upd H l0 (.lst []) l0 = some (.lst []) := upd_same
    have ca0 := hca.same s0
    generalize upd H l0 (.lst []) = H0 at s0 el0 ca0 ⊢
    refine fun rm dx nrm ndx ndr => ?_
    have s1 : Same H0 (upd (upd H0 dx (.own rm)) rm (.ins D.c_Cloakroom dx [])) := fun b o h => by
      rw [upd_ne (ne_of_none h nrm), upd_ne (ne_of_none h ndx)]; exact h
    refine ⟨rm, dx, l0, [], [], rfl, upd_same, s1 _ _ el0, Al.nil, fun k hk => by simp at hk, by decide, fun H2 d2 R2 fr2 k2 => ⟨rfl, ?_⟩⟩
    have s2 : Same H0 H2 := fun b o h => k2 b o (s1 _ _ h) (ne_of_none h nrm)
    have ca2 := ca0.same s2
    -- found = []
    refine ⟨Nat.zero_le _, fun fo hfo => ?_⟩
    have s3 := Same.new (o := .lst []) hfo
    have efo : upd H2 fo (.lst []) fo = some (.lst []) := upd_same
    have R3 := R2.same s3
    have ca3 := ca2.same s3
    have nfo : fo ∉ d2.ls := R2.newL (Same.refl H2) hfo
    generalize upd H2 fo (.lst []) = H3 at s3 efo R3 ca3 ⊢
    refine ⟨LpW D K ns Al0 a, ⟨ns.length - 0, 0, rm, fo, Mu10.none_, d2, cs0, [], 0, none, none, none, none, none, rfl, rfl, rfl, Nat.zero_le _, R3, wf_none, efo, nfo, ca3, ⟨_, hcs0⟩, hall, hAl⟩, ?_⟩
    rintro m σ H4 ⟨i, rm, fo, st, d, cs, got, z, v4, v5, v6, v7, v8, rfl, rfl, hm, L⟩
    obtain ⟨hle, R, W, hfo, nf, ca, ⟨fl, hcl⟩, ask, hend⟩ := L
    refine ⟨_, rfl, _, rfl, a, _, rfl, .inl ca.sq, _, _, rfl, rfl, _, rfl, ?_⟩
    rw [List.length_map]
    by_cases hlt : i < ns.length
    rotate_left
    · refine if_false_of (decide_eq_false (by omega)) ?_
      rw [List.drop_eq_nil_of_le (by omega)] at hcl
      have := calls_nil hcl
      subst this
      rw [due_nil, List.append_nil] at hend
      subst hend
      exact ⟨_, rfl, Qh _ _ hfo⟩
    refine if_true_of (decide_eq_true (by omega)) ⟨fun σ' H' => ∃ m', m' < m ∧ LpW D K ns Al0 a m' σ' H', fun _ _ h => h, ?_⟩
    have hdrop : ns.drop i = ns[i] :: ns.drop (i + 1) := List.drop_eq_getElem_cons hlt
    have hpi : ns[i]? = some ns[i] := List.getElem?_eq_getElem hlt
    generalize hp : ns[i] = p at hdrop hpi
    rw [hdrop] at hcl
    obtain ⟨c, cs', fl', rfl, hcase⟩ := next_call hcl
    have hac : Mu10Neutral.asked1 c = true := ask c (List.mem_cons_self ..)
    have ask' : ∀ c ∈ cs', Mu10Neutral.asked1 c = true := fun c' h => ask c' (List.mem_cons_of_mem _ h)
    rw [due_cons] at hend
    -- call, begin
    refine ⟨_, rfl, _, rfl, a, _, _, _, rfl, rfl, ca.sq, atI_nat (at_map hpi), ?_⟩
    refine ⟨_, rfl, _, _, rfl, rfl, ?_⟩
    rcases hcase with ⟨rfl, k, x, hr', hk, rfl, hcl'⟩ | ⟨j, n, rfl, hj1, hj2, hnum, hn, rfl, hcl'⟩
    · -- begin
      have hk1 : ns[i + 1]? = some (k : Int) := by
        have h := congrArg (fun l : List Int => l[0]?) hr'
        simp only [List.getElem?_drop] at h
        exact h
      have hx : ns.drop (i + 2) = x := by
        have h := congrArg (fun l : List Int => l.drop 1) hr'
        simp only [List.drop_drop] at h
        exact h
      have hnl : ns.length = i + 2 + x.length := by
        have h := congrArg List.length hx
        rw [List.length_drop] at h
        have := (List.getElem?_eq_some_iff.mp hk1).1
        omega
      obtain ⟨h20, hev, nn, hnn, hstep⟩ := asked_begin hac
      have hkl : nn.length = k := by
        have h := congrArg List.length hnn
        rw [List.length_map, List.length_take, Nat.min_eq_left hk] at h
        exact h.symm
      rw [List.length_take, Nat.min_eq_left hk] at h20 hev
      obtain ⟨mm, hmm⟩ : ∃ mm, k = 2 * mm := ⟨k / 2, by omega⟩
      rw [hstep] at hend
      refine ⟨_, rfl, _, rfl, D.a_NUMBERS, _, _, _, rfl, rfl, .inr T.t_NUMBERS, (atI_nat (j := 0) rfl), _, _, rfl, rfl, ?_⟩
      refine ⟨_, rfl, rfl, _, rfl, if_true_of rfl ?_⟩
      refine ⟨_, rfl, _, _, rfl, rfl, _, rfl, _, rfl, a, _, _, _, rfl, rfl, ca.sq, at_sum (at_map hk1) (by omega), _, _, rfl, rfl, ?_⟩
      refine ⟨_, rfl, _, rfl, _, _, rfl, rfl, _, rfl, _, rfl, _, rfl, a, _, rfl, ca.sq, fun nl hnl => ?_⟩
      have ecut : cutV (ns.map V.int) (some ((i : Int) + 1 + 1)) (some ((i : Int) + 1 + 1 + (k : Int))) = nn.map nV := by
        rw [show ((i : Int) + 1 + 1 + (k : Int)) = ((i + 2 + k : Nat) : Int) by omega, show ((i : Int) + 1 + 1) = ((i + 2 : Nat) : Int) by omega, cut_ints ns (by omega) (by omega), hx, show i + 2 + k - (i + 2) = k by omega, hnn, List.map_map]
        rfl
      rw [ecut]
      have s5 := Same.new (o := .lst (nn.map nV)) hnl
      have enl : upd H4 nl (.lst (nn.map nV)) nl = some (.lst (nn.map nV)) := upd_same
      generalize upd H4 nl (.lst (nn.map nV)) = H5 at s5 enl ⊢
      refine ⟨by show 1 ≤ sizeLine; decide, fun q hq => ?_⟩
      have s6 := s5.more (o := .lst [.int (-1)]) hq
      have enl6 : upd H5 q (.lst [.int (-1)]) nl = some (.lst (nn.map nV)) := by rw [upd_ne (ne_of_none enl hq)]; exact enl
      have eq6 : upd H5 q (.lst [.int (-1)]) q = some (.lst [.int (-1)]) := upd_same
      have nq : q ≠ fo := fun z => ne_of_none (s5 _ _ hfo) hq z.symm
      generalize upd H5 q (.lst [.int (-1)]) = H6 at s6 enl6 eq6 ⊢
      refine ⟨_, rfl, nl, nn, mm, rfl, enl6, by omega, by omega, fun H7 s7 => ⟨_, rfl, ?_⟩⟩
      have s7' := s6.trans s7
      have R7 := R.same s7'
      have ca7 := ca.same s7'
      have hfo7 := s7' _ _ hfo
      have enl7 := s7 _ _ enl6
      have eq7 := s7 _ _ eq6
      have hcl2 : PyFlat.calls PyMu10.shape fl' (ns.drop (i + 2 + k)) = some cs' := by
        rw [show i + 2 + k = (i + 2) + k from rfl, ← List.drop_drop, hx]; exact hcl'
      have hle2 : i + 2 + k ≤ ns.length := by omega
      cases hb : racksOk (Mu10Neutral.pairs nn) with
      | false =>
        rw [st_begin0 hb] at hend
        refine iteF ?_
        exact tail_of (ans := [-1]) (j := i + 2 + k) hlen (fun _ _ h => h) hm hlt (by omega) (by omega) hle2 R7 W hfo7 nf ca7 eq7 nq hcl2 ask' hend
      | true =>
        rw [st_begin1 hb] at hend
        refine iteT ?_
        have hpp := pairs_at mm nn (by omega)
        have WB := wf_begin hb
        generalize hps : Mu10Neutral.pairs nn = ps at hpp hb hend WB
        obtain ⟨hpl, hpa⟩ := hpp
        have hp6 : ps.length ≤ 6 := by
          have h := WB.nr
          have e : (mkRacks ps).length ≤ 6 := h
          unfold mkRacks at e
          rwa [List.length_map] at e
        refine ⟨_, rfl, nl, _, rfl, .inl (SqL.of enl7), 0, ((nn.map nV).length : Int), 2, mm, rfl, by rw [List.length_map, hkl, hmm]; exact rg_even ⟨mm, by omega⟩, fun d1 hd1 => ?_⟩
        refine lc_it walk_rangeC (fun i H' => ∃ ts, Same H7 H' ∧ H' d1 = some (.lst (ts.map V.ref)) ∧ Al (TupAt H') (mkRacks (ps.take i)) ts) ⟨[], Same.new hd1, upd_same, Al.nil⟩ (fun _ _ _ _ => trivial) ?_ ?_
        · rintro o y H9 H8 ho ⟨ts, s8, e8, al8⟩ ⟨rfl, rfl⟩
          refine ⟨rfl, yes_of ?_⟩
          obtain ⟨pr, hpr⟩ : ∃ pr, ps[o]? = some pr := ⟨_, List.getElem?_eq_getElem (show o < ps.length by omega)⟩
          refine ⟨_, rfl, _, rfl, nl, _, _, _, rfl, rfl, SqL.of (s8 _ _ enl7), at_sum (at_map (hpa o pr hpr).1) (by show (0 : Int) + (o : Nat) * 2 = ((2 * o : Nat) : Int); omega), _, rfl, _, rfl, _, _, rfl, rfl, nl, _, _, _, rfl, rfl, SqL.of (s8 _ _ enl7), at_sum (at_map (hpa o pr hpr).2) (by show (0 : Int) + (o : Nat) * 2 + 1 = ((2 * o + 1 : Nat) : Int); omega), by show 2 ≤ sizeLine; decide, fun t ht => ?_⟩
          have e9 : upd H8 t (.tup [nV pr.1, nV pr.2]) d1 = some (.lst (ts.map V.ref)) := by rw [upd_ne (ne_of_none e8 ht)]; exact e8
          refine ⟨_, e9, by rw [List.length_map, al8.1]; unfold mkRacks; rw [List.length_map, List.length_take]; exact lt_line (by omega), ts ++ [t], fun b u h => ?_, ?_, ?_⟩
          · rw [upd_ne (ne_of_none h hd1), upd_ne (ne_of_none (s8 _ _ h) ht)]; exact s8 _ _ h
          · rw [upd_same, List.map_append]; rfl
          · have et : mkRacks (ps.take (o + 1)) = mkRacks (ps.take o) ++ [⟨pr.1, pr.2⟩] := by
              unfold mkRacks
              exact take_map_snoc hpr
            rw [et]
            have keep : ∀ {b : Addr} {xs : List V}, H8 b = some (.tup xs) → upd (upd H8 t (.tup [nV pr.1, nV pr.2])) d1 (.lst (ts.map V.ref ++ [.ref t])) b = some (.tup xs) := fun {b xs} h => by
              rw [upd_ne (tup_ne_lst h e8), upd_ne (ne_of_none h ht)]; exact h
            refine (al8.mono fun _ _ _ _ h => keep h).snoc ?_
            show upd (upd H8 t (.tup [nV pr.1, nV pr.2])) d1 (.lst (ts.map V.ref ++ [.ref t])) t = some (.tup (rackV ⟨pr.1, pr.2⟩))
            rw [upd_ne (fun z => ne_of_none e8 ht z.symm), upd_same]
            rfl
        rintro H8 ⟨ts, s8, e8, al8⟩
        rw [← hpl, List.take_length] at al8
        refine fun rm2 dx2 nrm2 ndx2 ndr2 => ?_
        have s9 : Same H8 (upd (upd H8 dx2 (.own rm2)) rm2 (.ins D.c_Cloakroom dx2 [])) := fun b o h => by
          rw [upd_ne (ne_of_none h nrm2), upd_ne (ne_of_none h ndx2)]; exact h
        refine ⟨rm2, dx2, d1, ts, mkRacks ps, rfl, upd_same, s9 _ _ e8, al8.mono (fun _ _ _ _ h => s9 _ _ h), fun k hk => (WB.rk k hk).2.1, WB.nr, fun H10 d10 R10 fr10 k10 => ⟨rfl, ?_⟩⟩
        have s10 : Same H8 H10 := fun b o h => k10 b o (s9 _ _ h) (ne_of_none h nrm2)
        have sT := (s7'.trans s8).trans s10
        refine ⟨by show 1 ≤ sizeLine; decide, fun q2 hq2 => ?_⟩
        have sN := sT.more (o := .lst [.int 0]) hq2
        have nq2 : q2 ≠ fo := fun z => ne_of_none (sT _ _ hfo) hq2 z.symm
        have nf2 : fo ∉ d10.ls := fun z => by
          rcases fr10 fo z with e | e
          · exact ne_of_none hfo7 hd1 e
          · have := s9 _ _ (s8 _ _ hfo7)
            rw [e] at this; cases this
        exact tail_of (ans := [0]) (j := i + 2 + k) hlen (fun _ _ h => h) hm hlt (by omega) (by omega) hle2 (R10.same (Same.new hq2)) WB (sN _ _ hfo) nf2 (ca.same sN) upd_same nq2 hcl2 ask' hend
    · -- any other
      obtain ⟨c, AS, hstep⟩ := asked_one hac
      rw [hstep] at hend
      have hnl : i + 1 + n ≤ ns.length := by
        rw [List.length_drop] at hn
        omega
      refine ⟨_, rfl, _, rfl, D.a_NUMBERS, _, _, _, rfl, rfl, .inr T.t_NUMBERS, (atI_nat (at_map hnum)), _, _, rfl, rfl, ?_⟩
      refine ⟨_, rfl, rfl, _, rfl, if_false_of (decide_eq_false fun z => by have := V.int.inj z; omega) ?_⟩
      refine ⟨_, rfl, rm, d.dx, _, rfl, R.ins, lm_Cloakroom_answer, _, rfl, _, rfl, _, rfl, _, rfl, _, rfl, _, rfl, a, _, rfl, ca.sq, fun nl hnl2 => ?_⟩
      have ecut : cutV (ns.map V.int) (some ((i : Int) + 1)) (some ((i : Int) + 1 + (n : Int))) = ((ns.drop (i + 1)).take n).map V.int := by
        rw [show ((i : Int) + 1 + (n : Int)) = ((i + 1 + n : Nat) : Int) by omega, show ((i : Int) + 1) = ((i + 1 : Nat) : Int) by omega, cut_ints ns (by omega) (by omega), show i + 1 + n - (i + 1) = n by omega]
      rw [ecut]
      have s5 := Same.new (o := .lst (((ns.drop (i + 1)).take n).map V.int)) hnl2
      have enl : upd H4 nl (.lst (((ns.drop (i + 1)).take n).map V.int)) nl = some (.lst (((ns.drop (i + 1)).take n).map V.int)) := upd_same
      generalize upd H4 nl (.lst (((ns.drop (i + 1)).take n).map V.int)) = H5 at s5 enl ⊢
      have R5 := R.same s5
      refine ⟨rm, nl, st, d, (j : Int), (ns.drop (i + 1)).take n, c, rfl, R5, W, AS, enl, fun H6 q AF hq hq' => ?_⟩
      obtain ⟨d6, S⟩ := AF
      have hfo5 := s5 _ _ hfo
      have hfo6 := S.fr.keep _ _ hfo5 (by intro _ _ _ z; cases z) nf
      have nf6 : fo ∉ d6.ls := fun z => by
        rcases S.sub fo z with e | e
        · exact nf e
        · rw [e] at hfo5; cases hfo5
      have nq : q ≠ fo := fun z => ne_of_none hfo5 hq z.symm
      have hcl2 : PyFlat.calls PyMu10.shape fl' (ns.drop (i + 1 + n)) = some cs' := by
        rw [← List.drop_drop]; exact hcl'
      exact tail_of (j := i + 1 + n) hlen (fun _ _ h => h) hm hlt (by omega) (by omega) hnl S.room (wf_step W AS) hfo6 nf6 ((ca.same s5).stp R5 S) hq' nq hcl2 ask' hend
end
end Ck
end
section
set_option Elab.async false
set_option linter.all false
set_option maxRecDepth 100000
set_option maxHeartbeats 4000000
/-! What the top has written (printed by gen4.py). -/
namespace Ck
open PySem PySem.Spec PyProof.Rows L2
theorem exm_same {K : PySem.W.Frag} {S : Addr} (h1 : PySem.W.subIn K (.ref S) (.type "BaseException") = some true) (h2 : PySem.W.isClsIn K S = true) (h3 : PySem.W.typeIn K (.ref S) = some (.type "type")) (h4 : PySem.W.subIn K (.ref S) (.ref S) = some true) :
    PySem.W.exmOne K (.ref S) (.ref S) = some true := by
  have q1 : (PySem.W.subIn K (.ref S) (.type "BaseException") == some true) = true := by rw [h1] <;> rfl
  have q2 : ((PySem.W.clsIn K S).isSome && PySem.W.typeIn K (.ref S) == some (.type "type")) = true := by
    have q3 : (PySem.W.clsIn K S).isSome = true := h2
    rw [q3, h3] <;> rfl
  show (if (PySem.W.subIn K (.ref S) (.type "BaseException") == some true) = true then (if ((PySem.W.clsIn K S).isSome && PySem.W.typeIn K (.ref S) == some (.type "type")) = true then PySem.W.subIn K (.ref S) (.ref S) else none) else none) = some true
  rw [if_pos q1, if_pos q2]
  exact h4
theorem all_mk {P : Program} {w : World} {K : PySem.W.Frag} {h : Heap} {mg : Str → Option Value} {fa : Addr} (X : K.In h) (G : h.Ns mainGlobals mg) (hfa : mg "answers" = some (.ref fa))
    {c_Coat c_Claim c_Racks c_Refused c_Cloakroom a_N f_Coat_init f_Coat_hang_at f_Claim_init f_Claim_settle_by f_Claim_suits f_suiting f_with_one_more f_can_all_have f_possible f_Racks_init f_Racks_copied f_Racks_has_place f_Racks_place_at f_Racks_places_of f_Racks_coats_at f_Racks_first_free f_Racks_hang_on f_Racks_take_off f_have_common f_are_racks f_moves_for f_fewest_moves f_Refused_init f_want : Addr}
    {f_Cloakroom_init f_Cloakroom_coat_of f_Cloakroom_hanging f_Cloakroom_claim_of f_Cloakroom_open_claim f_Cloakroom_walk_for f_Cloakroom_hand_out f_Cloakroom_hang f_Cloakroom_fetch f_Cloakroom_make f_Cloakroom_move f_Cloakroom_claim f_Cloakroom_whose f_Cloakroom_settle f_Cloakroom_drop f_Cloakroom_rack_told f_Cloakroom_look f_Cloakroom_counts f_Cloakroom_about_coats f_Cloakroom_called f_Cloakroom_answer f_answers : Addr}
    {od_Coat_init an_Coat_init od_Coat_hang_at an_Coat_hang_at od_Claim_init an_Claim_init od_Claim_settle_by an_Claim_settle_by od_Claim_suits an_Claim_suits od_suiting an_suiting od_with_one_more an_with_one_more od_can_all_have an_can_all_have od_possible an_possible od_Racks_init an_Racks_init od_Racks_copied an_Racks_copied od_Racks_has_place an_Racks_has_place od_Racks_place_at an_Racks_place_at od_Racks_places_of an_Racks_places_of od_Racks_coats_at an_Racks_coats_at : Option Addr}
    {od_Racks_first_free an_Racks_first_free od_Racks_hang_on an_Racks_hang_on od_Racks_take_off an_Racks_take_off od_have_common an_have_common od_are_racks an_are_racks od_moves_for an_moves_for od_fewest_moves an_fewest_moves od_Refused_init an_Refused_init od_want an_want od_Cloakroom_init an_Cloakroom_init od_Cloakroom_coat_of an_Cloakroom_coat_of od_Cloakroom_hanging an_Cloakroom_hanging od_Cloakroom_claim_of an_Cloakroom_claim_of od_Cloakroom_open_claim an_Cloakroom_open_claim od_Cloakroom_walk_for an_Cloakroom_walk_for : Option Addr}
    {od_Cloakroom_hand_out an_Cloakroom_hand_out od_Cloakroom_hang an_Cloakroom_hang od_Cloakroom_fetch an_Cloakroom_fetch od_Cloakroom_make an_Cloakroom_make od_Cloakroom_move an_Cloakroom_move od_Cloakroom_claim an_Cloakroom_claim od_Cloakroom_whose an_Cloakroom_whose od_Cloakroom_settle an_Cloakroom_settle od_Cloakroom_drop an_Cloakroom_drop od_Cloakroom_rack_told an_Cloakroom_rack_told od_Cloakroom_look an_Cloakroom_look od_Cloakroom_counts an_Cloakroom_counts od_Cloakroom_about_coats an_Cloakroom_about_coats od_Cloakroom_called an_Cloakroom_called od_Cloakroom_answer an_Cloakroom_answer : Option Addr}
    {od_answers an_answers : Option Addr}
    {sl_Coat_init sl_Coat_hang_at sl_Claim_init sl_Claim_settle_by sl_Claim_suits sl_suiting sl_with_one_more sl_can_all_have sl_possible sl_Racks_init sl_Racks_copied sl_Racks_has_place sl_Racks_place_at sl_Racks_places_of sl_Racks_coats_at sl_Racks_first_free sl_Racks_hang_on sl_Racks_take_off sl_have_common sl_are_racks sl_moves_for sl_fewest_moves sl_Refused_init sl_want sl_Cloakroom_init sl_Cloakroom_coat_of sl_Cloakroom_hanging sl_Cloakroom_claim_of sl_Cloakroom_open_claim sl_Cloakroom_walk_for : Array (Option Value)}
    {sl_Cloakroom_hand_out sl_Cloakroom_hang sl_Cloakroom_fetch sl_Cloakroom_make sl_Cloakroom_move sl_Cloakroom_claim sl_Cloakroom_whose sl_Cloakroom_settle sl_Cloakroom_drop sl_Cloakroom_rack_told sl_Cloakroom_look sl_Cloakroom_counts sl_Cloakroom_about_coats sl_Cloakroom_called sl_Cloakroom_answer sl_answers : Array (Option Value)}
    {oc_Coat_init kV_Coat_init dc_Coat_init pm_Coat_init cd_Coat_init ct_Coat_init oc_Coat_hang_at kV_Coat_hang_at dc_Coat_hang_at pm_Coat_hang_at cd_Coat_hang_at ct_Coat_hang_at oc_Claim_init kV_Claim_init dc_Claim_init pm_Claim_init cd_Claim_init ct_Claim_init oc_Claim_settle_by kV_Claim_settle_by dc_Claim_settle_by pm_Claim_settle_by cd_Claim_settle_by ct_Claim_settle_by oc_Claim_suits kV_Claim_suits dc_Claim_suits pm_Claim_suits cd_Claim_suits ct_Claim_suits : Value}
    {oc_suiting kV_suiting dc_suiting pm_suiting cd_suiting ct_suiting oc_with_one_more kV_with_one_more dc_with_one_more pm_with_one_more cd_with_one_more ct_with_one_more oc_can_all_have kV_can_all_have dc_can_all_have pm_can_all_have cd_can_all_have ct_can_all_have oc_possible kV_possible dc_possible pm_possible cd_possible ct_possible oc_Racks_init kV_Racks_init dc_Racks_init pm_Racks_init cd_Racks_init ct_Racks_init : Value}
    {oc_Racks_copied kV_Racks_copied dc_Racks_copied pm_Racks_copied cd_Racks_copied ct_Racks_copied oc_Racks_has_place kV_Racks_has_place dc_Racks_has_place pm_Racks_has_place cd_Racks_has_place ct_Racks_has_place oc_Racks_place_at kV_Racks_place_at dc_Racks_place_at pm_Racks_place_at cd_Racks_place_at ct_Racks_place_at oc_Racks_places_of kV_Racks_places_of dc_Racks_places_of pm_Racks_places_of cd_Racks_places_of ct_Racks_places_of oc_Racks_coats_at kV_Racks_coats_at dc_Racks_coats_at pm_Racks_coats_at cd_Racks_coats_at ct_Racks_coats_at : Value}
    {oc_Racks_first_free kV_Racks_first_free dc_Racks_first_free pm_Racks_first_free cd_Racks_first_free ct_Racks_first_free oc_Racks_hang_on kV_Racks_hang_on dc_Racks_hang_on pm_Racks_hang_on cd_Racks_hang_on ct_Racks_hang_on oc_Racks_take_off kV_Racks_take_off dc_Racks_take_off pm_Racks_take_off cd_Racks_take_off ct_Racks_take_off oc_have_common kV_have_common dc_have_common pm_have_common cd_have_common ct_have_common oc_are_racks kV_are_racks dc_are_racks pm_are_racks cd_are_racks ct_are_racks : Value}
    {oc_moves_for kV_moves_for dc_moves_for pm_moves_for cd_moves_for ct_moves_for oc_fewest_moves kV_fewest_moves dc_fewest_moves pm_fewest_moves cd_fewest_moves ct_fewest_moves oc_Refused_init kV_Refused_init dc_Refused_init pm_Refused_init cd_Refused_init ct_Refused_init oc_want kV_want dc_want pm_want cd_want ct_want oc_Cloakroom_init kV_Cloakroom_init dc_Cloakroom_init pm_Cloakroom_init cd_Cloakroom_init ct_Cloakroom_init : Value}
    {oc_Cloakroom_coat_of kV_Cloakroom_coat_of dc_Cloakroom_coat_of pm_Cloakroom_coat_of cd_Cloakroom_coat_of ct_Cloakroom_coat_of oc_Cloakroom_hanging kV_Cloakroom_hanging dc_Cloakroom_hanging pm_Cloakroom_hanging cd_Cloakroom_hanging ct_Cloakroom_hanging oc_Cloakroom_claim_of kV_Cloakroom_claim_of dc_Cloakroom_claim_of pm_Cloakroom_claim_of cd_Cloakroom_claim_of ct_Cloakroom_claim_of oc_Cloakroom_open_claim kV_Cloakroom_open_claim dc_Cloakroom_open_claim pm_Cloakroom_open_claim cd_Cloakroom_open_claim ct_Cloakroom_open_claim oc_Cloakroom_walk_for kV_Cloakroom_walk_for dc_Cloakroom_walk_for pm_Cloakroom_walk_for cd_Cloakroom_walk_for ct_Cloakroom_walk_for : Value}
    {oc_Cloakroom_hand_out kV_Cloakroom_hand_out dc_Cloakroom_hand_out pm_Cloakroom_hand_out cd_Cloakroom_hand_out ct_Cloakroom_hand_out oc_Cloakroom_hang kV_Cloakroom_hang dc_Cloakroom_hang pm_Cloakroom_hang cd_Cloakroom_hang ct_Cloakroom_hang oc_Cloakroom_fetch kV_Cloakroom_fetch dc_Cloakroom_fetch pm_Cloakroom_fetch cd_Cloakroom_fetch ct_Cloakroom_fetch oc_Cloakroom_make kV_Cloakroom_make dc_Cloakroom_make pm_Cloakroom_make cd_Cloakroom_make ct_Cloakroom_make oc_Cloakroom_move kV_Cloakroom_move dc_Cloakroom_move pm_Cloakroom_move cd_Cloakroom_move ct_Cloakroom_move : Value}
    {oc_Cloakroom_claim kV_Cloakroom_claim dc_Cloakroom_claim pm_Cloakroom_claim cd_Cloakroom_claim ct_Cloakroom_claim oc_Cloakroom_whose kV_Cloakroom_whose dc_Cloakroom_whose pm_Cloakroom_whose cd_Cloakroom_whose ct_Cloakroom_whose oc_Cloakroom_settle kV_Cloakroom_settle dc_Cloakroom_settle pm_Cloakroom_settle cd_Cloakroom_settle ct_Cloakroom_settle oc_Cloakroom_drop kV_Cloakroom_drop dc_Cloakroom_drop pm_Cloakroom_drop cd_Cloakroom_drop ct_Cloakroom_drop oc_Cloakroom_rack_told kV_Cloakroom_rack_told dc_Cloakroom_rack_told pm_Cloakroom_rack_told cd_Cloakroom_rack_told ct_Cloakroom_rack_told : Value}
    {oc_Cloakroom_look kV_Cloakroom_look dc_Cloakroom_look pm_Cloakroom_look cd_Cloakroom_look ct_Cloakroom_look oc_Cloakroom_counts kV_Cloakroom_counts dc_Cloakroom_counts pm_Cloakroom_counts cd_Cloakroom_counts ct_Cloakroom_counts oc_Cloakroom_about_coats kV_Cloakroom_about_coats dc_Cloakroom_about_coats pm_Cloakroom_about_coats cd_Cloakroom_about_coats ct_Cloakroom_about_coats oc_Cloakroom_called kV_Cloakroom_called dc_Cloakroom_called pm_Cloakroom_called cd_Cloakroom_called ct_Cloakroom_called oc_Cloakroom_answer kV_Cloakroom_answer dc_Cloakroom_answer pm_Cloakroom_answer cd_Cloakroom_answer ct_Cloakroom_answer : Value}
    {oc_answers kV_answers dc_answers pm_answers cd_answers ct_answers : Value}
    {x_nm x_q : Str} {x_N : Addr} {x_bs : List Value} {x_sn : List Str} {x_sub : List Value} {x_ab : Bool} {x_col : Option Bool} {x_dd : Option Addr} {x_m0 x_m1 x_m2 x_m3 x_m5 : Option Value}
    {tk_UNKNOWN tk_FREE tk_WRONG tk_NO_SUCH tk_NO_ROOM tk_OVER tk_TOO_MANY tk_NONE_POSSIBLE tk_SEVERAL tk_GONE tk_MOST_WIDE tk_MOST_NUMBER tk_MOST_COATS tk_MOST_CLAIMS tk_BEGIN tn_0 tn_1 tn_2 tn_3 tn_4 tn_5 tn_6 tn_7 tn_8 tn_9 tn_10 tn_11 : Tok}
    {od_N : Option Addr} {n_N : Nat} {sl_N : Array (Option Value)}
    (g_Coat : PySem.W.nsIn K mainGlobals "Coat" = some (some (.ref c_Coat)))
    (g_Claim : PySem.W.nsIn K mainGlobals "Claim" = some (some (.ref c_Claim)))
    (g_Racks : PySem.W.nsIn K mainGlobals "Racks" = some (some (.ref c_Racks)))
    (g_Refused : PySem.W.nsIn K mainGlobals "Refused" = some (some (.ref c_Refused)))
    (g_Cloakroom : PySem.W.nsIn K mainGlobals "Cloakroom" = some (some (.ref c_Cloakroom)))
    (a_Coat_init : PySem.W.findIn K (.ref c_Coat) "__init__" = some (some (.ref f_Coat_init)))
    (i_Coat_init : PySem.W.isFn K (.ref f_Coat_init) = true)
    (l_Coat_init : K.lookup f_Coat_init = some ⟨oc_Coat_init, od_Coat_init, .func (PySem.W.fnOf "__init__" "Coat.__init__" (defArgs s_Coat_init) (defBody s_Coat_init) (defScope s_Coat_init) .none kV_Coat_init dc_Coat_init pm_Coat_init an_Coat_init cd_Coat_init ct_Coat_init), sl_Coat_init⟩)
    (cd2_Coat_init : PySem.W.codeIn K cd_Coat_init "Coat.__init__" = true)
    (kp_Coat_init : PySem.W.keepIn K (.ref f_Coat_init) = true)
    (a_Coat_hang_at : PySem.W.findIn K (.ref c_Coat) "hang_at" = some (some (.ref f_Coat_hang_at)))
    (i_Coat_hang_at : PySem.W.isFn K (.ref f_Coat_hang_at) = true)
    (l_Coat_hang_at : K.lookup f_Coat_hang_at = some ⟨oc_Coat_hang_at, od_Coat_hang_at, .func (PySem.W.fnOf "hang_at" "Coat.hang_at" (defArgs s_Coat_hang_at) (defBody s_Coat_hang_at) (defScope s_Coat_hang_at) .none kV_Coat_hang_at dc_Coat_hang_at pm_Coat_hang_at an_Coat_hang_at cd_Coat_hang_at ct_Coat_hang_at), sl_Coat_hang_at⟩)
    (cd2_Coat_hang_at : PySem.W.codeIn K cd_Coat_hang_at "Coat.hang_at" = true)
    (kp_Coat_hang_at : PySem.W.keepIn K (.ref f_Coat_hang_at) = true)
    (a_Claim_init : PySem.W.findIn K (.ref c_Claim) "__init__" = some (some (.ref f_Claim_init)))
    (i_Claim_init : PySem.W.isFn K (.ref f_Claim_init) = true)
    (l_Claim_init : K.lookup f_Claim_init = some ⟨oc_Claim_init, od_Claim_init, .func (PySem.W.fnOf "__init__" "Claim.__init__" (defArgs s_Claim_init) (defBody s_Claim_init) (defScope s_Claim_init) .none kV_Claim_init dc_Claim_init pm_Claim_init an_Claim_init cd_Claim_init ct_Claim_init), sl_Claim_init⟩)
    (cd2_Claim_init : PySem.W.codeIn K cd_Claim_init "Claim.__init__" = true)
    (kp_Claim_init : PySem.W.keepIn K (.ref f_Claim_init) = true)
    (a_Claim_settle_by : PySem.W.findIn K (.ref c_Claim) "settle_by" = some (some (.ref f_Claim_settle_by)))
    (i_Claim_settle_by : PySem.W.isFn K (.ref f_Claim_settle_by) = true)
    (l_Claim_settle_by : K.lookup f_Claim_settle_by = some ⟨oc_Claim_settle_by, od_Claim_settle_by, .func (PySem.W.fnOf "settle_by" "Claim.settle_by" (defArgs s_Claim_settle_by) (defBody s_Claim_settle_by) (defScope s_Claim_settle_by) .none kV_Claim_settle_by dc_Claim_settle_by pm_Claim_settle_by an_Claim_settle_by cd_Claim_settle_by ct_Claim_settle_by), sl_Claim_settle_by⟩)
    (cd2_Claim_settle_by : PySem.W.codeIn K cd_Claim_settle_by "Claim.settle_by" = true)
    (kp_Claim_settle_by : PySem.W.keepIn K (.ref f_Claim_settle_by) = true)
    (a_Claim_suits : PySem.W.findIn K (.ref c_Claim) "suits" = some (some (.ref f_Claim_suits)))
    (i_Claim_suits : PySem.W.isFn K (.ref f_Claim_suits) = true)
    (l_Claim_suits : K.lookup f_Claim_suits = some ⟨oc_Claim_suits, od_Claim_suits, .func (PySem.W.fnOf "suits" "Claim.suits" (defArgs s_Claim_suits) (defBody s_Claim_suits) (defScope s_Claim_suits) .none kV_Claim_suits dc_Claim_suits pm_Claim_suits an_Claim_suits cd_Claim_suits ct_Claim_suits), sl_Claim_suits⟩)
    (cd2_Claim_suits : PySem.W.codeIn K cd_Claim_suits "Claim.suits" = true)
    (kp_Claim_suits : PySem.W.keepIn K (.ref f_Claim_suits) = true)
    (a_suiting : PySem.W.nsIn K mainGlobals "suiting" = some (some (.ref f_suiting)))
    (l_suiting : K.lookup f_suiting = some ⟨oc_suiting, od_suiting, .func (PySem.W.fnOf "suiting" "suiting" (defArgs s_suiting) (defBody s_suiting) (defScope s_suiting) .none kV_suiting dc_suiting pm_suiting an_suiting cd_suiting ct_suiting), sl_suiting⟩)
    (cd2_suiting : PySem.W.codeIn K cd_suiting "suiting" = true)
    (kp_suiting : PySem.W.keepIn K (.ref f_suiting) = true)
    (a_with_one_more : PySem.W.nsIn K mainGlobals "with_one_more" = some (some (.ref f_with_one_more)))
    (l_with_one_more : K.lookup f_with_one_more = some ⟨oc_with_one_more, od_with_one_more, .func (PySem.W.fnOf "with_one_more" "with_one_more" (defArgs s_with_one_more) (defBody s_with_one_more) (defScope s_with_one_more) .none kV_with_one_more dc_with_one_more pm_with_one_more an_with_one_more cd_with_one_more ct_with_one_more), sl_with_one_more⟩)
    (cd2_with_one_more : PySem.W.codeIn K cd_with_one_more "with_one_more" = true)
    (kp_with_one_more : PySem.W.keepIn K (.ref f_with_one_more) = true)
    (a_can_all_have : PySem.W.nsIn K mainGlobals "can_all_have" = some (some (.ref f_can_all_have)))
    (l_can_all_have : K.lookup f_can_all_have = some ⟨oc_can_all_have, od_can_all_have, .func (PySem.W.fnOf "can_all_have" "can_all_have" (defArgs s_can_all_have) (defBody s_can_all_have) (defScope s_can_all_have) .none kV_can_all_have dc_can_all_have pm_can_all_have an_can_all_have cd_can_all_have ct_can_all_have), sl_can_all_have⟩)
    (cd2_can_all_have : PySem.W.codeIn K cd_can_all_have "can_all_have" = true)
    (kp_can_all_have : PySem.W.keepIn K (.ref f_can_all_have) = true)
    (a_possible : PySem.W.nsIn K mainGlobals "possible" = some (some (.ref f_possible)))
    (l_possible : K.lookup f_possible = some ⟨oc_possible, od_possible, .func (PySem.W.fnOf "possible" "possible" (defArgs s_possible) (defBody s_possible) (defScope s_possible) .none kV_possible dc_possible pm_possible an_possible cd_possible ct_possible), sl_possible⟩)
    (cd2_possible : PySem.W.codeIn K cd_possible "possible" = true)
    (kp_possible : PySem.W.keepIn K (.ref f_possible) = true)
    (a_Racks_init : PySem.W.findIn K (.ref c_Racks) "__init__" = some (some (.ref f_Racks_init)))
    (i_Racks_init : PySem.W.isFn K (.ref f_Racks_init) = true)
    (l_Racks_init : K.lookup f_Racks_init = some ⟨oc_Racks_init, od_Racks_init, .func (PySem.W.fnOf "__init__" "Racks.__init__" (defArgs s_Racks_init) (defBody s_Racks_init) (defScope s_Racks_init) .none kV_Racks_init dc_Racks_init pm_Racks_init an_Racks_init cd_Racks_init ct_Racks_init), sl_Racks_init⟩)
    (cd2_Racks_init : PySem.W.codeIn K cd_Racks_init "Racks.__init__" = true)
    (kp_Racks_init : PySem.W.keepIn K (.ref f_Racks_init) = true)
    (a_Racks_copied : PySem.W.findIn K (.ref c_Racks) "copied" = some (some (.ref f_Racks_copied)))
    (i_Racks_copied : PySem.W.isFn K (.ref f_Racks_copied) = true)
    (l_Racks_copied : K.lookup f_Racks_copied = some ⟨oc_Racks_copied, od_Racks_copied, .func (PySem.W.fnOf "copied" "Racks.copied" (defArgs s_Racks_copied) (defBody s_Racks_copied) (defScope s_Racks_copied) .none kV_Racks_copied dc_Racks_copied pm_Racks_copied an_Racks_copied cd_Racks_copied ct_Racks_copied), sl_Racks_copied⟩)
    (cd2_Racks_copied : PySem.W.codeIn K cd_Racks_copied "Racks.copied" = true)
    (kp_Racks_copied : PySem.W.keepIn K (.ref f_Racks_copied) = true)
    (a_Racks_has_place : PySem.W.findIn K (.ref c_Racks) "has_place" = some (some (.ref f_Racks_has_place)))
    (i_Racks_has_place : PySem.W.isFn K (.ref f_Racks_has_place) = true)
    (l_Racks_has_place : K.lookup f_Racks_has_place = some ⟨oc_Racks_has_place, od_Racks_has_place, .func (PySem.W.fnOf "has_place" "Racks.has_place" (defArgs s_Racks_has_place) (defBody s_Racks_has_place) (defScope s_Racks_has_place) .none kV_Racks_has_place dc_Racks_has_place pm_Racks_has_place an_Racks_has_place cd_Racks_has_place ct_Racks_has_place), sl_Racks_has_place⟩)
    (cd2_Racks_has_place : PySem.W.codeIn K cd_Racks_has_place "Racks.has_place" = true)
    (kp_Racks_has_place : PySem.W.keepIn K (.ref f_Racks_has_place) = true)
    (a_Racks_place_at : PySem.W.findIn K (.ref c_Racks) "place_at" = some (some (.ref f_Racks_place_at)))
    (i_Racks_place_at : PySem.W.isFn K (.ref f_Racks_place_at) = true)
    (l_Racks_place_at : K.lookup f_Racks_place_at = some ⟨oc_Racks_place_at, od_Racks_place_at, .func (PySem.W.fnOf "place_at" "Racks.place_at" (defArgs s_Racks_place_at) (defBody s_Racks_place_at) (defScope s_Racks_place_at) .none kV_Racks_place_at dc_Racks_place_at pm_Racks_place_at an_Racks_place_at cd_Racks_place_at ct_Racks_place_at), sl_Racks_place_at⟩)
    (cd2_Racks_place_at : PySem.W.codeIn K cd_Racks_place_at "Racks.place_at" = true)
    (kp_Racks_place_at : PySem.W.keepIn K (.ref f_Racks_place_at) = true)
    (a_Racks_places_of : PySem.W.findIn K (.ref c_Racks) "places_of" = some (some (.ref f_Racks_places_of)))
    (i_Racks_places_of : PySem.W.isFn K (.ref f_Racks_places_of) = true)
    (l_Racks_places_of : K.lookup f_Racks_places_of = some ⟨oc_Racks_places_of, od_Racks_places_of, .func (PySem.W.fnOf "places_of" "Racks.places_of" (defArgs s_Racks_places_of) (defBody s_Racks_places_of) (defScope s_Racks_places_of) .none kV_Racks_places_of dc_Racks_places_of pm_Racks_places_of an_Racks_places_of cd_Racks_places_of ct_Racks_places_of), sl_Racks_places_of⟩)
    (cd2_Racks_places_of : PySem.W.codeIn K cd_Racks_places_of "Racks.places_of" = true)
    (kp_Racks_places_of : PySem.W.keepIn K (.ref f_Racks_places_of) = true)
    (a_Racks_coats_at : PySem.W.findIn K (.ref c_Racks) "coats_at" = some (some (.ref f_Racks_coats_at)))
    (i_Racks_coats_at : PySem.W.isFn K (.ref f_Racks_coats_at) = true)
    (l_Racks_coats_at : K.lookup f_Racks_coats_at = some ⟨oc_Racks_coats_at, od_Racks_coats_at, .func (PySem.W.fnOf "coats_at" "Racks.coats_at" (defArgs s_Racks_coats_at) (defBody s_Racks_coats_at) (defScope s_Racks_coats_at) .none kV_Racks_coats_at dc_Racks_coats_at pm_Racks_coats_at an_Racks_coats_at cd_Racks_coats_at ct_Racks_coats_at), sl_Racks_coats_at⟩)
    (cd2_Racks_coats_at : PySem.W.codeIn K cd_Racks_coats_at "Racks.coats_at" = true)
    (kp_Racks_coats_at : PySem.W.keepIn K (.ref f_Racks_coats_at) = true)
    (a_Racks_first_free : PySem.W.findIn K (.ref c_Racks) "first_free" = some (some (.ref f_Racks_first_free)))
    (i_Racks_first_free : PySem.W.isFn K (.ref f_Racks_first_free) = true)
    (l_Racks_first_free : K.lookup f_Racks_first_free = some ⟨oc_Racks_first_free, od_Racks_first_free, .func (PySem.W.fnOf "first_free" "Racks.first_free" (defArgs s_Racks_first_free) (defBody s_Racks_first_free) (defScope s_Racks_first_free) .none kV_Racks_first_free dc_Racks_first_free pm_Racks_first_free an_Racks_first_free cd_Racks_first_free ct_Racks_first_free), sl_Racks_first_free⟩)
    (cd2_Racks_first_free : PySem.W.codeIn K cd_Racks_first_free "Racks.first_free" = true)
    (kp_Racks_first_free : PySem.W.keepIn K (.ref f_Racks_first_free) = true)
    (a_Racks_hang_on : PySem.W.findIn K (.ref c_Racks) "hang_on" = some (some (.ref f_Racks_hang_on)))
    (i_Racks_hang_on : PySem.W.isFn K (.ref f_Racks_hang_on) = true)
    (l_Racks_hang_on : K.lookup f_Racks_hang_on = some ⟨oc_Racks_hang_on, od_Racks_hang_on, .func (PySem.W.fnOf "hang_on" "Racks.hang_on" (defArgs s_Racks_hang_on) (defBody s_Racks_hang_on) (defScope s_Racks_hang_on) .none kV_Racks_hang_on dc_Racks_hang_on pm_Racks_hang_on an_Racks_hang_on cd_Racks_hang_on ct_Racks_hang_on), sl_Racks_hang_on⟩)
    (cd2_Racks_hang_on : PySem.W.codeIn K cd_Racks_hang_on "Racks.hang_on" = true)
    (kp_Racks_hang_on : PySem.W.keepIn K (.ref f_Racks_hang_on) = true)
    (a_Racks_take_off : PySem.W.findIn K (.ref c_Racks) "take_off" = some (some (.ref f_Racks_take_off)))
    (i_Racks_take_off : PySem.W.isFn K (.ref f_Racks_take_off) = true)
    (l_Racks_take_off : K.lookup f_Racks_take_off = some ⟨oc_Racks_take_off, od_Racks_take_off, .func (PySem.W.fnOf "take_off" "Racks.take_off" (defArgs s_Racks_take_off) (defBody s_Racks_take_off) (defScope s_Racks_take_off) .none kV_Racks_take_off dc_Racks_take_off pm_Racks_take_off an_Racks_take_off cd_Racks_take_off ct_Racks_take_off), sl_Racks_take_off⟩)
    (cd2_Racks_take_off : PySem.W.codeIn K cd_Racks_take_off "Racks.take_off" = true)
    (kp_Racks_take_off : PySem.W.keepIn K (.ref f_Racks_take_off) = true)
    (a_have_common : PySem.W.nsIn K mainGlobals "have_common" = some (some (.ref f_have_common)))
    (l_have_common : K.lookup f_have_common = some ⟨oc_have_common, od_have_common, .func (PySem.W.fnOf "have_common" "have_common" (defArgs s_have_common) (defBody s_have_common) (defScope s_have_common) .none kV_have_common dc_have_common pm_have_common an_have_common cd_have_common ct_have_common), sl_have_common⟩)
    (cd2_have_common : PySem.W.codeIn K cd_have_common "have_common" = true)
    (kp_have_common : PySem.W.keepIn K (.ref f_have_common) = true)
    (a_are_racks : PySem.W.nsIn K mainGlobals "are_racks" = some (some (.ref f_are_racks)))
    (l_are_racks : K.lookup f_are_racks = some ⟨oc_are_racks, od_are_racks, .func (PySem.W.fnOf "are_racks" "are_racks" (defArgs s_are_racks) (defBody s_are_racks) (defScope s_are_racks) .none kV_are_racks dc_are_racks pm_are_racks an_are_racks cd_are_racks ct_are_racks), sl_are_racks⟩)
    (cd2_are_racks : PySem.W.codeIn K cd_are_racks "are_racks" = true)
    (kp_are_racks : PySem.W.keepIn K (.ref f_are_racks) = true)
    (a_moves_for : PySem.W.nsIn K mainGlobals "moves_for" = some (some (.ref f_moves_for)))
    (l_moves_for : K.lookup f_moves_for = some ⟨oc_moves_for, od_moves_for, .func (PySem.W.fnOf "moves_for" "moves_for" (defArgs s_moves_for) (defBody s_moves_for) (defScope s_moves_for) .none kV_moves_for dc_moves_for pm_moves_for an_moves_for cd_moves_for ct_moves_for), sl_moves_for⟩)
    (cd2_moves_for : PySem.W.codeIn K cd_moves_for "moves_for" = true)
    (kp_moves_for : PySem.W.keepIn K (.ref f_moves_for) = true)
    (a_fewest_moves : PySem.W.nsIn K mainGlobals "fewest_moves" = some (some (.ref f_fewest_moves)))
    (l_fewest_moves : K.lookup f_fewest_moves = some ⟨oc_fewest_moves, od_fewest_moves, .func (PySem.W.fnOf "fewest_moves" "fewest_moves" (defArgs s_fewest_moves) (defBody s_fewest_moves) (defScope s_fewest_moves) .none kV_fewest_moves dc_fewest_moves pm_fewest_moves an_fewest_moves cd_fewest_moves ct_fewest_moves), sl_fewest_moves⟩)
    (cd2_fewest_moves : PySem.W.codeIn K cd_fewest_moves "fewest_moves" = true)
    (kp_fewest_moves : PySem.W.keepIn K (.ref f_fewest_moves) = true)
    (a_Refused_init : PySem.W.findIn K (.ref c_Refused) "__init__" = some (some (.ref f_Refused_init)))
    (tI : PySem.W.typeIn K (.ref f_Refused_init) = some (.type "function"))
    (l_Refused_init : K.lookup f_Refused_init = some ⟨oc_Refused_init, od_Refused_init, .func (PySem.W.fnOf "__init__" "Refused.__init__" (defArgs s_Refused_init) (defBody s_Refused_init) (defScope s_Refused_init) .none kV_Refused_init dc_Refused_init pm_Refused_init an_Refused_init cd_Refused_init ct_Refused_init), sl_Refused_init⟩)
    (cd2_Refused_init : PySem.W.codeIn K cd_Refused_init "Refused.__init__" = true)
    (kp_Refused_init : PySem.W.keepIn K (.ref f_Refused_init) = true)
    (a_want : PySem.W.nsIn K mainGlobals "want" = some (some (.ref f_want)))
    (l_want : K.lookup f_want = some ⟨oc_want, od_want, .func (PySem.W.fnOf "want" "want" (defArgs s_want) (defBody s_want) (defScope s_want) .none kV_want dc_want pm_want an_want cd_want ct_want), sl_want⟩)
    (cd2_want : PySem.W.codeIn K cd_want "want" = true)
    (kp_want : PySem.W.keepIn K (.ref f_want) = true)
    (a_Cloakroom_init : PySem.W.findIn K (.ref c_Cloakroom) "__init__" = some (some (.ref f_Cloakroom_init)))
    (i_Cloakroom_init : PySem.W.isFn K (.ref f_Cloakroom_init) = true)
    (l_Cloakroom_init : K.lookup f_Cloakroom_init = some ⟨oc_Cloakroom_init, od_Cloakroom_init, .func (PySem.W.fnOf "__init__" "Cloakroom.__init__" (defArgs s_Cloakroom_init) (defBody s_Cloakroom_init) (defScope s_Cloakroom_init) .none kV_Cloakroom_init dc_Cloakroom_init pm_Cloakroom_init an_Cloakroom_init cd_Cloakroom_init ct_Cloakroom_init), sl_Cloakroom_init⟩)
    (cd2_Cloakroom_init : PySem.W.codeIn K cd_Cloakroom_init "Cloakroom.__init__" = true)
    (kp_Cloakroom_init : PySem.W.keepIn K (.ref f_Cloakroom_init) = true)
    (a_Cloakroom_coat_of : PySem.W.findIn K (.ref c_Cloakroom) "coat_of" = some (some (.ref f_Cloakroom_coat_of)))
    (i_Cloakroom_coat_of : PySem.W.isFn K (.ref f_Cloakroom_coat_of) = true)
    (l_Cloakroom_coat_of : K.lookup f_Cloakroom_coat_of = some ⟨oc_Cloakroom_coat_of, od_Cloakroom_coat_of, .func (PySem.W.fnOf "coat_of" "Cloakroom.coat_of" (defArgs s_Cloakroom_coat_of) (defBody s_Cloakroom_coat_of) (defScope s_Cloakroom_coat_of) .none kV_Cloakroom_coat_of dc_Cloakroom_coat_of pm_Cloakroom_coat_of an_Cloakroom_coat_of cd_Cloakroom_coat_of ct_Cloakroom_coat_of), sl_Cloakroom_coat_of⟩)
    (cd2_Cloakroom_coat_of : PySem.W.codeIn K cd_Cloakroom_coat_of "Cloakroom.coat_of" = true)
    (kp_Cloakroom_coat_of : PySem.W.keepIn K (.ref f_Cloakroom_coat_of) = true)
    (a_Cloakroom_hanging : PySem.W.findIn K (.ref c_Cloakroom) "hanging" = some (some (.ref f_Cloakroom_hanging)))
    (i_Cloakroom_hanging : PySem.W.isFn K (.ref f_Cloakroom_hanging) = true)
    (l_Cloakroom_hanging : K.lookup f_Cloakroom_hanging = some ⟨oc_Cloakroom_hanging, od_Cloakroom_hanging, .func (PySem.W.fnOf "hanging" "Cloakroom.hanging" (defArgs s_Cloakroom_hanging) (defBody s_Cloakroom_hanging) (defScope s_Cloakroom_hanging) .none kV_Cloakroom_hanging dc_Cloakroom_hanging pm_Cloakroom_hanging an_Cloakroom_hanging cd_Cloakroom_hanging ct_Cloakroom_hanging), sl_Cloakroom_hanging⟩)
    (cd2_Cloakroom_hanging : PySem.W.codeIn K cd_Cloakroom_hanging "Cloakroom.hanging" = true)
    (kp_Cloakroom_hanging : PySem.W.keepIn K (.ref f_Cloakroom_hanging) = true)
    (a_Cloakroom_claim_of : PySem.W.findIn K (.ref c_Cloakroom) "claim_of" = some (some (.ref f_Cloakroom_claim_of)))
    (i_Cloakroom_claim_of : PySem.W.isFn K (.ref f_Cloakroom_claim_of) = true)
    (l_Cloakroom_claim_of : K.lookup f_Cloakroom_claim_of = some ⟨oc_Cloakroom_claim_of, od_Cloakroom_claim_of, .func (PySem.W.fnOf "claim_of" "Cloakroom.claim_of" (defArgs s_Cloakroom_claim_of) (defBody s_Cloakroom_claim_of) (defScope s_Cloakroom_claim_of) .none kV_Cloakroom_claim_of dc_Cloakroom_claim_of pm_Cloakroom_claim_of an_Cloakroom_claim_of cd_Cloakroom_claim_of ct_Cloakroom_claim_of), sl_Cloakroom_claim_of⟩)
    (cd2_Cloakroom_claim_of : PySem.W.codeIn K cd_Cloakroom_claim_of "Cloakroom.claim_of" = true)
    (kp_Cloakroom_claim_of : PySem.W.keepIn K (.ref f_Cloakroom_claim_of) = true)
    (a_Cloakroom_open_claim : PySem.W.findIn K (.ref c_Cloakroom) "open_claim" = some (some (.ref f_Cloakroom_open_claim)))
    (i_Cloakroom_open_claim : PySem.W.isFn K (.ref f_Cloakroom_open_claim) = true)
    (l_Cloakroom_open_claim : K.lookup f_Cloakroom_open_claim = some ⟨oc_Cloakroom_open_claim, od_Cloakroom_open_claim, .func (PySem.W.fnOf "open_claim" "Cloakroom.open_claim" (defArgs s_Cloakroom_open_claim) (defBody s_Cloakroom_open_claim) (defScope s_Cloakroom_open_claim) .none kV_Cloakroom_open_claim dc_Cloakroom_open_claim pm_Cloakroom_open_claim an_Cloakroom_open_claim cd_Cloakroom_open_claim ct_Cloakroom_open_claim), sl_Cloakroom_open_claim⟩)
    (cd2_Cloakroom_open_claim : PySem.W.codeIn K cd_Cloakroom_open_claim "Cloakroom.open_claim" = true)
    (kp_Cloakroom_open_claim : PySem.W.keepIn K (.ref f_Cloakroom_open_claim) = true)
    (a_Cloakroom_walk_for : PySem.W.findIn K (.ref c_Cloakroom) "walk_for" = some (some (.ref f_Cloakroom_walk_for)))
    (i_Cloakroom_walk_for : PySem.W.isFn K (.ref f_Cloakroom_walk_for) = true)
    (l_Cloakroom_walk_for : K.lookup f_Cloakroom_walk_for = some ⟨oc_Cloakroom_walk_for, od_Cloakroom_walk_for, .func (PySem.W.fnOf "walk_for" "Cloakroom.walk_for" (defArgs s_Cloakroom_walk_for) (defBody s_Cloakroom_walk_for) (defScope s_Cloakroom_walk_for) .none kV_Cloakroom_walk_for dc_Cloakroom_walk_for pm_Cloakroom_walk_for an_Cloakroom_walk_for cd_Cloakroom_walk_for ct_Cloakroom_walk_for), sl_Cloakroom_walk_for⟩)
    (cd2_Cloakroom_walk_for : PySem.W.codeIn K cd_Cloakroom_walk_for "Cloakroom.walk_for" = true)
    (kp_Cloakroom_walk_for : PySem.W.keepIn K (.ref f_Cloakroom_walk_for) = true)
    (a_Cloakroom_hand_out : PySem.W.findIn K (.ref c_Cloakroom) "hand_out" = some (some (.ref f_Cloakroom_hand_out)))
    (i_Cloakroom_hand_out : PySem.W.isFn K (.ref f_Cloakroom_hand_out) = true)
    (l_Cloakroom_hand_out : K.lookup f_Cloakroom_hand_out = some ⟨oc_Cloakroom_hand_out, od_Cloakroom_hand_out, .func (PySem.W.fnOf "hand_out" "Cloakroom.hand_out" (defArgs s_Cloakroom_hand_out) (defBody s_Cloakroom_hand_out) (defScope s_Cloakroom_hand_out) .none kV_Cloakroom_hand_out dc_Cloakroom_hand_out pm_Cloakroom_hand_out an_Cloakroom_hand_out cd_Cloakroom_hand_out ct_Cloakroom_hand_out), sl_Cloakroom_hand_out⟩)
    (cd2_Cloakroom_hand_out : PySem.W.codeIn K cd_Cloakroom_hand_out "Cloakroom.hand_out" = true)
    (kp_Cloakroom_hand_out : PySem.W.keepIn K (.ref f_Cloakroom_hand_out) = true)
    (a_Cloakroom_hang : PySem.W.findIn K (.ref c_Cloakroom) "hang" = some (some (.ref f_Cloakroom_hang)))
    (i_Cloakroom_hang : PySem.W.isFn K (.ref f_Cloakroom_hang) = true)
    (l_Cloakroom_hang : K.lookup f_Cloakroom_hang = some ⟨oc_Cloakroom_hang, od_Cloakroom_hang, .func (PySem.W.fnOf "hang" "Cloakroom.hang" (defArgs s_Cloakroom_hang) (defBody s_Cloakroom_hang) (defScope s_Cloakroom_hang) .none kV_Cloakroom_hang dc_Cloakroom_hang pm_Cloakroom_hang an_Cloakroom_hang cd_Cloakroom_hang ct_Cloakroom_hang), sl_Cloakroom_hang⟩)
    (cd2_Cloakroom_hang : PySem.W.codeIn K cd_Cloakroom_hang "Cloakroom.hang" = true)
    (kp_Cloakroom_hang : PySem.W.keepIn K (.ref f_Cloakroom_hang) = true)
    (a_Cloakroom_fetch : PySem.W.findIn K (.ref c_Cloakroom) "fetch" = some (some (.ref f_Cloakroom_fetch)))
    (i_Cloakroom_fetch : PySem.W.isFn K (.ref f_Cloakroom_fetch) = true)
    (l_Cloakroom_fetch : K.lookup f_Cloakroom_fetch = some ⟨oc_Cloakroom_fetch, od_Cloakroom_fetch, .func (PySem.W.fnOf "fetch" "Cloakroom.fetch" (defArgs s_Cloakroom_fetch) (defBody s_Cloakroom_fetch) (defScope s_Cloakroom_fetch) .none kV_Cloakroom_fetch dc_Cloakroom_fetch pm_Cloakroom_fetch an_Cloakroom_fetch cd_Cloakroom_fetch ct_Cloakroom_fetch), sl_Cloakroom_fetch⟩)
    (cd2_Cloakroom_fetch : PySem.W.codeIn K cd_Cloakroom_fetch "Cloakroom.fetch" = true)
    (kp_Cloakroom_fetch : PySem.W.keepIn K (.ref f_Cloakroom_fetch) = true)
    (a_Cloakroom_make : PySem.W.findIn K (.ref c_Cloakroom) "make" = some (some (.ref f_Cloakroom_make)))
    (i_Cloakroom_make : PySem.W.isFn K (.ref f_Cloakroom_make) = true)
    (l_Cloakroom_make : K.lookup f_Cloakroom_make = some ⟨oc_Cloakroom_make, od_Cloakroom_make, .func (PySem.W.fnOf "make" "Cloakroom.make" (defArgs s_Cloakroom_make) (defBody s_Cloakroom_make) (defScope s_Cloakroom_make) .none kV_Cloakroom_make dc_Cloakroom_make pm_Cloakroom_make an_Cloakroom_make cd_Cloakroom_make ct_Cloakroom_make), sl_Cloakroom_make⟩)
    (cd2_Cloakroom_make : PySem.W.codeIn K cd_Cloakroom_make "Cloakroom.make" = true)
    (kp_Cloakroom_make : PySem.W.keepIn K (.ref f_Cloakroom_make) = true)
    (a_Cloakroom_move : PySem.W.findIn K (.ref c_Cloakroom) "move" = some (some (.ref f_Cloakroom_move)))
    (i_Cloakroom_move : PySem.W.isFn K (.ref f_Cloakroom_move) = true)
    (l_Cloakroom_move : K.lookup f_Cloakroom_move = some ⟨oc_Cloakroom_move, od_Cloakroom_move, .func (PySem.W.fnOf "move" "Cloakroom.move" (defArgs s_Cloakroom_move) (defBody s_Cloakroom_move) (defScope s_Cloakroom_move) .none kV_Cloakroom_move dc_Cloakroom_move pm_Cloakroom_move an_Cloakroom_move cd_Cloakroom_move ct_Cloakroom_move), sl_Cloakroom_move⟩)
    (cd2_Cloakroom_move : PySem.W.codeIn K cd_Cloakroom_move "Cloakroom.move" = true)
    (kp_Cloakroom_move : PySem.W.keepIn K (.ref f_Cloakroom_move) = true)
    (a_Cloakroom_claim : PySem.W.findIn K (.ref c_Cloakroom) "claim" = some (some (.ref f_Cloakroom_claim)))
    (i_Cloakroom_claim : PySem.W.isFn K (.ref f_Cloakroom_claim) = true)
    (l_Cloakroom_claim : K.lookup f_Cloakroom_claim = some ⟨oc_Cloakroom_claim, od_Cloakroom_claim, .func (PySem.W.fnOf "claim" "Cloakroom.claim" (defArgs s_Cloakroom_claim) (defBody s_Cloakroom_claim) (defScope s_Cloakroom_claim) .none kV_Cloakroom_claim dc_Cloakroom_claim pm_Cloakroom_claim an_Cloakroom_claim cd_Cloakroom_claim ct_Cloakroom_claim), sl_Cloakroom_claim⟩)
    (cd2_Cloakroom_claim : PySem.W.codeIn K cd_Cloakroom_claim "Cloakroom.claim" = true)
    (kp_Cloakroom_claim : PySem.W.keepIn K (.ref f_Cloakroom_claim) = true)
    (a_Cloakroom_whose : PySem.W.findIn K (.ref c_Cloakroom) "whose" = some (some (.ref f_Cloakroom_whose)))
    (i_Cloakroom_whose : PySem.W.isFn K (.ref f_Cloakroom_whose) = true)
    (l_Cloakroom_whose : K.lookup f_Cloakroom_whose = some ⟨oc_Cloakroom_whose, od_Cloakroom_whose, .func (PySem.W.fnOf "whose" "Cloakroom.whose" (defArgs s_Cloakroom_whose) (defBody s_Cloakroom_whose) (defScope s_Cloakroom_whose) .none kV_Cloakroom_whose dc_Cloakroom_whose pm_Cloakroom_whose an_Cloakroom_whose cd_Cloakroom_whose ct_Cloakroom_whose), sl_Cloakroom_whose⟩)
    (cd2_Cloakroom_whose : PySem.W.codeIn K cd_Cloakroom_whose "Cloakroom.whose" = true)
    (kp_Cloakroom_whose : PySem.W.keepIn K (.ref f_Cloakroom_whose) = true)
    (a_Cloakroom_settle : PySem.W.findIn K (.ref c_Cloakroom) "settle" = some (some (.ref f_Cloakroom_settle)))
    (i_Cloakroom_settle : PySem.W.isFn K (.ref f_Cloakroom_settle) = true)
    (l_Cloakroom_settle : K.lookup f_Cloakroom_settle = some ⟨oc_Cloakroom_settle, od_Cloakroom_settle, .func (PySem.W.fnOf "settle" "Cloakroom.settle" (defArgs s_Cloakroom_settle) (defBody s_Cloakroom_settle) (defScope s_Cloakroom_settle) .none kV_Cloakroom_settle dc_Cloakroom_settle pm_Cloakroom_settle an_Cloakroom_settle cd_Cloakroom_settle ct_Cloakroom_settle), sl_Cloakroom_settle⟩)
    (cd2_Cloakroom_settle : PySem.W.codeIn K cd_Cloakroom_settle "Cloakroom.settle" = true)
    (kp_Cloakroom_settle : PySem.W.keepIn K (.ref f_Cloakroom_settle) = true)
    (a_Cloakroom_drop : PySem.W.findIn K (.ref c_Cloakroom) "drop" = some (some (.ref f_Cloakroom_drop)))
    (i_Cloakroom_drop : PySem.W.isFn K (.ref f_Cloakroom_drop) = true)
    (l_Cloakroom_drop : K.lookup f_Cloakroom_drop = some ⟨oc_Cloakroom_drop, od_Cloakroom_drop, .func (PySem.W.fnOf "drop" "Cloakroom.drop" (defArgs s_Cloakroom_drop) (defBody s_Cloakroom_drop) (defScope s_Cloakroom_drop) .none kV_Cloakroom_drop dc_Cloakroom_drop pm_Cloakroom_drop an_Cloakroom_drop cd_Cloakroom_drop ct_Cloakroom_drop), sl_Cloakroom_drop⟩)
    (cd2_Cloakroom_drop : PySem.W.codeIn K cd_Cloakroom_drop "Cloakroom.drop" = true)
    (kp_Cloakroom_drop : PySem.W.keepIn K (.ref f_Cloakroom_drop) = true)
    (a_Cloakroom_rack_told : PySem.W.findIn K (.ref c_Cloakroom) "rack_told" = some (some (.ref f_Cloakroom_rack_told)))
    (i_Cloakroom_rack_told : PySem.W.isFn K (.ref f_Cloakroom_rack_told) = true)
    (l_Cloakroom_rack_told : K.lookup f_Cloakroom_rack_told = some ⟨oc_Cloakroom_rack_told, od_Cloakroom_rack_told, .func (PySem.W.fnOf "rack_told" "Cloakroom.rack_told" (defArgs s_Cloakroom_rack_told) (defBody s_Cloakroom_rack_told) (defScope s_Cloakroom_rack_told) .none kV_Cloakroom_rack_told dc_Cloakroom_rack_told pm_Cloakroom_rack_told an_Cloakroom_rack_told cd_Cloakroom_rack_told ct_Cloakroom_rack_told), sl_Cloakroom_rack_told⟩)
    (cd2_Cloakroom_rack_told : PySem.W.codeIn K cd_Cloakroom_rack_told "Cloakroom.rack_told" = true)
    (kp_Cloakroom_rack_told : PySem.W.keepIn K (.ref f_Cloakroom_rack_told) = true)
    (a_Cloakroom_look : PySem.W.findIn K (.ref c_Cloakroom) "look" = some (some (.ref f_Cloakroom_look)))
    (i_Cloakroom_look : PySem.W.isFn K (.ref f_Cloakroom_look) = true)
    (l_Cloakroom_look : K.lookup f_Cloakroom_look = some ⟨oc_Cloakroom_look, od_Cloakroom_look, .func (PySem.W.fnOf "look" "Cloakroom.look" (defArgs s_Cloakroom_look) (defBody s_Cloakroom_look) (defScope s_Cloakroom_look) .none kV_Cloakroom_look dc_Cloakroom_look pm_Cloakroom_look an_Cloakroom_look cd_Cloakroom_look ct_Cloakroom_look), sl_Cloakroom_look⟩)
    (cd2_Cloakroom_look : PySem.W.codeIn K cd_Cloakroom_look "Cloakroom.look" = true)
    (kp_Cloakroom_look : PySem.W.keepIn K (.ref f_Cloakroom_look) = true)
    (a_Cloakroom_counts : PySem.W.findIn K (.ref c_Cloakroom) "counts" = some (some (.ref f_Cloakroom_counts)))
    (i_Cloakroom_counts : PySem.W.isFn K (.ref f_Cloakroom_counts) = true)
    (l_Cloakroom_counts : K.lookup f_Cloakroom_counts = some ⟨oc_Cloakroom_counts, od_Cloakroom_counts, .func (PySem.W.fnOf "counts" "Cloakroom.counts" (defArgs s_Cloakroom_counts) (defBody s_Cloakroom_counts) (defScope s_Cloakroom_counts) .none kV_Cloakroom_counts dc_Cloakroom_counts pm_Cloakroom_counts an_Cloakroom_counts cd_Cloakroom_counts ct_Cloakroom_counts), sl_Cloakroom_counts⟩)
    (cd2_Cloakroom_counts : PySem.W.codeIn K cd_Cloakroom_counts "Cloakroom.counts" = true)
    (kp_Cloakroom_counts : PySem.W.keepIn K (.ref f_Cloakroom_counts) = true)
    (a_Cloakroom_about_coats : PySem.W.findIn K (.ref c_Cloakroom) "about_coats" = some (some (.ref f_Cloakroom_about_coats)))
    (i_Cloakroom_about_coats : PySem.W.isFn K (.ref f_Cloakroom_about_coats) = true)
    (l_Cloakroom_about_coats : K.lookup f_Cloakroom_about_coats = some ⟨oc_Cloakroom_about_coats, od_Cloakroom_about_coats, .func (PySem.W.fnOf "about_coats" "Cloakroom.about_coats" (defArgs s_Cloakroom_about_coats) (defBody s_Cloakroom_about_coats) (defScope s_Cloakroom_about_coats) .none kV_Cloakroom_about_coats dc_Cloakroom_about_coats pm_Cloakroom_about_coats an_Cloakroom_about_coats cd_Cloakroom_about_coats ct_Cloakroom_about_coats), sl_Cloakroom_about_coats⟩)
    (cd2_Cloakroom_about_coats : PySem.W.codeIn K cd_Cloakroom_about_coats "Cloakroom.about_coats" = true)
    (kp_Cloakroom_about_coats : PySem.W.keepIn K (.ref f_Cloakroom_about_coats) = true)
    (a_Cloakroom_called : PySem.W.findIn K (.ref c_Cloakroom) "called" = some (some (.ref f_Cloakroom_called)))
    (i_Cloakroom_called : PySem.W.isFn K (.ref f_Cloakroom_called) = true)
    (l_Cloakroom_called : K.lookup f_Cloakroom_called = some ⟨oc_Cloakroom_called, od_Cloakroom_called, .func (PySem.W.fnOf "called" "Cloakroom.called" (defArgs s_Cloakroom_called) (defBody s_Cloakroom_called) (defScope s_Cloakroom_called) .none kV_Cloakroom_called dc_Cloakroom_called pm_Cloakroom_called an_Cloakroom_called cd_Cloakroom_called ct_Cloakroom_called), sl_Cloakroom_called⟩)
    (cd2_Cloakroom_called : PySem.W.codeIn K cd_Cloakroom_called "Cloakroom.called" = true)
    (kp_Cloakroom_called : PySem.W.keepIn K (.ref f_Cloakroom_called) = true)
    (a_Cloakroom_answer : PySem.W.findIn K (.ref c_Cloakroom) "answer" = some (some (.ref f_Cloakroom_answer)))
    (i_Cloakroom_answer : PySem.W.isFn K (.ref f_Cloakroom_answer) = true)
    (l_Cloakroom_answer : K.lookup f_Cloakroom_answer = some ⟨oc_Cloakroom_answer, od_Cloakroom_answer, .func (PySem.W.fnOf "answer" "Cloakroom.answer" (defArgs s_Cloakroom_answer) (defBody s_Cloakroom_answer) (defScope s_Cloakroom_answer) .none kV_Cloakroom_answer dc_Cloakroom_answer pm_Cloakroom_answer an_Cloakroom_answer cd_Cloakroom_answer ct_Cloakroom_answer), sl_Cloakroom_answer⟩)
    (cd2_Cloakroom_answer : PySem.W.codeIn K cd_Cloakroom_answer "Cloakroom.answer" = true)
    (kp_Cloakroom_answer : PySem.W.keepIn K (.ref f_Cloakroom_answer) = true)
    (a_answers : PySem.W.nsIn K mainGlobals "answers" = some (some (.ref f_answers)))
    (l_answers : K.lookup f_answers = some ⟨oc_answers, od_answers, .func (PySem.W.fnOf "answers" "answers" (defArgs s_answers) (defBody s_answers) (defScope s_answers) .none kV_answers dc_answers pm_answers an_answers cd_answers ct_answers), sl_answers⟩)
    (cd2_answers : PySem.W.codeIn K cd_answers "answers" = true)
    (kp_answers : PySem.W.keepIn K (.ref f_answers) = true)
    (pg_Coat : PySem.W.plainGet K c_Coat Str.empty = true)
    (hd_Coat : PySem.W.hasDictIn K c_Coat = true)
    (po_Coat : PySem.W.plainOver K c_Coat = true)
    (sa_Coat : PySem.W.findIn K (.ref c_Coat) "__setattr__" = some (some (.builtin "object.__setattr__")))
    (mk_Coat : PySem.W.makesIn K c_Coat = true)
    (kc_Coat : PySem.W.keepIn K (.ref c_Coat) = true)
    (n_Coat_wide : PySem.W.findIn K (.ref c_Coat) "wide" = some none)
    (n_Coat_kind : PySem.W.findIn K (.ref c_Coat) "kind" = some none)
    (n_Coat_colour : PySem.W.findIn K (.ref c_Coat) "colour" = some none)
    (n_Coat_time : PySem.W.findIn K (.ref c_Coat) "time" = some none)
    (n_Coat_place : PySem.W.findIn K (.ref c_Coat) "place" = some none)
    (pg_Claim : PySem.W.plainGet K c_Claim Str.empty = true)
    (hd_Claim : PySem.W.hasDictIn K c_Claim = true)
    (po_Claim : PySem.W.plainOver K c_Claim = true)
    (sa_Claim : PySem.W.findIn K (.ref c_Claim) "__setattr__" = some (some (.builtin "object.__setattr__")))
    (mk_Claim : PySem.W.makesIn K c_Claim = true)
    (kc_Claim : PySem.W.keepIn K (.ref c_Claim) = true)
    (n_Claim_kind : PySem.W.findIn K (.ref c_Claim) "kind" = some none)
    (n_Claim_colour : PySem.W.findIn K (.ref c_Claim) "colour" = some none)
    (n_Claim_low : PySem.W.findIn K (.ref c_Claim) "low" = some none)
    (n_Claim_high : PySem.W.findIn K (.ref c_Claim) "high" = some none)
    (n_Claim_ticket : PySem.W.findIn K (.ref c_Claim) "ticket" = some none)
    (pg_Racks : PySem.W.plainGet K c_Racks Str.empty = true)
    (hd_Racks : PySem.W.hasDictIn K c_Racks = true)
    (po_Racks : PySem.W.plainOver K c_Racks = true)
    (sa_Racks : PySem.W.findIn K (.ref c_Racks) "__setattr__" = some (some (.builtin "object.__setattr__")))
    (mk_Racks : PySem.W.makesIn K c_Racks = true)
    (kc_Racks : PySem.W.keepIn K (.ref c_Racks) = true)
    (n_Racks_racks : PySem.W.findIn K (.ref c_Racks) "racks" = some none)
    (n_Racks_hooks : PySem.W.findIn K (.ref c_Racks) "hooks" = some none)
    (pg_Cloakroom : PySem.W.plainGet K c_Cloakroom Str.empty = true)
    (hd_Cloakroom : PySem.W.hasDictIn K c_Cloakroom = true)
    (po_Cloakroom : PySem.W.plainOver K c_Cloakroom = true)
    (sa_Cloakroom : PySem.W.findIn K (.ref c_Cloakroom) "__setattr__" = some (some (.builtin "object.__setattr__")))
    (mk_Cloakroom : PySem.W.makesIn K c_Cloakroom = true)
    (kc_Cloakroom : PySem.W.keepIn K (.ref c_Cloakroom) = true)
    (n_Cloakroom_racks : PySem.W.findIn K (.ref c_Cloakroom) "racks" = some none)
    (n_Cloakroom_coats : PySem.W.findIn K (.ref c_Cloakroom) "coats" = some none)
    (n_Cloakroom_claims : PySem.W.findIn K (.ref c_Cloakroom) "claims" = some none)
    (n_Cloakroom_time : PySem.W.findIn K (.ref c_Cloakroom) "time" = some none)
    (n_Cloakroom_walked : PySem.W.findIn K (.ref c_Cloakroom) "walked" = some none)
    (ne_Claim_Coat : c_Claim ≠ c_Coat)
    (ne_Racks_Coat : c_Racks ≠ c_Coat)
    (ne_Racks_Claim : c_Racks ≠ c_Claim)
    (ne_Cloakroom_Coat : c_Cloakroom ≠ c_Coat)
    (ne_Cloakroom_Claim : c_Cloakroom ≠ c_Claim)
    (ne_Cloakroom_Racks : c_Cloakroom ≠ c_Racks)
    (xL : K.lookup c_Refused = some (excClassObj x_nm x_q c_Refused x_N x_bs [.type "ValueError", .type "Exception", .type "BaseException", .type "object"] true x_sn x_sub x_ab x_col x_dd x_m0 x_m1 x_m2 x_m3 x_m5 "ValueError.__new__"))
    (xsa : PySem.W.findIn K (.ref c_Refused) "__setattr__" = some (some (.builtin "object.__setattr__")))
    (xeC : PySem.W.subIn K (.ref c_Refused) (.type "BaseException") = some true)
    (xtC : PySem.W.typeIn K (.ref c_Refused) = some (.type "type"))
    (xkC : PySem.W.keepIn K (.ref c_Refused) = true)
    (xnC : PySem.W.findIn K (.ref c_Refused) "code" = some none)
    (xvV : PySem.W.findCls K (.type "ValueError") (.type "type") "__init__" = some (.val (.builtin "ValueError.__init__")))
    (xga : PySem.W.findIn K (.ref c_Refused) "__getattribute__" = some (some (.builtin "BaseException.__getattribute__")))
    (xgg : PySem.W.findIn K (.ref c_Refused) "__getattr__" = some none)
    (xhd : PySem.W.hasDictIn K c_Refused = true)
    (xic : PySem.W.isClsIn K c_Refused = true)
    (xsC : PySem.W.subIn K (.ref c_Refused) (.ref c_Refused) = some true)
    (k_UNKNOWN : PySem.W.nsIn K mainGlobals "UNKNOWN" = some (some (.int (-1) tk_UNKNOWN)))
    (k_FREE : PySem.W.nsIn K mainGlobals "FREE" = some (some (.int (-1) tk_FREE)))
    (k_WRONG : PySem.W.nsIn K mainGlobals "WRONG" = some (some (.int (-1) tk_WRONG)))
    (k_NO_SUCH : PySem.W.nsIn K mainGlobals "NO_SUCH" = some (some (.int (-2) tk_NO_SUCH)))
    (k_NO_ROOM : PySem.W.nsIn K mainGlobals "NO_ROOM" = some (some (.int (-3) tk_NO_ROOM)))
    (k_OVER : PySem.W.nsIn K mainGlobals "OVER" = some (some (.int (-4) tk_OVER)))
    (k_TOO_MANY : PySem.W.nsIn K mainGlobals "TOO_MANY" = some (some (.int (-5) tk_TOO_MANY)))
    (k_NONE_POSSIBLE : PySem.W.nsIn K mainGlobals "NONE_POSSIBLE" = some (some (.int (-6) tk_NONE_POSSIBLE)))
    (k_SEVERAL : PySem.W.nsIn K mainGlobals "SEVERAL" = some (some (.int (-7) tk_SEVERAL)))
    (k_GONE : PySem.W.nsIn K mainGlobals "GONE" = some (some (.int (-1) tk_GONE)))
    (k_MOST_WIDE : PySem.W.nsIn K mainGlobals "MOST_WIDE" = some (some (.int 3 tk_MOST_WIDE)))
    (k_MOST_NUMBER : PySem.W.nsIn K mainGlobals "MOST_NUMBER" = some (some (.int 9 tk_MOST_NUMBER)))
    (k_MOST_COATS : PySem.W.nsIn K mainGlobals "MOST_COATS" = some (some (.int 60 tk_MOST_COATS)))
    (k_MOST_CLAIMS : PySem.W.nsIn K mainGlobals "MOST_CLAIMS" = some (some (.int 8 tk_MOST_CLAIMS)))
    (k_BEGIN : PySem.W.nsIn K mainGlobals "BEGIN" = some (some (.int 0 tk_BEGIN)))
    (g_N : PySem.W.nsIn K mainGlobals "NUMBERS" = some (some (.ref a_N)))
    (l_N : K.lookup a_N = some ⟨.type "tuple", od_N, .seq #[.int 0 tn_0, .int 3 tn_1, .int 1 tn_2, .int 1 tn_3, .int 3 tn_4, .int 4 tn_5, .int 1 tn_6, .int 1 tn_7, .int 1 tn_8, .int 1 tn_9, .int 1 tn_10, .int 0 tn_11] n_N, sl_N⟩)
    (w_len : PySem.W.nsIn K mainGlobals "len" = some none)
    (w_enumerate : PySem.W.nsIn K mainGlobals "enumerate" = some none)
    (w_range : PySem.W.nsIn K mainGlobals "range" = some none)
    (w_dict : PySem.W.nsIn K mainGlobals "dict" = some none)
    (w_sorted : PySem.W.nsIn K mainGlobals "sorted" = some none)
    (w_all : PySem.W.nsIn K mainGlobals "all" = some none)
    (w_list : PySem.W.nsIn K mainGlobals "list" = some none)
    (w_ValueError : PySem.W.nsIn K mainGlobals "ValueError" = some none) :
    ∃ fd : FuncData, (∀ (s : Shared) (us : List Value), us.length = (["calls"] : List Str).length → BindsTo s fd ⟨us, []⟩ ((["calls"] : List Str).zip us)) ∧ ∀ base : Heap, K.In base → base.Ns mainGlobals mg → FnOk P w K mg base CX0 16 fa fd ["calls"] (sp_answers K) := by
  have e := hfa.symm.trans (PySem.W.mg_of X G a_answers)
  cases e
  have F_Coat_init := fun_mk (st := s_Coat_init) l_Coat_init cd2_Coat_init kp_Coat_init
  have b_Coat_init := F_Coat_init.binds (ps := ["self", "wide", "kind", "colour", "time", "place"]) fun _ _ _ _ _ _ us hl => match us, hl with | [_, _, _, _, _, _], _ => rfl
  have F_Coat_hang_at := fun_mk (st := s_Coat_hang_at) l_Coat_hang_at cd2_Coat_hang_at kp_Coat_hang_at
  have b_Coat_hang_at := F_Coat_hang_at.binds (ps := ["self", "place"]) fun _ _ _ _ _ _ us hl => match us, hl with | [_, _], _ => rfl
  have F_Claim_init := fun_mk (st := s_Claim_init) l_Claim_init cd2_Claim_init kp_Claim_init
  have b_Claim_init := F_Claim_init.binds (ps := ["self", "kind", "colour", "low", "high"]) fun _ _ _ _ _ _ us hl => match us, hl with | [_, _, _, _, _], _ => rfl
  have F_Claim_settle_by := fun_mk (st := s_Claim_settle_by) l_Claim_settle_by cd2_Claim_settle_by kp_Claim_settle_by
  have b_Claim_settle_by := F_Claim_settle_by.binds (ps := ["self", "ticket"]) fun _ _ _ _ _ _ us hl => match us, hl with | [_, _], _ => rfl
  have F_Claim_suits := fun_mk (st := s_Claim_suits) l_Claim_suits cd2_Claim_suits kp_Claim_suits
  have b_Claim_suits := F_Claim_suits.binds (ps := ["self", "coat"]) fun _ _ _ _ _ _ us hl => match us, hl with | [_, _], _ => rfl
  have F_suiting := fun_mk (st := s_suiting) l_suiting cd2_suiting kp_suiting
  have b_suiting := F_suiting.binds (ps := ["claim", "coats"]) fun _ _ _ _ _ _ us hl => match us, hl with | [_, _], _ => rfl
  have F_with_one_more := fun_mk (st := s_with_one_more) l_with_one_more cd2_with_one_more kp_with_one_more
  have b_with_one_more := F_with_one_more.binds (ps := ["given", "rows", "claim", "tried"]) fun _ _ _ _ _ _ us hl => match us, hl with | [_, _, _, _], _ => rfl
  have F_can_all_have := fun_mk (st := s_can_all_have) l_can_all_have cd2_can_all_have kp_can_all_have
  have b_can_all_have := F_can_all_have.binds (ps := ["rows"]) fun _ _ _ _ _ _ us hl => match us, hl with | [_], _ => rfl
  have F_possible := fun_mk (st := s_possible) l_possible cd2_possible kp_possible
  have b_possible := F_possible.binds (ps := ["claims", "number", "coats"]) fun _ _ _ _ _ _ us hl => match us, hl with | [_, _, _], _ => rfl
  have F_Racks_init := fun_mk (st := s_Racks_init) l_Racks_init cd2_Racks_init kp_Racks_init
  have b_Racks_init := F_Racks_init.binds (ps := ["self", "racks"]) fun _ _ _ _ _ _ us hl => match us, hl with | [_, _], _ => rfl
  have F_Racks_copied := fun_mk (st := s_Racks_copied) l_Racks_copied cd2_Racks_copied kp_Racks_copied
  have b_Racks_copied := F_Racks_copied.binds (ps := ["self"]) fun _ _ _ _ _ _ us hl => match us, hl with | [_], _ => rfl
  have F_Racks_has_place := fun_mk (st := s_Racks_has_place) l_Racks_has_place cd2_Racks_has_place kp_Racks_has_place
  have b_Racks_has_place := F_Racks_has_place.binds (ps := ["self", "rack", "hook", "wide"]) fun _ _ _ _ _ _ us hl => match us, hl with | [_, _, _, _], _ => rfl
  have F_Racks_place_at := fun_mk (st := s_Racks_place_at) l_Racks_place_at cd2_Racks_place_at kp_Racks_place_at
  have b_Racks_place_at := F_Racks_place_at.binds (ps := ["self", "rack", "hook"]) fun _ _ _ _ _ _ us hl => match us, hl with | [_, _, _], _ => rfl
  have F_Racks_places_of := fun_mk (st := s_Racks_places_of) l_Racks_places_of cd2_Racks_places_of kp_Racks_places_of
  have b_Racks_places_of := F_Racks_places_of.binds (ps := ["self", "wide"]) fun _ _ _ _ _ _ us hl => match us, hl with | [_, _], _ => rfl
  have F_Racks_coats_at := fun_mk (st := s_Racks_coats_at) l_Racks_coats_at cd2_Racks_coats_at kp_Racks_coats_at
  have b_Racks_coats_at := F_Racks_coats_at.binds (ps := ["self", "place", "wide"]) fun _ _ _ _ _ _ us hl => match us, hl with | [_, _, _], _ => rfl
  have F_Racks_first_free := fun_mk (st := s_Racks_first_free) l_Racks_first_free cd2_Racks_first_free kp_Racks_first_free
  have b_Racks_first_free := F_Racks_first_free.binds (ps := ["self", "wide", "kept"]) fun _ _ _ _ _ _ us hl => match us, hl with | [_, _, _], _ => rfl
  have F_Racks_hang_on := fun_mk (st := s_Racks_hang_on) l_Racks_hang_on cd2_Racks_hang_on kp_Racks_hang_on
  have b_Racks_hang_on := F_Racks_hang_on.binds (ps := ["self", "ticket", "place", "wide"]) fun _ _ _ _ _ _ us hl => match us, hl with | [_, _, _, _], _ => rfl
  have F_Racks_take_off := fun_mk (st := s_Racks_take_off) l_Racks_take_off cd2_Racks_take_off kp_Racks_take_off
  have b_Racks_take_off := F_Racks_take_off.binds (ps := ["self", "ticket"]) fun _ _ _ _ _ _ us hl => match us, hl with | [_, _], _ => rfl
  have F_have_common := fun_mk (st := s_have_common) l_have_common cd2_have_common kp_have_common
  have b_have_common := F_have_common.binds (ps := ["place", "wide", "kept"]) fun _ _ _ _ _ _ us hl => match us, hl with | [_, _, _], _ => rfl
  have F_are_racks := fun_mk (st := s_are_racks) l_are_racks cd2_are_racks kp_are_racks
  have b_are_racks := F_are_racks.binds (ps := ["row"]) fun _ _ _ _ _ _ us hl => match us, hl with | [_], _ => rfl
  have F_moves_for := fun_mk (st := s_moves_for) l_moves_for cd2_moves_for kp_moves_for
  have b_moves_for := F_moves_for.binds (ps := ["racks", "widths", "place", "wide"]) fun _ _ _ _ _ _ us hl => match us, hl with | [_, _, _, _], _ => rfl
  have F_fewest_moves := fun_mk (st := s_fewest_moves) l_fewest_moves cd2_fewest_moves kp_fewest_moves
  have b_fewest_moves := F_fewest_moves.binds (ps := ["racks", "widths", "wide"]) fun _ _ _ _ _ _ us hl => match us, hl with | [_, _, _], _ => rfl
  have F_Refused_init := fun_mk (st := s_Refused_init) l_Refused_init cd2_Refused_init kp_Refused_init
  have b_Refused_init := F_Refused_init.binds (ps := ["self", "code"]) fun _ _ _ _ _ _ us hl => match us, hl with | [_, _], _ => rfl
  have F_want := fun_mk (st := s_want) l_want cd2_want kp_want
  have b_want := F_want.binds (ps := ["truth", "code"]) fun _ _ _ _ _ _ us hl => match us, hl with | [_, _], _ => rfl
  have F_Cloakroom_init := fun_mk (st := s_Cloakroom_init) l_Cloakroom_init cd2_Cloakroom_init kp_Cloakroom_init
  have b_Cloakroom_init := F_Cloakroom_init.binds (ps := ["self", "racks"]) fun _ _ _ _ _ _ us hl => match us, hl with | [_, _], _ => rfl
  have F_Cloakroom_coat_of := fun_mk (st := s_Cloakroom_coat_of) l_Cloakroom_coat_of cd2_Cloakroom_coat_of kp_Cloakroom_coat_of
  have b_Cloakroom_coat_of := F_Cloakroom_coat_of.binds (ps := ["self", "ticket"]) fun _ _ _ _ _ _ us hl => match us, hl with | [_, _], _ => rfl
  have F_Cloakroom_hanging := fun_mk (st := s_Cloakroom_hanging) l_Cloakroom_hanging cd2_Cloakroom_hanging kp_Cloakroom_hanging
  have b_Cloakroom_hanging := F_Cloakroom_hanging.binds (ps := ["self", "ticket"]) fun _ _ _ _ _ _ us hl => match us, hl with | [_, _], _ => rfl
  have F_Cloakroom_claim_of := fun_mk (st := s_Cloakroom_claim_of) l_Cloakroom_claim_of cd2_Cloakroom_claim_of kp_Cloakroom_claim_of
  have b_Cloakroom_claim_of := F_Cloakroom_claim_of.binds (ps := ["self", "number"]) fun _ _ _ _ _ _ us hl => match us, hl with | [_, _], _ => rfl
  have F_Cloakroom_open_claim := fun_mk (st := s_Cloakroom_open_claim) l_Cloakroom_open_claim cd2_Cloakroom_open_claim kp_Cloakroom_open_claim
  have b_Cloakroom_open_claim := F_Cloakroom_open_claim.binds (ps := ["self", "number"]) fun _ _ _ _ _ _ us hl => match us, hl with | [_, _], _ => rfl
  have F_Cloakroom_walk_for := fun_mk (st := s_Cloakroom_walk_for) l_Cloakroom_walk_for cd2_Cloakroom_walk_for kp_Cloakroom_walk_for
  have b_Cloakroom_walk_for := F_Cloakroom_walk_for.binds (ps := ["self", "place"]) fun _ _ _ _ _ _ us hl => match us, hl with | [_, _], _ => rfl
  have F_Cloakroom_hand_out := fun_mk (st := s_Cloakroom_hand_out) l_Cloakroom_hand_out cd2_Cloakroom_hand_out kp_Cloakroom_hand_out
  have b_Cloakroom_hand_out := F_Cloakroom_hand_out.binds (ps := ["self", "ticket"]) fun _ _ _ _ _ _ us hl => match us, hl with | [_, _], _ => rfl
  have F_Cloakroom_hang := fun_mk (st := s_Cloakroom_hang) l_Cloakroom_hang cd2_Cloakroom_hang kp_Cloakroom_hang
  have b_Cloakroom_hang := F_Cloakroom_hang.binds (ps := ["self", "wide", "kind", "colour"]) fun _ _ _ _ _ _ us hl => match us, hl with | [_, _, _, _], _ => rfl
  have F_Cloakroom_fetch := fun_mk (st := s_Cloakroom_fetch) l_Cloakroom_fetch cd2_Cloakroom_fetch kp_Cloakroom_fetch
  have b_Cloakroom_fetch := F_Cloakroom_fetch.binds (ps := ["self", "ticket"]) fun _ _ _ _ _ _ us hl => match us, hl with | [_, _], _ => rfl
  have F_Cloakroom_make := fun_mk (st := s_Cloakroom_make) l_Cloakroom_make cd2_Cloakroom_make kp_Cloakroom_make
  have b_Cloakroom_make := F_Cloakroom_make.binds (ps := ["self", "wide"]) fun _ _ _ _ _ _ us hl => match us, hl with | [_, _], _ => rfl
  have F_Cloakroom_move := fun_mk (st := s_Cloakroom_move) l_Cloakroom_move cd2_Cloakroom_move kp_Cloakroom_move
  have b_Cloakroom_move := F_Cloakroom_move.binds (ps := ["self", "ticket", "rack", "hook"]) fun _ _ _ _ _ _ us hl => match us, hl with | [_, _, _, _], _ => rfl
  have F_Cloakroom_claim := fun_mk (st := s_Cloakroom_claim) l_Cloakroom_claim cd2_Cloakroom_claim kp_Cloakroom_claim
  have b_Cloakroom_claim := F_Cloakroom_claim.binds (ps := ["self", "kind", "colour", "low", "high"]) fun _ _ _ _ _ _ us hl => match us, hl with | [_, _, _, _, _], _ => rfl
  have F_Cloakroom_whose := fun_mk (st := s_Cloakroom_whose) l_Cloakroom_whose cd2_Cloakroom_whose kp_Cloakroom_whose
  have b_Cloakroom_whose := F_Cloakroom_whose.binds (ps := ["self", "number"]) fun _ _ _ _ _ _ us hl => match us, hl with | [_, _], _ => rfl
  have F_Cloakroom_settle := fun_mk (st := s_Cloakroom_settle) l_Cloakroom_settle cd2_Cloakroom_settle kp_Cloakroom_settle
  have b_Cloakroom_settle := F_Cloakroom_settle.binds (ps := ["self", "number"]) fun _ _ _ _ _ _ us hl => match us, hl with | [_, _], _ => rfl
  have F_Cloakroom_drop := fun_mk (st := s_Cloakroom_drop) l_Cloakroom_drop cd2_Cloakroom_drop kp_Cloakroom_drop
  have b_Cloakroom_drop := F_Cloakroom_drop.binds (ps := ["self", "number"]) fun _ _ _ _ _ _ us hl => match us, hl with | [_, _], _ => rfl
  have F_Cloakroom_rack_told := fun_mk (st := s_Cloakroom_rack_told) l_Cloakroom_rack_told cd2_Cloakroom_rack_told kp_Cloakroom_rack_told
  have b_Cloakroom_rack_told := F_Cloakroom_rack_told.binds (ps := ["self", "rack"]) fun _ _ _ _ _ _ us hl => match us, hl with | [_, _], _ => rfl
  have F_Cloakroom_look := fun_mk (st := s_Cloakroom_look) l_Cloakroom_look cd2_Cloakroom_look kp_Cloakroom_look
  have b_Cloakroom_look := F_Cloakroom_look.binds (ps := ["self", "ticket"]) fun _ _ _ _ _ _ us hl => match us, hl with | [_, _], _ => rfl
  have F_Cloakroom_counts := fun_mk (st := s_Cloakroom_counts) l_Cloakroom_counts cd2_Cloakroom_counts kp_Cloakroom_counts
  have b_Cloakroom_counts := F_Cloakroom_counts.binds (ps := ["self"]) fun _ _ _ _ _ _ us hl => match us, hl with | [_], _ => rfl
  have F_Cloakroom_about_coats := fun_mk (st := s_Cloakroom_about_coats) l_Cloakroom_about_coats cd2_Cloakroom_about_coats kp_Cloakroom_about_coats
  have b_Cloakroom_about_coats := F_Cloakroom_about_coats.binds (ps := ["self", "call", "n"]) fun _ _ _ _ _ _ us hl => match us, hl with | [_, _, _], _ => rfl
  have F_Cloakroom_called := fun_mk (st := s_Cloakroom_called) l_Cloakroom_called cd2_Cloakroom_called kp_Cloakroom_called
  have b_Cloakroom_called := F_Cloakroom_called.binds (ps := ["self", "call", "n"]) fun _ _ _ _ _ _ us hl => match us, hl with | [_, _, _], _ => rfl
  have F_Cloakroom_answer := fun_mk (st := s_Cloakroom_answer) l_Cloakroom_answer cd2_Cloakroom_answer kp_Cloakroom_answer
  have b_Cloakroom_answer := F_Cloakroom_answer.binds (ps := ["self", "call", "n"]) fun _ _ _ _ _ _ us hl => match us, hl with | [_, _, _], _ => rfl
  have F_answers := fun_mk (st := s_answers) l_answers cd2_answers kp_answers
  have b_answers := F_answers.binds (ps := ["calls"]) fun _ _ _ _ _ _ us hl => match us, hl with | [_], _ => rfl
  have T : Txt K mg { c_Coat := c_Coat, c_Claim := c_Claim, c_Racks := c_Racks, c_Refused := c_Refused, c_Cloakroom := c_Cloakroom, a_NUMBERS := a_N, f_Coat_init := f_Coat_init, d_Coat_init := PySem.W.fnOf "__init__" "Coat.__init__" (defArgs s_Coat_init) (defBody s_Coat_init) (defScope s_Coat_init) .none kV_Coat_init dc_Coat_init pm_Coat_init an_Coat_init cd_Coat_init ct_Coat_init, f_Coat_hang_at := f_Coat_hang_at, d_Coat_hang_at := PySem.W.fnOf "hang_at" "Coat.hang_at" (defArgs s_Coat_hang_at) (defBody s_Coat_hang_at) (defScope s_Coat_hang_at) .none kV_Coat_hang_at dc_Coat_hang_at pm_Coat_hang_at an_Coat_hang_at cd_Coat_hang_at ct_Coat_hang_at, f_Claim_init := f_Claim_init, d_Claim_init := PySem.W.fnOf "__init__" "Claim.__init__" (defArgs s_Claim_init) (defBody s_Claim_init) (defScope s_Claim_init) .none kV_Claim_init dc_Claim_init pm_Claim_init an_Claim_init cd_Claim_init ct_Claim_init, f_Claim_settle_by := f_Claim_settle_by, d_Claim_settle_by := PySem.W.fnOf "settle_by" "Claim.settle_by" (defArgs s_Claim_settle_by) (defBody s_Claim_settle_by) (defScope s_Claim_settle_by) .none kV_Claim_settle_by dc_Claim_settle_by pm_Claim_settle_by an_Claim_settle_by cd_Claim_settle_by ct_Claim_settle_by, f_Claim_suits := f_Claim_suits, d_Claim_suits := PySem.W.fnOf "suits" "Claim.suits" (defArgs s_Claim_suits) (defBody s_Claim_suits) (defScope s_Claim_suits) .none kV_Claim_suits dc_Claim_suits pm_Claim_suits an_Claim_suits cd_Claim_suits ct_Claim_suits, f_suiting := f_suiting, d_suiting := PySem.W.fnOf "suiting" "suiting" (defArgs s_suiting) (defBody s_suiting) (defScope s_suiting) .none kV_suiting dc_suiting pm_suiting an_suiting cd_suiting ct_suiting, f_with_one_more := f_with_one_more, d_with_one_more := PySem.W.fnOf "with_one_more" "with_one_more" (defArgs s_with_one_more) (defBody s_with_one_more) (defScope s_with_one_more) .none kV_with_one_more dc_with_one_more pm_with_one_more an_with_one_more cd_with_one_more ct_with_one_more, f_can_all_have := f_can_all_have, d_can_all_have := PySem.W.fnOf "can_all_have" "can_all_have" (defArgs s_can_all_have) (defBody s_can_all_have) (defScope s_can_all_have) .none kV_can_all_have dc_can_all_have pm_can_all_have an_can_all_have cd_can_all_have ct_can_all_have, f_possible := f_possible, d_possible := PySem.W.fnOf "possible" "possible" (defArgs s_possible) (defBody s_possible) (defScope s_possible) .none kV_possible dc_possible pm_possible an_possible cd_possible ct_possible, f_Racks_init := f_Racks_init, d_Racks_init := PySem.W.fnOf "__init__" "Racks.__init__" (defArgs s_Racks_init) (defBody s_Racks_init) (defScope s_Racks_init) .none kV_Racks_init dc_Racks_init pm_Racks_init an_Racks_init cd_Racks_init ct_Racks_init, f_Racks_copied := f_Racks_copied, d_Racks_copied := PySem.W.fnOf "copied" "Racks.copied" (defArgs s_Racks_copied) (defBody s_Racks_copied) (defScope s_Racks_copied) .none kV_Racks_copied dc_Racks_copied pm_Racks_copied an_Racks_copied cd_Racks_copied ct_Racks_copied, f_Racks_has_place := f_Racks_has_place, d_Racks_has_place := PySem.W.fnOf "has_place" "Racks.has_place" (defArgs s_Racks_has_place) (defBody s_Racks_has_place) (defScope s_Racks_has_place) .none kV_Racks_has_place dc_Racks_has_place pm_Racks_has_place an_Racks_has_place cd_Racks_has_place ct_Racks_has_place, f_Racks_place_at := f_Racks_place_at, d_Racks_place_at := PySem.W.fnOf "place_at" "Racks.place_at" (defArgs s_Racks_place_at) (defBody s_Racks_place_at) (defScope s_Racks_place_at) .none kV_Racks_place_at dc_Racks_place_at pm_Racks_place_at an_Racks_place_at cd_Racks_place_at ct_Racks_place_at, f_Racks_places_of := f_Racks_places_of, d_Racks_places_of := PySem.W.fnOf "places_of" "Racks.places_of" (defArgs s_Racks_places_of) (defBody s_Racks_places_of) (defScope s_Racks_places_of) .none kV_Racks_places_of dc_Racks_places_of pm_Racks_places_of an_Racks_places_of cd_Racks_places_of ct_Racks_places_of, f_Racks_coats_at := f_Racks_coats_at, d_Racks_coats_at := PySem.W.fnOf "coats_at" "Racks.coats_at" (defArgs s_Racks_coats_at) (defBody s_Racks_coats_at) (defScope s_Racks_coats_at) .none kV_Racks_coats_at dc_Racks_coats_at pm_Racks_coats_at an_Racks_coats_at cd_Racks_coats_at ct_Racks_coats_at, f_Racks_first_free := f_Racks_first_free, d_Racks_first_free := PySem.W.fnOf "first_free" "Racks.first_free" (defArgs s_Racks_first_free) (defBody s_Racks_first_free) (defScope s_Racks_first_free) .none kV_Racks_first_free dc_Racks_first_free pm_Racks_first_free an_Racks_first_free cd_Racks_first_free ct_Racks_first_free, f_Racks_hang_on := f_Racks_hang_on, d_Racks_hang_on := PySem.W.fnOf "hang_on" "Racks.hang_on" (defArgs s_Racks_hang_on) (defBody s_Racks_hang_on) (defScope s_Racks_hang_on) .none kV_Racks_hang_on dc_Racks_hang_on pm_Racks_hang_on an_Racks_hang_on cd_Racks_hang_on ct_Racks_hang_on, f_Racks_take_off := f_Racks_take_off, d_Racks_take_off := PySem.W.fnOf "take_off" "Racks.take_off" (defArgs s_Racks_take_off) (defBody s_Racks_take_off) (defScope s_Racks_take_off) .none kV_Racks_take_off dc_Racks_take_off pm_Racks_take_off an_Racks_take_off cd_Racks_take_off ct_Racks_take_off, f_have_common := f_have_common, d_have_common := PySem.W.fnOf "have_common" "have_common" (defArgs s_have_common) (defBody s_have_common) (defScope s_have_common) .none kV_have_common dc_have_common pm_have_common an_have_common cd_have_common ct_have_common, f_are_racks := f_are_racks, d_are_racks := PySem.W.fnOf "are_racks" "are_racks" (defArgs s_are_racks) (defBody s_are_racks) (defScope s_are_racks) .none kV_are_racks dc_are_racks pm_are_racks an_are_racks cd_are_racks ct_are_racks, f_moves_for := f_moves_for, d_moves_for := PySem.W.fnOf "moves_for" "moves_for" (defArgs s_moves_for) (defBody s_moves_for) (defScope s_moves_for) .none kV_moves_for dc_moves_for pm_moves_for an_moves_for cd_moves_for ct_moves_for, f_fewest_moves := f_fewest_moves, d_fewest_moves := PySem.W.fnOf "fewest_moves" "fewest_moves" (defArgs s_fewest_moves) (defBody s_fewest_moves) (defScope s_fewest_moves) .none kV_fewest_moves dc_fewest_moves pm_fewest_moves an_fewest_moves cd_fewest_moves ct_fewest_moves, f_Refused_init := f_Refused_init, d_Refused_init := PySem.W.fnOf "__init__" "Refused.__init__" (defArgs s_Refused_init) (defBody s_Refused_init) (defScope s_Refused_init) .none kV_Refused_init dc_Refused_init pm_Refused_init an_Refused_init cd_Refused_init ct_Refused_init, f_want := f_want, d_want := PySem.W.fnOf "want" "want" (defArgs s_want) (defBody s_want) (defScope s_want) .none kV_want dc_want pm_want an_want cd_want ct_want, f_Cloakroom_init := f_Cloakroom_init, d_Cloakroom_init := PySem.W.fnOf "__init__" "Cloakroom.__init__" (defArgs s_Cloakroom_init) (defBody s_Cloakroom_init) (defScope s_Cloakroom_init) .none kV_Cloakroom_init dc_Cloakroom_init pm_Cloakroom_init an_Cloakroom_init cd_Cloakroom_init ct_Cloakroom_init, f_Cloakroom_coat_of := f_Cloakroom_coat_of, d_Cloakroom_coat_of := PySem.W.fnOf "coat_of" "Cloakroom.coat_of" (defArgs s_Cloakroom_coat_of) (defBody s_Cloakroom_coat_of) (defScope s_Cloakroom_coat_of) .none kV_Cloakroom_coat_of dc_Cloakroom_coat_of pm_Cloakroom_coat_of an_Cloakroom_coat_of cd_Cloakroom_coat_of ct_Cloakroom_coat_of, f_Cloakroom_hanging := f_Cloakroom_hanging, d_Cloakroom_hanging := PySem.W.fnOf "hanging" "Cloakroom.hanging" (defArgs s_Cloakroom_hanging) (defBody s_Cloakroom_hanging) (defScope s_Cloakroom_hanging) .none kV_Cloakroom_hanging dc_Cloakroom_hanging pm_Cloakroom_hanging an_Cloakroom_hanging cd_Cloakroom_hanging ct_Cloakroom_hanging, f_Cloakroom_claim_of := f_Cloakroom_claim_of, d_Cloakroom_claim_of := PySem.W.fnOf "claim_of" "Cloakroom.claim_of" (defArgs s_Cloakroom_claim_of) (defBody s_Cloakroom_claim_of) (defScope s_Cloakroom_claim_of) .none kV_Cloakroom_claim_of dc_Cloakroom_claim_of pm_Cloakroom_claim_of an_Cloakroom_claim_of cd_Cloakroom_claim_of ct_Cloakroom_claim_of, f_Cloakroom_open_claim := f_Cloakroom_open_claim, d_Cloakroom_open_claim := PySem.W.fnOf "open_claim" "Cloakroom.open_claim" (defArgs s_Cloakroom_open_claim) (defBody s_Cloakroom_open_claim) (defScope s_Cloakroom_open_claim) .none kV_Cloakroom_open_claim dc_Cloakroom_open_claim pm_Cloakroom_open_claim an_Cloakroom_open_claim cd_Cloakroom_open_claim ct_Cloakroom_open_claim, f_Cloakroom_walk_for := f_Cloakroom_walk_for, d_Cloakroom_walk_for := PySem.W.fnOf "walk_for" "Cloakroom.walk_for" (defArgs s_Cloakroom_walk_for) (defBody s_Cloakroom_walk_for) (defScope s_Cloakroom_walk_for) .none kV_Cloakroom_walk_for dc_Cloakroom_walk_for pm_Cloakroom_walk_for an_Cloakroom_walk_for cd_Cloakroom_walk_for ct_Cloakroom_walk_for, f_Cloakroom_hand_out := f_Cloakroom_hand_out, d_Cloakroom_hand_out := PySem.W.fnOf "hand_out" "Cloakroom.hand_out" (defArgs s_Cloakroom_hand_out) (defBody s_Cloakroom_hand_out) (defScope s_Cloakroom_hand_out) .none kV_Cloakroom_hand_out dc_Cloakroom_hand_out pm_Cloakroom_hand_out an_Cloakroom_hand_out cd_Cloakroom_hand_out ct_Cloakroom_hand_out, f_Cloakroom_hang := f_Cloakroom_hang, d_Cloakroom_hang := PySem.W.fnOf "hang" "Cloakroom.hang" (defArgs s_Cloakroom_hang) (defBody s_Cloakroom_hang) (defScope s_Cloakroom_hang) .none kV_Cloakroom_hang dc_Cloakroom_hang pm_Cloakroom_hang an_Cloakroom_hang cd_Cloakroom_hang ct_Cloakroom_hang, f_Cloakroom_fetch := f_Cloakroom_fetch, d_Cloakroom_fetch := PySem.W.fnOf "fetch" "Cloakroom.fetch" (defArgs s_Cloakroom_fetch) (defBody s_Cloakroom_fetch) (defScope s_Cloakroom_fetch) .none kV_Cloakroom_fetch dc_Cloakroom_fetch pm_Cloakroom_fetch an_Cloakroom_fetch cd_Cloakroom_fetch ct_Cloakroom_fetch, f_Cloakroom_make := f_Cloakroom_make, d_Cloakroom_make := PySem.W.fnOf "make" "Cloakroom.make" (defArgs s_Cloakroom_make) (defBody s_Cloakroom_make) (defScope s_Cloakroom_make) .none kV_Cloakroom_make dc_Cloakroom_make pm_Cloakroom_make an_Cloakroom_make cd_Cloakroom_make ct_Cloakroom_make, f_Cloakroom_move := f_Cloakroom_move, d_Cloakroom_move := PySem.W.fnOf "move" "Cloakroom.move" (defArgs s_Cloakroom_move) (defBody s_Cloakroom_move) (defScope s_Cloakroom_move) .none kV_Cloakroom_move dc_Cloakroom_move pm_Cloakroom_move an_Cloakroom_move cd_Cloakroom_move ct_Cloakroom_move, f_Cloakroom_claim := f_Cloakroom_claim, d_Cloakroom_claim := PySem.W.fnOf "claim" "Cloakroom.claim" (defArgs s_Cloakroom_claim) (defBody s_Cloakroom_claim) (defScope s_Cloakroom_claim) .none kV_Cloakroom_claim dc_Cloakroom_claim pm_Cloakroom_claim an_Cloakroom_claim cd_Cloakroom_claim ct_Cloakroom_claim, f_Cloakroom_whose := f_Cloakroom_whose, d_Cloakroom_whose := PySem.W.fnOf "whose" "Cloakroom.whose" (defArgs s_Cloakroom_whose) (defBody s_Cloakroom_whose) (defScope s_Cloakroom_whose) .none kV_Cloakroom_whose dc_Cloakroom_whose pm_Cloakroom_whose an_Cloakroom_whose cd_Cloakroom_whose ct_Cloakroom_whose, f_Cloakroom_settle := f_Cloakroom_settle, d_Cloakroom_settle := PySem.W.fnOf "settle" "Cloakroom.settle" (defArgs s_Cloakroom_settle) (defBody s_Cloakroom_settle) (defScope s_Cloakroom_settle) .none kV_Cloakroom_settle dc_Cloakroom_settle pm_Cloakroom_settle an_Cloakroom_settle cd_Cloakroom_settle ct_Cloakroom_settle, f_Cloakroom_drop := f_Cloakroom_drop, d_Cloakroom_drop := PySem.W.fnOf "drop" "Cloakroom.drop" (defArgs s_Cloakroom_drop) (defBody s_Cloakroom_drop) (defScope s_Cloakroom_drop) .none kV_Cloakroom_drop dc_Cloakroom_drop pm_Cloakroom_drop an_Cloakroom_drop cd_Cloakroom_drop ct_Cloakroom_drop, f_Cloakroom_rack_told := f_Cloakroom_rack_told, d_Cloakroom_rack_told := PySem.W.fnOf "rack_told" "Cloakroom.rack_told" (defArgs s_Cloakroom_rack_told) (defBody s_Cloakroom_rack_told) (defScope s_Cloakroom_rack_told) .none kV_Cloakroom_rack_told dc_Cloakroom_rack_told pm_Cloakroom_rack_told an_Cloakroom_rack_told cd_Cloakroom_rack_told ct_Cloakroom_rack_told, f_Cloakroom_look := f_Cloakroom_look, d_Cloakroom_look := PySem.W.fnOf "look" "Cloakroom.look" (defArgs s_Cloakroom_look) (defBody s_Cloakroom_look) (defScope s_Cloakroom_look) .none kV_Cloakroom_look dc_Cloakroom_look pm_Cloakroom_look an_Cloakroom_look cd_Cloakroom_look ct_Cloakroom_look, f_Cloakroom_counts := f_Cloakroom_counts, d_Cloakroom_counts := PySem.W.fnOf "counts" "Cloakroom.counts" (defArgs s_Cloakroom_counts) (defBody s_Cloakroom_counts) (defScope s_Cloakroom_counts) .none kV_Cloakroom_counts dc_Cloakroom_counts pm_Cloakroom_counts an_Cloakroom_counts cd_Cloakroom_counts ct_Cloakroom_counts, f_Cloakroom_about_coats := f_Cloakroom_about_coats, d_Cloakroom_about_coats := PySem.W.fnOf "about_coats" "Cloakroom.about_coats" (defArgs s_Cloakroom_about_coats) (defBody s_Cloakroom_about_coats) (defScope s_Cloakroom_about_coats) .none kV_Cloakroom_about_coats dc_Cloakroom_about_coats pm_Cloakroom_about_coats an_Cloakroom_about_coats cd_Cloakroom_about_coats ct_Cloakroom_about_coats, f_Cloakroom_called := f_Cloakroom_called, d_Cloakroom_called := PySem.W.fnOf "called" "Cloakroom.called" (defArgs s_Cloakroom_called) (defBody s_Cloakroom_called) (defScope s_Cloakroom_called) .none kV_Cloakroom_called dc_Cloakroom_called pm_Cloakroom_called an_Cloakroom_called cd_Cloakroom_called ct_Cloakroom_called, f_Cloakroom_answer := f_Cloakroom_answer, d_Cloakroom_answer := PySem.W.fnOf "answer" "Cloakroom.answer" (defArgs s_Cloakroom_answer) (defBody s_Cloakroom_answer) (defScope s_Cloakroom_answer) .none kV_Cloakroom_answer dc_Cloakroom_answer pm_Cloakroom_answer an_Cloakroom_answer cd_Cloakroom_answer ct_Cloakroom_answer, f_answers := fa, d_answers := PySem.W.fnOf "answers" "answers" (defArgs s_answers) (defBody s_answers) (defScope s_answers) .none kV_answers dc_answers pm_answers an_answers cd_answers ct_answers } :=
    { F_Coat_init := F_Coat_init,
      b_Coat_init := b_Coat_init,
      F_Coat_hang_at := F_Coat_hang_at,
      b_Coat_hang_at := b_Coat_hang_at,
      m_Coat_hang_at := ⟨a_Coat_hang_at, i_Coat_hang_at, kp_Coat_hang_at⟩,
      F_Claim_init := F_Claim_init,
      b_Claim_init := b_Claim_init,
      F_Claim_settle_by := F_Claim_settle_by,
      b_Claim_settle_by := b_Claim_settle_by,
      m_Claim_settle_by := ⟨a_Claim_settle_by, i_Claim_settle_by, kp_Claim_settle_by⟩,
      F_Claim_suits := F_Claim_suits,
      b_Claim_suits := b_Claim_suits,
      m_Claim_suits := ⟨a_Claim_suits, i_Claim_suits, kp_Claim_suits⟩,
      F_suiting := F_suiting,
      b_suiting := b_suiting,
      g_suiting := PySem.W.mg_of X G a_suiting,
      F_with_one_more := F_with_one_more,
      b_with_one_more := b_with_one_more,
      g_with_one_more := PySem.W.mg_of X G a_with_one_more,
      F_can_all_have := F_can_all_have,
      b_can_all_have := b_can_all_have,
      g_can_all_have := PySem.W.mg_of X G a_can_all_have,
      F_possible := F_possible,
      b_possible := b_possible,
      g_possible := PySem.W.mg_of X G a_possible,
      F_Racks_init := F_Racks_init,
      b_Racks_init := b_Racks_init,
      F_Racks_copied := F_Racks_copied,
      b_Racks_copied := b_Racks_copied,
      m_Racks_copied := ⟨a_Racks_copied, i_Racks_copied, kp_Racks_copied⟩,
      F_Racks_has_place := F_Racks_has_place,
      b_Racks_has_place := b_Racks_has_place,
      m_Racks_has_place := ⟨a_Racks_has_place, i_Racks_has_place, kp_Racks_has_place⟩,
      F_Racks_place_at := F_Racks_place_at,
      b_Racks_place_at := b_Racks_place_at,
      m_Racks_place_at := ⟨a_Racks_place_at, i_Racks_place_at, kp_Racks_place_at⟩,
      F_Racks_places_of := F_Racks_places_of,
      b_Racks_places_of := b_Racks_places_of,
      m_Racks_places_of := ⟨a_Racks_places_of, i_Racks_places_of, kp_Racks_places_of⟩,
      F_Racks_coats_at := F_Racks_coats_at,
      b_Racks_coats_at := b_Racks_coats_at,
      m_Racks_coats_at := ⟨a_Racks_coats_at, i_Racks_coats_at, kp_Racks_coats_at⟩,
      F_Racks_first_free := F_Racks_first_free,
      b_Racks_first_free := b_Racks_first_free,
      m_Racks_first_free := ⟨a_Racks_first_free, i_Racks_first_free, kp_Racks_first_free⟩,
      F_Racks_hang_on := F_Racks_hang_on,
      b_Racks_hang_on := b_Racks_hang_on,
      m_Racks_hang_on := ⟨a_Racks_hang_on, i_Racks_hang_on, kp_Racks_hang_on⟩,
      F_Racks_take_off := F_Racks_take_off,
      b_Racks_take_off := b_Racks_take_off,
      m_Racks_take_off := ⟨a_Racks_take_off, i_Racks_take_off, kp_Racks_take_off⟩,
      F_have_common := F_have_common,
      b_have_common := b_have_common,
      g_have_common := PySem.W.mg_of X G a_have_common,
      F_are_racks := F_are_racks,
      b_are_racks := b_are_racks,
      g_are_racks := PySem.W.mg_of X G a_are_racks,
      F_moves_for := F_moves_for,
      b_moves_for := b_moves_for,
      g_moves_for := PySem.W.mg_of X G a_moves_for,
      F_fewest_moves := F_fewest_moves,
      b_fewest_moves := b_fewest_moves,
      g_fewest_moves := PySem.W.mg_of X G a_fewest_moves,
      F_Refused_init := F_Refused_init,
      b_Refused_init := b_Refused_init,
      F_want := F_want,
      b_want := b_want,
      g_want := PySem.W.mg_of X G a_want,
      F_Cloakroom_init := F_Cloakroom_init,
      b_Cloakroom_init := b_Cloakroom_init,
      F_Cloakroom_coat_of := F_Cloakroom_coat_of,
      b_Cloakroom_coat_of := b_Cloakroom_coat_of,
      m_Cloakroom_coat_of := ⟨a_Cloakroom_coat_of, i_Cloakroom_coat_of, kp_Cloakroom_coat_of⟩,
      F_Cloakroom_hanging := F_Cloakroom_hanging,
      b_Cloakroom_hanging := b_Cloakroom_hanging,
      m_Cloakroom_hanging := ⟨a_Cloakroom_hanging, i_Cloakroom_hanging, kp_Cloakroom_hanging⟩,
      F_Cloakroom_claim_of := F_Cloakroom_claim_of,
      b_Cloakroom_claim_of := b_Cloakroom_claim_of,
      m_Cloakroom_claim_of := ⟨a_Cloakroom_claim_of, i_Cloakroom_claim_of, kp_Cloakroom_claim_of⟩,
      F_Cloakroom_open_claim := F_Cloakroom_open_claim,
      b_Cloakroom_open_claim := b_Cloakroom_open_claim,
      m_Cloakroom_open_claim := ⟨a_Cloakroom_open_claim, i_Cloakroom_open_claim, kp_Cloakroom_open_claim⟩,
      F_Cloakroom_walk_for := F_Cloakroom_walk_for,
      b_Cloakroom_walk_for := b_Cloakroom_walk_for,
      m_Cloakroom_walk_for := ⟨a_Cloakroom_walk_for, i_Cloakroom_walk_for, kp_Cloakroom_walk_for⟩,
      F_Cloakroom_hand_out := F_Cloakroom_hand_out,
      b_Cloakroom_hand_out := b_Cloakroom_hand_out,
      m_Cloakroom_hand_out := ⟨a_Cloakroom_hand_out, i_Cloakroom_hand_out, kp_Cloakroom_hand_out⟩,
      F_Cloakroom_hang := F_Cloakroom_hang,
      b_Cloakroom_hang := b_Cloakroom_hang,
      m_Cloakroom_hang := ⟨a_Cloakroom_hang, i_Cloakroom_hang, kp_Cloakroom_hang⟩,
      F_Cloakroom_fetch := F_Cloakroom_fetch,
      b_Cloakroom_fetch := b_Cloakroom_fetch,
      m_Cloakroom_fetch := ⟨a_Cloakroom_fetch, i_Cloakroom_fetch, kp_Cloakroom_fetch⟩,
      F_Cloakroom_make := F_Cloakroom_make,
      b_Cloakroom_make := b_Cloakroom_make,
      m_Cloakroom_make := ⟨a_Cloakroom_make, i_Cloakroom_make, kp_Cloakroom_make⟩,
      F_Cloakroom_move := F_Cloakroom_move,
      b_Cloakroom_move := b_Cloakroom_move,
      m_Cloakroom_move := ⟨a_Cloakroom_move, i_Cloakroom_move, kp_Cloakroom_move⟩,
      F_Cloakroom_claim := F_Cloakroom_claim,
      b_Cloakroom_claim := b_Cloakroom_claim,
      m_Cloakroom_claim := ⟨a_Cloakroom_claim, i_Cloakroom_claim, kp_Cloakroom_claim⟩,
      F_Cloakroom_whose := F_Cloakroom_whose,
      b_Cloakroom_whose := b_Cloakroom_whose,
      m_Cloakroom_whose := ⟨a_Cloakroom_whose, i_Cloakroom_whose, kp_Cloakroom_whose⟩,
      F_Cloakroom_settle := F_Cloakroom_settle,
      b_Cloakroom_settle := b_Cloakroom_settle,
      m_Cloakroom_settle := ⟨a_Cloakroom_settle, i_Cloakroom_settle, kp_Cloakroom_settle⟩,
      F_Cloakroom_drop := F_Cloakroom_drop,
      b_Cloakroom_drop := b_Cloakroom_drop,
      m_Cloakroom_drop := ⟨a_Cloakroom_drop, i_Cloakroom_drop, kp_Cloakroom_drop⟩,
      F_Cloakroom_rack_told := F_Cloakroom_rack_told,
      b_Cloakroom_rack_told := b_Cloakroom_rack_told,
      m_Cloakroom_rack_told := ⟨a_Cloakroom_rack_told, i_Cloakroom_rack_told, kp_Cloakroom_rack_told⟩,
      F_Cloakroom_look := F_Cloakroom_look,
      b_Cloakroom_look := b_Cloakroom_look,
      m_Cloakroom_look := ⟨a_Cloakroom_look, i_Cloakroom_look, kp_Cloakroom_look⟩,
      F_Cloakroom_counts := F_Cloakroom_counts,
      b_Cloakroom_counts := b_Cloakroom_counts,
      m_Cloakroom_counts := ⟨a_Cloakroom_counts, i_Cloakroom_counts, kp_Cloakroom_counts⟩,
      F_Cloakroom_about_coats := F_Cloakroom_about_coats,
      b_Cloakroom_about_coats := b_Cloakroom_about_coats,
      m_Cloakroom_about_coats := ⟨a_Cloakroom_about_coats, i_Cloakroom_about_coats, kp_Cloakroom_about_coats⟩,
      F_Cloakroom_called := F_Cloakroom_called,
      b_Cloakroom_called := b_Cloakroom_called,
      m_Cloakroom_called := ⟨a_Cloakroom_called, i_Cloakroom_called, kp_Cloakroom_called⟩,
      F_Cloakroom_answer := F_Cloakroom_answer,
      b_Cloakroom_answer := b_Cloakroom_answer,
      m_Cloakroom_answer := ⟨a_Cloakroom_answer, i_Cloakroom_answer, kp_Cloakroom_answer⟩,
      F_answers := F_answers,
      b_answers := b_answers,
      g_answers := PySem.W.mg_of X G a_answers,
      g_Coat := PySem.W.mg_of X G g_Coat,
      cl_Coat := ⟨pg_Coat, hd_Coat, po_Coat, sa_Coat⟩,
      mk_Coat := ⟨mk_Coat, a_Coat_init, i_Coat_init, kc_Coat⟩,
      n_Coat_wide := n_Coat_wide,
      n_Coat_kind := n_Coat_kind,
      n_Coat_colour := n_Coat_colour,
      n_Coat_time := n_Coat_time,
      n_Coat_place := n_Coat_place,
      g_Claim := PySem.W.mg_of X G g_Claim,
      cl_Claim := ⟨pg_Claim, hd_Claim, po_Claim, sa_Claim⟩,
      mk_Claim := ⟨mk_Claim, a_Claim_init, i_Claim_init, kc_Claim⟩,
      n_Claim_kind := n_Claim_kind,
      n_Claim_colour := n_Claim_colour,
      n_Claim_low := n_Claim_low,
      n_Claim_high := n_Claim_high,
      n_Claim_ticket := n_Claim_ticket,
      g_Racks := PySem.W.mg_of X G g_Racks,
      cl_Racks := ⟨pg_Racks, hd_Racks, po_Racks, sa_Racks⟩,
      mk_Racks := ⟨mk_Racks, a_Racks_init, i_Racks_init, kc_Racks⟩,
      n_Racks_racks := n_Racks_racks,
      n_Racks_hooks := n_Racks_hooks,
      g_Refused := PySem.W.mg_of X G g_Refused,
      g_Cloakroom := PySem.W.mg_of X G g_Cloakroom,
      cl_Cloakroom := ⟨pg_Cloakroom, hd_Cloakroom, po_Cloakroom, sa_Cloakroom⟩,
      mk_Cloakroom := ⟨mk_Cloakroom, a_Cloakroom_init, i_Cloakroom_init, kc_Cloakroom⟩,
      n_Cloakroom_racks := n_Cloakroom_racks,
      n_Cloakroom_coats := n_Cloakroom_coats,
      n_Cloakroom_claims := n_Cloakroom_claims,
      n_Cloakroom_time := n_Cloakroom_time,
      n_Cloakroom_walked := n_Cloakroom_walked,
      ne_Claim_Coat := ne_Claim_Coat,
      ne_Racks_Coat := ne_Racks_Coat,
      ne_Racks_Claim := ne_Racks_Claim,
      ne_Cloakroom_Coat := ne_Cloakroom_Coat,
      ne_Cloakroom_Claim := ne_Cloakroom_Claim,
      ne_Cloakroom_Racks := ne_Cloakroom_Racks,
      oex := ⟨⟨x_nm, x_q, x_N, x_bs, _, x_sn, x_sub, x_ab, x_col, x_dd, x_m0, x_m1, x_m2, x_m3, x_m5, xL, by decide +kernel⟩, xsa, xeC, xtC, xkC⟩,
      iC := a_Refused_init,
      tI := tI,
      nCode := xnC,
      vV := xvV,
      te := exm_same xeC xic xtC xsC,
      xf := ⟨xga, xgg, xeC, xhd⟩,
      k_UNKNOWN := ⟨_, PySem.W.mg_of X G k_UNKNOWN⟩,
      k_FREE := ⟨_, PySem.W.mg_of X G k_FREE⟩,
      k_WRONG := ⟨_, PySem.W.mg_of X G k_WRONG⟩,
      k_NO_SUCH := ⟨_, PySem.W.mg_of X G k_NO_SUCH⟩,
      k_NO_ROOM := ⟨_, PySem.W.mg_of X G k_NO_ROOM⟩,
      k_OVER := ⟨_, PySem.W.mg_of X G k_OVER⟩,
      k_TOO_MANY := ⟨_, PySem.W.mg_of X G k_TOO_MANY⟩,
      k_NONE_POSSIBLE := ⟨_, PySem.W.mg_of X G k_NONE_POSSIBLE⟩,
      k_SEVERAL := ⟨_, PySem.W.mg_of X G k_SEVERAL⟩,
      k_GONE := ⟨_, PySem.W.mg_of X G k_GONE⟩,
      k_MOST_WIDE := ⟨_, PySem.W.mg_of X G k_MOST_WIDE⟩,
      k_MOST_NUMBER := ⟨_, PySem.W.mg_of X G k_MOST_NUMBER⟩,
      k_MOST_COATS := ⟨_, PySem.W.mg_of X G k_MOST_COATS⟩,
      k_MOST_CLAIMS := ⟨_, PySem.W.mg_of X G k_MOST_CLAIMS⟩,
      k_BEGIN := ⟨_, PySem.W.mg_of X G k_BEGIN⟩,
      g_NUMBERS := PySem.W.mg_of X G g_N,
      t_NUMBERS := ⟨_, _, _, l_N, rfl, rfl, by show 12 ≤ sizeLine; decide, .cons ⟨_, rfl⟩ (.cons ⟨_, rfl⟩ (.cons ⟨_, rfl⟩ (.cons ⟨_, rfl⟩ (.cons ⟨_, rfl⟩ (.cons ⟨_, rfl⟩ (.cons ⟨_, rfl⟩ (.cons ⟨_, rfl⟩ (.cons ⟨_, rfl⟩ (.cons ⟨_, rfl⟩ (.cons ⟨_, rfl⟩ (.cons ⟨_, rfl⟩ (.nil))))))))))))⟩,
      w_len := PySem.W.mg_none_of X G w_len,
      w_enumerate := PySem.W.mg_none_of X G w_enumerate,
      w_range := PySem.W.mg_none_of X G w_range,
      w_dict := PySem.W.mg_none_of X G w_dict,
      w_sorted := PySem.W.mg_none_of X G w_sorted,
      w_all := PySem.W.mg_none_of X G w_all,
      w_list := PySem.W.mg_none_of X G w_list,
      w_ValueError := PySem.W.mg_none_of X G w_ValueError }
  exact ⟨_, fun s us hu => match us, hu with | [_], _ => .of_eq rfl, fun base _ _ => ok_answers T⟩
end Ck
end
section
set_option Elab.async false
set_option linter.all false
open PySem PySem.W PyProof.Rows
set_option maxRecDepth 100000 in
set_option maxHeartbeats 0 in
theorem PySem.Challenge.cw_coatracks_s01_answers_holds : PySem.Challenge.rw_coatracks_s01_answers.Holds := by
  w_on; k_headS; (case hw => exact ⟨[.list [.int 11]], by decide +kernel, by decide +kernel⟩)
  k_fillS
  refine L2.walk_specK (r := PySem.Challenge.rw_coatracks_s01_answers) (k := 16) (CX := L2.CX0) (ps := ["calls"]) (sp := Ck.sp_answers) (by decide +kernel) rfl rfl ⟨rfl, by decide, by decide⟩ (fun w h Y => PySem.W.kIn_of Y) ?F ?S (fun _ _ _ _ z => z)
  case F =>
    intro w mg fa h Y KX G hmg
    refine' Ck.all_mk KX G hmg ?g_Coat ?g_Claim ?g_Racks ?g_Refused ?g_Cloakroom ?a_Coat_init ?i_Coat_init ?l_Coat_init ?cd2_Coat_init ?kp_Coat_init ?a_Coat_hang_at ?i_Coat_hang_at ?l_Coat_hang_at ?cd2_Coat_hang_at ?kp_Coat_hang_at ?a_Claim_init ?i_Claim_init ?l_Claim_init ?cd2_Claim_init ?kp_Claim_init ?a_Claim_settle_by ?i_Claim_settle_by ?l_Claim_settle_by ?cd2_Claim_settle_by ?kp_Claim_settle_by ?a_Claim_suits ?i_Claim_suits ?l_Claim_suits ?cd2_Claim_suits ?kp_Claim_suits ?a_suiting ?l_suiting ?cd2_suiting ?kp_suiting ?a_with_one_more ?l_with_one_more ?cd2_with_one_more ?kp_with_one_more ?a_can_all_have ?l_can_all_have ?cd2_can_all_have ?kp_can_all_have ?a_possible ?l_possible ?cd2_possible ?kp_possible ?a_Racks_init ?i_Racks_init ?l_Racks_init ?cd2_Racks_init ?kp_Racks_init ?a_Racks_copied ?i_Racks_copied ?l_Racks_copied ?cd2_Racks_copied ?kp_Racks_copied ?a_Racks_has_place ?i_Racks_has_place ?l_Racks_has_place ?cd2_Racks_has_place ?kp_Racks_has_place ?a_Racks_place_at ?i_Racks_place_at ?l_Racks_place_at ?cd2_Racks_place_at ?kp_Racks_place_at ?a_Racks_places_of ?i_Racks_places_of ?l_Racks_places_of ?cd2_Racks_places_of ?kp_Racks_places_of ?a_Racks_coats_at ?i_Racks_coats_at ?l_Racks_coats_at ?cd2_Racks_coats_at ?kp_Racks_coats_at ?a_Racks_first_free ?i_Racks_first_free ?l_Racks_first_free ?cd2_Racks_first_free ?kp_Racks_first_free ?a_Racks_hang_on ?i_Racks_hang_on ?l_Racks_hang_on ?cd2_Racks_hang_on ?kp_Racks_hang_on ?a_Racks_take_off ?i_Racks_take_off ?l_Racks_take_off ?cd2_Racks_take_off ?kp_Racks_take_off ?a_have_common ?l_have_common ?cd2_have_common ?kp_have_common ?a_are_racks ?l_are_racks ?cd2_are_racks ?kp_are_racks ?a_moves_for ?l_moves_for ?cd2_moves_for ?kp_moves_for ?a_fewest_moves ?l_fewest_moves ?cd2_fewest_moves ?kp_fewest_moves ?a_Refused_init ?tI ?l_Refused_init ?cd2_Refused_init ?kp_Refused_init ?a_want ?l_want ?cd2_want ?kp_want ?a_Cloakroom_init ?i_Cloakroom_init ?l_Cloakroom_init ?cd2_Cloakroom_init ?kp_Cloakroom_init ?a_Cloakroom_coat_of ?i_Cloakroom_coat_of ?l_Cloakroom_coat_of ?cd2_Cloakroom_coat_of ?kp_Cloakroom_coat_of ?a_Cloakroom_hanging ?i_Cloakroom_hanging ?l_Cloakroom_hanging ?cd2_Cloakroom_hanging ?kp_Cloakroom_hanging ?a_Cloakroom_claim_of ?i_Cloakroom_claim_of ?l_Cloakroom_claim_of ?cd2_Cloakroom_claim_of ?kp_Cloakroom_claim_of ?a_Cloakroom_open_claim ?i_Cloakroom_open_claim ?l_Cloakroom_open_claim ?cd2_Cloakroom_open_claim ?kp_Cloakroom_open_claim ?a_Cloakroom_walk_for ?i_Cloakroom_walk_for ?l_Cloakroom_walk_for ?cd2_Cloakroom_walk_for ?kp_Cloakroom_walk_for ?a_Cloakroom_hand_out ?i_Cloakroom_hand_out ?l_Cloakroom_hand_out ?cd2_Cloakroom_hand_out ?kp_Cloakroom_hand_out ?a_Cloakroom_hang ?i_Cloakroom_hang ?l_Cloakroom_hang ?cd2_Cloakroom_hang ?kp_Cloakroom_hang ?a_Cloakroom_fetch ?i_Cloakroom_fetch ?l_Cloakroom_fetch ?cd2_Cloakroom_fetch ?kp_Cloakroom_fetch ?a_Cloakroom_make ?i_Cloakroom_make ?l_Cloakroom_make ?cd2_Cloakroom_make ?kp_Cloakroom_make ?a_Cloakroom_move ?i_Cloakroom_move ?l_Cloakroom_move ?cd2_Cloakroom_move ?kp_Cloakroom_move ?a_Cloakroom_claim ?i_Cloakroom_claim ?l_Cloakroom_claim ?cd2_Cloakroom_claim ?kp_Cloakroom_claim ?a_Cloakroom_whose ?i_Cloakroom_whose ?l_Cloakroom_whose ?cd2_Cloakroom_whose ?kp_Cloakroom_whose ?a_Cloakroom_settle ?i_Cloakroom_settle ?l_Cloakroom_settle ?cd2_Cloakroom_settle ?kp_Cloakroom_settle ?a_Cloakroom_drop ?i_Cloakroom_drop ?l_Cloakroom_drop ?cd2_Cloakroom_drop ?kp_Cloakroom_drop ?a_Cloakroom_rack_told ?i_Cloakroom_rack_told ?l_Cloakroom_rack_told ?cd2_Cloakroom_rack_told ?kp_Cloakroom_rack_told ?a_Cloakroom_look ?i_Cloakroom_look ?l_Cloakroom_look ?cd2_Cloakroom_look ?kp_Cloakroom_look ?a_Cloakroom_counts ?i_Cloakroom_counts ?l_Cloakroom_counts ?cd2_Cloakroom_counts ?kp_Cloakroom_counts ?a_Cloakroom_about_coats ?i_Cloakroom_about_coats ?l_Cloakroom_about_coats ?cd2_Cloakroom_about_coats ?kp_Cloakroom_about_coats ?a_Cloakroom_called ?i_Cloakroom_called ?l_Cloakroom_called ?cd2_Cloakroom_called ?kp_Cloakroom_called ?a_Cloakroom_answer ?i_Cloakroom_answer ?l_Cloakroom_answer ?cd2_Cloakroom_answer ?kp_Cloakroom_answer ?a_answers ?l_answers ?cd2_answers ?kp_answers ?pg_Coat ?hd_Coat ?po_Coat ?sa_Coat ?mk_Coat ?kc_Coat ?n_Coat_wide ?n_Coat_kind ?n_Coat_colour ?n_Coat_time ?n_Coat_place ?pg_Claim ?hd_Claim ?po_Claim ?sa_Claim ?mk_Claim ?kc_Claim ?n_Claim_kind ?n_Claim_colour ?n_Claim_low ?n_Claim_high ?n_Claim_ticket ?pg_Racks ?hd_Racks ?po_Racks ?sa_Racks ?mk_Racks ?kc_Racks ?n_Racks_racks ?n_Racks_hooks ?pg_Cloakroom ?hd_Cloakroom ?po_Cloakroom ?sa_Cloakroom ?mk_Cloakroom ?kc_Cloakroom ?n_Cloakroom_racks ?n_Cloakroom_coats ?n_Cloakroom_claims ?n_Cloakroom_time ?n_Cloakroom_walked ?ne_Claim_Coat ?ne_Racks_Coat ?ne_Racks_Claim ?ne_Cloakroom_Coat ?ne_Cloakroom_Claim ?ne_Cloakroom_Racks ?xL ?xsa ?xeC ?xtC ?xkC ?xnC ?xvV ?xga ?xgg ?xhd ?xic ?xsC ?k_UNKNOWN ?k_FREE ?k_WRONG ?k_NO_SUCH ?k_NO_ROOM ?k_OVER ?k_TOO_MANY ?k_NONE_POSSIBLE ?k_SEVERAL ?k_GONE ?k_MOST_WIDE ?k_MOST_NUMBER ?k_MOST_COATS ?k_MOST_CLAIMS ?k_BEGIN ?g_N ?l_N ?w_len ?w_enumerate ?w_range ?w_dict ?w_sorted ?w_all ?w_list ?w_ValueError
    (case g_Coat => k_is)
    (case g_Claim => k_is)
    (case g_Racks => k_is)
    (case g_Refused => k_is)
    (case g_Cloakroom => k_is)
    (case a_Coat_init => k_is)
    (case i_Coat_init => k_is)
    (case l_Coat_init => k_is)
    (case cd2_Coat_init => k_is)
    (case kp_Coat_init => k_is)
    (case a_Coat_hang_at => k_is)
    (case i_Coat_hang_at => k_is)
    (case l_Coat_hang_at => k_is)
    (case cd2_Coat_hang_at => k_is)
    (case kp_Coat_hang_at => k_is)
    (case a_Claim_init => k_is)
    (case i_Claim_init => k_is)
    (case l_Claim_init => k_is)
    (case cd2_Claim_init => k_is)
    (case kp_Claim_init => k_is)
    (case a_Claim_settle_by => k_is)
    (case i_Claim_settle_by => k_is)
    (case l_Claim_settle_by => k_is)
    (case cd2_Claim_settle_by => k_is)
    (case kp_Claim_settle_by => k_is)
    (case a_Claim_suits => k_is)
    (case i_Claim_suits => k_is)
    (case l_Claim_suits => k_is)
    (case cd2_Claim_suits => k_is)
    (case kp_Claim_suits => k_is)
    (case a_suiting => k_is)
    (case l_suiting => k_is)
    (case cd2_suiting => k_is)
    (case kp_suiting => k_is)
    (case a_with_one_more => k_is)
    (case l_with_one_more => k_is)
    (case cd2_with_one_more => k_is)
    (case kp_with_one_more => k_is)
    (case a_can_all_have => k_is)
    (case l_can_all_have => k_is)
    (case cd2_can_all_have => k_is)
    (case kp_can_all_have => k_is)
    (case a_possible => k_is)
    (case l_possible => k_is)
    (case cd2_possible => k_is)
    (case kp_possible => k_is)
    (case a_Racks_init => k_is)
    (case i_Racks_init => k_is)
    (case l_Racks_init => k_is)
    (case cd2_Racks_init => k_is)
    (case kp_Racks_init => k_is)
    (case a_Racks_copied => k_is)
    (case i_Racks_copied => k_is)
    (case l_Racks_copied => k_is)
    (case cd2_Racks_copied => k_is)
    (case kp_Racks_copied => k_is)
    (case a_Racks_has_place => k_is)
    (case i_Racks_has_place => k_is)
    (case l_Racks_has_place => k_is)
    (case cd2_Racks_has_place => k_is)
    (case kp_Racks_has_place => k_is)
    (case a_Racks_place_at => k_is)
    (case i_Racks_place_at => k_is)
    (case l_Racks_place_at => k_is)
    (case cd2_Racks_place_at => k_is)
    (case kp_Racks_place_at => k_is)
    (case a_Racks_places_of => k_is)
    (case i_Racks_places_of => k_is)
    (case l_Racks_places_of => k_is)
    (case cd2_Racks_places_of => k_is)
    (case kp_Racks_places_of => k_is)
    (case a_Racks_coats_at => k_is)
    (case i_Racks_coats_at => k_is)
    (case l_Racks_coats_at => k_is)
    (case cd2_Racks_coats_at => k_is)
    (case kp_Racks_coats_at => k_is)
    (case a_Racks_first_free => k_is)
    (case i_Racks_first_free => k_is)
    (case l_Racks_first_free => k_is)
    (case cd2_Racks_first_free => k_is)
    (case kp_Racks_first_free => k_is)
    (case a_Racks_hang_on => k_is)
    (case i_Racks_hang_on => k_is)
    (case l_Racks_hang_on => k_is)
    (case cd2_Racks_hang_on => k_is)
    (case kp_Racks_hang_on => k_is)
    (case a_Racks_take_off => k_is)
    (case i_Racks_take_off => k_is)
    (case l_Racks_take_off => k_is)
    (case cd2_Racks_take_off => k_is)
    (case kp_Racks_take_off => k_is)
    (case a_have_common => k_is)
    (case l_have_common => k_is)
    (case cd2_have_common => k_is)
    (case kp_have_common => k_is)
    (case a_are_racks => k_is)
    (case l_are_racks => k_is)
    (case cd2_are_racks => k_is)
    (case kp_are_racks => k_is)
    (case a_moves_for => k_is)
    (case l_moves_for => k_is)
    (case cd2_moves_for => k_is)
    (case kp_moves_for => k_is)
    (case a_fewest_moves => k_is)
    (case l_fewest_moves => k_is)
    (case cd2_fewest_moves => k_is)
    (case kp_fewest_moves => k_is)
    (case a_Refused_init => k_is)
    (case tI => k_is)
    (case l_Refused_init => k_is)
    (case cd2_Refused_init => k_is)
    (case kp_Refused_init => k_is)
    (case a_want => k_is)
    (case l_want => k_is)
    (case cd2_want => k_is)
    (case kp_want => k_is)
    (case a_Cloakroom_init => k_is)
    (case i_Cloakroom_init => k_is)
    (case l_Cloakroom_init => k_is)
    (case cd2_Cloakroom_init => k_is)
    (case kp_Cloakroom_init => k_is)
    (case a_Cloakroom_coat_of => k_is)
    (case i_Cloakroom_coat_of => k_is)
    (case l_Cloakroom_coat_of => k_is)
    (case cd2_Cloakroom_coat_of => k_is)
    (case kp_Cloakroom_coat_of => k_is)
    (case a_Cloakroom_hanging => k_is)
    (case i_Cloakroom_hanging => k_is)
    (case l_Cloakroom_hanging => k_is)
    (case cd2_Cloakroom_hanging => k_is)
    (case kp_Cloakroom_hanging => k_is)
    (case a_Cloakroom_claim_of => k_is)
    (case i_Cloakroom_claim_of => k_is)
    (case l_Cloakroom_claim_of => k_is)
    (case cd2_Cloakroom_claim_of => k_is)
    (case kp_Cloakroom_claim_of => k_is)
    (case a_Cloakroom_open_claim => k_is)
    (case i_Cloakroom_open_claim => k_is)
    (case l_Cloakroom_open_claim => k_is)
    (case cd2_Cloakroom_open_claim => k_is)
    (case kp_Cloakroom_open_claim => k_is)
    (case a_Cloakroom_walk_for => k_is)
    (case i_Cloakroom_walk_for => k_is)
    (case l_Cloakroom_walk_for => k_is)
    (case cd2_Cloakroom_walk_for => k_is)
    (case kp_Cloakroom_walk_for => k_is)
    (case a_Cloakroom_hand_out => k_is)
    (case i_Cloakroom_hand_out => k_is)
    (case l_Cloakroom_hand_out => k_is)
    (case cd2_Cloakroom_hand_out => k_is)
    (case kp_Cloakroom_hand_out => k_is)
    (case a_Cloakroom_hang => k_is)
    (case i_Cloakroom_hang => k_is)
    (case l_Cloakroom_hang => k_is)
    (case cd2_Cloakroom_hang => k_is)
    (case kp_Cloakroom_hang => k_is)
    (case a_Cloakroom_fetch => k_is)
    (case i_Cloakroom_fetch => k_is)
    (case l_Cloakroom_fetch => k_is)
    (case cd2_Cloakroom_fetch => k_is)
    (case kp_Cloakroom_fetch => k_is)
    (case a_Cloakroom_make => k_is)
    (case i_Cloakroom_make => k_is)
    (case l_Cloakroom_make => k_is)
    (case cd2_Cloakroom_make => k_is)
    (case kp_Cloakroom_make => k_is)
    (case a_Cloakroom_move => k_is)
    (case i_Cloakroom_move => k_is)
    (case l_Cloakroom_move => k_is)
    (case cd2_Cloakroom_move => k_is)
    (case kp_Cloakroom_move => k_is)
    (case a_Cloakroom_claim => k_is)
    (case i_Cloakroom_claim => k_is)
    (case l_Cloakroom_claim => k_is)
    (case cd2_Cloakroom_claim => k_is)
    (case kp_Cloakroom_claim => k_is)
    (case a_Cloakroom_whose => k_is)
    (case i_Cloakroom_whose => k_is)
    (case l_Cloakroom_whose => k_is)
    (case cd2_Cloakroom_whose => k_is)
    (case kp_Cloakroom_whose => k_is)
    (case a_Cloakroom_settle => k_is)
    (case i_Cloakroom_settle => k_is)
    (case l_Cloakroom_settle => k_is)
    (case cd2_Cloakroom_settle => k_is)
    (case kp_Cloakroom_settle => k_is)
    (case a_Cloakroom_drop => k_is)
    (case i_Cloakroom_drop => k_is)
    (case l_Cloakroom_drop => k_is)
    (case cd2_Cloakroom_drop => k_is)
    (case kp_Cloakroom_drop => k_is)
    (case a_Cloakroom_rack_told => k_is)
    (case i_Cloakroom_rack_told => k_is)
    (case l_Cloakroom_rack_told => k_is)
    (case cd2_Cloakroom_rack_told => k_is)
    (case kp_Cloakroom_rack_told => k_is)
    (case a_Cloakroom_look => k_is)
    (case i_Cloakroom_look => k_is)
    (case l_Cloakroom_look => k_is)
    (case cd2_Cloakroom_look => k_is)
    (case kp_Cloakroom_look => k_is)
    (case a_Cloakroom_counts => k_is)
    (case i_Cloakroom_counts => k_is)
    (case l_Cloakroom_counts => k_is)
    (case cd2_Cloakroom_counts => k_is)
    (case kp_Cloakroom_counts => k_is)
    (case a_Cloakroom_about_coats => k_is)
    (case i_Cloakroom_about_coats => k_is)
    (case l_Cloakroom_about_coats => k_is)
    (case cd2_Cloakroom_about_coats => k_is)
    (case kp_Cloakroom_about_coats => k_is)
    (case a_Cloakroom_called => k_is)
    (case i_Cloakroom_called => k_is)
    (case l_Cloakroom_called => k_is)
    (case cd2_Cloakroom_called => k_is)
    (case kp_Cloakroom_called => k_is)
    (case a_Cloakroom_answer => k_is)
    (case i_Cloakroom_answer => k_is)
    (case l_Cloakroom_answer => k_is)
    (case cd2_Cloakroom_answer => k_is)
    (case kp_Cloakroom_answer => k_is)
    (case a_answers => k_is)
    (case l_answers => k_is)
    (case cd2_answers => k_is)
    (case kp_answers => k_is)
    (case pg_Coat => k_is)
    (case hd_Coat => k_is)
    (case po_Coat => k_is)
    (case sa_Coat => k_is)
    (case mk_Coat => k_is)
    (case kc_Coat => k_is)
    (case n_Coat_wide => k_is)
    (case n_Coat_kind => k_is)
    (case n_Coat_colour => k_is)
    (case n_Coat_time => k_is)
    (case n_Coat_place => k_is)
    (case pg_Claim => k_is)
    (case hd_Claim => k_is)
    (case po_Claim => k_is)
    (case sa_Claim => k_is)
    (case mk_Claim => k_is)
    (case kc_Claim => k_is)
    (case n_Claim_kind => k_is)
    (case n_Claim_colour => k_is)
    (case n_Claim_low => k_is)
    (case n_Claim_high => k_is)
    (case n_Claim_ticket => k_is)
    (case pg_Racks => k_is)
    (case hd_Racks => k_is)
    (case po_Racks => k_is)
    (case sa_Racks => k_is)
    (case mk_Racks => k_is)
    (case kc_Racks => k_is)
    (case n_Racks_racks => k_is)
    (case n_Racks_hooks => k_is)
    (case pg_Cloakroom => k_is)
    (case hd_Cloakroom => k_is)
    (case po_Cloakroom => k_is)
    (case sa_Cloakroom => k_is)
    (case mk_Cloakroom => k_is)
    (case kc_Cloakroom => k_is)
    (case n_Cloakroom_racks => k_is)
    (case n_Cloakroom_coats => k_is)
    (case n_Cloakroom_claims => k_is)
    (case n_Cloakroom_time => k_is)
    (case n_Cloakroom_walked => k_is)
    (case ne_Claim_Coat => decide)
    (case ne_Racks_Coat => decide)
    (case ne_Racks_Claim => decide)
    (case ne_Cloakroom_Coat => decide)
    (case ne_Cloakroom_Claim => decide)
    (case ne_Cloakroom_Racks => decide)
    (case xL => k_is)
    (case xsa => k_is)
    (case xeC => k_is)
    (case xtC => k_is)
    (case xkC => k_is)
    (case xnC => k_is)
    (case xvV => k_is)
    (case xga => k_is)
    (case xgg => k_is)
    (case xhd => k_is)
    (case xic => k_is)
    (case xsC => first | rfl | k_is)
    (case k_UNKNOWN => k_is)
    (case k_FREE => k_is)
    (case k_WRONG => k_is)
    (case k_NO_SUCH => k_is)
    (case k_NO_ROOM => k_is)
    (case k_OVER => k_is)
    (case k_TOO_MANY => k_is)
    (case k_NONE_POSSIBLE => k_is)
    (case k_SEVERAL => k_is)
    (case k_GONE => k_is)
    (case k_MOST_WIDE => k_is)
    (case k_MOST_NUMBER => k_is)
    (case k_MOST_COATS => k_is)
    (case k_MOST_CLAIMS => k_is)
    (case k_BEGIN => k_is)
    (case g_N => k_is)
    (case l_N => k_is)
    (case w_len => k_is)
    (case w_enumerate => k_is)
    (case w_range => k_is)
    (case w_dict => k_is)
    (case w_sorted => k_is)
    (case w_all => k_is)
    (case w_list => k_is)
    (case w_ValueError => k_is)
  case S =>
    intro K H xs a hO hwi hask hx
    cases hx with
    | cons h1 h2 =>
      cases h2
      cases h1 with
      | lst hs ha =>
        have e := L2.ints_dw a.1 _ ha
        subst e
        exact ⟨_, a.1, rfl, Ck.CallsAt.only hO hs, hask, fun H' p hp => .lst (L2.SqL.of hp) (L2.dw_ints _)⟩
end
